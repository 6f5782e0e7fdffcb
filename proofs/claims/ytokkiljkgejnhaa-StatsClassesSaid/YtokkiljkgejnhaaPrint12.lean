import Derived.Test.YtokkiljkgejnhaaPrint0
namespace Go.Proofs.Ytokkiljkgejnhaa.Print
open Go.RowKit Go.Proofs.YtokkiljkgejnhaaW.PrintWords Go.Proofs.YtokkiljkgejnhaaW.PrintLast Go.Proofs.YtokkiljkgejnhaaW.PrintMore
attribute [local go_sem] max2_int min2_int max_two min_two max_three min_three max_four min_four
set_option linter.unusedVariables false
set_option maxRecDepth 100000
set_option maxHeartbeats 8000000
set_option linter.unusedSimpArgs false

mutual
def Azv.l0:Nat→List Int→List Int→Int→Option (List Int × Int)
 | 0,_,_,_=>none
 | k+1,x0,x1,x7=>if x7 < (x1.length:Int) then(if 0≤x7 then(if 0≤(wrap64 (x7 - 1)) then(if(wrap64 (x7 - 1)) < (x1.length:Int) then(if(rd x1 x7)≤(rd x1 (wrap64 (x7 - 1))) then(some (([]:List Int),9)) else(Azv.l0 k x0 x1 (wrap64 (x7+1)))) else(none)) else(none)) else(none)) else(if 0≤(wrap64 ((x1.length:Int) - 1)) then(if(wrap64 ((x1.length:Int) - 1):Int).toNat≤35184372088832 then(Azv.l1 k x1 (List.replicate (wrap64 ((x1.length:Int) - 1):Int).toNat 0) x0 (x0.length:Int) 0) else(none)) else(none))
def Azv.l1:Nat→List Int→List Int→List Int→Int→Int→Option (List Int × Int)
 | 0,_,_,_,_,_=>none
 | k+1,x1,x8,x45,x46,x47=>if x47 < x46 then(if 0≤x47 then(if x47 < (x45.length:Int) then(Azv.l2 k x1 x8 (rd x45 x47) x45 x46 x47 (x8.length:Int) 0) else(none)) else(none)) else(some (x8,0))
def Azv.l2:Nat→List Int→List Int→Int→List Int→Int→Int→Int→Int→Option (List Int × Int)
 | 0,_,_,_,_,_,_,_,_=>none
 | k+1,x1,x8,x10,x45,x46,x47,x52,x53=>if x53 < x52 then(if 0≤x53 then(if x53 < (x1.length:Int) then(if(rd x1 x53)≤x10 then(if 0≤(wrap64 (x53+1)) then(if(wrap64 (x53+1)) < (x1.length:Int) then(if x10 < (rd x1 (wrap64 (x53+1))) then(if x53 < (x8.length:Int) then(Azv.l2 k x1 (x8.set (x53:Int).toNat (wrap64 ((rd x8 x53)+1))) x10 x45 x46 x47 x52 (wrap64 (x53+1))) else(none)) else(Azv.l2 k x1 x8 x10 x45 x46 x47 x52 (wrap64 (x53+1)))) else(none)) else(none)) else(Azv.l2 k x1 x8 x10 x45 x46 x47 x52 (wrap64 (x53+1)))) else(none)) else(none)) else(Azv.l1 k x1 x8 x45 x46 (wrap64 (x47+1)))
end
def Azv.f (k:Nat) (l0:List Int) (l1:List Int):Option (List Int × Int):=(Bzx.f k l0).bind fun t243=>(if t243=0 then(if(l1.length:Int) < 2 then(some (([]:List Int),10)) else(if(l1.length:Int) > 64 then(some (([]:List Int),8)) else(Azv.l0 k l0 l1 1))) else(some (([]:List Int),t243)))
theorem Azv.mono_l:∀ k,(∀ y0 y1 y2,LeO (Azv.l0 k y0 y1 y2) (Azv.l0 (k+1) y0 y1 y2))∧(∀ y0 y1 y2 y3 y4,LeO (Azv.l1 k y0 y1 y2 y3 y4) (Azv.l1 (k+1) y0 y1 y2 y3 y4))∧(∀ y0 y1 y2 y3 y4 y5 y6 y7,LeO (Azv.l2 k y0 y1 y2 y3 y4 y5 y6 y7) (Azv.l2 (k+1) y0 y1 y2 y3 y4 y5 y6 y7))
 | 0=>⟨fun _ _ _ r h=>by simp [Azv.l0] at h,fun _ _ _ _ _ r h=>by simp [Azv.l1] at h,fun _ _ _ _ _ _ _ _ r h=>by simp [Azv.l2] at h⟩
 | k+1=>by
  obtain⟨ih0,ih1,ih2⟩:=Azv.mono_l k;refine⟨?_,?_,?_⟩
  ·intro y0 y1 y2;unfold Azv.l0;with_reducible repeat' first|exact ih0 _ _ _|exact ih1 _ _ _ _ _|exact ih2 _ _ _ _ _ _ _ _|exact Bzx.mono _ _|exact LeO.refl _|exact LeO.none _|refine LeO.ite ?_ ?_|refine LeO.bind ?_ (fun _=>?_)
  ·intro y0 y1 y2 y3 y4;unfold Azv.l1;with_reducible repeat' first|exact ih0 _ _ _|exact ih1 _ _ _ _ _|exact ih2 _ _ _ _ _ _ _ _|exact Bzx.mono _ _|exact LeO.refl _|exact LeO.none _|refine LeO.ite ?_ ?_|refine LeO.bind ?_ (fun _=>?_)
  ·intro y0 y1 y2 y3 y4 y5 y6 y7;unfold Azv.l2;with_reducible repeat' first|exact ih0 _ _ _|exact ih1 _ _ _ _ _|exact ih2 _ _ _ _ _ _ _ _|exact Bzx.mono _ _|exact LeO.refl _|exact LeO.none _|refine LeO.ite ?_ ?_|refine LeO.bind ?_ (fun _=>?_)
theorem Azv.mono:∀ a0 a1 k,LeO (Azv.f k a0 a1) (Azv.f (k+1) a0 a1):=by
 intro a0 a1 k;obtain⟨ih0,ih1,ih2⟩:=Azv.mono_l k;unfold Azv.f;with_reducible repeat' first|exact ih0 _ _ _|exact ih1 _ _ _ _ _|exact ih2 _ _ _ _ _ _ _ _|exact Bzx.mono _ _|exact LeO.refl _|exact LeO.none _|refine LeO.ite ?_ ?_|refine LeO.bind ?_ (fun _=>?_)
theorem Azv.calls (k:Nat) (A0:Option Addr) (c0:Nat) (l0:List Int) (A1:Option Addr) (c1:Nat) (l1:List Int) (r1:List Int) (r2:Int) (w:World) (hr0:Kd.C (Kd.int .i64) w A0 l0.length l0) (hc0:l0.length≤c0) (hr1:Kd.C (Kd.int .i64) w A1 l1.length l1) (hc1:l1.length≤c1) (h:Azv.f k l0 l1=some (r1,r2)) :
  Calls Try.prog 15 #[.slice A0 l0.length c0,.slice A1 l1.length c1] w fun e w'=>∃ v0_:Value,e=.returned (.tuple #[v0_,.int .i64 r2])∧Kd.R (Kd.int .i64) 3 w' w.heap.size (fun _=>True) v0_ r1∧Below w.heap.size w w':=by
 have HR0:=aM hr0;have HC0:=aM hc0;clear hr0 hc0;have HR1:=aM hr1;have HC1:=aM hc1;clear hr1 hc1;have HB:=aM (Below.refl w.heap.size w);have H:((Bzx.f k l0).bind fun t243=>(if t243=0 then(if(l1.length:Int) < 2 then(some (([]:List Int),10)) else(if(l1.length:Int) > 64 then(some (([]:List Int),8)) else(Azv.l0 k l0 l1 1))) else(some (([]:List Int),t243))))=some (r1,r2):=h
 clear h;replace H:=bS H;obtain⟨t243,A30,H⟩:=H;(try dsimp only at H);have A3:=aM A30;clear A30;by_cases c4:t243=0
 ·rw[if_pos c4] at H;have c4b0:(t243 == 0)=true:=beq_iff_eq.mpr c4;have c4b1:(t243 != 0)=false:=bne_eq_false_iff_eq.mpr c4;clear c4;by_cases c5:(l1.length:Int) < 2
  ·rw[if_pos c5] at H;have c5b0:decide ((l1.length:Int) < 2)=true:=dE c5;have c5b1:decide (l1.length < 2)=true:=dE (by omega)
   clear c5;simp only[Option.some.injEq,Prod.mk.injEq] at H;obtain⟨rfl,rfl⟩:=H;go_enter Try.func15,Try.ntmps15
   have fl_:True:=trivial;repeat((first|clear fl_|go_quiet (first|(go_at_call 30;(with_reducible refine(Bzx.calls k _ _ l0 t243 _ ?side1 ?side2 A3.out).mono ?_);(case side1=>exact cX HR0.out);(case side2=>exact HC0.out);rintro e w' ⟨rfl,⟨nd,rfl⟩⟩;(try first|exact⟨rfl,_,World.drewN_drewN _ _ _⟩|exact⟨rfl,_,Eq.trans (World.drewN_drewN _ _ _) (congrArg (World.drewN _) (Nat.add_assoc _ _ _))⟩))));go_wp2_with (first|(go_at_call 30;(with_reducible refine(Bzx.calls k _ _ l0 t243 _ ?side1 ?side2 A3.out).mono ?_);(case side1=>exact cX HR0.out);(case side2=>exact HC0.out);rintro e w' ⟨rfl,⟨nd,rfl⟩⟩;(try first|exact⟨rfl,_,World.drewN_drewN _ _ _⟩|exact⟨rfl,_,Eq.trans (World.drewN_drewN _ _ _) (congrArg (World.drewN _) (Nat.add_assoc _ _ _))⟩))))
   go_ret2
   exact⟨_,eW,by first|exact Kd.R_nil _ _ _ _ _|exact Kd.N_nil _ _ _ _ _|exact Kd.V_nil _ _ _ _ _|exact Kd.Q_nil _ _ _ _ _|exact Kd.S_nil _ _ _ _ _,pB⟩
  ·rw[if_neg c5] at H;have c5b0:decide ((l1.length:Int) < 2)=false:=decide_eq_false c5;have c5b1:decide (l1.length < 2)=false:=decide_eq_false (by omega)
   clear c5;by_cases c6:(l1.length:Int) > 64
   ·rw[if_pos c6] at H;have c6b0:decide (64 < (l1.length:Int))=true:=dE c6;have c6b1:decide (64 < l1.length)=true:=dE (by omega)
    clear c6;simp only[Option.some.injEq,Prod.mk.injEq] at H;obtain⟨rfl,rfl⟩:=H;go_enter Try.func15,Try.ntmps15
    have fl_:True:=trivial;repeat((first|clear fl_|go_quiet (first|(go_at_call 30;(with_reducible refine(Bzx.calls k _ _ l0 t243 _ ?side1 ?side2 A3.out).mono ?_);(case side1=>exact cX HR0.out);(case side2=>exact HC0.out);rintro e w' ⟨rfl,⟨nd,rfl⟩⟩;(try first|exact⟨rfl,_,World.drewN_drewN _ _ _⟩|exact⟨rfl,_,Eq.trans (World.drewN_drewN _ _ _) (congrArg (World.drewN _) (Nat.add_assoc _ _ _))⟩))));go_wp2_with (first|(go_at_call 30;(with_reducible refine(Bzx.calls k _ _ l0 t243 _ ?side1 ?side2 A3.out).mono ?_);(case side1=>exact cX HR0.out);(case side2=>exact HC0.out);rintro e w' ⟨rfl,⟨nd,rfl⟩⟩;(try first|exact⟨rfl,_,World.drewN_drewN _ _ _⟩|exact⟨rfl,_,Eq.trans (World.drewN_drewN _ _ _) (congrArg (World.drewN _) (Nat.add_assoc _ _ _))⟩))))
    go_ret2
    exact⟨_,eW,by first|exact Kd.R_nil _ _ _ _ _|exact Kd.N_nil _ _ _ _ _|exact Kd.V_nil _ _ _ _ _|exact Kd.Q_nil _ _ _ _ _|exact Kd.S_nil _ _ _ _ _,pB⟩
   ·rw[if_neg c6] at H;have c6b0:decide (64 < (l1.length:Int))=false:=decide_eq_false c6;have c6b1:decide (64 < l1.length)=false:=decide_eq_false (by omega)
    clear c6;have H':=aM H;clear H;go_enter Try.func15,Try.ntmps15
    have fl_:True:=trivial;repeat((first|clear fl_|go_quiet (first|(go_at_call 30;(with_reducible refine(Bzx.calls k _ _ l0 t243 _ ?side1 ?side2 A3.out).mono ?_);(case side1=>exact cX HR0.out);(case side2=>exact HC0.out);rintro e w' ⟨rfl,⟨nd,rfl⟩⟩;(try first|exact⟨rfl,_,World.drewN_drewN _ _ _⟩|exact⟨rfl,_,Eq.trans (World.drewN_drewN _ _ _) (congrArg (World.drewN _) (Nat.add_assoc _ _ _))⟩))));go_wp2_with (first|(go_at_call 30;(with_reducible refine(Bzx.calls k _ _ l0 t243 _ ?side1 ?side2 A3.out).mono ?_);(case side1=>exact cX HR0.out);(case side2=>exact HC0.out);rintro e w' ⟨rfl,⟨nd,rfl⟩⟩;(try first|exact⟨rfl,_,World.drewN_drewN _ _ _⟩|exact⟨rfl,_,Eq.trans (World.drewN_drewN _ _ _) (congrArg (World.drewN _) (Nat.add_assoc _ _ _))⟩))))
    try simp only[Act.put,sA,sZ,sC]
    go_loopg [7] k (fun kq v7 w'=>∃ (x7_1:Int),v7=.int .i64 x7_1∧Aside0 (Azv.l0 kq l0 l1 x7_1=some (r1,r2))∧Aside0 (kq≤k)∧Aside0 (Below w.heap.size w w'))
    case atStart=>exact⟨(1),sD,H',⟨Nat.le_refl _⟩,⟨pB⟩⟩
    case round =>
     clear H';try clear c1
     try clear p2
     try clear c4
     try clear c4b0
     try clear c4b1
     try clear c5
     try clear c5b0
     try clear c5b1
     try clear c6
     try clear c6b0
     try clear c6b1
     obtain⟨x7_1,rfl,HA,HK1,HB⟩:=hrel;cases gk with
     | zero=>exact absurd HA.out (by simp [Azv.l0])
     | succ k1 =>
      have H:=HA.out;clear HA;simp only[Azv.l0] at H;by_cases c7:x7_1 < (l1.length:Int)
      ·rw[if_pos c7] at H;have c7b0:decide (x7_1 < (l1.length:Int))=true:=dE c7;clear c7;by_cases c8:0≤x7_1
       ·rw[if_pos c8] at H;have c8b0:decide (0≤x7_1)=true:=dE c8;clear c8;obtain⟨ji9,hji9⟩:∃ j_:Int,(wrap64 (x7_1 - 1))=j_:=⟨_,rfl⟩;replace H:(if 0≤(ji9) then(if(ji9) < (l1.length:Int) then(if(rd l1 x7_1)≤(rd l1 (ji9)) then(some (([]:List Int),9)) else(Azv.l0 k1 l0 l1 (wrap64 (x7_1+1)))) else(none)) else(none))=some (r1,r2):=by first|(rw[hji9] at H;exact H)|(simp only[hji9] at H ⊢;exact H)
        have hji9w:(IntKind.i64.wrap (x7_1 - 1))=ji9:=(i64_w _).trans hji9;by_cases c10:0≤(ji9)
        ·rw[if_pos c10] at H;have c10b0:decide (0≤(ji9))=true:=dE c10;clear c10;by_cases c11:(ji9) < (l1.length:Int)
         ·rw[if_pos c11] at H;have c11b0:decide ((ji9) < (l1.length:Int))=true:=dE c11;clear c11;by_cases c12:(rd l1 x7_1)≤(rd l1 (ji9))
          ·rw[if_pos c12] at H;have c12b0:decide ((rd l1 x7_1)≤(rd l1 (ji9)))=true:=dE c12;clear c12;simp only[Option.some.injEq,Prod.mk.injEq] at H;obtain⟨rfl,rfl⟩:=H;have p244:0≤(x7_1:Int):=oE aS
           have q244:x7_1 < (l1.length:Int):=oE aS
           obtain⟨ad244,e244,hx244_0⟩:=Kd.at_int HR1.out x7_1 p244 q244;cases e244
           replace hx244_0:=(HB.out.cell (World.block_lt_of_cell? w _ hx244_0)).trans hx244_0;replace p244:=eq_true p244;replace q244:=eq_true q244;have p245:0≤((ji9):Int):=oE aS
           have q245:(ji9) < (l1.length:Int):=oE aS
           obtain⟨ad245,e245,hx245_0⟩:=Kd.at_int HR1.out (ji9) p245 q245;obtain rfl:ad244=ad245:=(by injection e245)
           replace hx245_0:=(HB.out.cell (World.block_lt_of_cell? w _ hx245_0)).trans hx245_0;replace p245:=eq_true p245;replace q245:=eq_true q245;go_wp2
           repeat(go_quiet (fail);try go_wp2)
           go_ret2
           exact⟨_,by first|rfl|(simp [errW_none,errW_some] <;> rfl)|(simp only[← hji9];first|rfl|(simp [errW_none,errW_some] <;> rfl))|(simp [*,errW_none,errW_some] <;> rfl),by first|exact Kd.R_nil _ _ _ _ _|exact Kd.N_nil _ _ _ _ _|exact Kd.V_nil _ _ _ _ _|exact Kd.Q_nil _ _ _ _ _|exact Kd.S_nil _ _ _ _ _,pB⟩
          ·rw[if_neg c12] at H;have c12b0:decide ((rd l1 x7_1)≤(rd l1 (ji9)))=false:=decide_eq_false c12;clear c12;have H':=aM H;clear H;have p244:0≤(x7_1:Int):=oE aS
           have q244:x7_1 < (l1.length:Int):=oE aS
           obtain⟨ad244,e244,hx244_0⟩:=Kd.at_int HR1.out x7_1 p244 q244;cases e244
           replace hx244_0:=(HB.out.cell (World.block_lt_of_cell? w _ hx244_0)).trans hx244_0;replace p244:=eq_true p244;replace q244:=eq_true q244;have p245:0≤((ji9):Int):=oE aS
           have q245:(ji9) < (l1.length:Int):=oE aS
           obtain⟨ad245,e245,hx245_0⟩:=Kd.at_int HR1.out (ji9) p245 q245;obtain rfl:ad244=ad245:=(by injection e245)
           replace hx245_0:=(HB.out.cell (World.block_lt_of_cell? w _ hx245_0)).trans hx245_0;replace p245:=eq_true p245;replace q245:=eq_true q245;go_wp2
           repeat(go_quiet (fail);try go_wp2)
           go_roundg k1
           case measure=>have:=HK1.out;omega
           case rel=>exact⟨(wrap64 (x7_1+1)),sD,H',⟨by have:=HK1.out;omega⟩,⟨pB⟩⟩
         ·rw[if_neg c11] at H;exact absurd H (by simp)
        ·rw[if_neg c10] at H;exact absurd H (by simp)
       ·rw[if_neg c8] at H;exact absurd H (by simp)
      ·rw[if_neg c7] at H;have c7b0:decide (x7_1 < (l1.length:Int))=false:=decide_eq_false c7;clear c7;obtain⟨ji13,hji13⟩:∃ j_:Int,(wrap64 ((l1.length:Int) - 1))=j_:=⟨_,rfl⟩;replace H:(if 0≤(ji13) then(if(ji13:Int).toNat≤35184372088832 then(Azv.l1 k1 l1 (List.replicate (ji13:Int).toNat 0) l0 (l0.length:Int) 0) else(none)) else(none))=some (r1,r2):=by first|(rw[hji13] at H;exact H)|(simp only[hji13] at H ⊢;exact H)
       have hji13w:(IntKind.i64.wrap ((l1.length:Int) - 1))=ji13:=(i64_w _).trans hji13;by_cases c14:0≤(ji13)
       ·rw[if_pos c14] at H;have c14b0:=eq_true c14;have c14b1:decide (0≤(ji13))=true:=dE c14;clear c14;by_cases c15:(ji13:Int).toNat≤35184372088832
        ·rw[if_pos c15] at H;have c15b0:=eq_true c15;have c15b1:decide ((ji13:Int).toNat≤35184372088832)=true:=dE c15;clear c15;obtain⟨y246,hy246⟩:∃ y_:List Int,y_=(List.replicate (ji13:Int).toNat 0):=⟨_,rfl⟩;replace H:(Azv.l1 k1 l1 y246 l0 (l0.length:Int) 0)=some (r1,r2):=by first|(rw[hy246];with_reducible exact H)|(have H2_:=(Option.bind_some _ _).symm.trans H;rw[hy246];with_reducible exact H2_)|(have H2_:=(Option.bind_some _ _).symm.trans H;with_reducible exact H2_)|with_reducible exact H|(rw[hy246];exact H)|exact H
         have Ny246:=aM hy246;clear hy246;have H':=aM H;clear H;have fl_:True:=trivial;repeat((first|clear fl_|go_quiet (first|((with_reducible refine gate_dst (N:=44) rfl ?_);refine Kd.R_make (Kd.int .i64) _ 3 rfl (N:=44) rfl 22 _ _ rfl ji13 rfl rfl Try.underlying22 (.int .i64 0) 8 info3 rfl (by decide) (by omega) 0 (ok:=fun _=>True) (okp:=fun _=>True) rfl (fun _ hk=>hk) trivial (oE aS) (Nat.le_trans (Nat.mul_le_mul_right _ (oE aS:ji13.toNat≤35184372088832)) (by omega)) (Below.refl _ _) (Nat.le_refl _) ?_;intro v247 w16 ho17 hb hg_ hnew_;clear hg_ hnew_;(first|rw[← Ny246.out] at ho17|(simp only[Int.reduceToNat] at ho17;rw[← Ny246.out] at ho17));have HO248:=aM (Kd.R_lower ho17 (below_size pB));replace HB:=aM (below_step pB hb);clear hb ho17)));go_wp2_with (first|((with_reducible refine gate_dst (N:=44) rfl ?_);refine Kd.R_make (Kd.int .i64) _ 3 rfl (N:=44) rfl 22 _ _ rfl ji13 rfl rfl Try.underlying22 (.int .i64 0) 8 info3 rfl (by decide) (by omega) 0 (ok:=fun _=>True) (okp:=fun _=>True) rfl (fun _ hk=>hk) trivial (oE aS) (Nat.le_trans (Nat.mul_le_mul_right _ (oE aS:ji13.toNat≤35184372088832)) (by omega)) (Below.refl _ _) (Nat.le_refl _) ?_;intro v247 w16 ho17 hb hg_ hnew_;clear hg_ hnew_;(first|rw[← Ny246.out] at ho17|(simp only[Int.reduceToNat] at ho17;rw[← Ny246.out] at ho17));have HO248:=aM (Kd.R_lower ho17 (below_size pB));replace HB:=aM (below_step pB hb);clear hb ho17)))
         go_loopg [47] k1 (fun kq v47 w'=>∃ (x8_2:List Int) (x47_2:Int),v47=.int .i64 x47_2∧Aside0 (Azv.l1 kq l1 x8_2 l0 (l0.length:Int) x47_2=some (r1,r2))∧Aside0 (kq≤k1)∧Aside0 (Kd.R (Kd.int .i64) 3 w' w.heap.size (fun _=>True) v247 x8_2)∧Aside0 (Below w.heap.size w w'))
         case atStart=>exact⟨(y246),(0),sD,H',⟨Nat.le_refl _⟩,⟨rX HO248.out⟩,⟨pB⟩⟩
         case round =>
          clear H';try clear c1
          try clear p2
          try clear q2
          try clear hx2
          try clear c4
          try clear c4b0
          try clear c4b1
          try clear c5
          try clear c5b0
          try clear c5b1
          try clear c6
          try clear c6b0
          try clear c6b1
          try clear p6
          try clear c7
          try clear c7b0
          try clear c8
          try clear c8b0
          try clear c10
          try clear c10b0
          try clear c11
          try clear c11b0
          try clear c12
          try clear c12b0
          try clear c14
          try clear c14b0
          try clear c14b1
          try clear c15
          try clear c15b0
          try clear c15b1
          try clear hx244_0
          try clear hx245_0
          try clear p2
          try clear p244
          try clear p245
          try clear q244
          try clear q245
          obtain⟨x8_2,x47_2,rfl,HA,HK2,HO_8,HB⟩:=hrel;cases gk with
          | zero=>exact absurd HA.out (by simp [Azv.l1])
          | succ k2 =>
           have H:=HA.out;clear HA;simp only[Azv.l1] at H;by_cases c18:x47_2 < (l0.length:Int)
           ·rw[if_pos c18] at H;have c18b0:decide (x47_2 < (l0.length:Int))=true:=dE c18;clear c18;by_cases c19:0≤x47_2
            ·rw[if_pos c19] at H;have c19b0:decide (0≤x47_2)=true:=dE c19;clear c19;by_cases c20:x47_2 < (l0.length:Int)
             ·rw[if_pos c20] at H;have c20b0:decide (x47_2 < (l0.length:Int))=true:=dE c20;clear c20;have H':=aM H;clear H;have p249:0≤(x47_2:Int):=oE aS
              have q249:x47_2 < (l0.length:Int):=oE aS
              obtain⟨ad249,e249,hx249_0⟩:=Kd.at_int HR0.out x47_2 p249 q249;cases e249
              replace hx249_0:=(HB.out.cell (World.block_lt_of_cell? w _ hx249_0)).trans hx249_0;replace p249:=eq_true p249;replace q249:=eq_true q249;obtain⟨Ao21,co21,eo21⟩:=Kd.R_slice HO_8.out;subst eo21;go_wp2
              repeat(go_quiet (fail);try go_wp2)
              go_loopg [53] k2 (fun kq v53 w'=>∃ (x8_3:List Int) (x53_3:Int),v53=.int .i64 x53_3∧Aside0 (Azv.l2 kq l1 x8_3 (rd l0 x47_2) l0 (l0.length:Int) x47_2 (x8_2.length:Int) x53_3=some (r1,r2))∧Aside0 (kq≤k2)∧Aside0 (Kd.R (Kd.int .i64) 3 w' w.heap.size (fun _=>True) (.slice Ao21 x8_2.length co21) x8_3)∧Aside0 (Below w.heap.size w w'))
              case atStart=>exact⟨(x8_2),(0),sD,H',⟨Nat.le_refl _⟩,⟨rX HO_8.out⟩,⟨pB⟩⟩
              case round =>
               clear H';try clear c1
               try clear c2
               try clear p2
               try clear q2
               try clear hx2
               try clear c4
               try clear c4b0
               try clear c4b1
               try clear c5
               try clear c5b0
               try clear c5b1
               try clear c6
               try clear c6b0
               try clear c6b1
               try clear p6
               try clear c7
               try clear c7b0
               try clear c8
               try clear c8b0
               try clear c10
               try clear c10b0
               try clear c11
               try clear c11b0
               try clear c12
               try clear c12b0
               try clear c14
               try clear c14b0
               try clear c14b1
               try clear c15
               try clear c15b0
               try clear c15b1
               try clear c18
               try clear c18b0
               try clear c19
               try clear c19b0
               try clear c20
               try clear c20b0
               try clear hx244_0
               try clear hx245_0
               try clear hx249_0
               try clear p2
               try clear p244
               try clear p245
               try clear p249
               try clear p6
               try clear q2
               try clear q244
               try clear q245
               try clear q249
               obtain⟨x8_3,x53_3,rfl,HA,HK3,HO_8,HB⟩:=hrel;have hl8_3:=(Kd.R_reads' HO_8.out).1;rw[hl8_3] at HO_8;(try simp only[hl8_3])
               cases gk with
               | zero=>exact absurd HA.out (by simp [Azv.l2])
               | succ k3 =>
                have H:=HA.out;clear HA;simp only[Azv.l2] at H;by_cases c22:x53_3 < (x8_2.length:Int)
                ·rw[if_pos c22] at H;have c22b0:decide (x53_3 < (x8_2.length:Int))=true:=dE c22;have c22b0x:=c22b0;(try simp only[hl8_3] at c22b0x);clear c22;by_cases c23:0≤x53_3
                 ·rw[if_pos c23] at H;have c23b0:decide (0≤x53_3)=true:=dE c23;clear c23;by_cases c24:x53_3 < (l1.length:Int)
                  ·rw[if_pos c24] at H;have c24b0:decide (x53_3 < (l1.length:Int))=true:=dE c24;clear c24;by_cases c25:(rd l1 x53_3)≤(rd l0 x47_2)
                   ·rw[if_pos c25] at H;have c25b0:decide ((rd l1 x53_3)≤(rd l0 x47_2))=true:=dE c25;clear c25;obtain⟨ji26,hji26⟩:∃ j_:Int,(wrap64 (x53_3+1))=j_:=⟨_,rfl⟩;replace H:(if 0≤(ji26) then(if(ji26) < (l1.length:Int) then(if(rd l0 x47_2) < (rd l1 (ji26)) then(if x53_3 < (x8_3.length:Int) then(Azv.l2 k3 l1 (x8_3.set (x53_3:Int).toNat (wrap64 ((rd x8_3 x53_3)+1))) (rd l0 x47_2) l0 (l0.length:Int) x47_2 (x8_2.length:Int) ji26) else(none)) else(Azv.l2 k3 l1 x8_3 (rd l0 x47_2) l0 (l0.length:Int) x47_2 (x8_2.length:Int) ji26)) else(none)) else(none))=some (r1,r2):=by first|(rw[hji26] at H;exact H)|(simp only[hji26] at H ⊢;exact H)
                    have hji26w:(IntKind.i64.wrap (x53_3+1))=ji26:=(i64_w _).trans hji26;by_cases c27:0≤(ji26)
                    ·rw[if_pos c27] at H;have c27b0:decide (0≤(ji26))=true:=dE c27;clear c27;by_cases c28:(ji26) < (l1.length:Int)
                     ·rw[if_pos c28] at H;have c28b0:decide ((ji26) < (l1.length:Int))=true:=dE c28;clear c28;by_cases c29:(rd l0 x47_2) < (rd l1 (ji26))
                      ·rw[if_pos c29] at H;have c29b0:decide ((rd l0 x47_2) < (rd l1 (ji26)))=true:=dE c29;clear c29;by_cases c30:x53_3 < (x8_3.length:Int)
                       ·rw[if_pos c30] at H;have c30b0:decide (x53_3 < (x8_3.length:Int))=true:=dE c30;clear c30;obtain⟨y253,hy253⟩:∃ y_:List Int,y_=(x8_3.set (x53_3:Int).toNat (wrap64 ((rd x8_3 x53_3)+1))):=⟨_,rfl⟩;replace H:(Azv.l2 k3 l1 y253 (rd l0 x47_2) l0 (l0.length:Int) x47_2 (x8_2.length:Int) ji26)=some (r1,r2):=by first|(rw[hy253];with_reducible exact H)|(have H2_:=(Option.bind_some _ _).symm.trans H;rw[hy253];with_reducible exact H2_)|(have H2_:=(Option.bind_some _ _).symm.trans H;with_reducible exact H2_)|with_reducible exact H|(rw[hy253];exact H)|exact H
                        have Ny253:=aM hy253;clear hy253;have H':=aM H;clear H;have p250:0≤(x53_3:Int):=oE aS
                        have q250:x53_3 < (l1.length:Int):=oE aS
                        obtain⟨ad250,e250,hx250_0⟩:=Kd.at_int HR1.out x53_3 p250 q250;cases e250
                        replace hx250_0:=(HB.out.cell (World.block_lt_of_cell? w _ hx250_0)).trans hx250_0;replace p250:=eq_true p250;replace q250:=eq_true q250;have p251:0≤((ji26):Int):=oE aS
                        have q251:(ji26) < (l1.length:Int):=oE aS
                        obtain⟨ad251,e251,hx251_0⟩:=Kd.at_int HR1.out (ji26) p251 q251;obtain rfl:ad250=ad251:=(by injection e251)
                        replace hx251_0:=(HB.out.cell (World.block_lt_of_cell? w _ hx251_0)).trans hx251_0;replace p251:=eq_true p251;replace q251:=eq_true q251;have p252:0≤(x53_3:Int):=oE aS
                        have q252:x53_3 < (x8_3.length:Int):=oE aS
                        obtain⟨ad252,e252,hx252_0⟩:=Kd.at_int (Kd.R_reads' HO_8.out).2.2 x53_3 p252 q252;cases e252
                        replace p252:=eq_true p252;replace q252:=eq_true q252;have p31:0≤(x53_3:Int):=oE aS
                        have q31:(x53_3:Int) < ((x8_3.length:Int):Int):=oE aS
                        obtain⟨go31,co31,eo31,gb31,gl31,cl31,HG31⟩:=Kd.R_form HO_8.out (by omega)
                        (first|cases eo31|(injection eo31 with ea_ en_ ec_;(first|subst ea_|(injection ea_ with ea_;subst ea_));subst ec_;clear en_))
                        have GB31:=aM gb31;have GG31:=aM HG31;clear gb31 gl31 HG31;(first|simp only[add_plain] at hx252_0|skip)
                        obtain⟨hx31_0,hf31_0⟩:=Kd.R_celln 0 HO_8.out (x53_3:Int) p31 q31;replace p31:=eq_true p31;replace q31:=eq_true q31;have HP32:=Kd.R_putg HO_8.out (x53_3:Int) (wrap64 ((rd x8_3 x53_3)+1));have fl_:True:=trivial;repeat((first|clear fl_|go_quiet (first|((with_reducible refine gate_store (t:=3) (p:=76) rfl ?_);(try(rw[drewN_self wr];generalize hq_:World.drewN wr _=wr;have n0_:=aM (Kd.R_at hq_ HO_8.out);have n1_:=aM (below_at hq_ HB.out);clear hq_ HO_8 HB;have HO_8:=n0_;have HB:=n1_;clear n0_ n1_;(try(obtain⟨hx31_0,hf31_0⟩:=Kd.R_celln 0 HO_8.out (x53_3:Int) (of_eq_true p31) (of_eq_true q31)));(try(have HP32:=Kd.R_putg HO_8.out (x53_3:Int) (wrap64 ((rd x8_3 x53_3)+1))))));refine store_event (t:=3) (p:=76) (v:=?vo_w33) (w1:=(wr.setCell ⟨go31,(x53_3:Int).toNat,none⟩ (.int .i64 (wrap64 ((rd x8_3 x53_3)+1))))) ?hg ?ho ?hn ?hr ?_;(case ho=>rfl);(case hg=>rfl);(case hn=>rfl);(case hr=>first|(go_simp;done)|(go_simp;rfl));intro w33 hw;have hg:wr.grownBy w33 (some go31):=(by rw[hw];exact HP32.2);have hp_:Kd.R (Kd.int .i64) 3 w33 w.heap.size (fun _=>True) (.slice (some ⟨go31,0,none⟩) x8_3.length co21) y253:=(by rw[hw,Ny253.out];exact HP32.1);clear HP32;replace HO_8:=aM (hp_);replace HB:=aM ((by rw[hw];exact below_set (HB.out) GB31.out:Below w.heap.size w w33));clear hg hw hp_)));go_wp2_with (first|((with_reducible refine gate_store (t:=3) (p:=76) rfl ?_);(try(rw[drewN_self wr];generalize hq_:World.drewN wr _=wr;have n0_:=aM (Kd.R_at hq_ HO_8.out);have n1_:=aM (below_at hq_ HB.out);clear hq_ HO_8 HB;have HO_8:=n0_;have HB:=n1_;clear n0_ n1_;(try(obtain⟨hx31_0,hf31_0⟩:=Kd.R_celln 0 HO_8.out (x53_3:Int) (of_eq_true p31) (of_eq_true q31)));(try(have HP32:=Kd.R_putg HO_8.out (x53_3:Int) (wrap64 ((rd x8_3 x53_3)+1))))));refine store_event (t:=3) (p:=76) (v:=?vo_w33) (w1:=(wr.setCell ⟨go31,(x53_3:Int).toNat,none⟩ (.int .i64 (wrap64 ((rd x8_3 x53_3)+1))))) ?hg ?ho ?hn ?hr ?_;(case ho=>rfl);(case hg=>rfl);(case hn=>rfl);(case hr=>first|(go_simp;done)|(go_simp;rfl));intro w33 hw;have hg:wr.grownBy w33 (some go31):=(by rw[hw];exact HP32.2);have hp_:Kd.R (Kd.int .i64) 3 w33 w.heap.size (fun _=>True) (.slice (some ⟨go31,0,none⟩) x8_3.length co21) y253:=(by rw[hw,Ny253.out];exact HP32.1);clear HP32;replace HO_8:=aM (hp_);replace HB:=aM ((by rw[hw];exact below_set (HB.out) GB31.out:Below w.heap.size w w33));clear hg hw hp_)))
                        (try simp only[← hl8_3])
                        go_roundg k3
                        case measure=>have:=HK1.out;have:=HK2.out;have:=HK3.out;omega
                        case rel=>exact⟨(y253),(ji26),(by first|rfl|(simp;done)|(simp only[← hji26] <;> (first|rfl|simp))|(simp [*];done)),H',⟨by have:=HK1.out;have:=HK2.out;have:=HK3.out;omega⟩,⟨by(try simp only[hl8_3]);(with_reducible repeat(first|apply Kd.R_alloc|apply Kd.R_drewN|apply Kd.R_drew));exact HO_8.out⟩,⟨pB⟩⟩
                       ·rw[if_neg c30] at H;exact absurd H (by simp)
                      ·rw[if_neg c29] at H;have c29b0:decide ((rd l0 x47_2) < (rd l1 (ji26)))=false:=decide_eq_false c29;clear c29;have H':=aM H;clear H;have p250:0≤(x53_3:Int):=oE aS
                       have q250:x53_3 < (l1.length:Int):=oE aS
                       obtain⟨ad250,e250,hx250_0⟩:=Kd.at_int HR1.out x53_3 p250 q250;cases e250
                       replace hx250_0:=(HB.out.cell (World.block_lt_of_cell? w _ hx250_0)).trans hx250_0;replace p250:=eq_true p250;replace q250:=eq_true q250;have p251:0≤((ji26):Int):=oE aS
                       have q251:(ji26) < (l1.length:Int):=oE aS
                       obtain⟨ad251,e251,hx251_0⟩:=Kd.at_int HR1.out (ji26) p251 q251;obtain rfl:ad250=ad251:=(by injection e251)
                       replace hx251_0:=(HB.out.cell (World.block_lt_of_cell? w _ hx251_0)).trans hx251_0;replace p251:=eq_true p251;replace q251:=eq_true q251;go_wp2
                       repeat(go_quiet (fail);try go_wp2)
                       (try simp only[← hl8_3])
                       go_roundg k3
                       case measure=>have:=HK1.out;have:=HK2.out;have:=HK3.out;omega
                       case rel=>exact⟨(x8_3),(ji26),(by first|rfl|(simp;done)|(simp only[← hji26] <;> (first|rfl|simp))|(simp [*];done)),H',⟨by have:=HK1.out;have:=HK2.out;have:=HK3.out;omega⟩,⟨by(try simp only[hl8_3]);(with_reducible repeat(first|apply Kd.R_alloc|apply Kd.R_drewN|apply Kd.R_drew));exact HO_8.out⟩,⟨pB⟩⟩
                     ·rw[if_neg c28] at H;exact absurd H (by simp)
                    ·rw[if_neg c27] at H;exact absurd H (by simp)
                   ·rw[if_neg c25] at H;have c25b0:decide ((rd l1 x53_3)≤(rd l0 x47_2))=false:=decide_eq_false c25;clear c25;have H':=aM H;clear H;have p250:0≤(x53_3:Int):=oE aS
                    have q250:x53_3 < (l1.length:Int):=oE aS
                    obtain⟨ad250,e250,hx250_0⟩:=Kd.at_int HR1.out x53_3 p250 q250;cases e250
                    replace hx250_0:=(HB.out.cell (World.block_lt_of_cell? w _ hx250_0)).trans hx250_0;replace p250:=eq_true p250;replace q250:=eq_true q250;go_wp2
                    repeat(go_quiet (fail);try go_wp2)
                    (try simp only[← hl8_3])
                    go_roundg k3
                    case measure=>have:=HK1.out;have:=HK2.out;have:=HK3.out;omega
                    case rel=>exact⟨(x8_3),(wrap64 (x53_3+1)),sD,H',⟨by have:=HK1.out;have:=HK2.out;have:=HK3.out;omega⟩,⟨by(try simp only[hl8_3]);(with_reducible repeat(first|apply Kd.R_alloc|apply Kd.R_drewN|apply Kd.R_drew));exact HO_8.out⟩,⟨pB⟩⟩
                  ·rw[if_neg c24] at H;exact absurd H (by simp)
                 ·rw[if_neg c23] at H;exact absurd H (by simp)
                ·rw[if_neg c22] at H;have c22b0:decide (x53_3 < (x8_2.length:Int))=false:=decide_eq_false c22;have c22b0x:=c22b0;(try simp only[hl8_3] at c22b0x)
                 clear c22;have H':=aM H;clear H;go_wp2
                 repeat(go_quiet (fail);try go_wp2)
                 (try simp only[← hl8_3])
                 go_roundg k3
                 case measure=>have:=HK1.out;have:=HK2.out;have:=HK3.out;omega
                 case rel=>exact⟨(x8_3),(wrap64 (x47_2+1)),sD,H',⟨by have:=HK1.out;have:=HK2.out;have:=HK3.out;omega⟩,⟨by(try simp only[hl8_3]);(with_reducible repeat(first|apply Kd.R_alloc|apply Kd.R_drewN|apply Kd.R_drew));exact HO_8.out⟩,⟨pB⟩⟩
             ·rw[if_neg c20] at H;exact absurd H (by simp)
            ·rw[if_neg c19] at H;exact absurd H (by simp)
           ·rw[if_neg c18] at H;have c18b0:decide (x47_2 < (l0.length:Int))=false:=decide_eq_false c18;clear c18;simp only[Option.some.injEq,Prod.mk.injEq] at H;obtain⟨rfl,rfl⟩:=H;go_wp2
            repeat(go_quiet (fail);try go_wp2)
            go_ret2
            exact⟨_,by first|rfl|(simp [errW_none,errW_some] <;> rfl)|(simp only[← hji13];first|rfl|(simp [errW_none,errW_some] <;> rfl))|(simp [*,errW_none,errW_some] <;> rfl),rX HO_8.out,pB⟩
        ·rw[if_neg c15] at H;exact absurd H (by simp)
       ·rw[if_neg c14] at H;exact absurd H (by simp)
 ·rw[if_neg c4] at H;have c4b0:(t243 == 0)=false:=beq_eq_false_iff_ne.mpr c4;have c4b1:(t243 != 0)=true:=bne_iff_ne.mpr c4;simp only[Option.some.injEq,Prod.mk.injEq] at H;obtain⟨rfl,rfl⟩:=H;go_enter Try.func15,Try.ntmps15
  have fl_:True:=trivial;repeat((first|clear fl_|go_quiet (first|(go_at_call 30;(with_reducible refine(Bzx.calls k _ _ l0 t243 _ ?side1 ?side2 A3.out).mono ?_);(case side1=>exact cX HR0.out);(case side2=>exact HC0.out);rintro e w' ⟨rfl,⟨nd,rfl⟩⟩;(try first|exact⟨rfl,_,World.drewN_drewN _ _ _⟩|exact⟨rfl,_,Eq.trans (World.drewN_drewN _ _ _) (congrArg (World.drewN _) (Nat.add_assoc _ _ _))⟩))));go_wp2_with (first|(go_at_call 30;(with_reducible refine(Bzx.calls k _ _ l0 t243 _ ?side1 ?side2 A3.out).mono ?_);(case side1=>exact cX HR0.out);(case side2=>exact HC0.out);rintro e w' ⟨rfl,⟨nd,rfl⟩⟩;(try first|exact⟨rfl,_,World.drewN_drewN _ _ _⟩|exact⟨rfl,_,Eq.trans (World.drewN_drewN _ _ _) (congrArg (World.drewN _) (Nat.add_assoc _ _ _))⟩))))
  go_ret2
  exact⟨_,eW,by first|exact Kd.R_nil _ _ _ _ _|exact Kd.N_nil _ _ _ _ _|exact Kd.V_nil _ _ _ _ _|exact Kd.Q_nil _ _ _ _ _|exact Kd.S_nil _ _ _ _ _,pB⟩

end Go.Proofs.Ytokkiljkgejnhaa.Print
