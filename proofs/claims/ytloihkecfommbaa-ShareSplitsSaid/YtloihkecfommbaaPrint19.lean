import Derived.Test.YtloihkecfommbaaPrint0
import Derived.Test.YtloihkecfommbaaPrint17
namespace Go.Proofs.Ytloihkecfommbaa.Print
open Go.RowKit Go.Proofs.YtloihkecfommbaaW.PrintWords Go.Proofs.YtloihkecfommbaaW.PrintLast Go.Proofs.YtloihkecfommbaaW.PrintMore
attribute [local go_sem] max2_int min2_int max_two min_two max_three min_three max_four min_four
set_option linter.unusedVariables false
set_option maxRecDepth 100000
set_option maxHeartbeats 8000000
set_option linter.unusedSimpArgs false

mutual
def Azm.l0:Nat→Int→List Int→Int→List Int→Int→List Int→Int→Option (List Int × Int)
 | 0,_,_,_,_,_,_,_=>none
 | k+1,x0,x1,x6,x8,x9,x10,x11=>if x11 < (x1.length:Int) then(if 0≤x11 then((Azb.f k (rd x1 x11) x0 x6).bind fun bt330=>(if x11 < (x8.length:Int) then((some (x8.set (x11:Int).toNat bt330.1:List Int)).bind fun y332=>(if x11 < (x10.length:Int) then(Azm.l0 k x0 x1 x6 y332 (wrap64 (x9 - (rd y332 x11))) (x10.set (x11:Int).toNat bt330.2) (wrap64 (x11+1))) else(none))) else(none))) else(none)) else(Azm.l1 k x8 x9 x10)
def Azm.l1:Nat→List Int→Int→List Int→Option (List Int × Int)
 | 0,_,_,_=>none
 | k+1,x8,x9,x10=>if x9 > 0 then(Azm.l2 k x8 x9 x10 0 1) else(some (x8,0))
def Azm.l2:Nat→List Int→Int→List Int→Int→Int→Option (List Int × Int)
 | 0,_,_,_,_,_=>none
 | k+1,x8,x9,x10,x12,x13=>if x13 < (x10.length:Int) then(if 0≤x13 then(if 0≤x12 then(if x12 < (x10.length:Int) then(if(rd x10 x13) > (rd x10 x12) then(Azm.l2 k x8 x9 x10 x13 (wrap64 (x13+1))) else(Azm.l2 k x8 x9 x10 x12 (wrap64 (x13+1)))) else(none)) else(none)) else(none)) else(if 0≤x12 then(if x12 < (x8.length:Int) then(if x12 < (x10.length:Int) then(Azm.l1 k (x8.set (x12:Int).toNat (wrap64 ((rd x8 x12)+1))) (wrap64 (x9 - 1)) (x10.set (x12:Int).toNat (-1))) else(none)) else(none)) else(none))
end
def Azm.f (k:Nat) (a0:Int) (l1:List Int):Option (List Int × Int):=(Azx.f k a0 l1).bind fun bt321=>(if bt321.2=0 then(if 0≤(l1.length:Int) then(if((l1.length:Int):Int).toNat≤35184372088832 then((some (List.replicate ((l1.length:Int):Int).toNat 0:List Int)).bind fun y323=>(if bt321.1=0 then(some (y323,0)) else(Azm.l0 k a0 l1 bt321.1 y323 a0 (List.replicate ((l1.length:Int):Int).toNat 0) 0))) else(none)) else(none)) else(some (([]:List Int),bt321.2)))
theorem Azm.mono_l:∀ k,(∀ y0 y1 y2 y3 y4 y5 y6,LeO (Azm.l0 k y0 y1 y2 y3 y4 y5 y6) (Azm.l0 (k+1) y0 y1 y2 y3 y4 y5 y6))∧(∀ y0 y1 y2,LeO (Azm.l1 k y0 y1 y2) (Azm.l1 (k+1) y0 y1 y2))∧(∀ y0 y1 y2 y3 y4,LeO (Azm.l2 k y0 y1 y2 y3 y4) (Azm.l2 (k+1) y0 y1 y2 y3 y4))
 | 0=>⟨fun _ _ _ _ _ _ _ r h=>by simp [Azm.l0] at h,fun _ _ _ r h=>by simp [Azm.l1] at h,fun _ _ _ _ _ r h=>by simp [Azm.l2] at h⟩
 | k+1=>by
  obtain⟨ih0,ih1,ih2⟩:=Azm.mono_l k;refine⟨?_,?_,?_⟩
  ·intro y0 y1 y2 y3 y4 y5 y6;unfold Azm.l0;with_reducible repeat' first|exact ih0 _ _ _ _ _ _ _|exact ih1 _ _ _|exact ih2 _ _ _ _ _|exact Azb.mono _ _ _ _|exact Azx.mono _ _ _|exact LeO.refl _|exact LeO.none _|refine LeO.ite ?_ ?_|refine LeO.bind ?_ (fun _=>?_)
  ·intro y0 y1 y2;unfold Azm.l1;with_reducible repeat' first|exact ih0 _ _ _ _ _ _ _|exact ih1 _ _ _|exact ih2 _ _ _ _ _|exact Azb.mono _ _ _ _|exact Azx.mono _ _ _|exact LeO.refl _|exact LeO.none _|refine LeO.ite ?_ ?_|refine LeO.bind ?_ (fun _=>?_)
  ·intro y0 y1 y2 y3 y4;unfold Azm.l2;with_reducible repeat' first|exact ih0 _ _ _ _ _ _ _|exact ih1 _ _ _|exact ih2 _ _ _ _ _|exact Azb.mono _ _ _ _|exact Azx.mono _ _ _|exact LeO.refl _|exact LeO.none _|refine LeO.ite ?_ ?_|refine LeO.bind ?_ (fun _=>?_)
theorem Azm.mono:∀ a0 a1 k,LeO (Azm.f k a0 a1) (Azm.f (k+1) a0 a1):=by
 intro a0 a1 k;obtain⟨ih0,ih1,ih2⟩:=Azm.mono_l k;unfold Azm.f;with_reducible repeat' first|exact ih0 _ _ _ _ _ _ _|exact ih1 _ _ _|exact ih2 _ _ _ _ _|exact Azb.mono _ _ _ _|exact Azx.mono _ _ _|exact LeO.refl _|exact LeO.none _|refine LeO.ite ?_ ?_|refine LeO.bind ?_ (fun _=>?_)
theorem Azm.calls (k:Nat) (a0:Int) (A1:Option Addr) (c1:Nat) (l1:List Int) (r1:List Int) (r2:Int) (w:World) (hr1:Kd.C (Kd.int .i64) w A1 l1.length l1) (hc1:l1.length≤c1) (h:Azm.f k a0 l1=some (r1,r2)) :
  Calls Try.prog 12 #[.int .i64 a0,.slice A1 l1.length c1] w fun e w'=>∃ v0_:Value,e=.returned (.tuple #[v0_,.int .i64 r2])∧Kd.R (Kd.int .i64) 3 w' w.heap.size (fun _=>True) v0_ r1∧Below w.heap.size w w':=by
 have HR1:=aM hr1;have HC1:=aM hc1;clear hr1 hc1;have HB:=aM (Below.refl w.heap.size w);have H:((Azx.f k a0 l1).bind fun bt321=>(if bt321.2=0 then(if 0≤(l1.length:Int) then(if((l1.length:Int):Int).toNat≤35184372088832 then((some (List.replicate ((l1.length:Int):Int).toNat 0:List Int)).bind fun y323=>(if bt321.1=0 then(some (y323,0)) else(Azm.l0 k a0 l1 bt321.1 y323 a0 (List.replicate ((l1.length:Int):Int).toNat 0) 0))) else(none)) else(none)) else(some (([]:List Int),bt321.2))))=some (r1,r2):=h
 clear h;replace H:=bS H;obtain⟨⟨t321,t322⟩,A30,H⟩:=H;(try dsimp only at H);have A3:=aM A30;clear A30;by_cases c4:t322=0
 ·rw[if_pos c4] at H;have c4b0:(t322 == 0)=true:=beq_iff_eq.mpr c4;have c4b1:(t322 != 0)=false:=bne_eq_false_iff_eq.mpr c4;clear c4;by_cases c5:0≤(l1.length:Int)
  ·rw[if_pos c5] at H;have c5b0:=eq_true c5;have c5b1:decide (0≤(l1.length:Int))=true:=dE c5;clear c5;by_cases c6:((l1.length:Int):Int).toNat≤35184372088832
   ·rw[if_pos c6] at H;have c6b0:=eq_true c6;have c6b1:decide (((l1.length:Int):Int).toNat≤35184372088832)=true:=dE c6;clear c6;obtain⟨y323,hy323⟩:∃ y_:List Int,y_=(List.replicate ((l1.length:Int):Int).toNat 0):=⟨_,rfl⟩;replace H:(if t321=0 then(some (y323,0)) else(Azm.l0 k a0 l1 t321 y323 a0 (List.replicate ((l1.length:Int):Int).toNat 0) 0))=some (r1,r2):=by first|(rw[hy323];with_reducible exact H)|(have H2_:=(Option.bind_some _ _).symm.trans H;rw[hy323];with_reducible exact H2_)|(have H2_:=(Option.bind_some _ _).symm.trans H;with_reducible exact H2_)|with_reducible exact H|(rw[hy323];exact H)|exact H
    have Ny323:=aM hy323;clear hy323;by_cases c7:t321=0
    ·rw[if_pos c7] at H;have c7b0:(t321 == 0)=true:=beq_iff_eq.mpr c7;have c7b1:(t321 != 0)=false:=bne_eq_false_iff_eq.mpr c7;clear c7;simp only[Option.some.injEq,Prod.mk.injEq] at H;obtain⟨rfl,rfl⟩:=H;go_enter Try.func12,Try.ntmps12
     have fl_:True:=trivial;repeat((first|clear fl_|go_quiet (first|(go_at_call 27;(with_reducible refine(Azx.calls k a0 _ _ l1 t321 t322 _ ?side1 ?side2 A3.out).mono ?_);(case side1=>exact cX HR1.out);(case side2=>exact HC1.out);rintro e w' ⟨rfl,⟨nd,rfl⟩⟩;(try first|exact⟨rfl,_,World.drewN_drewN _ _ _⟩|exact⟨rfl,_,Eq.trans (World.drewN_drewN _ _ _) (congrArg (World.drewN _) (Nat.add_assoc _ _ _))⟩))|((with_reducible refine gate_dst (N:=25) rfl ?_);refine Kd.R_make (Kd.int .i64) _ 3 rfl (N:=25) rfl 22 _ _ rfl (l1.length:Int) rfl rfl Try.underlying22 (.int .i64 0) 8 info3 rfl (by decide) (by omega) 0 (ok:=fun _=>True) (okp:=fun _=>True) rfl (fun _ hk=>hk) trivial (oE aS) (Nat.le_trans (Nat.mul_le_mul_right _ (oE aS:(l1.length:Int).toNat≤35184372088832)) (by omega)) (Below.refl _ _) (Nat.le_refl _) ?_;intro v324 w8 ho9 hb hg_ hnew_;clear hg_ hnew_;(first|rw[← Ny323.out] at ho9|(simp only[Int.reduceToNat] at ho9;rw[← Ny323.out] at ho9));have HO325:=aM (Kd.R_lower ho9 (below_size pB));replace HB:=aM (below_step pB hb);clear hb ho9)));go_wp2_with (first|(go_at_call 27;(with_reducible refine(Azx.calls k a0 _ _ l1 t321 t322 _ ?side1 ?side2 A3.out).mono ?_);(case side1=>exact cX HR1.out);(case side2=>exact HC1.out);rintro e w' ⟨rfl,⟨nd,rfl⟩⟩;(try first|exact⟨rfl,_,World.drewN_drewN _ _ _⟩|exact⟨rfl,_,Eq.trans (World.drewN_drewN _ _ _) (congrArg (World.drewN _) (Nat.add_assoc _ _ _))⟩))|((with_reducible refine gate_dst (N:=25) rfl ?_);refine Kd.R_make (Kd.int .i64) _ 3 rfl (N:=25) rfl 22 _ _ rfl (l1.length:Int) rfl rfl Try.underlying22 (.int .i64 0) 8 info3 rfl (by decide) (by omega) 0 (ok:=fun _=>True) (okp:=fun _=>True) rfl (fun _ hk=>hk) trivial (oE aS) (Nat.le_trans (Nat.mul_le_mul_right _ (oE aS:(l1.length:Int).toNat≤35184372088832)) (by omega)) (Below.refl _ _) (Nat.le_refl _) ?_;intro v324 w8 ho9 hb hg_ hnew_;clear hg_ hnew_;(first|rw[← Ny323.out] at ho9|(simp only[Int.reduceToNat] at ho9;rw[← Ny323.out] at ho9));have HO325:=aM (Kd.R_lower ho9 (below_size pB));replace HB:=aM (below_step pB hb);clear hb ho9)))
     go_ret2
     exact⟨_,eW,rX HO325.out,pB⟩
    ·rw[if_neg c7] at H;have c7b0:(t321 == 0)=false:=beq_eq_false_iff_ne.mpr c7;have c7b1:(t321 != 0)=true:=bne_iff_ne.mpr c7;obtain⟨y326,hy326⟩:∃ y_:List Int,y_=(List.replicate ((l1.length:Int):Int).toNat 0):=⟨_,rfl⟩;replace H:(Azm.l0 k a0 l1 t321 y323 a0 y326 0)=some (r1,r2):=by first|(rw[hy326];with_reducible exact H)|(have H2_:=(Option.bind_some _ _).symm.trans H;rw[hy326];with_reducible exact H2_)|(have H2_:=(Option.bind_some _ _).symm.trans H;with_reducible exact H2_)|with_reducible exact H|(rw[hy326];exact H)|exact H
     have Ny326:=aM hy326;clear hy326;have H':=aM H;clear H;go_enter Try.func12,Try.ntmps12
     have fl_:True:=trivial;repeat((first|clear fl_|go_quiet (first|(go_at_call 27;(with_reducible refine(Azx.calls k a0 _ _ l1 t321 t322 _ ?side1 ?side2 A3.out).mono ?_);(case side1=>exact cX HR1.out);(case side2=>exact HC1.out);rintro e w' ⟨rfl,⟨nd,rfl⟩⟩;(try first|exact⟨rfl,_,World.drewN_drewN _ _ _⟩|exact⟨rfl,_,Eq.trans (World.drewN_drewN _ _ _) (congrArg (World.drewN _) (Nat.add_assoc _ _ _))⟩))|((with_reducible refine gate_dst (N:=25) rfl ?_);refine Kd.R_make (Kd.int .i64) _ 3 rfl (N:=25) rfl 22 _ _ rfl (l1.length:Int) rfl rfl Try.underlying22 (.int .i64 0) 8 info3 rfl (by decide) (by omega) 0 (ok:=fun _=>True) (okp:=fun _=>True) rfl (fun _ hk=>hk) trivial (oE aS) (Nat.le_trans (Nat.mul_le_mul_right _ (oE aS:(l1.length:Int).toNat≤35184372088832)) (by omega)) (Below.refl _ _) (Nat.le_refl _) ?_;intro v324 w10 ho11 hb hg_ hnew_;clear hg_ hnew_;(first|rw[← Ny323.out] at ho11|(simp only[Int.reduceToNat] at ho11;rw[← Ny323.out] at ho11));have HO325:=aM (Kd.R_lower ho11 (below_size pB));replace HB:=aM (below_step pB hb);clear hb ho11)|((with_reducible refine gate_dst (N:=32) rfl ?_);refine Kd.R_make (Kd.int .i64) _ 3 rfl (N:=32) rfl 22 _ _ rfl (l1.length:Int) rfl rfl Try.underlying22 (.int .i64 0) 8 info3 rfl (by decide) (by omega) 0 (ok:=fun _=>True) (okp:=fun _=>True) rfl (fun _ hk=>hk) trivial (oE aS) (Nat.le_trans (Nat.mul_le_mul_right _ (oE aS:(l1.length:Int).toNat≤35184372088832)) (by omega)) (Below.refl _ _) (Nat.le_refl _) ?_;intro v327 w12 ho13 hb hg_ hnew_;clear hg_ hnew_;(first|rw[← Ny326.out] at ho13|(simp only[Int.reduceToNat] at ho13;rw[← Ny326.out] at ho13));have HO328:=aM (Kd.R_lower (Kd.R_new' ho13 (Kd.R_lt (rX HO325.out))) (below_size pB));replace HO325:=aM (Kd.R_elder' (rX HO325.out) (Kd.R_base ho13) hb);replace HB:=aM (below_step pB hb);clear hb ho13)));go_wp2_with (first|(go_at_call 27;(with_reducible refine(Azx.calls k a0 _ _ l1 t321 t322 _ ?side1 ?side2 A3.out).mono ?_);(case side1=>exact cX HR1.out);(case side2=>exact HC1.out);rintro e w' ⟨rfl,⟨nd,rfl⟩⟩;(try first|exact⟨rfl,_,World.drewN_drewN _ _ _⟩|exact⟨rfl,_,Eq.trans (World.drewN_drewN _ _ _) (congrArg (World.drewN _) (Nat.add_assoc _ _ _))⟩))|((with_reducible refine gate_dst (N:=25) rfl ?_);refine Kd.R_make (Kd.int .i64) _ 3 rfl (N:=25) rfl 22 _ _ rfl (l1.length:Int) rfl rfl Try.underlying22 (.int .i64 0) 8 info3 rfl (by decide) (by omega) 0 (ok:=fun _=>True) (okp:=fun _=>True) rfl (fun _ hk=>hk) trivial (oE aS) (Nat.le_trans (Nat.mul_le_mul_right _ (oE aS:(l1.length:Int).toNat≤35184372088832)) (by omega)) (Below.refl _ _) (Nat.le_refl _) ?_;intro v324 w10 ho11 hb hg_ hnew_;clear hg_ hnew_;(first|rw[← Ny323.out] at ho11|(simp only[Int.reduceToNat] at ho11;rw[← Ny323.out] at ho11));have HO325:=aM (Kd.R_lower ho11 (below_size pB));replace HB:=aM (below_step pB hb);clear hb ho11)|((with_reducible refine gate_dst (N:=32) rfl ?_);refine Kd.R_make (Kd.int .i64) _ 3 rfl (N:=32) rfl 22 _ _ rfl (l1.length:Int) rfl rfl Try.underlying22 (.int .i64 0) 8 info3 rfl (by decide) (by omega) 0 (ok:=fun _=>True) (okp:=fun _=>True) rfl (fun _ hk=>hk) trivial (oE aS) (Nat.le_trans (Nat.mul_le_mul_right _ (oE aS:(l1.length:Int).toNat≤35184372088832)) (by omega)) (Below.refl _ _) (Nat.le_refl _) ?_;intro v327 w12 ho13 hb hg_ hnew_;clear hg_ hnew_;(first|rw[← Ny326.out] at ho13|(simp only[Int.reduceToNat] at ho13;rw[← Ny326.out] at ho13));have HO328:=aM (Kd.R_lower (Kd.R_new' ho13 (Kd.R_lt (rX HO325.out))) (below_size pB));replace HO325:=aM (Kd.R_elder' (rX HO325.out) (Kd.R_base ho13) hb);replace HB:=aM (below_step pB hb);clear hb ho13)))
     go_loopg [9,11] k (fun kq v9 v11 w'=>∃ (x8_1:List Int) (x9_1:Int) (x10_1:List Int) (x11_1:Int),v9=.int .i64 x9_1∧v11=.int .i64 x11_1∧Aside0 (Azm.l0 kq a0 l1 t321 x8_1 x9_1 x10_1 x11_1=some (r1,r2))∧Aside0 (kq≤k)∧Aside0 (Kd.R (Kd.int .i64) 3 w' w.heap.size (fun k_=>some k_≠(v327:Value).ownBlock) v324 x8_1)∧Aside0 (Kd.R (Kd.int .i64) 3 w' w.heap.size (fun k_=>some k_≠(v324:Value).ownBlock) v327 x10_1)∧Aside0 (Below w.heap.size w w'))
     case atStart=>exact⟨(y323),(a0),(y326),(0),sD,sD,H',⟨Nat.le_refl _⟩,⟨by(with_reducible repeat(first|apply Kd.R_alloc|apply Kd.R_drewN|apply Kd.R_drew));exact Kd.R_mono HO325.out (fun _ hk=>hk.2)⟩,⟨by(with_reducible repeat(first|apply Kd.R_alloc|apply Kd.R_drewN|apply Kd.R_drew));exact Kd.R_mono HO328.out (fun _ hk=>hk.2)⟩,⟨pB⟩⟩
     case round =>
      clear H';try clear c1
      try clear p2
      try clear c4
      try clear c4b0
      try clear c4b1
      try clear c5
      try clear c5b0
      try clear c5b1
      try clear c6
      try clear c6b0
      try clear c6b1
      try clear c7
      try clear c7b0
      try clear c7b1
      try clear c12
      obtain⟨x8_1,x9_1,x10_1,x11_1,rfl,rfl,HA,HK1,HO_8,HO_10,HB⟩:=hrel;cases gk with
      | zero=>exact absurd HA.out (by simp [Azm.l0])
      | succ k1 =>
       have H:=HA.out;clear HA;simp only[Azm.l0] at H;by_cases c14:x11_1 < (l1.length:Int)
       ·rw[if_pos c14] at H;have c14b0:decide (x11_1 < (l1.length:Int))=true:=dE c14;clear c14;by_cases c15:0≤x11_1
        ·rw[if_pos c15] at H;have c15b0:decide (0≤x11_1)=true:=dE c15;clear c15;replace H:=bS H;obtain⟨⟨t330,t331⟩,A160,H⟩:=H;(try dsimp only at H);have A16:=aM A160;clear A160;by_cases c17:x11_1 < (x8_1.length:Int)
         ·rw[if_pos c17] at H;have c17b0:decide (x11_1 < (x8_1.length:Int))=true:=dE c17;clear c17;obtain⟨y332,hy332⟩:∃ y_:List Int,y_=(x8_1.set (x11_1:Int).toNat t330):=⟨_,rfl⟩;replace H:(if x11_1 < (x10_1.length:Int) then(Azm.l0 k1 a0 l1 t321 y332 (wrap64 (x9_1 - (rd y332 x11_1))) (x10_1.set (x11_1:Int).toNat t331) (wrap64 (x11_1+1))) else(none))=some (r1,r2):=by first|(rw[hy332];with_reducible exact H)|(have H2_:=(Option.bind_some _ _).symm.trans H;rw[hy332];with_reducible exact H2_)|(have H2_:=(Option.bind_some _ _).symm.trans H;with_reducible exact H2_)|with_reducible exact H|(rw[hy332];exact H)|exact H
          have Ny332:=aM hy332;clear hy332;by_cases c19:x11_1 < (x10_1.length:Int)
          ·rw[if_pos c19] at H;have c19b0:decide (x11_1 < (x10_1.length:Int))=true:=dE c19;clear c19;obtain⟨y333,hy333⟩:∃ y_:List Int,y_=(x10_1.set (x11_1:Int).toNat t331):=⟨_,rfl⟩;replace H:(Azm.l0 k1 a0 l1 t321 y332 (wrap64 (x9_1 - (rd y332 x11_1))) y333 (wrap64 (x11_1+1)))=some (r1,r2):=by first|(rw[hy333];with_reducible exact H)|(have H2_:=(Option.bind_some _ _).symm.trans H;rw[hy333];with_reducible exact H2_)|(have H2_:=(Option.bind_some _ _).symm.trans H;with_reducible exact H2_)|with_reducible exact H|(rw[hy333];exact H)|exact H
           have Ny333:=aM hy333;clear hy333;have H':=aM H;clear H;have p329:0≤(x11_1:Int):=oE aS
           have q329:x11_1 < (l1.length:Int):=oE aS
           obtain⟨ad329,e329,hx329_0⟩:=Kd.at_int HR1.out x11_1 p329 q329;cases e329
           replace hx329_0:=(HB.out.cell (World.block_lt_of_cell? w _ hx329_0)).trans hx329_0;replace p329:=eq_true p329;replace q329:=eq_true q329;have fl_:True:=trivial;repeat((first|clear fl_|go_quiet (first|(go_at_call 28;(with_reducible refine(Azb.calls k1 (rd l1 x11_1) a0 t321 t330 t331 _ A16.out).mono ?_);rintro e w' ⟨rfl,⟨nd,rfl⟩⟩;(try first|exact⟨rfl,_,World.drewN_drewN _ _ _⟩|exact⟨rfl,_,Eq.trans (World.drewN_drewN _ _ _) (congrArg (World.drewN _) (Nat.add_assoc _ _ _))⟩);have p18:0≤(x11_1:Int):=oE aS;have q18:(x11_1:Int) < ((x8_1.length:Int):Int):=oE aS;obtain⟨go18,co18,eo18,gb18,gl18,cl18,HG18⟩:=Kd.R_form HO_8.out (by omega);(first|cases eo18|(injection eo18 with ea_ en_ ec_;(first|subst ea_|(injection ea_ with ea_;subst ea_));subst ec_;clear en_));have GB18:=aM gb18;have GG18:=aM HG18;clear gb18 gl18 HG18;obtain⟨hx18_0,hf18_0⟩:=Kd.R_celln 0 HO_8.out (x11_1:Int) p18 q18;replace p18:=eq_true p18;replace q18:=eq_true q18;obtain⟨hy21_,hz21_⟩:=Kd.R_celln 0 HO_8.out (x11_1:Int) (oE aS) (oE aS);have HP21:=Kd.R_putg HO_8.out (x11_1:Int) t330)|((with_reducible refine gate_store (t:=3) (p:=53) rfl ?_);(try(rw[drewN_self wr];generalize hq_:World.drewN wr _=wr;have n0_:=aM (Kd.R_at hq_ HO_8.out);have n1_:=aM (Kd.R_at hq_ HO_10.out);have n2_:=aM (below_at hq_ HB.out);clear hq_ HO_8 HO_10 HB;have HO_8:=n0_;have HO_10:=n1_;have HB:=n2_;clear n0_ n1_ n2_;(try(obtain⟨hy21_,hz21_⟩:=Kd.R_celln 0 HO_8.out (x11_1:Int) (oE aS) (oE aS)));(try(have HP21:=Kd.R_putg HO_8.out (x11_1:Int) t330))));refine store_event (t:=3) (p:=53) (v:=?vo_w22) (w1:=(wr.setCell ⟨go18,(x11_1:Int).toNat,none⟩ (.int .i64 t330))) ?hg ?ho ?hn ?hr ?_;(case ho=>rfl);(case hg=>rfl);(case hn=>rfl);(case hr=>first|(go_simp;done)|(go_simp;rfl));intro w22 hw;have hg:wr.grownBy w22 (some go18):=(by rw[hw];exact HP21.2);have hp_:Kd.R (Kd.int .i64) 3 w22 w.heap.size (fun k_=>some k_≠(v327:Value).ownBlock) (.slice (some ⟨go18,0,none⟩) x8_1.length co18) y332:=(by rw[hw,Ny332.out];exact HP21.1);clear HP21;replace HO_8:=aM (hp_);replace HO_10:=aM (Kd.R_after (v:=(.slice (some ⟨go18,0,none⟩) x8_1.length co18)) (v1:=(.slice (some ⟨go18,0,none⟩) x8_1.length co18)) (ok:=(fun _=>True)) (rX (Kd.R_mono HO_10.out (fun _ hk=>⟨trivial,hk⟩))) hg (.inl rfl));replace HB:=aM ((by rw[hw];exact below_set (HB.out) GB18.out:Below w.heap.size w w22));clear hg hw hp_;have p20:0≤(x11_1:Int):=oE aS;have q20:(x11_1:Int) < ((x10_1.length:Int):Int):=oE aS;obtain⟨go20,co20,eo20,gb20,gl20,cl20,HG20⟩:=Kd.R_form HO_10.out (by omega);(first|cases eo20|(injection eo20 with ea_ en_ ec_;(first|subst ea_|(injection ea_ with ea_;subst ea_));subst ec_;clear en_));have GB20:=aM gb20;have GG20:=aM HG20;clear gb20 gl20 HG20;obtain⟨hx20_0,hf20_0⟩:=Kd.R_celln 0 HO_10.out (x11_1:Int) p20 q20;replace p20:=eq_true p20;replace q20:=eq_true q20;have n_:=aM (Kd.R_mono (ok':=(fun k_=>some k_≠(.slice (some ⟨go18,0,none⟩) x8_1.length co18:Value).ownBlock)) HO_10.out (fun k_ hk=>hk.2));clear HO_10;have HO_10:=n_;clear n_;obtain⟨hy23_,hz23_⟩:=Kd.R_celln 0 HO_10.out (x11_1:Int) (oE aS) (oE aS);have HP23:=Kd.R_putg HO_10.out (x11_1:Int) t331)|((with_reducible refine gate_store (t:=3) (p:=54) rfl ?_);(try(rw[drewN_self w22];generalize hq_:World.drewN w22 _=w22;have n0_:=aM (Kd.R_at hq_ HO_8.out);have n1_:=aM (Kd.R_at hq_ HO_10.out);have n2_:=aM (below_at hq_ HB.out);clear hq_ HO_8 HO_10 HB;have HO_8:=n0_;have HO_10:=n1_;have HB:=n2_;clear n0_ n1_ n2_;(try(have n_:=aM (Kd.R_mono (ok':=(fun k_=>some k_≠(.slice (some ⟨go18,0,none⟩) x8_1.length co18:Value).ownBlock)) HO_10.out (fun k_ hk=>hk.2));clear HO_10;have HO_10:=n_;clear n_));(try(obtain⟨hy23_,hz23_⟩:=Kd.R_celln 0 HO_10.out (x11_1:Int) (oE aS) (oE aS)));(try(have HP23:=Kd.R_putg HO_10.out (x11_1:Int) t331))));refine store_event (t:=3) (p:=54) (v:=?vo_w24) (w1:=(w22.setCell ⟨go20,(x11_1:Int).toNat,none⟩ (.int .i64 t331))) ?hg ?ho ?hn ?hr ?_;(case ho=>rfl);(case hg=>rfl);(case hn=>rfl);(case hr=>first|(go_simp;done)|(go_simp;rfl));intro w24 hw;have hg:w22.grownBy w24 (some go20):=(by rw[hw];exact HP23.2);have hp_:Kd.R (Kd.int .i64) 3 w24 w.heap.size (fun k_=>some k_≠(.slice (some ⟨go18,0,none⟩) x8_1.length co18:Value).ownBlock) (.slice (some ⟨go20,0,none⟩) x10_1.length co20) y333:=(by rw[hw,Ny333.out];exact HP23.1);clear HP23;replace HO_8:=aM (Kd.R_after (v:=(.slice (some ⟨go20,0,none⟩) x10_1.length co20)) (v1:=(.slice (some ⟨go20,0,none⟩) x10_1.length co20)) (ok:=(fun _=>True)) (rX (Kd.R_mono HO_8.out (fun _ hk=>⟨trivial,hk⟩))) hg (.inl rfl));replace HO_10:=aM (hp_);replace HB:=aM ((by rw[hw];exact below_set (HB.out) GB20.out:Below w.heap.size w w24));clear hg hw hp_;have p334:0≤(x11_1:Int):=oE aS;have q334:x11_1 < (y332.length:Int):=(by have h_:(x11_1:Int) < ((x8_1.length:Int):Int):=oE aS;first|(have e_:=(Kd.R_reads' HO_8.out).1;omega)|simpa only[Ny332.out,List.length_set] using h_);have ql334:((x11_1:Int) < ((x8_1.length:Int):Int))=True:=eq_true (oE aS);obtain⟨ad334,e334,hx334_0⟩:=Kd.at_int (Kd.R_reads' HO_8.out).2.2 x11_1 p334 q334;obtain rfl:(⟨go18,0,none⟩:Addr)=ad334:=(by injection e334);(first|simp only[add_plain] at hx334_0|simp only[add_at] at hx334_0|simp only[Addr.add,Nat.zero_add] at hx334_0|skip);replace p334:=eq_true p334;replace q334:=eq_true q334)));go_wp2_with (first|(go_at_call 28;(with_reducible refine(Azb.calls k1 (rd l1 x11_1) a0 t321 t330 t331 _ A16.out).mono ?_);rintro e w' ⟨rfl,⟨nd,rfl⟩⟩;(try first|exact⟨rfl,_,World.drewN_drewN _ _ _⟩|exact⟨rfl,_,Eq.trans (World.drewN_drewN _ _ _) (congrArg (World.drewN _) (Nat.add_assoc _ _ _))⟩);have p18:0≤(x11_1:Int):=oE aS;have q18:(x11_1:Int) < ((x8_1.length:Int):Int):=oE aS;obtain⟨go18,co18,eo18,gb18,gl18,cl18,HG18⟩:=Kd.R_form HO_8.out (by omega);(first|cases eo18|(injection eo18 with ea_ en_ ec_;(first|subst ea_|(injection ea_ with ea_;subst ea_));subst ec_;clear en_));have GB18:=aM gb18;have GG18:=aM HG18;clear gb18 gl18 HG18;obtain⟨hx18_0,hf18_0⟩:=Kd.R_celln 0 HO_8.out (x11_1:Int) p18 q18;replace p18:=eq_true p18;replace q18:=eq_true q18;obtain⟨hy21_,hz21_⟩:=Kd.R_celln 0 HO_8.out (x11_1:Int) (oE aS) (oE aS);have HP21:=Kd.R_putg HO_8.out (x11_1:Int) t330)|((with_reducible refine gate_store (t:=3) (p:=53) rfl ?_);(try(rw[drewN_self wr];generalize hq_:World.drewN wr _=wr;have n0_:=aM (Kd.R_at hq_ HO_8.out);have n1_:=aM (Kd.R_at hq_ HO_10.out);have n2_:=aM (below_at hq_ HB.out);clear hq_ HO_8 HO_10 HB;have HO_8:=n0_;have HO_10:=n1_;have HB:=n2_;clear n0_ n1_ n2_;(try(obtain⟨hy21_,hz21_⟩:=Kd.R_celln 0 HO_8.out (x11_1:Int) (oE aS) (oE aS)));(try(have HP21:=Kd.R_putg HO_8.out (x11_1:Int) t330))));refine store_event (t:=3) (p:=53) (v:=?vo_w22) (w1:=(wr.setCell ⟨go18,(x11_1:Int).toNat,none⟩ (.int .i64 t330))) ?hg ?ho ?hn ?hr ?_;(case ho=>rfl);(case hg=>rfl);(case hn=>rfl);(case hr=>first|(go_simp;done)|(go_simp;rfl));intro w22 hw;have hg:wr.grownBy w22 (some go18):=(by rw[hw];exact HP21.2);have hp_:Kd.R (Kd.int .i64) 3 w22 w.heap.size (fun k_=>some k_≠(v327:Value).ownBlock) (.slice (some ⟨go18,0,none⟩) x8_1.length co18) y332:=(by rw[hw,Ny332.out];exact HP21.1);clear HP21;replace HO_8:=aM (hp_);replace HO_10:=aM (Kd.R_after (v:=(.slice (some ⟨go18,0,none⟩) x8_1.length co18)) (v1:=(.slice (some ⟨go18,0,none⟩) x8_1.length co18)) (ok:=(fun _=>True)) (rX (Kd.R_mono HO_10.out (fun _ hk=>⟨trivial,hk⟩))) hg (.inl rfl));replace HB:=aM ((by rw[hw];exact below_set (HB.out) GB18.out:Below w.heap.size w w22));clear hg hw hp_;have p20:0≤(x11_1:Int):=oE aS;have q20:(x11_1:Int) < ((x10_1.length:Int):Int):=oE aS;obtain⟨go20,co20,eo20,gb20,gl20,cl20,HG20⟩:=Kd.R_form HO_10.out (by omega);(first|cases eo20|(injection eo20 with ea_ en_ ec_;(first|subst ea_|(injection ea_ with ea_;subst ea_));subst ec_;clear en_));have GB20:=aM gb20;have GG20:=aM HG20;clear gb20 gl20 HG20;obtain⟨hx20_0,hf20_0⟩:=Kd.R_celln 0 HO_10.out (x11_1:Int) p20 q20;replace p20:=eq_true p20;replace q20:=eq_true q20;have n_:=aM (Kd.R_mono (ok':=(fun k_=>some k_≠(.slice (some ⟨go18,0,none⟩) x8_1.length co18:Value).ownBlock)) HO_10.out (fun k_ hk=>hk.2));clear HO_10;have HO_10:=n_;clear n_;obtain⟨hy23_,hz23_⟩:=Kd.R_celln 0 HO_10.out (x11_1:Int) (oE aS) (oE aS);have HP23:=Kd.R_putg HO_10.out (x11_1:Int) t331)|((with_reducible refine gate_store (t:=3) (p:=54) rfl ?_);(try(rw[drewN_self w22];generalize hq_:World.drewN w22 _=w22;have n0_:=aM (Kd.R_at hq_ HO_8.out);have n1_:=aM (Kd.R_at hq_ HO_10.out);have n2_:=aM (below_at hq_ HB.out);clear hq_ HO_8 HO_10 HB;have HO_8:=n0_;have HO_10:=n1_;have HB:=n2_;clear n0_ n1_ n2_;(try(have n_:=aM (Kd.R_mono (ok':=(fun k_=>some k_≠(.slice (some ⟨go18,0,none⟩) x8_1.length co18:Value).ownBlock)) HO_10.out (fun k_ hk=>hk.2));clear HO_10;have HO_10:=n_;clear n_));(try(obtain⟨hy23_,hz23_⟩:=Kd.R_celln 0 HO_10.out (x11_1:Int) (oE aS) (oE aS)));(try(have HP23:=Kd.R_putg HO_10.out (x11_1:Int) t331))));refine store_event (t:=3) (p:=54) (v:=?vo_w24) (w1:=(w22.setCell ⟨go20,(x11_1:Int).toNat,none⟩ (.int .i64 t331))) ?hg ?ho ?hn ?hr ?_;(case ho=>rfl);(case hg=>rfl);(case hn=>rfl);(case hr=>first|(go_simp;done)|(go_simp;rfl));intro w24 hw;have hg:w22.grownBy w24 (some go20):=(by rw[hw];exact HP23.2);have hp_:Kd.R (Kd.int .i64) 3 w24 w.heap.size (fun k_=>some k_≠(.slice (some ⟨go18,0,none⟩) x8_1.length co18:Value).ownBlock) (.slice (some ⟨go20,0,none⟩) x10_1.length co20) y333:=(by rw[hw,Ny333.out];exact HP23.1);clear HP23;replace HO_8:=aM (Kd.R_after (v:=(.slice (some ⟨go20,0,none⟩) x10_1.length co20)) (v1:=(.slice (some ⟨go20,0,none⟩) x10_1.length co20)) (ok:=(fun _=>True)) (rX (Kd.R_mono HO_8.out (fun _ hk=>⟨trivial,hk⟩))) hg (.inl rfl));replace HO_10:=aM (hp_);replace HB:=aM ((by rw[hw];exact below_set (HB.out) GB20.out:Below w.heap.size w w24));clear hg hw hp_;have p334:0≤(x11_1:Int):=oE aS;have q334:x11_1 < (y332.length:Int):=(by have h_:(x11_1:Int) < ((x8_1.length:Int):Int):=oE aS;first|(have e_:=(Kd.R_reads' HO_8.out).1;omega)|simpa only[Ny332.out,List.length_set] using h_);have ql334:((x11_1:Int) < ((x8_1.length:Int):Int))=True:=eq_true (oE aS);obtain⟨ad334,e334,hx334_0⟩:=Kd.at_int (Kd.R_reads' HO_8.out).2.2 x11_1 p334 q334;obtain rfl:(⟨go18,0,none⟩:Addr)=ad334:=(by injection e334);(first|simp only[add_plain] at hx334_0|simp only[add_at] at hx334_0|simp only[Addr.add,Nat.zero_add] at hx334_0|skip);replace p334:=eq_true p334;replace q334:=eq_true q334)))
           go_roundg k1
           case measure=>have:=HK1.out;omega
           case rel=>exact⟨(y332),(wrap64 (x9_1 - (rd y332 x11_1))),(y333),(wrap64 (x11_1+1)),sD,sD,H',⟨by have:=HK1.out;omega⟩,⟨by(with_reducible repeat(first|apply Kd.R_alloc|apply Kd.R_drewN|apply Kd.R_drew));exact Kd.R_mono HO_8.out (fun _ hk=>hk.2)⟩,⟨rX HO_10.out⟩,⟨pB⟩⟩
          ·rw[if_neg c19] at H;exact absurd H (by simp)
         ·rw[if_neg c17] at H;exact absurd H (by simp)
        ·rw[if_neg c15] at H;exact absurd H (by simp)
       ·rw[if_neg c14] at H;have c14b0:decide (x11_1 < (l1.length:Int))=false:=decide_eq_false c14;clear c14;have H':=aM H;clear H;go_wp2
        repeat(go_quiet (fail);try go_wp2)
        go_loopg [9] k1 (fun kq v9 w'=>∃ (x8_2:List Int) (x9_2:Int) (x10_2:List Int),v9=.int .i64 x9_2∧Aside0 (Azm.l1 kq x8_2 x9_2 x10_2=some (r1,r2))∧Aside0 (kq≤k1)∧Aside0 (Kd.R (Kd.int .i64) 3 w' w.heap.size (fun k_=>some k_≠(v327:Value).ownBlock) v324 x8_2)∧Aside0 (Kd.R (Kd.int .i64) 3 w' w.heap.size (fun k_=>some k_≠(v324:Value).ownBlock) v327 x10_2)∧Aside0 (Below w.heap.size w w'))
        case atStart=>exact⟨(x8_1),(x9_1),(x10_1),sD,H',⟨Nat.le_refl _⟩,⟨rX HO_8.out⟩,⟨rX HO_10.out⟩,⟨pB⟩⟩
        case round =>
         clear H';try clear c1
         try clear p1
         try clear q1
         try clear hx1
         try clear p2
         try clear q2
         try clear hx2
         try clear hf2
         try clear p3
         try clear q3
         try clear hx3
         try clear c4
         try clear c4b0
         try clear c4b1
         try clear c5
         try clear c5b0
         try clear c5b1
         try clear c6
         try clear c6b0
         try clear c6b1
         try clear p6
         try clear c7
         try clear c7b0
         try clear c7b1
         try clear c12
         try clear c14
         try clear c14b0
         try clear c15
         try clear c15b0
         try clear c17
         try clear c17b0
         try clear p18
         try clear q18
         try clear hx18
         try clear hf18
         try clear c19
         try clear c19b0
         try clear p20
         try clear q20
         try clear hx20
         try clear hf20
         try clear hx18_0
         try clear hx20_0
         try clear hx329_0
         try clear hx334_0
         try clear p18
         try clear p2
         try clear p20
         try clear p329
         try clear p334
         try clear q18
         try clear q20
         try clear q329
         try clear q334
         obtain⟨x8_2,x9_2,x10_2,rfl,HA,HK2,HO_8,HO_10,HB⟩:=hrel;cases gk with
         | zero=>exact absurd HA.out (by simp [Azm.l1])
         | succ k2 =>
          have H:=HA.out;clear HA;simp only[Azm.l1] at H;by_cases c25:x9_2 > 0
          ·rw[if_pos c25] at H;have c25b0:decide (0 < x9_2)=true:=dE c25;clear c25;have H':=aM H;clear H;go_wp2
           repeat(go_quiet (fail);try go_wp2)
           go_loopg [12,13] k2 (fun kq v12 v13 w'=>∃ (x12_3:Int) (x13_3:Int),v12=.int .i64 x12_3∧v13=.int .i64 x13_3∧Aside0 (Azm.l2 kq x8_2 x9_2 x10_2 x12_3 x13_3=some (r1,r2))∧Aside0 (kq≤k2)∧Aside0 (Kd.R (Kd.int .i64) 3 w' w.heap.size (fun k_=>some k_≠(v327:Value).ownBlock) v324 x8_2)∧Aside0 (Kd.R (Kd.int .i64) 3 w' w.heap.size (fun k_=>some k_≠(v324:Value).ownBlock) v327 x10_2)∧Aside0 (Below w.heap.size w w'))
           case atStart=>exact⟨(0),(1),sD,sD,H',⟨Nat.le_refl _⟩,⟨rX HO_8.out⟩,⟨rX HO_10.out⟩,⟨pB⟩⟩
           case round =>
            clear H';try clear c1
            try clear p1
            try clear q1
            try clear hx1
            try clear c2
            try clear p2
            try clear q2
            try clear hx2
            try clear hf2
            try clear p3
            try clear q3
            try clear hx3
            try clear c4
            try clear c4b0
            try clear c4b1
            try clear c5
            try clear c5b0
            try clear c5b1
            try clear c6
            try clear c6b0
            try clear c6b1
            try clear p6
            try clear c7
            try clear c7b0
            try clear c7b1
            try clear c12
            try clear c14
            try clear c14b0
            try clear c15
            try clear c15b0
            try clear c17
            try clear c17b0
            try clear p18
            try clear q18
            try clear hx18
            try clear hf18
            try clear c19
            try clear c19b0
            try clear p20
            try clear q20
            try clear hx20
            try clear hf20
            try clear c25
            try clear c25b0
            try clear hx18_0
            try clear hx20_0
            try clear hx329_0
            try clear hx334_0
            try clear p1
            try clear p18
            try clear p2
            try clear p20
            try clear p3
            try clear p329
            try clear p334
            try clear p6
            try clear q1
            try clear q18
            try clear q2
            try clear q20
            try clear q3
            try clear q329
            try clear q334
            obtain⟨x12_3,x13_3,rfl,rfl,HA,HK3,HO_8,HO_10,HB⟩:=hrel;cases gk with
            | zero=>exact absurd HA.out (by simp [Azm.l2])
            | succ k3 =>
             have H:=HA.out;clear HA;simp only[Azm.l2] at H;by_cases c26:x13_3 < (x10_2.length:Int)
             ·rw[if_pos c26] at H;have c26b0:decide (x13_3 < (x10_2.length:Int))=true:=dE c26;clear c26;by_cases c27:0≤x13_3
              ·rw[if_pos c27] at H;have c27b0:decide (0≤x13_3)=true:=dE c27;clear c27;by_cases c28:0≤x12_3
               ·rw[if_pos c28] at H;have c28b0:decide (0≤x12_3)=true:=dE c28;clear c28;by_cases c29:x12_3 < (x10_2.length:Int)
                ·rw[if_pos c29] at H;have c29b0:decide (x12_3 < (x10_2.length:Int))=true:=dE c29;clear c29;by_cases c30:(rd x10_2 x13_3) > (rd x10_2 x12_3)
                 ·rw[if_pos c30] at H;have c30b0:decide ((rd x10_2 x12_3) < (rd x10_2 x13_3))=true:=dE c30;clear c30;have H':=aM H;clear H;obtain⟨Ao31,co31,eo31⟩:=Kd.R_slice HO_10.out;subst eo31;have p335:0≤(x13_3:Int):=oE aS
                  have q335:x13_3 < (x10_2.length:Int):=oE aS
                  obtain⟨ad335,e335,hx335_0⟩:=Kd.at_int (Kd.R_reads' HO_10.out).2.2 x13_3 p335 q335;cases e335
                  replace p335:=eq_true p335;replace q335:=eq_true q335;have p336:0≤(x12_3:Int):=oE aS
                  have q336:x12_3 < (x10_2.length:Int):=oE aS
                  obtain⟨ad336,e336,hx336_0⟩:=Kd.at_int (Kd.R_reads' HO_10.out).2.2 x12_3 p336 q336;obtain rfl:ad335=ad336:=(by injection e336)
                  replace p336:=eq_true p336;replace q336:=eq_true q336;go_wp2
                  repeat(go_quiet (fail);try go_wp2)
                  go_roundg k3
                  case measure=>have:=HK1.out;have:=HK2.out;have:=HK3.out;omega
                  case rel=>exact⟨(x13_3),(wrap64 (x13_3+1)),sD,sD,H',⟨by have:=HK1.out;have:=HK2.out;have:=HK3.out;omega⟩,⟨rX HO_8.out⟩,⟨rX HO_10.out⟩,⟨pB⟩⟩
                 ·rw[if_neg c30] at H;have c30b0:decide ((rd x10_2 x12_3) < (rd x10_2 x13_3))=false:=decide_eq_false c30;clear c30;have H':=aM H;clear H;obtain⟨Ao32,co32,eo32⟩:=Kd.R_slice HO_10.out;subst eo32;have p335:0≤(x13_3:Int):=oE aS
                  have q335:x13_3 < (x10_2.length:Int):=oE aS
                  obtain⟨ad335,e335,hx335_0⟩:=Kd.at_int (Kd.R_reads' HO_10.out).2.2 x13_3 p335 q335;cases e335
                  replace p335:=eq_true p335;replace q335:=eq_true q335;have p336:0≤(x12_3:Int):=oE aS
                  have q336:x12_3 < (x10_2.length:Int):=oE aS
                  obtain⟨ad336,e336,hx336_0⟩:=Kd.at_int (Kd.R_reads' HO_10.out).2.2 x12_3 p336 q336;obtain rfl:ad335=ad336:=(by injection e336)
                  replace p336:=eq_true p336;replace q336:=eq_true q336;go_wp2
                  repeat(go_quiet (fail);try go_wp2)
                  go_roundg k3
                  case measure=>have:=HK1.out;have:=HK2.out;have:=HK3.out;omega
                  case rel=>exact⟨(x12_3),(wrap64 (x13_3+1)),sD,sD,H',⟨by have:=HK1.out;have:=HK2.out;have:=HK3.out;omega⟩,⟨rX HO_8.out⟩,⟨rX HO_10.out⟩,⟨pB⟩⟩
                ·rw[if_neg c29] at H;exact absurd H (by simp)
               ·rw[if_neg c28] at H;exact absurd H (by simp)
              ·rw[if_neg c27] at H;exact absurd H (by simp)
             ·rw[if_neg c26] at H;have c26b0:decide (x13_3 < (x10_2.length:Int))=false:=decide_eq_false c26;clear c26;by_cases c33:0≤x12_3
              ·rw[if_pos c33] at H;have c33b0:decide (0≤x12_3)=true:=dE c33;clear c33;by_cases c34:x12_3 < (x8_2.length:Int)
               ·rw[if_pos c34] at H;have c34b0:decide (x12_3 < (x8_2.length:Int))=true:=dE c34;clear c34;obtain⟨y338,hy338⟩:∃ y_:List Int,y_=(x8_2.set (x12_3:Int).toNat (wrap64 ((rd x8_2 x12_3)+1))):=⟨_,rfl⟩;replace H:(if x12_3 < (x10_2.length:Int) then(Azm.l1 k3 y338 (wrap64 (x9_2 - 1)) (x10_2.set (x12_3:Int).toNat (-1))) else(none))=some (r1,r2):=by first|(rw[hy338];with_reducible exact H)|(have H2_:=(Option.bind_some _ _).symm.trans H;rw[hy338];with_reducible exact H2_)|(have H2_:=(Option.bind_some _ _).symm.trans H;with_reducible exact H2_)|with_reducible exact H|(rw[hy338];exact H)|exact H
                have Ny338:=aM hy338;clear hy338;by_cases c36:x12_3 < (x10_2.length:Int)
                ·rw[if_pos c36] at H;have c36b0:decide (x12_3 < (x10_2.length:Int))=true:=dE c36;clear c36;obtain⟨y339,hy339⟩:∃ y_:List Int,y_=(x10_2.set (x12_3:Int).toNat (-1)):=⟨_,rfl⟩;replace H:(Azm.l1 k3 y338 (wrap64 (x9_2 - 1)) y339)=some (r1,r2):=by first|(rw[hy339];with_reducible exact H)|(have H2_:=(Option.bind_some _ _).symm.trans H;rw[hy339];with_reducible exact H2_)|(have H2_:=(Option.bind_some _ _).symm.trans H;with_reducible exact H2_)|with_reducible exact H|(rw[hy339];exact H)|exact H
                 have Ny339:=aM hy339;clear hy339;have H':=aM H;clear H;obtain⟨Ao38,co38,eo38⟩:=Kd.R_slice HO_10.out;subst eo38;obtain⟨Ao39,co39,eo39⟩:=Kd.R_slice HO_8.out;subst eo39;have p337:0≤(x12_3:Int):=oE aS
                 have q337:x12_3 < (x8_2.length:Int):=oE aS
                 obtain⟨ad337,e337,hx337_0⟩:=Kd.at_int (Kd.R_reads' HO_8.out).2.2 x12_3 p337 q337;cases e337
                 replace p337:=eq_true p337;replace q337:=eq_true q337;have p35:0≤(x12_3:Int):=oE aS
                 have q35:(x12_3:Int) < ((x8_2.length:Int):Int):=oE aS
                 obtain⟨go35,co35,eo35,gb35,gl35,cl35,HG35⟩:=Kd.R_form HO_8.out (by omega)
                 (first|cases eo35|(injection eo35 with ea_ en_ ec_;(first|subst ea_|(injection ea_ with ea_;subst ea_));subst ec_;clear en_))
                 have GB35:=aM gb35;have GG35:=aM HG35;clear gb35 gl35 HG35;(first|simp only[add_plain] at hx337_0|skip)
                 obtain⟨hx35_0,hf35_0⟩:=Kd.R_celln 0 HO_8.out (x12_3:Int) p35 q35;replace p35:=eq_true p35;replace q35:=eq_true q35;have HP40:=Kd.R_putg HO_8.out (x12_3:Int) (wrap64 ((rd x8_2 x12_3)+1));have fl_:True:=trivial;repeat((first|clear fl_|go_quiet (first|((with_reducible refine gate_store (t:=3) (p:=88) rfl ?_);(try(rw[drewN_self wr];generalize hq_:World.drewN wr _=wr;have n0_:=aM (Kd.R_at hq_ HO_8.out);have n1_:=aM (Kd.R_at hq_ HO_10.out);have n2_:=aM (below_at hq_ HB.out);clear hq_ HO_8 HO_10 HB;have HO_8:=n0_;have HO_10:=n1_;have HB:=n2_;clear n0_ n1_ n2_;(try(obtain⟨hx35_0,hf35_0⟩:=Kd.R_celln 0 HO_8.out (x12_3:Int) (of_eq_true p35) (of_eq_true q35)));(try(have HP40:=Kd.R_putg HO_8.out (x12_3:Int) (wrap64 ((rd x8_2 x12_3)+1))))));refine store_event (t:=3) (p:=88) (v:=?vo_w41) (w1:=(wr.setCell ⟨go35,(x12_3:Int).toNat,none⟩ (.int .i64 (wrap64 ((rd x8_2 x12_3)+1))))) ?hg ?ho ?hn ?hr ?_;(case ho=>rfl);(case hg=>rfl);(case hn=>rfl);(case hr=>first|(go_simp;done)|(go_simp;rfl));intro w41 hw;have hg:wr.grownBy w41 (some go35):=(by rw[hw];exact HP40.2);have hp_:Kd.R (Kd.int .i64) 3 w41 w.heap.size (fun k_=>some k_≠(.slice Ao38 x10_2.length co38:Value).ownBlock) (.slice (some ⟨go35,0,none⟩) x8_2.length co39) y338:=(by rw[hw,Ny338.out];exact HP40.1);clear HP40;replace HO_8:=aM (hp_);replace HO_10:=aM (Kd.R_after (v:=(.slice (some ⟨go35,0,none⟩) x8_2.length co39)) (v1:=(.slice (some ⟨go35,0,none⟩) x8_2.length co39)) (ok:=(fun _=>True)) (rX (Kd.R_mono HO_10.out (fun _ hk=>⟨trivial,hk⟩))) hg (.inl rfl));replace HB:=aM ((by rw[hw];exact below_set (HB.out) GB35.out:Below w.heap.size w w41));clear hg hw hp_;have p37:0≤(x12_3:Int):=oE aS;have q37:(x12_3:Int) < ((x10_2.length:Int):Int):=oE aS;obtain⟨go37,co37,eo37,gb37,gl37,cl37,HG37⟩:=Kd.R_form HO_10.out (by omega);(first|cases eo37|(injection eo37 with ea_ en_ ec_;(first|subst ea_|(injection ea_ with ea_;subst ea_));subst ec_;clear en_));have GB37:=aM gb37;have GG37:=aM HG37;clear gb37 gl37 HG37;obtain⟨hx37_0,hf37_0⟩:=Kd.R_celln 0 HO_10.out (x12_3:Int) p37 q37;replace p37:=eq_true p37;replace q37:=eq_true q37;have n_:=aM (Kd.R_mono (ok':=(fun k_=>some k_≠(.slice (some ⟨go35,0,none⟩) x8_2.length co39:Value).ownBlock)) HO_10.out (fun k_ hk=>hk.2));clear HO_10;have HO_10:=n_;clear n_;obtain⟨hy42_,hz42_⟩:=Kd.R_celln 0 HO_10.out (x12_3:Int) (oE aS) (oE aS);have HP42:=Kd.R_putg HO_10.out (x12_3:Int) (-1))|((with_reducible refine gate_store (t:=3) (p:=91) rfl ?_);(try(rw[drewN_self w41];generalize hq_:World.drewN w41 _=w41;have n0_:=aM (Kd.R_at hq_ HO_8.out);have n1_:=aM (Kd.R_at hq_ HO_10.out);have n2_:=aM (below_at hq_ HB.out);clear hq_ HO_8 HO_10 HB;have HO_8:=n0_;have HO_10:=n1_;have HB:=n2_;clear n0_ n1_ n2_;(try(have n_:=aM (Kd.R_mono (ok':=(fun k_=>some k_≠(.slice (some ⟨go35,0,none⟩) x8_2.length co39:Value).ownBlock)) HO_10.out (fun k_ hk=>hk.2));clear HO_10;have HO_10:=n_;clear n_));(try(obtain⟨hy42_,hz42_⟩:=Kd.R_celln 0 HO_10.out (x12_3:Int) (oE aS) (oE aS)));(try(have HP42:=Kd.R_putg HO_10.out (x12_3:Int) (-1)))));refine store_event (t:=3) (p:=91) (v:=?vo_w43) (w1:=(w41.setCell ⟨go37,(x12_3:Int).toNat,none⟩ (.int .i64 (-1)))) ?hg ?ho ?hn ?hr ?_;(case ho=>rfl);(case hg=>rfl);(case hn=>rfl);(case hr=>first|(go_simp;done)|(go_simp;rfl));intro w43 hw;have hg:w41.grownBy w43 (some go37):=(by rw[hw];exact HP42.2);have hp_:Kd.R (Kd.int .i64) 3 w43 w.heap.size (fun k_=>some k_≠(.slice (some ⟨go35,0,none⟩) x8_2.length co39:Value).ownBlock) (.slice (some ⟨go37,0,none⟩) x10_2.length co38) y339:=(by rw[hw,Ny339.out];exact HP42.1);clear HP42;replace HO_8:=aM (Kd.R_after (v:=(.slice (some ⟨go37,0,none⟩) x10_2.length co38)) (v1:=(.slice (some ⟨go37,0,none⟩) x10_2.length co38)) (ok:=(fun _=>True)) (rX (Kd.R_mono HO_8.out (fun _ hk=>⟨trivial,hk⟩))) hg (.inl rfl));replace HO_10:=aM (hp_);replace HB:=aM ((by rw[hw];exact below_set (HB.out) GB37.out:Below w.heap.size w w43));clear hg hw hp_)));go_wp2_with (first|((with_reducible refine gate_store (t:=3) (p:=88) rfl ?_);(try(rw[drewN_self wr];generalize hq_:World.drewN wr _=wr;have n0_:=aM (Kd.R_at hq_ HO_8.out);have n1_:=aM (Kd.R_at hq_ HO_10.out);have n2_:=aM (below_at hq_ HB.out);clear hq_ HO_8 HO_10 HB;have HO_8:=n0_;have HO_10:=n1_;have HB:=n2_;clear n0_ n1_ n2_;(try(obtain⟨hx35_0,hf35_0⟩:=Kd.R_celln 0 HO_8.out (x12_3:Int) (of_eq_true p35) (of_eq_true q35)));(try(have HP40:=Kd.R_putg HO_8.out (x12_3:Int) (wrap64 ((rd x8_2 x12_3)+1))))));refine store_event (t:=3) (p:=88) (v:=?vo_w41) (w1:=(wr.setCell ⟨go35,(x12_3:Int).toNat,none⟩ (.int .i64 (wrap64 ((rd x8_2 x12_3)+1))))) ?hg ?ho ?hn ?hr ?_;(case ho=>rfl);(case hg=>rfl);(case hn=>rfl);(case hr=>first|(go_simp;done)|(go_simp;rfl));intro w41 hw;have hg:wr.grownBy w41 (some go35):=(by rw[hw];exact HP40.2);have hp_:Kd.R (Kd.int .i64) 3 w41 w.heap.size (fun k_=>some k_≠(.slice Ao38 x10_2.length co38:Value).ownBlock) (.slice (some ⟨go35,0,none⟩) x8_2.length co39) y338:=(by rw[hw,Ny338.out];exact HP40.1);clear HP40;replace HO_8:=aM (hp_);replace HO_10:=aM (Kd.R_after (v:=(.slice (some ⟨go35,0,none⟩) x8_2.length co39)) (v1:=(.slice (some ⟨go35,0,none⟩) x8_2.length co39)) (ok:=(fun _=>True)) (rX (Kd.R_mono HO_10.out (fun _ hk=>⟨trivial,hk⟩))) hg (.inl rfl));replace HB:=aM ((by rw[hw];exact below_set (HB.out) GB35.out:Below w.heap.size w w41));clear hg hw hp_;have p37:0≤(x12_3:Int):=oE aS;have q37:(x12_3:Int) < ((x10_2.length:Int):Int):=oE aS;obtain⟨go37,co37,eo37,gb37,gl37,cl37,HG37⟩:=Kd.R_form HO_10.out (by omega);(first|cases eo37|(injection eo37 with ea_ en_ ec_;(first|subst ea_|(injection ea_ with ea_;subst ea_));subst ec_;clear en_));have GB37:=aM gb37;have GG37:=aM HG37;clear gb37 gl37 HG37;obtain⟨hx37_0,hf37_0⟩:=Kd.R_celln 0 HO_10.out (x12_3:Int) p37 q37;replace p37:=eq_true p37;replace q37:=eq_true q37;have n_:=aM (Kd.R_mono (ok':=(fun k_=>some k_≠(.slice (some ⟨go35,0,none⟩) x8_2.length co39:Value).ownBlock)) HO_10.out (fun k_ hk=>hk.2));clear HO_10;have HO_10:=n_;clear n_;obtain⟨hy42_,hz42_⟩:=Kd.R_celln 0 HO_10.out (x12_3:Int) (oE aS) (oE aS);have HP42:=Kd.R_putg HO_10.out (x12_3:Int) (-1))|((with_reducible refine gate_store (t:=3) (p:=91) rfl ?_);(try(rw[drewN_self w41];generalize hq_:World.drewN w41 _=w41;have n0_:=aM (Kd.R_at hq_ HO_8.out);have n1_:=aM (Kd.R_at hq_ HO_10.out);have n2_:=aM (below_at hq_ HB.out);clear hq_ HO_8 HO_10 HB;have HO_8:=n0_;have HO_10:=n1_;have HB:=n2_;clear n0_ n1_ n2_;(try(have n_:=aM (Kd.R_mono (ok':=(fun k_=>some k_≠(.slice (some ⟨go35,0,none⟩) x8_2.length co39:Value).ownBlock)) HO_10.out (fun k_ hk=>hk.2));clear HO_10;have HO_10:=n_;clear n_));(try(obtain⟨hy42_,hz42_⟩:=Kd.R_celln 0 HO_10.out (x12_3:Int) (oE aS) (oE aS)));(try(have HP42:=Kd.R_putg HO_10.out (x12_3:Int) (-1)))));refine store_event (t:=3) (p:=91) (v:=?vo_w43) (w1:=(w41.setCell ⟨go37,(x12_3:Int).toNat,none⟩ (.int .i64 (-1)))) ?hg ?ho ?hn ?hr ?_;(case ho=>rfl);(case hg=>rfl);(case hn=>rfl);(case hr=>first|(go_simp;done)|(go_simp;rfl));intro w43 hw;have hg:w41.grownBy w43 (some go37):=(by rw[hw];exact HP42.2);have hp_:Kd.R (Kd.int .i64) 3 w43 w.heap.size (fun k_=>some k_≠(.slice (some ⟨go35,0,none⟩) x8_2.length co39:Value).ownBlock) (.slice (some ⟨go37,0,none⟩) x10_2.length co38) y339:=(by rw[hw,Ny339.out];exact HP42.1);clear HP42;replace HO_8:=aM (Kd.R_after (v:=(.slice (some ⟨go37,0,none⟩) x10_2.length co38)) (v1:=(.slice (some ⟨go37,0,none⟩) x10_2.length co38)) (ok:=(fun _=>True)) (rX (Kd.R_mono HO_8.out (fun _ hk=>⟨trivial,hk⟩))) hg (.inl rfl));replace HO_10:=aM (hp_);replace HB:=aM ((by rw[hw];exact below_set (HB.out) GB37.out:Below w.heap.size w w43));clear hg hw hp_)))
                 go_roundg k3
                 case measure=>have:=HK1.out;have:=HK2.out;have:=HK3.out;omega
                 case rel=>exact⟨(y338),(wrap64 (x9_2 - 1)),(y339),sD,H',⟨by have:=HK1.out;have:=HK2.out;have:=HK3.out;omega⟩,⟨by(with_reducible repeat(first|apply Kd.R_alloc|apply Kd.R_drewN|apply Kd.R_drew));exact Kd.R_mono HO_8.out (fun _ hk=>hk.2)⟩,⟨rX HO_10.out⟩,⟨pB⟩⟩
                ·rw[if_neg c36] at H;exact absurd H (by simp)
               ·rw[if_neg c34] at H;exact absurd H (by simp)
              ·rw[if_neg c33] at H;exact absurd H (by simp)
          ·rw[if_neg c25] at H;have c25b0:decide (0 < x9_2)=false:=decide_eq_false c25;clear c25;simp only[Option.some.injEq,Prod.mk.injEq] at H;obtain⟨rfl,rfl⟩:=H;go_wp2
           repeat(go_quiet (fail);try go_wp2)
           go_ret2
           exact⟨_,eW,by(with_reducible repeat(first|apply Kd.R_alloc|apply Kd.R_drewN|apply Kd.R_drew));exact Kd.R_mono HO_8.out (fun _ hk=>trivial),pB⟩
   ·rw[if_neg c6] at H;exact absurd H (by simp)
  ·rw[if_neg c5] at H;exact absurd H (by simp)
 ·rw[if_neg c4] at H;have c4b0:(t322 == 0)=false:=beq_eq_false_iff_ne.mpr c4;have c4b1:(t322 != 0)=true:=bne_iff_ne.mpr c4;simp only[Option.some.injEq,Prod.mk.injEq] at H;obtain⟨rfl,rfl⟩:=H;go_enter Try.func12,Try.ntmps12
  have fl_:True:=trivial;repeat((first|clear fl_|go_quiet (first|(go_at_call 27;(with_reducible refine(Azx.calls k a0 _ _ l1 t321 t322 _ ?side1 ?side2 A3.out).mono ?_);(case side1=>exact cX HR1.out);(case side2=>exact HC1.out);rintro e w' ⟨rfl,⟨nd,rfl⟩⟩;(try first|exact⟨rfl,_,World.drewN_drewN _ _ _⟩|exact⟨rfl,_,Eq.trans (World.drewN_drewN _ _ _) (congrArg (World.drewN _) (Nat.add_assoc _ _ _))⟩))));go_wp2_with (first|(go_at_call 27;(with_reducible refine(Azx.calls k a0 _ _ l1 t321 t322 _ ?side1 ?side2 A3.out).mono ?_);(case side1=>exact cX HR1.out);(case side2=>exact HC1.out);rintro e w' ⟨rfl,⟨nd,rfl⟩⟩;(try first|exact⟨rfl,_,World.drewN_drewN _ _ _⟩|exact⟨rfl,_,Eq.trans (World.drewN_drewN _ _ _) (congrArg (World.drewN _) (Nat.add_assoc _ _ _))⟩))))
  go_ret2
  exact⟨_,eW,by first|exact Kd.R_nil _ _ _ _ _|exact Kd.N_nil _ _ _ _ _|exact Kd.V_nil _ _ _ _ _|exact Kd.Q_nil _ _ _ _ _|exact Kd.S_nil _ _ _ _ _,pB⟩

end Go.Proofs.Ytloihkecfommbaa.Print
