import Derived.Test.YtpnfdhhfdidlmaaPrint0
import Derived.Test.YtpnfdhhfdidlmaaPrint17
import Derived.Test.YtpnfdhhfdidlmaaPrint21
namespace Go.Proofs.Ytpnfdhhfdidlmaa.Print
open Go.RowKit Go.Proofs.YtpnfdhhfdidlmaaW.PrintWords Go.Proofs.YtpnfdhhfdidlmaaW.PrintLast Go.Proofs.YtpnfdhhfdidlmaaW.PrintMore
attribute [local go_sem] max2_int min2_int max_two min_two max_three min_three max_four min_four
set_option linter.unusedVariables false
set_option maxRecDepth 100000
set_option maxHeartbeats 8000000
set_option linter.unusedSimpArgs false

mutual
def Azm.l0:Nat→Int→List Int→Int→List Int→List Int→Int→Int→Option (List Int)
 | 0,_,_,_,_,_,_,_=>none
 | k+1,x0,x1,x5,x6,x7,x8,x9=>if x9 < (x1.length:Int) then(if 0≤x9 then((Azv.f k x0 (rd x1 x9) x5 0).bind fun bt421=>(if x9 < (x6.length:Int) then(if x9 < (x7.length:Int) then(Azm.l0 k x0 x1 x5 (x6.set (x9:Int).toNat bt421.1) (x7.set (x9:Int).toNat (wrap64 ((wrap64 (x0 * (rd x1 x9))) - (wrap64 (bt421.1 * x5))))) (wrap64 (x8 - bt421.1)) (wrap64 (x9+1))) else(none)) else(none))) else(none)) else(Azm.l1 k x6 x7 x8)
def Azm.l1:Nat→List Int→List Int→Int→Option (List Int)
 | 0,_,_,_=>none
 | k+1,x6,x7,x8=>if x8 > 0 then(Azm.l2 k x6 x7 x8 0 1) else(some x6)
def Azm.l2:Nat→List Int→List Int→Int→Int→Int→Option (List Int)
 | 0,_,_,_,_,_=>none
 | k+1,x6,x7,x8,x12,x13=>if x13 < (x7.length:Int) then(if 0≤x13 then(if 0≤x12 then(if x12 < (x7.length:Int) then(if(rd x7 x13) > (rd x7 x12) then(Azm.l2 k x6 x7 x8 x13 (wrap64 (x13+1))) else(Azm.l2 k x6 x7 x8 x12 (wrap64 (x13+1)))) else(none)) else(none)) else(none)) else(if 0≤x12 then(if x12 < (x6.length:Int) then(if x12 < (x7.length:Int) then(Azm.l1 k (x6.set (x12:Int).toNat (wrap64 ((rd x6 x12)+1))) (x7.set (x12:Int).toNat (-1)) (wrap64 (x8 - 1))) else(none)) else(none)) else(none))
end
def Azm.f (k:Nat) (a0:Int) (l1:List Int):Option (List Int):=(Azp.f k l1).bind fun t413=>(if 0≤(l1.length:Int) then(if((l1.length:Int):Int).toNat≤35184372088832 then(Azm.l0 k a0 l1 t413 (List.replicate ((l1.length:Int):Int).toNat 0) (List.replicate ((l1.length:Int):Int).toNat 0) a0 0) else(none)) else(none))
theorem Azm.mono_l:∀ k,(∀ y0 y1 y2 y3 y4 y5 y6,LeO (Azm.l0 k y0 y1 y2 y3 y4 y5 y6) (Azm.l0 (k+1) y0 y1 y2 y3 y4 y5 y6))∧(∀ y0 y1 y2,LeO (Azm.l1 k y0 y1 y2) (Azm.l1 (k+1) y0 y1 y2))∧(∀ y0 y1 y2 y3 y4,LeO (Azm.l2 k y0 y1 y2 y3 y4) (Azm.l2 (k+1) y0 y1 y2 y3 y4))
 | 0=>⟨fun _ _ _ _ _ _ _ r h=>by simp [Azm.l0] at h,fun _ _ _ r h=>by simp [Azm.l1] at h,fun _ _ _ _ _ r h=>by simp [Azm.l2] at h⟩
 | k+1=>by
  obtain⟨ih0,ih1,ih2⟩:=Azm.mono_l k;refine⟨?_,?_,?_⟩
  ·intro y0 y1 y2 y3 y4 y5 y6;unfold Azm.l0;with_reducible repeat' first|exact ih0 _ _ _ _ _ _ _|exact ih1 _ _ _|exact ih2 _ _ _ _ _|exact Azv.mono _ _ _ _ _|exact Azp.mono _ _|exact LeO.refl _|exact LeO.none _|refine LeO.ite ?_ ?_|refine LeO.bind ?_ (fun _=>?_)
  ·intro y0 y1 y2;unfold Azm.l1;with_reducible repeat' first|exact ih0 _ _ _ _ _ _ _|exact ih1 _ _ _|exact ih2 _ _ _ _ _|exact Azv.mono _ _ _ _ _|exact Azp.mono _ _|exact LeO.refl _|exact LeO.none _|refine LeO.ite ?_ ?_|refine LeO.bind ?_ (fun _=>?_)
  ·intro y0 y1 y2 y3 y4;unfold Azm.l2;with_reducible repeat' first|exact ih0 _ _ _ _ _ _ _|exact ih1 _ _ _|exact ih2 _ _ _ _ _|exact Azv.mono _ _ _ _ _|exact Azp.mono _ _|exact LeO.refl _|exact LeO.none _|refine LeO.ite ?_ ?_|refine LeO.bind ?_ (fun _=>?_)
theorem Azm.mono:∀ a0 a1 k,LeO (Azm.f k a0 a1) (Azm.f (k+1) a0 a1):=by
 intro a0 a1 k;obtain⟨ih0,ih1,ih2⟩:=Azm.mono_l k;unfold Azm.f;with_reducible repeat' first|exact ih0 _ _ _ _ _ _ _|exact ih1 _ _ _|exact ih2 _ _ _ _ _|exact Azv.mono _ _ _ _ _|exact Azp.mono _ _|exact LeO.refl _|exact LeO.none _|refine LeO.ite ?_ ?_|refine LeO.bind ?_ (fun _=>?_)
theorem Azm.calls (k:Nat) (a0:Int) (A1:Option Addr) (c1:Nat) (l1:List Int) (r:List Int) (w:World) (hr1:Kd.C (Kd.int .i64) w A1 l1.length l1) (hc1:l1.length≤c1) (h:Azm.f k a0 l1=some r) :
  Calls Try.prog 34 #[.int .i64 a0,.slice A1 l1.length c1] w fun e w'=>∃ v0_:Value,e=.returned (v0_)∧Kd.R (Kd.int .i64) 3 w' w.heap.size (fun _=>True) v0_ r∧Below w.heap.size w w':=by
 have HR1:=aM hr1;have HC1:=aM hc1;clear hr1 hc1;have HB:=aM (Below.refl w.heap.size w);have H:((Azp.f k l1).bind fun t413=>(if 0≤(l1.length:Int) then(if((l1.length:Int):Int).toNat≤35184372088832 then(Azm.l0 k a0 l1 t413 (List.replicate ((l1.length:Int):Int).toNat 0) (List.replicate ((l1.length:Int):Int).toNat 0) a0 0) else(none)) else(none)))=some r:=h
 clear h;replace H:=bS H;obtain⟨t413,A30,H⟩:=H;(try dsimp only at H);have A3:=aM A30;clear A30;by_cases c4:0≤(l1.length:Int)
 ·rw[if_pos c4] at H;have c4b0:=eq_true c4;have c4b1:decide (0≤(l1.length:Int))=true:=dE c4;clear c4;by_cases c5:((l1.length:Int):Int).toNat≤35184372088832
  ·rw[if_pos c5] at H;have c5b0:=eq_true c5;have c5b1:decide (((l1.length:Int):Int).toNat≤35184372088832)=true:=dE c5;clear c5;obtain⟨y414,hy414⟩:∃ y_:List Int,y_=(List.replicate ((l1.length:Int):Int).toNat 0):=⟨_,rfl⟩;replace H:(Azm.l0 k a0 l1 t413 y414 (List.replicate ((l1.length:Int):Int).toNat 0) a0 0)=some r:=by first|(rw[hy414];with_reducible exact H)|(have H2_:=(Option.bind_some _ _).symm.trans H;rw[hy414];with_reducible exact H2_)|(have H2_:=(Option.bind_some _ _).symm.trans H;with_reducible exact H2_)|with_reducible exact H|(rw[hy414];exact H)|exact H
   have Ny414:=aM hy414;clear hy414;obtain⟨y417,hy417⟩:∃ y_:List Int,y_=(List.replicate ((l1.length:Int):Int).toNat 0):=⟨_,rfl⟩;replace H:(Azm.l0 k a0 l1 t413 y414 y417 a0 0)=some r:=by first|(rw[hy417];with_reducible exact H)|(have H2_:=(Option.bind_some _ _).symm.trans H;rw[hy417];with_reducible exact H2_)|(have H2_:=(Option.bind_some _ _).symm.trans H;with_reducible exact H2_)|with_reducible exact H|(rw[hy417];exact H)|exact H
   have Ny417:=aM hy417;clear hy417;have H':=aM H;clear H;go_enter Try.func34,Try.ntmps34
   have fl_:True:=trivial;repeat((first|clear fl_|go_quiet (first|(go_at_call 21;(with_reducible refine(Azp.calls k _ _ l1 t413 _ ?side1 ?side2 A3.out).mono ?_);(case side1=>exact cX HR1.out);(case side2=>exact HC1.out);rintro e w' ⟨rfl,⟨nd,rfl⟩⟩;(try first|exact⟨rfl,_,World.drewN_drewN _ _ _⟩|exact⟨rfl,_,Eq.trans (World.drewN_drewN _ _ _) (congrArg (World.drewN _) (Nat.add_assoc _ _ _))⟩))|((with_reducible refine gate_dst (N:=18) rfl ?_);refine Kd.R_make (Kd.int .i64) _ 3 rfl (N:=18) rfl 29 _ _ rfl (l1.length:Int) rfl rfl Try.underlying29 (.int .i64 0) 8 info3 rfl (by decide) (by omega) 0 (ok:=fun _=>True) (okp:=fun _=>True) rfl (fun _ hk=>hk) trivial (oE aS) (Nat.le_trans (Nat.mul_le_mul_right _ (oE aS:(l1.length:Int).toNat≤35184372088832)) (by omega)) (Below.refl _ _) (Nat.le_refl _) ?_;intro v415 w6 ho7 hb hg_ hnew_;clear hg_ hnew_;(first|rw[← Ny414.out] at ho7|(simp only[Int.reduceToNat] at ho7;rw[← Ny414.out] at ho7));have HO416:=aM (Kd.R_lower ho7 (below_size pB));replace HB:=aM (below_step pB hb);clear hb ho7)|((with_reducible refine gate_dst (N:=21) rfl ?_);refine Kd.R_make (Kd.int .i64) _ 3 rfl (N:=21) rfl 29 _ _ rfl (l1.length:Int) rfl rfl Try.underlying29 (.int .i64 0) 8 info3 rfl (by decide) (by omega) 0 (ok:=fun _=>True) (okp:=fun _=>True) rfl (fun _ hk=>hk) trivial (oE aS) (Nat.le_trans (Nat.mul_le_mul_right _ (oE aS:(l1.length:Int).toNat≤35184372088832)) (by omega)) (Below.refl _ _) (Nat.le_refl _) ?_;intro v418 w8 ho9 hb hg_ hnew_;clear hg_ hnew_;(first|rw[← Ny417.out] at ho9|(simp only[Int.reduceToNat] at ho9;rw[← Ny417.out] at ho9));have HO419:=aM (Kd.R_lower (Kd.R_new' ho9 (Kd.R_lt (rX HO416.out))) (below_size pB));replace HO416:=aM (Kd.R_elder' (rX HO416.out) (Kd.R_base ho9) hb);replace HB:=aM (below_step pB hb);clear hb ho9)));go_wp2_with (first|(go_at_call 21;(with_reducible refine(Azp.calls k _ _ l1 t413 _ ?side1 ?side2 A3.out).mono ?_);(case side1=>exact cX HR1.out);(case side2=>exact HC1.out);rintro e w' ⟨rfl,⟨nd,rfl⟩⟩;(try first|exact⟨rfl,_,World.drewN_drewN _ _ _⟩|exact⟨rfl,_,Eq.trans (World.drewN_drewN _ _ _) (congrArg (World.drewN _) (Nat.add_assoc _ _ _))⟩))|((with_reducible refine gate_dst (N:=18) rfl ?_);refine Kd.R_make (Kd.int .i64) _ 3 rfl (N:=18) rfl 29 _ _ rfl (l1.length:Int) rfl rfl Try.underlying29 (.int .i64 0) 8 info3 rfl (by decide) (by omega) 0 (ok:=fun _=>True) (okp:=fun _=>True) rfl (fun _ hk=>hk) trivial (oE aS) (Nat.le_trans (Nat.mul_le_mul_right _ (oE aS:(l1.length:Int).toNat≤35184372088832)) (by omega)) (Below.refl _ _) (Nat.le_refl _) ?_;intro v415 w6 ho7 hb hg_ hnew_;clear hg_ hnew_;(first|rw[← Ny414.out] at ho7|(simp only[Int.reduceToNat] at ho7;rw[← Ny414.out] at ho7));have HO416:=aM (Kd.R_lower ho7 (below_size pB));replace HB:=aM (below_step pB hb);clear hb ho7)|((with_reducible refine gate_dst (N:=21) rfl ?_);refine Kd.R_make (Kd.int .i64) _ 3 rfl (N:=21) rfl 29 _ _ rfl (l1.length:Int) rfl rfl Try.underlying29 (.int .i64 0) 8 info3 rfl (by decide) (by omega) 0 (ok:=fun _=>True) (okp:=fun _=>True) rfl (fun _ hk=>hk) trivial (oE aS) (Nat.le_trans (Nat.mul_le_mul_right _ (oE aS:(l1.length:Int).toNat≤35184372088832)) (by omega)) (Below.refl _ _) (Nat.le_refl _) ?_;intro v418 w8 ho9 hb hg_ hnew_;clear hg_ hnew_;(first|rw[← Ny417.out] at ho9|(simp only[Int.reduceToNat] at ho9;rw[← Ny417.out] at ho9));have HO419:=aM (Kd.R_lower (Kd.R_new' ho9 (Kd.R_lt (rX HO416.out))) (below_size pB));replace HO416:=aM (Kd.R_elder' (rX HO416.out) (Kd.R_base ho9) hb);replace HB:=aM (below_step pB hb);clear hb ho9)))
   go_loopg [8,9] k (fun kq v8 v9 w'=>∃ (x6_1:List Int) (x7_1:List Int) (x8_1:Int) (x9_1:Int),v8=.int .i64 x8_1∧v9=.int .i64 x9_1∧Aside0 (Azm.l0 kq a0 l1 t413 x6_1 x7_1 x8_1 x9_1=some r)∧Aside0 (kq≤k)∧Aside0 (Kd.R (Kd.int .i64) 3 w' w.heap.size (fun k_=>some k_≠(v418:Value).ownBlock) v415 x6_1)∧Aside0 (Kd.R (Kd.int .i64) 3 w' w.heap.size (fun k_=>some k_≠(v415:Value).ownBlock) v418 x7_1)∧Aside0 (Below w.heap.size w w'))
   case atStart=>exact⟨(y414),(y417),(a0),(0),sD,sD,H',⟨Nat.le_refl _⟩,⟨by(with_reducible repeat(first|apply Kd.R_alloc|apply Kd.R_drewN|apply Kd.R_drew));exact Kd.R_mono HO416.out (fun _ hk=>hk.2)⟩,⟨by(with_reducible repeat(first|apply Kd.R_alloc|apply Kd.R_drewN|apply Kd.R_drew));exact Kd.R_mono HO419.out (fun _ hk=>hk.2)⟩,⟨pB⟩⟩
   case round =>
    clear H';try clear c1
    try clear p2
    try clear c3
    try clear c4
    try clear c4b0
    try clear c4b1
    try clear c5
    try clear c5b0
    try clear c5b1
    obtain⟨x6_1,x7_1,x8_1,x9_1,rfl,rfl,HA,HK1,HO_6,HO_7,HB⟩:=hrel;cases gk with
    | zero=>exact absurd HA.out (by simp [Azm.l0])
    | succ k1 =>
     have H:=HA.out;clear HA;simp only[Azm.l0] at H;by_cases c10:x9_1 < (l1.length:Int)
     ·rw[if_pos c10] at H;have c10b0:decide (x9_1 < (l1.length:Int))=true:=dE c10;clear c10;by_cases c11:0≤x9_1
      ·rw[if_pos c11] at H;have c11b0:decide (0≤x9_1)=true:=dE c11;clear c11;replace H:=bS H;obtain⟨⟨t421,t422⟩,A120,H⟩:=H;(try dsimp only at H);have A12:=aM A120;clear A120;by_cases c13:x9_1 < (x6_1.length:Int)
       ·rw[if_pos c13] at H;have c13b0:decide (x9_1 < (x6_1.length:Int))=true:=dE c13;clear c13;obtain⟨y423,hy423⟩:∃ y_:List Int,y_=(x6_1.set (x9_1:Int).toNat t421):=⟨_,rfl⟩;replace H:(if x9_1 < (x7_1.length:Int) then(Azm.l0 k1 a0 l1 t413 y423 (x7_1.set (x9_1:Int).toNat (wrap64 ((wrap64 (a0 * (rd l1 x9_1))) - (wrap64 (t421 * t413))))) (wrap64 (x8_1 - t421)) (wrap64 (x9_1+1))) else(none))=some r:=by first|(rw[hy423];with_reducible exact H)|(have H2_:=(Option.bind_some _ _).symm.trans H;rw[hy423];with_reducible exact H2_)|(have H2_:=(Option.bind_some _ _).symm.trans H;with_reducible exact H2_)|with_reducible exact H|(rw[hy423];exact H)|exact H
        have Ny423:=aM hy423;clear hy423;by_cases c15:x9_1 < (x7_1.length:Int)
        ·rw[if_pos c15] at H;have c15b0:decide (x9_1 < (x7_1.length:Int))=true:=dE c15;clear c15;obtain⟨y425,hy425⟩:∃ y_:List Int,y_=(x7_1.set (x9_1:Int).toNat (wrap64 ((wrap64 (a0 * (rd l1 x9_1))) - (wrap64 (t421 * t413))))):=⟨_,rfl⟩;replace H:(Azm.l0 k1 a0 l1 t413 y423 y425 (wrap64 (x8_1 - t421)) (wrap64 (x9_1+1)))=some r:=by first|(rw[hy425];with_reducible exact H)|(have H2_:=(Option.bind_some _ _).symm.trans H;rw[hy425];with_reducible exact H2_)|(have H2_:=(Option.bind_some _ _).symm.trans H;with_reducible exact H2_)|with_reducible exact H|(rw[hy425];exact H)|exact H
         have Ny425:=aM hy425;clear hy425;have H':=aM H;clear H;have p420:0≤(x9_1:Int):=oE aS
         have q420:x9_1 < (l1.length:Int):=oE aS
         obtain⟨ad420,e420,hx420_0⟩:=Kd.at_int HR1.out x9_1 p420 q420;cases e420
         replace hx420_0:=(HB.out.cell (World.block_lt_of_cell? w _ hx420_0)).trans hx420_0;replace p420:=eq_true p420;replace q420:=eq_true q420;have fl_:True:=trivial;repeat((first|clear fl_|go_quiet (first|(go_at_call 42;(with_reducible refine(Azv.calls k1 a0 (rd l1 x9_1) t413 0 t421 t422 _ A12.out).mono ?_);rintro e w17 ⟨rfl,hb⟩;replace HO_6:=aM (Kd.R_below (rX HO_6.out) hb);replace HO_7:=aM (Kd.R_below (rX HO_7.out) hb);replace HB:=aM (below_step pB hb);(try clear hb);(try clear hb2);(try clear hk);(try clear hi);have p14:0≤(x9_1:Int):=oE aS;have q14:(x9_1:Int) < ((x6_1.length:Int):Int):=oE aS;obtain⟨go14,co14,eo14,gb14,gl14,cl14,HG14⟩:=Kd.R_form HO_6.out (by omega);(first|cases eo14|(injection eo14 with ea_ en_ ec_;(first|subst ea_|(injection ea_ with ea_;subst ea_));subst ec_;clear en_));have GB14:=aM gb14;have GG14:=aM HG14;clear gb14 gl14 HG14;obtain⟨hx14_0,hf14_0⟩:=Kd.R_celln 0 HO_6.out (x9_1:Int) p14 q14;replace p14:=eq_true p14;replace q14:=eq_true q14;obtain⟨hy18_,hz18_⟩:=Kd.R_celln 0 HO_6.out (x9_1:Int) (oE aS) (oE aS);have HP18:=Kd.R_putg HO_6.out (x9_1:Int) t421)|((with_reducible refine gate_store (t:=3) (p:=42) rfl ?_);(try(rw[drewN_self w17];generalize hq_:World.drewN w17 _=w17;have n0_:=aM (Kd.R_at hq_ HO_6.out);have n1_:=aM (Kd.R_at hq_ HO_7.out);have n2_:=aM (below_at hq_ HB.out);clear hq_ HO_6 HO_7 HB;have HO_6:=n0_;have HO_7:=n1_;have HB:=n2_;clear n0_ n1_ n2_;(try(obtain⟨hy18_,hz18_⟩:=Kd.R_celln 0 HO_6.out (x9_1:Int) (oE aS) (oE aS)));(try(have HP18:=Kd.R_putg HO_6.out (x9_1:Int) t421))));refine store_event (t:=3) (p:=42) (v:=?vo_w19) (w1:=(w17.setCell ⟨go14,(x9_1:Int).toNat,none⟩ (.int .i64 t421))) ?hg ?ho ?hn ?hr ?_;(case ho=>rfl);(case hg=>rfl);(case hn=>rfl);(case hr=>first|(go_simp;done)|(go_simp;rfl));intro w19 hw;have hg:w17.grownBy w19 (some go14):=(by rw[hw];exact HP18.2);have hp_:Kd.R (Kd.int .i64) 3 w19 w.heap.size (fun k_=>some k_≠(v418:Value).ownBlock) (.slice (some ⟨go14,0,none⟩) x6_1.length co14) y423:=(by rw[hw,Ny423.out];exact HP18.1);clear HP18;replace HO_6:=aM (hp_);replace HO_7:=aM (Kd.R_after (v:=(.slice (some ⟨go14,0,none⟩) x6_1.length co14)) (v1:=(.slice (some ⟨go14,0,none⟩) x6_1.length co14)) (ok:=(fun _=>True)) (rX (Kd.R_mono HO_7.out (fun _ hk=>⟨trivial,hk⟩))) hg (.inl rfl));replace HB:=aM ((by rw[hw];exact below_set (HB.out) GB14.out:Below w.heap.size w w19));clear hg hw hp_;have p424:0≤(x9_1:Int):=oE aS;have q424:x9_1 < (l1.length:Int):=oE aS;obtain⟨ad424,e424,hx424_0⟩:=Kd.at_int HR1.out x9_1 p424 q424;obtain rfl:ad420=ad424:=(by injection e424);replace hx424_0:=(HB.out.cell (World.block_lt_of_cell? w _ hx424_0)).trans hx424_0;replace p424:=eq_true p424;replace q424:=eq_true q424;have p16:0≤(x9_1:Int):=oE aS;have q16:(x9_1:Int) < ((x7_1.length:Int):Int):=oE aS;obtain⟨go16,co16,eo16,gb16,gl16,cl16,HG16⟩:=Kd.R_form HO_7.out (by omega);(first|cases eo16|(injection eo16 with ea_ en_ ec_;(first|subst ea_|(injection ea_ with ea_;subst ea_));subst ec_;clear en_));have GB16:=aM gb16;have GG16:=aM HG16;clear gb16 gl16 HG16;obtain⟨hx16_0,hf16_0⟩:=Kd.R_celln 0 HO_7.out (x9_1:Int) p16 q16;replace p16:=eq_true p16;replace q16:=eq_true q16;have n_:=aM (Kd.R_mono (ok':=(fun k_=>some k_≠(.slice (some ⟨go14,0,none⟩) x6_1.length co14:Value).ownBlock)) HO_7.out (fun k_ hk=>hk.2));clear HO_7;have HO_7:=n_;clear n_;obtain⟨hy20_,hz20_⟩:=Kd.R_celln 0 HO_7.out (x9_1:Int) (oE aS) (oE aS);have HP20:=Kd.R_putg HO_7.out (x9_1:Int) (wrap64 ((wrap64 (a0 * (rd l1 x9_1))) - (wrap64 (t421 * t413)))))|((with_reducible refine gate_store (t:=3) (p:=55) rfl ?_);(try(rw[drewN_self w19];generalize hq_:World.drewN w19 _=w19;have n0_:=aM (Kd.R_at hq_ HO_6.out);have n1_:=aM (Kd.R_at hq_ HO_7.out);have n2_:=aM (below_at hq_ HB.out);clear hq_ HO_6 HO_7 HB;have HO_6:=n0_;have HO_7:=n1_;have HB:=n2_;clear n0_ n1_ n2_;(try(have n_:=aM (Kd.R_mono (ok':=(fun k_=>some k_≠(.slice (some ⟨go14,0,none⟩) x6_1.length co14:Value).ownBlock)) HO_7.out (fun k_ hk=>hk.2));clear HO_7;have HO_7:=n_;clear n_));(try(obtain⟨hy20_,hz20_⟩:=Kd.R_celln 0 HO_7.out (x9_1:Int) (oE aS) (oE aS)));(try(have HP20:=Kd.R_putg HO_7.out (x9_1:Int) (wrap64 ((wrap64 (a0 * (rd l1 x9_1))) - (wrap64 (t421 * t413))))))));refine store_event (t:=3) (p:=55) (v:=?vo_w21) (w1:=(w19.setCell ⟨go16,(x9_1:Int).toNat,none⟩ (.int .i64 (wrap64 ((wrap64 (a0 * (rd l1 x9_1))) - (wrap64 (t421 * t413))))))) ?hg ?ho ?hn ?hr ?_;(case ho=>rfl);(case hg=>rfl);(case hn=>rfl);(case hr=>first|(go_simp;done)|(go_simp;rfl));intro w21 hw;have hg:w19.grownBy w21 (some go16):=(by rw[hw];exact HP20.2);have hp_:Kd.R (Kd.int .i64) 3 w21 w.heap.size (fun k_=>some k_≠(.slice (some ⟨go14,0,none⟩) x6_1.length co14:Value).ownBlock) (.slice (some ⟨go16,0,none⟩) x7_1.length co16) y425:=(by rw[hw,Ny425.out];exact HP20.1);clear HP20;replace HO_6:=aM (Kd.R_after (v:=(.slice (some ⟨go16,0,none⟩) x7_1.length co16)) (v1:=(.slice (some ⟨go16,0,none⟩) x7_1.length co16)) (ok:=(fun _=>True)) (rX (Kd.R_mono HO_6.out (fun _ hk=>⟨trivial,hk⟩))) hg (.inl rfl));replace HO_7:=aM (hp_);replace HB:=aM ((by rw[hw];exact below_set (HB.out) GB16.out:Below w.heap.size w w21));clear hg hw hp_)));go_wp2_with (first|(go_at_call 42;(with_reducible refine(Azv.calls k1 a0 (rd l1 x9_1) t413 0 t421 t422 _ A12.out).mono ?_);rintro e w17 ⟨rfl,hb⟩;replace HO_6:=aM (Kd.R_below (rX HO_6.out) hb);replace HO_7:=aM (Kd.R_below (rX HO_7.out) hb);replace HB:=aM (below_step pB hb);(try clear hb);(try clear hb2);(try clear hk);(try clear hi);have p14:0≤(x9_1:Int):=oE aS;have q14:(x9_1:Int) < ((x6_1.length:Int):Int):=oE aS;obtain⟨go14,co14,eo14,gb14,gl14,cl14,HG14⟩:=Kd.R_form HO_6.out (by omega);(first|cases eo14|(injection eo14 with ea_ en_ ec_;(first|subst ea_|(injection ea_ with ea_;subst ea_));subst ec_;clear en_));have GB14:=aM gb14;have GG14:=aM HG14;clear gb14 gl14 HG14;obtain⟨hx14_0,hf14_0⟩:=Kd.R_celln 0 HO_6.out (x9_1:Int) p14 q14;replace p14:=eq_true p14;replace q14:=eq_true q14;obtain⟨hy18_,hz18_⟩:=Kd.R_celln 0 HO_6.out (x9_1:Int) (oE aS) (oE aS);have HP18:=Kd.R_putg HO_6.out (x9_1:Int) t421)|((with_reducible refine gate_store (t:=3) (p:=42) rfl ?_);(try(rw[drewN_self w17];generalize hq_:World.drewN w17 _=w17;have n0_:=aM (Kd.R_at hq_ HO_6.out);have n1_:=aM (Kd.R_at hq_ HO_7.out);have n2_:=aM (below_at hq_ HB.out);clear hq_ HO_6 HO_7 HB;have HO_6:=n0_;have HO_7:=n1_;have HB:=n2_;clear n0_ n1_ n2_;(try(obtain⟨hy18_,hz18_⟩:=Kd.R_celln 0 HO_6.out (x9_1:Int) (oE aS) (oE aS)));(try(have HP18:=Kd.R_putg HO_6.out (x9_1:Int) t421))));refine store_event (t:=3) (p:=42) (v:=?vo_w19) (w1:=(w17.setCell ⟨go14,(x9_1:Int).toNat,none⟩ (.int .i64 t421))) ?hg ?ho ?hn ?hr ?_;(case ho=>rfl);(case hg=>rfl);(case hn=>rfl);(case hr=>first|(go_simp;done)|(go_simp;rfl));intro w19 hw;have hg:w17.grownBy w19 (some go14):=(by rw[hw];exact HP18.2);have hp_:Kd.R (Kd.int .i64) 3 w19 w.heap.size (fun k_=>some k_≠(v418:Value).ownBlock) (.slice (some ⟨go14,0,none⟩) x6_1.length co14) y423:=(by rw[hw,Ny423.out];exact HP18.1);clear HP18;replace HO_6:=aM (hp_);replace HO_7:=aM (Kd.R_after (v:=(.slice (some ⟨go14,0,none⟩) x6_1.length co14)) (v1:=(.slice (some ⟨go14,0,none⟩) x6_1.length co14)) (ok:=(fun _=>True)) (rX (Kd.R_mono HO_7.out (fun _ hk=>⟨trivial,hk⟩))) hg (.inl rfl));replace HB:=aM ((by rw[hw];exact below_set (HB.out) GB14.out:Below w.heap.size w w19));clear hg hw hp_;have p424:0≤(x9_1:Int):=oE aS;have q424:x9_1 < (l1.length:Int):=oE aS;obtain⟨ad424,e424,hx424_0⟩:=Kd.at_int HR1.out x9_1 p424 q424;obtain rfl:ad420=ad424:=(by injection e424);replace hx424_0:=(HB.out.cell (World.block_lt_of_cell? w _ hx424_0)).trans hx424_0;replace p424:=eq_true p424;replace q424:=eq_true q424;have p16:0≤(x9_1:Int):=oE aS;have q16:(x9_1:Int) < ((x7_1.length:Int):Int):=oE aS;obtain⟨go16,co16,eo16,gb16,gl16,cl16,HG16⟩:=Kd.R_form HO_7.out (by omega);(first|cases eo16|(injection eo16 with ea_ en_ ec_;(first|subst ea_|(injection ea_ with ea_;subst ea_));subst ec_;clear en_));have GB16:=aM gb16;have GG16:=aM HG16;clear gb16 gl16 HG16;obtain⟨hx16_0,hf16_0⟩:=Kd.R_celln 0 HO_7.out (x9_1:Int) p16 q16;replace p16:=eq_true p16;replace q16:=eq_true q16;have n_:=aM (Kd.R_mono (ok':=(fun k_=>some k_≠(.slice (some ⟨go14,0,none⟩) x6_1.length co14:Value).ownBlock)) HO_7.out (fun k_ hk=>hk.2));clear HO_7;have HO_7:=n_;clear n_;obtain⟨hy20_,hz20_⟩:=Kd.R_celln 0 HO_7.out (x9_1:Int) (oE aS) (oE aS);have HP20:=Kd.R_putg HO_7.out (x9_1:Int) (wrap64 ((wrap64 (a0 * (rd l1 x9_1))) - (wrap64 (t421 * t413)))))|((with_reducible refine gate_store (t:=3) (p:=55) rfl ?_);(try(rw[drewN_self w19];generalize hq_:World.drewN w19 _=w19;have n0_:=aM (Kd.R_at hq_ HO_6.out);have n1_:=aM (Kd.R_at hq_ HO_7.out);have n2_:=aM (below_at hq_ HB.out);clear hq_ HO_6 HO_7 HB;have HO_6:=n0_;have HO_7:=n1_;have HB:=n2_;clear n0_ n1_ n2_;(try(have n_:=aM (Kd.R_mono (ok':=(fun k_=>some k_≠(.slice (some ⟨go14,0,none⟩) x6_1.length co14:Value).ownBlock)) HO_7.out (fun k_ hk=>hk.2));clear HO_7;have HO_7:=n_;clear n_));(try(obtain⟨hy20_,hz20_⟩:=Kd.R_celln 0 HO_7.out (x9_1:Int) (oE aS) (oE aS)));(try(have HP20:=Kd.R_putg HO_7.out (x9_1:Int) (wrap64 ((wrap64 (a0 * (rd l1 x9_1))) - (wrap64 (t421 * t413))))))));refine store_event (t:=3) (p:=55) (v:=?vo_w21) (w1:=(w19.setCell ⟨go16,(x9_1:Int).toNat,none⟩ (.int .i64 (wrap64 ((wrap64 (a0 * (rd l1 x9_1))) - (wrap64 (t421 * t413))))))) ?hg ?ho ?hn ?hr ?_;(case ho=>rfl);(case hg=>rfl);(case hn=>rfl);(case hr=>first|(go_simp;done)|(go_simp;rfl));intro w21 hw;have hg:w19.grownBy w21 (some go16):=(by rw[hw];exact HP20.2);have hp_:Kd.R (Kd.int .i64) 3 w21 w.heap.size (fun k_=>some k_≠(.slice (some ⟨go14,0,none⟩) x6_1.length co14:Value).ownBlock) (.slice (some ⟨go16,0,none⟩) x7_1.length co16) y425:=(by rw[hw,Ny425.out];exact HP20.1);clear HP20;replace HO_6:=aM (Kd.R_after (v:=(.slice (some ⟨go16,0,none⟩) x7_1.length co16)) (v1:=(.slice (some ⟨go16,0,none⟩) x7_1.length co16)) (ok:=(fun _=>True)) (rX (Kd.R_mono HO_6.out (fun _ hk=>⟨trivial,hk⟩))) hg (.inl rfl));replace HO_7:=aM (hp_);replace HB:=aM ((by rw[hw];exact below_set (HB.out) GB16.out:Below w.heap.size w w21));clear hg hw hp_)))
         go_roundg k1
         case measure=>have:=HK1.out;omega
         case rel=>exact⟨(y423),(y425),(wrap64 (x8_1 - t421)),(wrap64 (x9_1+1)),sD,sD,H',⟨by have:=HK1.out;omega⟩,⟨by(with_reducible repeat(first|apply Kd.R_alloc|apply Kd.R_drewN|apply Kd.R_drew));exact Kd.R_mono HO_6.out (fun _ hk=>hk.2)⟩,⟨rX HO_7.out⟩,⟨pB⟩⟩
        ·rw[if_neg c15] at H;exact absurd H (by simp)
       ·rw[if_neg c13] at H;exact absurd H (by simp)
      ·rw[if_neg c11] at H;exact absurd H (by simp)
     ·rw[if_neg c10] at H;have c10b0:decide (x9_1 < (l1.length:Int))=false:=decide_eq_false c10;clear c10;have H':=aM H;clear H;go_wp2
      repeat(go_quiet (fail);try go_wp2)
      go_loopg [8] k1 (fun kq v8 w'=>∃ (x6_2:List Int) (x7_2:List Int) (x8_2:Int),v8=.int .i64 x8_2∧Aside0 (Azm.l1 kq x6_2 x7_2 x8_2=some r)∧Aside0 (kq≤k1)∧Aside0 (Kd.R (Kd.int .i64) 3 w' w.heap.size (fun k_=>some k_≠(v418:Value).ownBlock) v415 x6_2)∧Aside0 (Kd.R (Kd.int .i64) 3 w' w.heap.size (fun k_=>some k_≠(v415:Value).ownBlock) v418 x7_2)∧Aside0 (Below w.heap.size w w'))
      case atStart=>exact⟨(x6_1),(x7_1),(x8_1),sD,H',⟨Nat.le_refl _⟩,⟨rX HO_6.out⟩,⟨rX HO_7.out⟩,⟨pB⟩⟩
      case round =>
       clear H';try clear c1
       try clear p1
       try clear q1
       try clear hx1
       try clear p2
       try clear c3
       try clear c4
       try clear c4b0
       try clear c4b1
       try clear p4
       try clear q4
       try clear hx4
       try clear c5
       try clear c5b0
       try clear c5b1
       try clear p6
       try clear c10
       try clear c10b0
       try clear c11
       try clear c11b0
       try clear c13
       try clear c13b0
       try clear p14
       try clear q14
       try clear hx14
       try clear hf14
       try clear c15
       try clear c15b0
       try clear p16
       try clear q16
       try clear hx16
       try clear hf16
       try clear hx14_0
       try clear hx16_0
       try clear hx420_0
       try clear hx424_0
       try clear p14
       try clear p16
       try clear p2
       try clear p420
       try clear p424
       try clear q14
       try clear q16
       try clear q420
       try clear q424
       obtain⟨x6_2,x7_2,x8_2,rfl,HA,HK2,HO_6,HO_7,HB⟩:=hrel;cases gk with
       | zero=>exact absurd HA.out (by simp [Azm.l1])
       | succ k2 =>
        have H:=HA.out;clear HA;simp only[Azm.l1] at H;by_cases c22:x8_2 > 0
        ·rw[if_pos c22] at H;have c22b0:decide (0 < x8_2)=true:=dE c22;clear c22;have H':=aM H;clear H;go_wp2
         repeat(go_quiet (fail);try go_wp2)
         go_loopg [12,13] k2 (fun kq v12 v13 w'=>∃ (x12_3:Int) (x13_3:Int),v12=.int .i64 x12_3∧v13=.int .i64 x13_3∧Aside0 (Azm.l2 kq x6_2 x7_2 x8_2 x12_3 x13_3=some r)∧Aside0 (kq≤k2)∧Aside0 (Kd.R (Kd.int .i64) 3 w' w.heap.size (fun k_=>some k_≠(v418:Value).ownBlock) v415 x6_2)∧Aside0 (Kd.R (Kd.int .i64) 3 w' w.heap.size (fun k_=>some k_≠(v415:Value).ownBlock) v418 x7_2)∧Aside0 (Below w.heap.size w w'))
         case atStart=>exact⟨(0),(1),sD,sD,H',⟨Nat.le_refl _⟩,⟨rX HO_6.out⟩,⟨rX HO_7.out⟩,⟨pB⟩⟩
         case round =>
          clear H';try clear c1
          try clear p1
          try clear q1
          try clear hx1
          try clear c2
          try clear p2
          try clear c3
          try clear c4
          try clear c4b0
          try clear c4b1
          try clear p4
          try clear q4
          try clear hx4
          try clear c5
          try clear c5b0
          try clear c5b1
          try clear p6
          try clear c10
          try clear c10b0
          try clear c11
          try clear c11b0
          try clear c13
          try clear c13b0
          try clear p14
          try clear q14
          try clear hx14
          try clear hf14
          try clear c15
          try clear c15b0
          try clear p16
          try clear q16
          try clear hx16
          try clear hf16
          try clear c22
          try clear c22b0
          try clear hx14_0
          try clear hx16_0
          try clear hx420_0
          try clear hx424_0
          try clear p1
          try clear p14
          try clear p16
          try clear p2
          try clear p4
          try clear p420
          try clear p424
          try clear p6
          try clear q1
          try clear q14
          try clear q16
          try clear q4
          try clear q420
          try clear q424
          obtain⟨x12_3,x13_3,rfl,rfl,HA,HK3,HO_6,HO_7,HB⟩:=hrel;cases gk with
          | zero=>exact absurd HA.out (by simp [Azm.l2])
          | succ k3 =>
           have H:=HA.out;clear HA;simp only[Azm.l2] at H;by_cases c23:x13_3 < (x7_2.length:Int)
           ·rw[if_pos c23] at H;have c23b0:decide (x13_3 < (x7_2.length:Int))=true:=dE c23;clear c23;by_cases c24:0≤x13_3
            ·rw[if_pos c24] at H;have c24b0:decide (0≤x13_3)=true:=dE c24;clear c24;by_cases c25:0≤x12_3
             ·rw[if_pos c25] at H;have c25b0:decide (0≤x12_3)=true:=dE c25;clear c25;by_cases c26:x12_3 < (x7_2.length:Int)
              ·rw[if_pos c26] at H;have c26b0:decide (x12_3 < (x7_2.length:Int))=true:=dE c26;clear c26;by_cases c27:(rd x7_2 x13_3) > (rd x7_2 x12_3)
               ·rw[if_pos c27] at H;have c27b0:decide ((rd x7_2 x12_3) < (rd x7_2 x13_3))=true:=dE c27;clear c27;have H':=aM H;clear H;obtain⟨Ao28,co28,eo28⟩:=Kd.R_slice HO_7.out;subst eo28;have p426:0≤(x13_3:Int):=oE aS
                have q426:x13_3 < (x7_2.length:Int):=oE aS
                obtain⟨ad426,e426,hx426_0⟩:=Kd.at_int (Kd.R_reads' HO_7.out).2.2 x13_3 p426 q426;cases e426
                replace p426:=eq_true p426;replace q426:=eq_true q426;have p427:0≤(x12_3:Int):=oE aS
                have q427:x12_3 < (x7_2.length:Int):=oE aS
                obtain⟨ad427,e427,hx427_0⟩:=Kd.at_int (Kd.R_reads' HO_7.out).2.2 x12_3 p427 q427;obtain rfl:ad426=ad427:=(by injection e427)
                replace p427:=eq_true p427;replace q427:=eq_true q427;go_wp2
                repeat(go_quiet (fail);try go_wp2)
                go_roundg k3
                case measure=>have:=HK1.out;have:=HK2.out;have:=HK3.out;omega
                case rel=>exact⟨(x13_3),(wrap64 (x13_3+1)),sD,sD,H',⟨by have:=HK1.out;have:=HK2.out;have:=HK3.out;omega⟩,⟨rX HO_6.out⟩,⟨rX HO_7.out⟩,⟨pB⟩⟩
               ·rw[if_neg c27] at H;have c27b0:decide ((rd x7_2 x12_3) < (rd x7_2 x13_3))=false:=decide_eq_false c27;clear c27;have H':=aM H;clear H;obtain⟨Ao29,co29,eo29⟩:=Kd.R_slice HO_7.out;subst eo29;have p426:0≤(x13_3:Int):=oE aS
                have q426:x13_3 < (x7_2.length:Int):=oE aS
                obtain⟨ad426,e426,hx426_0⟩:=Kd.at_int (Kd.R_reads' HO_7.out).2.2 x13_3 p426 q426;cases e426
                replace p426:=eq_true p426;replace q426:=eq_true q426;have p427:0≤(x12_3:Int):=oE aS
                have q427:x12_3 < (x7_2.length:Int):=oE aS
                obtain⟨ad427,e427,hx427_0⟩:=Kd.at_int (Kd.R_reads' HO_7.out).2.2 x12_3 p427 q427;obtain rfl:ad426=ad427:=(by injection e427)
                replace p427:=eq_true p427;replace q427:=eq_true q427;go_wp2
                repeat(go_quiet (fail);try go_wp2)
                go_roundg k3
                case measure=>have:=HK1.out;have:=HK2.out;have:=HK3.out;omega
                case rel=>exact⟨(x12_3),(wrap64 (x13_3+1)),sD,sD,H',⟨by have:=HK1.out;have:=HK2.out;have:=HK3.out;omega⟩,⟨rX HO_6.out⟩,⟨rX HO_7.out⟩,⟨pB⟩⟩
              ·rw[if_neg c26] at H;exact absurd H (by simp)
             ·rw[if_neg c25] at H;exact absurd H (by simp)
            ·rw[if_neg c24] at H;exact absurd H (by simp)
           ·rw[if_neg c23] at H;have c23b0:decide (x13_3 < (x7_2.length:Int))=false:=decide_eq_false c23;clear c23;by_cases c30:0≤x12_3
            ·rw[if_pos c30] at H;have c30b0:decide (0≤x12_3)=true:=dE c30;clear c30;by_cases c31:x12_3 < (x6_2.length:Int)
             ·rw[if_pos c31] at H;have c31b0:decide (x12_3 < (x6_2.length:Int))=true:=dE c31;clear c31;obtain⟨y429,hy429⟩:∃ y_:List Int,y_=(x6_2.set (x12_3:Int).toNat (wrap64 ((rd x6_2 x12_3)+1))):=⟨_,rfl⟩;replace H:(if x12_3 < (x7_2.length:Int) then(Azm.l1 k3 y429 (x7_2.set (x12_3:Int).toNat (-1)) (wrap64 (x8_2 - 1))) else(none))=some r:=by first|(rw[hy429];with_reducible exact H)|(have H2_:=(Option.bind_some _ _).symm.trans H;rw[hy429];with_reducible exact H2_)|(have H2_:=(Option.bind_some _ _).symm.trans H;with_reducible exact H2_)|with_reducible exact H|(rw[hy429];exact H)|exact H
              have Ny429:=aM hy429;clear hy429;by_cases c33:x12_3 < (x7_2.length:Int)
              ·rw[if_pos c33] at H;have c33b0:decide (x12_3 < (x7_2.length:Int))=true:=dE c33;clear c33;obtain⟨y430,hy430⟩:∃ y_:List Int,y_=(x7_2.set (x12_3:Int).toNat (-1)):=⟨_,rfl⟩;replace H:(Azm.l1 k3 y429 y430 (wrap64 (x8_2 - 1)))=some r:=by first|(rw[hy430];with_reducible exact H)|(have H2_:=(Option.bind_some _ _).symm.trans H;rw[hy430];with_reducible exact H2_)|(have H2_:=(Option.bind_some _ _).symm.trans H;with_reducible exact H2_)|with_reducible exact H|(rw[hy430];exact H)|exact H
               have Ny430:=aM hy430;clear hy430;have H':=aM H;clear H;obtain⟨Ao35,co35,eo35⟩:=Kd.R_slice HO_7.out;subst eo35;obtain⟨Ao36,co36,eo36⟩:=Kd.R_slice HO_6.out;subst eo36;have p428:0≤(x12_3:Int):=oE aS
               have q428:x12_3 < (x6_2.length:Int):=oE aS
               obtain⟨ad428,e428,hx428_0⟩:=Kd.at_int (Kd.R_reads' HO_6.out).2.2 x12_3 p428 q428;cases e428
               replace p428:=eq_true p428;replace q428:=eq_true q428;have p32:0≤(x12_3:Int):=oE aS
               have q32:(x12_3:Int) < ((x6_2.length:Int):Int):=oE aS
               obtain⟨go32,co32,eo32,gb32,gl32,cl32,HG32⟩:=Kd.R_form HO_6.out (by omega)
               (first|cases eo32|(injection eo32 with ea_ en_ ec_;(first|subst ea_|(injection ea_ with ea_;subst ea_));subst ec_;clear en_))
               have GB32:=aM gb32;have GG32:=aM HG32;clear gb32 gl32 HG32;(first|simp only[add_plain] at hx428_0|skip)
               obtain⟨hx32_0,hf32_0⟩:=Kd.R_celln 0 HO_6.out (x12_3:Int) p32 q32;replace p32:=eq_true p32;replace q32:=eq_true q32;have HP37:=Kd.R_putg HO_6.out (x12_3:Int) (wrap64 ((rd x6_2 x12_3)+1));have fl_:True:=trivial;repeat((first|clear fl_|go_quiet (first|((with_reducible refine gate_store (t:=3) (p:=86) rfl ?_);(try(rw[drewN_self wr];generalize hq_:World.drewN wr _=wr;have n0_:=aM (Kd.R_at hq_ HO_6.out);have n1_:=aM (Kd.R_at hq_ HO_7.out);have n2_:=aM (below_at hq_ HB.out);clear hq_ HO_6 HO_7 HB;have HO_6:=n0_;have HO_7:=n1_;have HB:=n2_;clear n0_ n1_ n2_;(try(obtain⟨hx32_0,hf32_0⟩:=Kd.R_celln 0 HO_6.out (x12_3:Int) (of_eq_true p32) (of_eq_true q32)));(try(have HP37:=Kd.R_putg HO_6.out (x12_3:Int) (wrap64 ((rd x6_2 x12_3)+1))))));refine store_event (t:=3) (p:=86) (v:=?vo_w38) (w1:=(wr.setCell ⟨go32,(x12_3:Int).toNat,none⟩ (.int .i64 (wrap64 ((rd x6_2 x12_3)+1))))) ?hg ?ho ?hn ?hr ?_;(case ho=>rfl);(case hg=>rfl);(case hn=>rfl);(case hr=>first|(go_simp;done)|(go_simp;rfl));intro w38 hw;have hg:wr.grownBy w38 (some go32):=(by rw[hw];exact HP37.2);have hp_:Kd.R (Kd.int .i64) 3 w38 w.heap.size (fun k_=>some k_≠(.slice Ao35 x7_2.length co35:Value).ownBlock) (.slice (some ⟨go32,0,none⟩) x6_2.length co36) y429:=(by rw[hw,Ny429.out];exact HP37.1);clear HP37;replace HO_6:=aM (hp_);replace HO_7:=aM (Kd.R_after (v:=(.slice (some ⟨go32,0,none⟩) x6_2.length co36)) (v1:=(.slice (some ⟨go32,0,none⟩) x6_2.length co36)) (ok:=(fun _=>True)) (rX (Kd.R_mono HO_7.out (fun _ hk=>⟨trivial,hk⟩))) hg (.inl rfl));replace HB:=aM ((by rw[hw];exact below_set (HB.out) GB32.out:Below w.heap.size w w38));clear hg hw hp_;have p34:0≤(x12_3:Int):=oE aS;have q34:(x12_3:Int) < ((x7_2.length:Int):Int):=oE aS;obtain⟨go34,co34,eo34,gb34,gl34,cl34,HG34⟩:=Kd.R_form HO_7.out (by omega);(first|cases eo34|(injection eo34 with ea_ en_ ec_;(first|subst ea_|(injection ea_ with ea_;subst ea_));subst ec_;clear en_));have GB34:=aM gb34;have GG34:=aM HG34;clear gb34 gl34 HG34;obtain⟨hx34_0,hf34_0⟩:=Kd.R_celln 0 HO_7.out (x12_3:Int) p34 q34;replace p34:=eq_true p34;replace q34:=eq_true q34;have n_:=aM (Kd.R_mono (ok':=(fun k_=>some k_≠(.slice (some ⟨go32,0,none⟩) x6_2.length co36:Value).ownBlock)) HO_7.out (fun k_ hk=>hk.2));clear HO_7;have HO_7:=n_;clear n_;obtain⟨hy39_,hz39_⟩:=Kd.R_celln 0 HO_7.out (x12_3:Int) (oE aS) (oE aS);have HP39:=Kd.R_putg HO_7.out (x12_3:Int) (-1))|((with_reducible refine gate_store (t:=3) (p:=89) rfl ?_);(try(rw[drewN_self w38];generalize hq_:World.drewN w38 _=w38;have n0_:=aM (Kd.R_at hq_ HO_6.out);have n1_:=aM (Kd.R_at hq_ HO_7.out);have n2_:=aM (below_at hq_ HB.out);clear hq_ HO_6 HO_7 HB;have HO_6:=n0_;have HO_7:=n1_;have HB:=n2_;clear n0_ n1_ n2_;(try(have n_:=aM (Kd.R_mono (ok':=(fun k_=>some k_≠(.slice (some ⟨go32,0,none⟩) x6_2.length co36:Value).ownBlock)) HO_7.out (fun k_ hk=>hk.2));clear HO_7;have HO_7:=n_;clear n_));(try(obtain⟨hy39_,hz39_⟩:=Kd.R_celln 0 HO_7.out (x12_3:Int) (oE aS) (oE aS)));(try(have HP39:=Kd.R_putg HO_7.out (x12_3:Int) (-1)))));refine store_event (t:=3) (p:=89) (v:=?vo_w40) (w1:=(w38.setCell ⟨go34,(x12_3:Int).toNat,none⟩ (.int .i64 (-1)))) ?hg ?ho ?hn ?hr ?_;(case ho=>rfl);(case hg=>rfl);(case hn=>rfl);(case hr=>first|(go_simp;done)|(go_simp;rfl));intro w40 hw;have hg:w38.grownBy w40 (some go34):=(by rw[hw];exact HP39.2);have hp_:Kd.R (Kd.int .i64) 3 w40 w.heap.size (fun k_=>some k_≠(.slice (some ⟨go32,0,none⟩) x6_2.length co36:Value).ownBlock) (.slice (some ⟨go34,0,none⟩) x7_2.length co35) y430:=(by rw[hw,Ny430.out];exact HP39.1);clear HP39;replace HO_6:=aM (Kd.R_after (v:=(.slice (some ⟨go34,0,none⟩) x7_2.length co35)) (v1:=(.slice (some ⟨go34,0,none⟩) x7_2.length co35)) (ok:=(fun _=>True)) (rX (Kd.R_mono HO_6.out (fun _ hk=>⟨trivial,hk⟩))) hg (.inl rfl));replace HO_7:=aM (hp_);replace HB:=aM ((by rw[hw];exact below_set (HB.out) GB34.out:Below w.heap.size w w40));clear hg hw hp_)));go_wp2_with (first|((with_reducible refine gate_store (t:=3) (p:=86) rfl ?_);(try(rw[drewN_self wr];generalize hq_:World.drewN wr _=wr;have n0_:=aM (Kd.R_at hq_ HO_6.out);have n1_:=aM (Kd.R_at hq_ HO_7.out);have n2_:=aM (below_at hq_ HB.out);clear hq_ HO_6 HO_7 HB;have HO_6:=n0_;have HO_7:=n1_;have HB:=n2_;clear n0_ n1_ n2_;(try(obtain⟨hx32_0,hf32_0⟩:=Kd.R_celln 0 HO_6.out (x12_3:Int) (of_eq_true p32) (of_eq_true q32)));(try(have HP37:=Kd.R_putg HO_6.out (x12_3:Int) (wrap64 ((rd x6_2 x12_3)+1))))));refine store_event (t:=3) (p:=86) (v:=?vo_w38) (w1:=(wr.setCell ⟨go32,(x12_3:Int).toNat,none⟩ (.int .i64 (wrap64 ((rd x6_2 x12_3)+1))))) ?hg ?ho ?hn ?hr ?_;(case ho=>rfl);(case hg=>rfl);(case hn=>rfl);(case hr=>first|(go_simp;done)|(go_simp;rfl));intro w38 hw;have hg:wr.grownBy w38 (some go32):=(by rw[hw];exact HP37.2);have hp_:Kd.R (Kd.int .i64) 3 w38 w.heap.size (fun k_=>some k_≠(.slice Ao35 x7_2.length co35:Value).ownBlock) (.slice (some ⟨go32,0,none⟩) x6_2.length co36) y429:=(by rw[hw,Ny429.out];exact HP37.1);clear HP37;replace HO_6:=aM (hp_);replace HO_7:=aM (Kd.R_after (v:=(.slice (some ⟨go32,0,none⟩) x6_2.length co36)) (v1:=(.slice (some ⟨go32,0,none⟩) x6_2.length co36)) (ok:=(fun _=>True)) (rX (Kd.R_mono HO_7.out (fun _ hk=>⟨trivial,hk⟩))) hg (.inl rfl));replace HB:=aM ((by rw[hw];exact below_set (HB.out) GB32.out:Below w.heap.size w w38));clear hg hw hp_;have p34:0≤(x12_3:Int):=oE aS;have q34:(x12_3:Int) < ((x7_2.length:Int):Int):=oE aS;obtain⟨go34,co34,eo34,gb34,gl34,cl34,HG34⟩:=Kd.R_form HO_7.out (by omega);(first|cases eo34|(injection eo34 with ea_ en_ ec_;(first|subst ea_|(injection ea_ with ea_;subst ea_));subst ec_;clear en_));have GB34:=aM gb34;have GG34:=aM HG34;clear gb34 gl34 HG34;obtain⟨hx34_0,hf34_0⟩:=Kd.R_celln 0 HO_7.out (x12_3:Int) p34 q34;replace p34:=eq_true p34;replace q34:=eq_true q34;have n_:=aM (Kd.R_mono (ok':=(fun k_=>some k_≠(.slice (some ⟨go32,0,none⟩) x6_2.length co36:Value).ownBlock)) HO_7.out (fun k_ hk=>hk.2));clear HO_7;have HO_7:=n_;clear n_;obtain⟨hy39_,hz39_⟩:=Kd.R_celln 0 HO_7.out (x12_3:Int) (oE aS) (oE aS);have HP39:=Kd.R_putg HO_7.out (x12_3:Int) (-1))|((with_reducible refine gate_store (t:=3) (p:=89) rfl ?_);(try(rw[drewN_self w38];generalize hq_:World.drewN w38 _=w38;have n0_:=aM (Kd.R_at hq_ HO_6.out);have n1_:=aM (Kd.R_at hq_ HO_7.out);have n2_:=aM (below_at hq_ HB.out);clear hq_ HO_6 HO_7 HB;have HO_6:=n0_;have HO_7:=n1_;have HB:=n2_;clear n0_ n1_ n2_;(try(have n_:=aM (Kd.R_mono (ok':=(fun k_=>some k_≠(.slice (some ⟨go32,0,none⟩) x6_2.length co36:Value).ownBlock)) HO_7.out (fun k_ hk=>hk.2));clear HO_7;have HO_7:=n_;clear n_));(try(obtain⟨hy39_,hz39_⟩:=Kd.R_celln 0 HO_7.out (x12_3:Int) (oE aS) (oE aS)));(try(have HP39:=Kd.R_putg HO_7.out (x12_3:Int) (-1)))));refine store_event (t:=3) (p:=89) (v:=?vo_w40) (w1:=(w38.setCell ⟨go34,(x12_3:Int).toNat,none⟩ (.int .i64 (-1)))) ?hg ?ho ?hn ?hr ?_;(case ho=>rfl);(case hg=>rfl);(case hn=>rfl);(case hr=>first|(go_simp;done)|(go_simp;rfl));intro w40 hw;have hg:w38.grownBy w40 (some go34):=(by rw[hw];exact HP39.2);have hp_:Kd.R (Kd.int .i64) 3 w40 w.heap.size (fun k_=>some k_≠(.slice (some ⟨go32,0,none⟩) x6_2.length co36:Value).ownBlock) (.slice (some ⟨go34,0,none⟩) x7_2.length co35) y430:=(by rw[hw,Ny430.out];exact HP39.1);clear HP39;replace HO_6:=aM (Kd.R_after (v:=(.slice (some ⟨go34,0,none⟩) x7_2.length co35)) (v1:=(.slice (some ⟨go34,0,none⟩) x7_2.length co35)) (ok:=(fun _=>True)) (rX (Kd.R_mono HO_6.out (fun _ hk=>⟨trivial,hk⟩))) hg (.inl rfl));replace HO_7:=aM (hp_);replace HB:=aM ((by rw[hw];exact below_set (HB.out) GB34.out:Below w.heap.size w w40));clear hg hw hp_)))
               go_roundg k3
               case measure=>have:=HK1.out;have:=HK2.out;have:=HK3.out;omega
               case rel=>exact⟨(y429),(y430),(wrap64 (x8_2 - 1)),sD,H',⟨by have:=HK1.out;have:=HK2.out;have:=HK3.out;omega⟩,⟨by(with_reducible repeat(first|apply Kd.R_alloc|apply Kd.R_drewN|apply Kd.R_drew));exact Kd.R_mono HO_6.out (fun _ hk=>hk.2)⟩,⟨rX HO_7.out⟩,⟨pB⟩⟩
              ·rw[if_neg c33] at H;exact absurd H (by simp)
             ·rw[if_neg c31] at H;exact absurd H (by simp)
            ·rw[if_neg c30] at H;exact absurd H (by simp)
        ·rw[if_neg c22] at H;have c22b0:decide (0 < x8_2)=false:=decide_eq_false c22;clear c22;obtain rfl:=Option.some.inj H;go_wp2
         repeat(go_quiet (fail);try go_wp2)
         go_ret
         exact⟨_,eW,by(with_reducible repeat(first|apply Kd.R_alloc|apply Kd.R_drewN|apply Kd.R_drew));exact Kd.R_mono HO_6.out (fun _ hk=>trivial),pB⟩
  ·rw[if_neg c5] at H;exact absurd H (by simp)
 ·rw[if_neg c4] at H;exact absurd H (by simp)

end Go.Proofs.Ytpnfdhhfdidlmaa.Print
