import Derived.Test.YtokkiljkgejnhaaPrint0
import Derived.Test.YtokkiljkgejnhaaPrint15
import Derived.Test.YtokkiljkgejnhaaPrint14
namespace Go.Proofs.Ytokkiljkgejnhaa.Print
open Go.RowKit Go.Proofs.YtokkiljkgejnhaaW.PrintWords Go.Proofs.YtokkiljkgejnhaaW.PrintLast Go.Proofs.YtokkiljkgejnhaaW.PrintMore
attribute [local go_sem] max2_int min2_int max_two min_two max_three min_three max_four min_four
set_option linter.unusedVariables false
set_option maxRecDepth 100000
set_option maxHeartbeats 8000000
set_option linter.unusedSimpArgs false

def Dzy.f (k:Nat) (l0:List Int):Option (List Int × Int):=(Bzw.f k l0).bind fun t475=>(if(t475.length:Int) > 48 then(some (([]:List Int),2)) else(some (t475,0)))
theorem Dzy.mono:∀ a0 k,LeO (Dzy.f k a0) (Dzy.f (k+1) a0):=by
 intro a0 k;unfold Dzy.f;with_reducible repeat' first|exact Bzw.mono _ _|exact LeO.refl _|exact LeO.none _|refine LeO.ite ?_ ?_|refine LeO.bind ?_ (fun _=>?_)
theorem Dzy.calls (k:Nat) (P0_:Nat→Prop) (u9000_:Value) (l0:List Int) (r1:List Int) (r2:Int) (w0 w:World) (hB:Below w0.heap.size w0 w) (ho0:Kd.R (Kd.int .i64) 3 w w0.heap.size P0_ u9000_ l0) (h:Dzy.f k l0=some (r1,r2)) :
  Calls Try.prog 70 #[u9000_] w fun e w'=>∃ v0_:Value,e=.returned (.tuple #[v0_,.int .i64 r2])∧Kd.R (Kd.int .i64) 3 w' w0.heap.size (fun k_=>(P0_ k_∨w.heap.size≤k_)) v0_ r1∧Below w0.heap.size w0 w'∧Kept w w' (fun k_=>P0_ k_):=by
 have HO0:=aM (show Kd.R (Kd.int .i64) 3 w w0.heap.size (fun k_=>(P0_ k_∨w.heap.size≤k_)) u9000_ l0 from Kd.R_mono ho0 (fun k_ hk=>(.inl hk)))
 have HK:=aM (Kept.refl w (fun k_=>P0_ k_))
 have HW0:=aM hB.size;have HB:=aM hB;clear hB;have H:((Bzw.f k l0).bind fun t475=>(if(t475.length:Int) > 48 then(some (([]:List Int),2)) else(some (t475,0))))=some (r1,r2):=h
 clear h;replace H:=bS H;obtain⟨t475,A20,H⟩:=H;(try dsimp only at H);have A2:=aM A20;clear A20;by_cases c3:(t475.length:Int) > 48
 ·rw[if_pos c3] at H;have c3b0:decide (48 < (t475.length:Int))=true:=dE c3;have c3b1:decide (48 < t475.length)=true:=dE (by omega)
  clear c3;simp only[Option.some.injEq,Prod.mk.injEq] at H;obtain⟨rfl,rfl⟩:=H;obtain⟨Ao4,co4,eo4⟩:=Kd.R_slice HO0.out;subst eo4;go_enter Try.func70,Try.ntmps70
  go_wp2_with (first|((with_reducible refine gate_callee (f:=72) rfl ?_);refine goesL_ (some 6) rfl rfl Try.func72 (by kernel_rfl) rfl #[.slice Ao4 l0.length co4] rfl mA ?_;(with_reducible refine(Bzw.calls k (fun k_=>some k_=(.slice Ao4 l0.length co4:Value).ownBlock) (.slice Ao4 l0.length co4) l0 t475 w0 _ ?side1 ?side2 A2.out).mono ?_);(case side1=>repeat(first|(with_reducible first|exact HB.out|apply below_alloc|apply pw_below_drewN|apply below_drew1)|exact HB.out));(case side2=>exact Kd.R_tight rfl HO0.out);rintro e w5 ⟨v476,rfl,ho0,hb,hkp⟩;refine⟨_,rfl,?_⟩;have HO477:=aM (Kd.R_mono (ok':=fun k_=>(P0_ k_∨w.heap.size≤k_)) ho0 (fun k_ hk_=>Or.elim hk_ (fun hs_=>(HO0.out.1 k_ (hs_).symm)) (fun hn_=>(.inr (Nat.le_trans (by first|exact HK.out.1|exact(show Kept w _ (fun k_=>P0_ k_) from kK HK).1) hn_)))));replace HK:=aM (Kept.then_ (S:=(fun k_=>P0_ k_)) (kK HK) hkp (fun k_ hs_=>(fun e_=>(HO0.out.1 k_ e_.symm)) hs_));replace HB:=aM (hb);clear HO0;(try clear hb);(try clear hkp);(try clear ho0);obtain⟨Ao6,co6,eo6⟩:=Kd.R_slice HO477.out;subst eo6))
  go_ret2
  exact⟨_,eW,by first|exact Kd.R_nil _ _ _ _ _|exact Kd.N_nil _ _ _ _ _|exact Kd.V_nil _ _ _ _ _|exact Kd.Q_nil _ _ _ _ _|exact Kd.S_nil _ _ _ _ _,pB,kK HK⟩
 ·rw[if_neg c3] at H;have c3b0:decide (48 < (t475.length:Int))=false:=decide_eq_false c3;have c3b1:decide (48 < t475.length)=false:=decide_eq_false (by omega)
  clear c3;simp only[Option.some.injEq,Prod.mk.injEq] at H;obtain⟨rfl,rfl⟩:=H;obtain⟨Ao7,co7,eo7⟩:=Kd.R_slice HO0.out;subst eo7;go_enter Try.func70,Try.ntmps70
  go_wp2_with (first|((with_reducible refine gate_callee (f:=72) rfl ?_);refine goesL_ (some 6) rfl rfl Try.func72 (by kernel_rfl) rfl #[.slice Ao7 l0.length co7] rfl mA ?_;(with_reducible refine(Bzw.calls k (fun k_=>some k_=(.slice Ao7 l0.length co7:Value).ownBlock) (.slice Ao7 l0.length co7) l0 t475 w0 _ ?side1 ?side2 A2.out).mono ?_);(case side1=>repeat(first|(with_reducible first|exact HB.out|apply below_alloc|apply pw_below_drewN|apply below_drew1)|exact HB.out));(case side2=>exact Kd.R_tight rfl HO0.out);rintro e w8 ⟨v476,rfl,ho0,hb,hkp⟩;refine⟨_,rfl,?_⟩;have HO477:=aM (Kd.R_mono (ok':=fun k_=>(P0_ k_∨w.heap.size≤k_)) ho0 (fun k_ hk_=>Or.elim hk_ (fun hs_=>(HO0.out.1 k_ (hs_).symm)) (fun hn_=>(.inr (Nat.le_trans (by first|exact HK.out.1|exact(show Kept w _ (fun k_=>P0_ k_) from kK HK).1) hn_)))));replace HK:=aM (Kept.then_ (S:=(fun k_=>P0_ k_)) (kK HK) hkp (fun k_ hs_=>(fun e_=>(HO0.out.1 k_ e_.symm)) hs_));replace HB:=aM (hb);clear HO0;(try clear hb);(try clear hkp);(try clear ho0);obtain⟨Ao9,co9,eo9⟩:=Kd.R_slice HO477.out;subst eo9))
  go_ret2
  exact⟨_,eW,rX HO477.out,pB,kK HK⟩


mutual
def Bzp.j0:Nat→List Int→List Int→Bool→Option (List Int × Int)
 | 0,_,_,_=>none
 | k+1,x0,x1,x18=>if x18=true then(some (([]:List Int),3)) else(if 0≤(wrap64 ((wrap64 ((x0.length:Int)+(x1.length:Int)))+1)) then(if(wrap64 ((wrap64 ((x0.length:Int)+(x1.length:Int)))+1):Int).toNat≤35184372088832 then(Bzp.l0 k x0 x1 (List.replicate (wrap64 ((wrap64 ((x0.length:Int)+(x1.length:Int)))+1):Int).toNat 0) (x0.length:Int) 0) else(none)) else(none))
def Bzp.l0:Nat→List Int→List Int→List Int→Int→Int→Option (List Int × Int)
 | 0,_,_,_,_,_=>none
 | k+1,x0,x1,x6,x27,x28=>if x28 < x27 then(Bzp.l1 k x0 x1 x6 x28 0 x27 x28 (x1.length:Int) 0) else((Dzy.f k x6).bind fun bt483=>(some (bt483.1,bt483.2)))
def Bzp.l1:Nat→List Int→List Int→List Int→Int→Int→Int→Int→Int→Int→Option (List Int × Int)
 | 0,_,_,_,_,_,_,_,_,_=>none
 | k+1,x0,x1,x6,x7,x8,x27,x28,x32,x33=>if x33 < x32 then(if 0≤(wrap64 (x7+x33)) then(if(wrap64 (x7+x33)) < (x6.length:Int) then(if 0≤x7 then(if x7 < (x0.length:Int) then(if 0≤x33 then(if x33 < (x1.length:Int) then(Bzp.l1 k x0 x1 (x6.set ((wrap64 (x7+x33)):Int).toNat (Int.tmod (wrap64 ((wrap64 ((rd x6 (wrap64 (x7+x33)))+(wrap64 ((rd x0 x7) * (rd x1 x33)))))+x8)) 1000000000)) x7 (wrap64 (Int.tdiv (wrap64 ((wrap64 ((rd x6 (wrap64 (x7+x33)))+(wrap64 ((rd x0 x7) * (rd x1 x33)))))+x8)) 1000000000)) x27 x28 x32 (wrap64 (x33+1))) else(none)) else(none)) else(none)) else(none)) else(none)) else(none)) else(if 0≤(wrap64 (x7+(x1.length:Int))) then(if(wrap64 (x7+(x1.length:Int))) < (x6.length:Int) then(Bzp.l0 k x0 x1 (x6.set ((wrap64 (x7+(x1.length:Int))):Int).toNat x8) x27 (wrap64 (x28+1))) else(none)) else(none))
end
def Bzp.f (k:Nat) (l0:List Int) (l1:List Int):Option (List Int × Int):=(Azk.f k l0).bind fun t478=>(if t478=true then((Azk.f k l1).bind fun t479=>(Bzp.j0 k l0 l1 (!t479))) else(Bzp.j0 k l0 l1 true))
theorem Bzp.mono_l:∀ k,(∀ y0 y1 y2,LeO (Bzp.j0 k y0 y1 y2) (Bzp.j0 (k+1) y0 y1 y2))∧(∀ y0 y1 y2 y3 y4,LeO (Bzp.l0 k y0 y1 y2 y3 y4) (Bzp.l0 (k+1) y0 y1 y2 y3 y4))∧(∀ y0 y1 y2 y3 y4 y5 y6 y7 y8,LeO (Bzp.l1 k y0 y1 y2 y3 y4 y5 y6 y7 y8) (Bzp.l1 (k+1) y0 y1 y2 y3 y4 y5 y6 y7 y8))
 | 0=>⟨fun _ _ _ r h=>by simp [Bzp.j0] at h,fun _ _ _ _ _ r h=>by simp [Bzp.l0] at h,fun _ _ _ _ _ _ _ _ _ r h=>by simp [Bzp.l1] at h⟩
 | k+1=>by
  obtain⟨ih0,ih1,ih2⟩:=Bzp.mono_l k;refine⟨?_,?_,?_⟩
  ·intro y0 y1 y2;unfold Bzp.j0;with_reducible repeat' first|exact ih0 _ _ _|exact ih1 _ _ _ _ _|exact ih2 _ _ _ _ _ _ _ _ _|exact Azk.mono _ _|exact Dzy.mono _ _|exact LeO.refl _|exact LeO.none _|refine LeO.ite ?_ ?_|refine LeO.bind ?_ (fun _=>?_)
  ·intro y0 y1 y2 y3 y4;unfold Bzp.l0;with_reducible repeat' first|exact ih0 _ _ _|exact ih1 _ _ _ _ _|exact ih2 _ _ _ _ _ _ _ _ _|exact Azk.mono _ _|exact Dzy.mono _ _|exact LeO.refl _|exact LeO.none _|refine LeO.ite ?_ ?_|refine LeO.bind ?_ (fun _=>?_)
  ·intro y0 y1 y2 y3 y4 y5 y6 y7 y8;unfold Bzp.l1;with_reducible repeat' first|exact ih0 _ _ _|exact ih1 _ _ _ _ _|exact ih2 _ _ _ _ _ _ _ _ _|exact Azk.mono _ _|exact Dzy.mono _ _|exact LeO.refl _|exact LeO.none _|refine LeO.ite ?_ ?_|refine LeO.bind ?_ (fun _=>?_)
theorem Bzp.mono:∀ a0 a1 k,LeO (Bzp.f k a0 a1) (Bzp.f (k+1) a0 a1):=by
 intro a0 a1 k;obtain⟨ih0,ih1,ih2⟩:=Bzp.mono_l k;unfold Bzp.f;with_reducible repeat' first|exact ih0 _ _ _|exact ih1 _ _ _ _ _|exact ih2 _ _ _ _ _ _ _ _ _|exact Azk.mono _ _|exact Dzy.mono _ _|exact LeO.refl _|exact LeO.none _|refine LeO.ite ?_ ?_|refine LeO.bind ?_ (fun _=>?_)
theorem Bzp.calls (k:Nat) (A0:Option Addr) (c0:Nat) (l0:List Int) (A1:Option Addr) (c1:Nat) (l1:List Int) (r1:List Int) (r2:Int) (w:World) (hr0:Kd.C (Kd.int .i64) w A0 l0.length l0) (hc0:l0.length≤c0) (hr1:Kd.C (Kd.int .i64) w A1 l1.length l1) (hc1:l1.length≤c1) (h:Bzp.f k l0 l1=some (r1,r2)) :
  Calls Try.prog 68 #[.slice A0 l0.length c0,.slice A1 l1.length c1] w fun e w'=>∃ v0_:Value,e=.returned (.tuple #[v0_,.int .i64 r2])∧Kd.R (Kd.int .i64) 3 w' w.heap.size (fun _=>True) v0_ r1∧Below w.heap.size w w':=by
 have HR0:=aM hr0;have HC0:=aM hc0;clear hr0 hc0;have HR1:=aM hr1;have HC1:=aM hc1;clear hr1 hc1;have HB:=aM (Below.refl w.heap.size w);have H:((Azk.f k l0).bind fun t478=>(if t478=true then((Azk.f k l1).bind fun t479=>(Bzp.j0 k l0 l1 (!t479))) else(Bzp.j0 k l0 l1 true)))=some (r1,r2):=h
 clear h;have HC3:=aM H;clear H;go_enter Try.func68,Try.ntmps68
 go_upto_region 1 with (fail)
 repeat(go_quiet (fail);go_upto_region 1 with (fail))
 go_cut [18] (fun v18 wc=>∃ (kq:Nat) (x18_2:Bool),v18=.bool x18_2∧Aside0 (Bzp.j0 kq l0 l1 x18_2=some (r1,r2))∧Aside0 (kq≤k)∧Aside0 (Below w.heap.size w wc))
 case first =>
  have H:=HC3.out;clear HC3;replace H:=bS H;obtain⟨t478,A40,H⟩:=H;(try dsimp only at H);have A4:=aM A40;clear A40;by_cases c5:t478=true
  ·subst c5;rw[if_pos rfl] at H;replace H:=bS H;obtain⟨t479,A60,H⟩:=H;(try dsimp only at H);have A6:=aM A60;clear A60;have H':=aM H;clear H;have fl_:True:=trivial;repeat((first|clear fl_|go_quiet (first|(go_at_call 65;(with_reducible refine(Azk.calls k _ _ l0 true _ ?side1 ?side2 A4.out).mono ?_);(case side1=>exact cX (Kd.C_below HR0.out HB.out));(case side2=>exact HC0.out);rintro e w' ⟨rfl,⟨nd,rfl⟩⟩;(try first|exact⟨rfl,_,World.drewN_drewN _ _ _⟩|exact⟨rfl,_,Eq.trans (World.drewN_drewN _ _ _) (congrArg (World.drewN _) (Nat.add_assoc _ _ _))⟩))|(go_at_call 65;(with_reducible refine(Azk.calls k _ _ l1 t479 _ ?side1 ?side2 A6.out).mono ?_);(case side1=>repeat(first|exact(Kd.C_below HR1.out pB)|(with_reducible refine Kd.C_alloc ?_ _)|(with_reducible refine Kd.C_drewN ?_ _)|(with_reducible refine Kd.C_drew ?_)));(case side2=>exact HC1.out);rintro e w' ⟨rfl,⟨nd,rfl⟩⟩;(try first|exact⟨rfl,_,World.drewN_drewN _ _ _⟩|exact⟨rfl,_,Eq.trans (World.drewN_drewN _ _ _) (congrArg (World.drewN _) (Nat.add_assoc _ _ _))⟩))));go_wp2_with (first|(go_at_call 65;(with_reducible refine(Azk.calls k _ _ l0 true _ ?side1 ?side2 A4.out).mono ?_);(case side1=>exact cX (Kd.C_below HR0.out HB.out));(case side2=>exact HC0.out);rintro e w' ⟨rfl,⟨nd,rfl⟩⟩;(try first|exact⟨rfl,_,World.drewN_drewN _ _ _⟩|exact⟨rfl,_,Eq.trans (World.drewN_drewN _ _ _) (congrArg (World.drewN _) (Nat.add_assoc _ _ _))⟩))|(go_at_call 65;(with_reducible refine(Azk.calls k _ _ l1 t479 _ ?side1 ?side2 A6.out).mono ?_);(case side1=>repeat(first|exact(Kd.C_below HR1.out pB)|(with_reducible refine Kd.C_alloc ?_ _)|(with_reducible refine Kd.C_drewN ?_ _)|(with_reducible refine Kd.C_drew ?_)));(case side2=>exact HC1.out);rintro e w' ⟨rfl,⟨nd,rfl⟩⟩;(try first|exact⟨rfl,_,World.drewN_drewN _ _ _⟩|exact⟨rfl,_,Eq.trans (World.drewN_drewN _ _ _) (congrArg (World.drewN _) (Nat.add_assoc _ _ _))⟩))))
   go_meet
   case rel=>exact⟨_,(!t479),sD,H',⟨by first|omega|exact Nat.le_refl _⟩,⟨pB⟩⟩
  ·replace c5:=Bool.eq_false_iff.mpr c5;subst c5;rw[if_neg (show ¬ (false=true) by decide)] at H
   have H':=aM H;clear H;have fl_:True:=trivial;repeat((first|clear fl_|go_quiet (first|(go_at_call 65;(with_reducible refine(Azk.calls k _ _ l0 false _ ?side1 ?side2 A4.out).mono ?_);(case side1=>exact cX (Kd.C_below HR0.out HB.out));(case side2=>exact HC0.out);rintro e w' ⟨rfl,⟨nd,rfl⟩⟩;(try first|exact⟨rfl,_,World.drewN_drewN _ _ _⟩|exact⟨rfl,_,Eq.trans (World.drewN_drewN _ _ _) (congrArg (World.drewN _) (Nat.add_assoc _ _ _))⟩))));go_wp2_with (first|(go_at_call 65;(with_reducible refine(Azk.calls k _ _ l0 false _ ?side1 ?side2 A4.out).mono ?_);(case side1=>exact cX (Kd.C_below HR0.out HB.out));(case side2=>exact HC0.out);rintro e w' ⟨rfl,⟨nd,rfl⟩⟩;(try first|exact⟨rfl,_,World.drewN_drewN _ _ _⟩|exact⟨rfl,_,Eq.trans (World.drewN_drewN _ _ _) (congrArg (World.drewN _) (Nat.add_assoc _ _ _))⟩))))
   go_meet
   case rel=>exact⟨_,(true),sD,H',⟨by first|omega|exact Nat.le_refl _⟩,⟨pB⟩⟩
 case rest =>
  clear HC3;try clear c1
  try clear p2
  try clear c5
  try clear c6
  obtain⟨kq,x18_2,rfl,HA,HJ2,HB⟩:=hcut;cases kq with
  | zero=>exact absurd HA.out (by simp [Bzp.j0])
  | succ kj2 =>
   have H:=HA.out;clear HA;simp only[Bzp.j0] at H;by_cases c7:x18_2=true
   ·subst c7;rw[if_pos rfl] at H;simp only[Option.some.injEq,Prod.mk.injEq] at H;obtain⟨rfl,rfl⟩:=H;go_wp2
    repeat(go_quiet (fail);try go_wp2)
    go_ret2
    exact⟨_,eW,by first|exact Kd.R_nil _ _ _ _ _|exact Kd.N_nil _ _ _ _ _|exact Kd.V_nil _ _ _ _ _|exact Kd.Q_nil _ _ _ _ _|exact Kd.S_nil _ _ _ _ _,pB⟩
   ·replace c7:=Bool.eq_false_iff.mpr c7;subst c7;rw[if_neg (show ¬ (false=true) by decide)] at H
    obtain⟨ji8,hji8⟩:∃ j_:Int,(wrap64 ((wrap64 ((l0.length:Int)+(l1.length:Int)))+1))=j_:=⟨_,rfl⟩;replace H:(if 0≤(ji8) then(if(ji8:Int).toNat≤35184372088832 then(Bzp.l0 kj2 l0 l1 (List.replicate (ji8:Int).toNat 0) (l0.length:Int) 0) else(none)) else(none))=some (r1,r2):=by first|(rw[hji8] at H;exact H)|(simp only[hji8] at H ⊢;exact H)
    have hji8w:(IntKind.i64.wrap ((wrap64 ((l0.length:Int)+(l1.length:Int)))+1))=ji8:=(i64_w _).trans hji8;by_cases c9:0≤(ji8)
    ·rw[if_pos c9] at H;have c9b0:=eq_true c9;have c9b1:decide (0≤(ji8))=true:=dE c9;clear c9;by_cases c10:(ji8:Int).toNat≤35184372088832
     ·rw[if_pos c10] at H;have c10b0:=eq_true c10;have c10b1:decide ((ji8:Int).toNat≤35184372088832)=true:=dE c10;clear c10;obtain⟨y480,hy480⟩:∃ y_:List Int,y_=(List.replicate (ji8:Int).toNat 0):=⟨_,rfl⟩;replace H:(Bzp.l0 kj2 l0 l1 y480 (l0.length:Int) 0)=some (r1,r2):=by first|(rw[hy480];with_reducible exact H)|(have H2_:=(Option.bind_some _ _).symm.trans H;rw[hy480];with_reducible exact H2_)|(have H2_:=(Option.bind_some _ _).symm.trans H;with_reducible exact H2_)|with_reducible exact H|(rw[hy480];exact H)|exact H
      have Ny480:=aM hy480;clear hy480;have H':=aM H;clear H;have fl_:True:=trivial;repeat((first|clear fl_|go_quiet (first|((with_reducible refine gate_dst (N:=25) rfl ?_);refine Kd.R_make (Kd.int .i64) _ 3 rfl (N:=25) rfl 22 _ _ rfl ji8 rfl rfl Try.underlying22 (.int .i64 0) 8 info3 rfl (by decide) (by omega) 0 (ok:=fun _=>True) (okp:=fun _=>True) rfl (fun _ hk=>hk) trivial (oE aS) (Nat.le_trans (Nat.mul_le_mul_right _ (oE aS:ji8.toNat≤35184372088832)) (by omega)) (Below.refl _ _) (Nat.le_refl _) ?_;intro v481 w11 ho12 hb hg_ hnew_;clear hg_ hnew_;(first|rw[← Ny480.out] at ho12|(simp only[Int.reduceToNat] at ho12;rw[← Ny480.out] at ho12));have HO482:=aM (Kd.R_lower ho12 (below_size pB));replace HB:=aM (below_step pB hb);clear hb ho12)));go_wp2_with (first|((with_reducible refine gate_dst (N:=25) rfl ?_);refine Kd.R_make (Kd.int .i64) _ 3 rfl (N:=25) rfl 22 _ _ rfl ji8 rfl rfl Try.underlying22 (.int .i64 0) 8 info3 rfl (by decide) (by omega) 0 (ok:=fun _=>True) (okp:=fun _=>True) rfl (fun _ hk=>hk) trivial (oE aS) (Nat.le_trans (Nat.mul_le_mul_right _ (oE aS:ji8.toNat≤35184372088832)) (by omega)) (Below.refl _ _) (Nat.le_refl _) ?_;intro v481 w11 ho12 hb hg_ hnew_;clear hg_ hnew_;(first|rw[← Ny480.out] at ho12|(simp only[Int.reduceToNat] at ho12;rw[← Ny480.out] at ho12));have HO482:=aM (Kd.R_lower ho12 (below_size pB));replace HB:=aM (below_step pB hb);clear hb ho12)))
      go_loopg [28] kj2 (fun kq v28 w'=>∃ (x6_2:List Int) (x28_2:Int),v28=.int .i64 x28_2∧Aside0 (Bzp.l0 kq l0 l1 x6_2 (l0.length:Int) x28_2=some (r1,r2))∧Aside0 (kq≤kj2)∧Aside0 (Kd.R (Kd.int .i64) 3 w' w.heap.size (fun _=>True) v481 x6_2)∧Aside0 (Below w.heap.size w w'))
      case atStart=>exact⟨(y480),(0),sD,H',⟨Nat.le_refl _⟩,⟨rX HO482.out⟩,⟨pB⟩⟩
      case round =>
       clear H';try clear c1
       try clear p2
       try clear c5
       try clear c6
       try clear p6
       try clear c7
       try clear c9
       try clear c9b0
       try clear c9b1
       try clear c10
       try clear c10b0
       try clear c10b1
       try clear p2
       obtain⟨x6_2,x28_2,rfl,HA,HK2,HO_6,HB⟩:=hrel;cases gk with
       | zero=>exact absurd HA.out (by simp [Bzp.l0])
       | succ k2 =>
        have H:=HA.out;clear HA;simp only[Bzp.l0] at H;by_cases c13:x28_2 < (l0.length:Int)
        ·rw[if_pos c13] at H;have c13b0:decide (x28_2 < (l0.length:Int))=true:=dE c13;clear c13;have H':=aM H;clear H;go_wp2
         repeat(go_quiet (fail);try go_wp2)
         go_loopg [8,33] k2 (fun kq v8 v33 w'=>∃ (x6_3:List Int) (x8_3:Int) (x33_3:Int),v8=.int .i64 x8_3∧v33=.int .i64 x33_3∧Aside0 (Bzp.l1 kq l0 l1 x6_3 x28_2 x8_3 (l0.length:Int) x28_2 (l1.length:Int) x33_3=some (r1,r2))∧Aside0 (kq≤k2)∧Aside0 (Kd.R (Kd.int .i64) 3 w' w.heap.size (fun _=>True) v481 x6_3)∧Aside0 (Below w.heap.size w w'))
         case atStart=>exact⟨(x6_2),(0),(0),sD,sD,H',⟨Nat.le_refl _⟩,⟨rX HO_6.out⟩,⟨pB⟩⟩
         case round =>
          clear H';try clear c1
          try clear p2
          try clear c5
          try clear c6
          try clear p6
          try clear c7
          try clear c9
          try clear c9b0
          try clear c9b1
          try clear c10
          try clear c10b0
          try clear c10b1
          try clear c13
          try clear c13b0
          try clear p2
          try clear p6
          obtain⟨x6_3,x8_3,x33_3,rfl,rfl,HA,HK3,HO_6,HB⟩:=hrel;cases gk with
          | zero=>exact absurd HA.out (by simp [Bzp.l1])
          | succ k3 =>
           have H:=HA.out;clear HA;simp only[Bzp.l1] at H;by_cases c14:x33_3 < (l1.length:Int)
           ·rw[if_pos c14] at H;have c14b0:decide (x33_3 < (l1.length:Int))=true:=dE c14;clear c14;obtain⟨ji15,hji15⟩:∃ j_:Int,(wrap64 (x28_2+x33_3))=j_:=⟨_,rfl⟩;replace H:(if 0≤(ji15) then(if(ji15) < (x6_3.length:Int) then(if 0≤x28_2 then(if x28_2 < (l0.length:Int) then(if 0≤x33_3 then(if x33_3 < (l1.length:Int) then(Bzp.l1 k3 l0 l1 (x6_3.set ((ji15):Int).toNat (Int.tmod (wrap64 ((wrap64 ((rd x6_3 (ji15))+(wrap64 ((rd l0 x28_2) * (rd l1 x33_3)))))+x8_3)) 1000000000)) x28_2 (wrap64 (Int.tdiv (wrap64 ((wrap64 ((rd x6_3 (ji15))+(wrap64 ((rd l0 x28_2) * (rd l1 x33_3)))))+x8_3)) 1000000000)) (l0.length:Int) x28_2 (l1.length:Int) (wrap64 (x33_3+1))) else(none)) else(none)) else(none)) else(none)) else(none)) else(none))=some (r1,r2):=by first|(rw[hji15] at H;exact H)|(simp only[hji15] at H ⊢;exact H)
            have hji15w:(IntKind.i64.wrap (x28_2+x33_3))=ji15:=(i64_w _).trans hji15;by_cases c16:0≤(ji15)
            ·rw[if_pos c16] at H;have c16b0:decide (0≤(ji15))=true:=dE c16;clear c16;by_cases c17:(ji15) < (x6_3.length:Int)
             ·rw[if_pos c17] at H;have c17b0:decide ((ji15) < (x6_3.length:Int))=true:=dE c17;clear c17;by_cases c18:0≤x28_2
              ·rw[if_pos c18] at H;have c18b0:decide (0≤x28_2)=true:=dE c18;clear c18;by_cases c19:x28_2 < (l0.length:Int)
               ·rw[if_pos c19] at H;have c19b0:decide (x28_2 < (l0.length:Int))=true:=dE c19;clear c19;by_cases c20:0≤x33_3
                ·rw[if_pos c20] at H;have c20b0:decide (0≤x33_3)=true:=dE c20;clear c20;by_cases c21:x33_3 < (l1.length:Int)
                 ·rw[if_pos c21] at H;have c21b0:decide (x33_3 < (l1.length:Int))=true:=dE c21;clear c21;obtain⟨y490,hy490⟩:∃ y_:List Int,y_=(x6_3.set ((ji15):Int).toNat (Int.tmod (wrap64 ((wrap64 ((rd x6_3 (ji15))+(wrap64 ((rd l0 x28_2) * (rd l1 x33_3)))))+x8_3)) 1000000000)):=⟨_,rfl⟩;replace H:(Bzp.l1 k3 l0 l1 y490 x28_2 (wrap64 (Int.tdiv (wrap64 ((wrap64 ((rd x6_3 (ji15))+(wrap64 ((rd l0 x28_2) * (rd l1 x33_3)))))+x8_3)) 1000000000)) (l0.length:Int) x28_2 (l1.length:Int) (wrap64 (x33_3+1)))=some (r1,r2):=by first|(rw[hy490];with_reducible exact H)|(have H2_:=(Option.bind_some _ _).symm.trans H;rw[hy490];with_reducible exact H2_)|(have H2_:=(Option.bind_some _ _).symm.trans H;with_reducible exact H2_)|with_reducible exact H|(rw[hy490];exact H)|exact H
                  have Ny490:=aM hy490;clear hy490;have H':=aM H;clear H;obtain⟨Ao23,co23,eo23⟩:=Kd.R_slice HO_6.out;subst eo23;have p487:0≤((ji15):Int):=oE aS
                  have q487:(ji15) < (x6_3.length:Int):=oE aS
                  obtain⟨ad487,e487,hx487_0⟩:=Kd.at_int (Kd.R_reads' HO_6.out).2.2 (ji15) p487 q487;cases e487
                  replace p487:=eq_true p487;replace q487:=eq_true q487;have p488:0≤(x28_2:Int):=oE aS
                  have q488:x28_2 < (l0.length:Int):=oE aS
                  obtain⟨ad488,e488,hx488_0⟩:=Kd.at_int HR0.out x28_2 p488 q488;cases e488
                  replace hx488_0:=(HB.out.cell (World.block_lt_of_cell? w _ hx488_0)).trans hx488_0;replace p488:=eq_true p488;replace q488:=eq_true q488;have p489:0≤(x33_3:Int):=oE aS
                  have q489:x33_3 < (l1.length:Int):=oE aS
                  obtain⟨ad489,e489,hx489_0⟩:=Kd.at_int HR1.out x33_3 p489 q489;cases e489
                  replace hx489_0:=(HB.out.cell (World.block_lt_of_cell? w _ hx489_0)).trans hx489_0;replace p489:=eq_true p489;replace q489:=eq_true q489;have p22:0≤((ji15):Int):=oE aS
                  have q22:((ji15):Int) < ((x6_3.length:Int):Int):=oE aS
                  obtain⟨go22,co22,eo22,gb22,gl22,cl22,HG22⟩:=Kd.R_form HO_6.out (by omega)
                  (first|cases eo22|(injection eo22 with ea_ en_ ec_;(first|subst ea_|(injection ea_ with ea_;subst ea_));subst ec_;clear en_))
                  have GB22:=aM gb22;have GG22:=aM HG22;clear gb22 gl22 HG22;(first|simp only[add_plain] at hx487_0|skip)
                  obtain⟨hx22_0,hf22_0⟩:=Kd.R_celln 0 HO_6.out ((ji15):Int) p22 q22;replace p22:=eq_true p22;replace q22:=eq_true q22;have HP24:=Kd.R_putg HO_6.out ((ji15):Int) (Int.tmod (wrap64 ((wrap64 ((rd x6_3 (ji15))+(wrap64 ((rd l0 x28_2) * (rd l1 x33_3)))))+x8_3)) 1000000000);have fl_:True:=trivial;repeat((first|clear fl_|go_quiet (first|((with_reducible refine gate_store (t:=3) (p:=62) rfl ?_);(try(rw[drewN_self wr];generalize hq_:World.drewN wr _=wr;have n0_:=aM (Kd.R_at hq_ HO_6.out);have n1_:=aM (below_at hq_ HB.out);clear hq_ HO_6 HB;have HO_6:=n0_;have HB:=n1_;clear n0_ n1_;(try(obtain⟨hx22_0,hf22_0⟩:=Kd.R_celln 0 HO_6.out ((ji15):Int) (of_eq_true p22) (of_eq_true q22)));(try(have HP24:=Kd.R_putg HO_6.out ((ji15):Int) (Int.tmod (wrap64 ((wrap64 ((rd x6_3 (ji15))+(wrap64 ((rd l0 x28_2) * (rd l1 x33_3)))))+x8_3)) 1000000000)))));refine store_event (t:=3) (p:=62) (v:=?vo_w25) (w1:=(wr.setCell ⟨go22,((ji15):Int).toNat,none⟩ (.int .i64 (Int.tmod (wrap64 ((wrap64 ((rd x6_3 (ji15))+(wrap64 ((rd l0 x28_2) * (rd l1 x33_3)))))+x8_3)) 1000000000)))) ?hg ?ho ?hn ?hr ?_;(case ho=>rfl);(case hg=>rfl);(case hn=>rfl);(case hr=>first|(go_simp;done)|(go_simp;rfl));intro w25 hw;have hg:wr.grownBy w25 (some go22):=(by rw[hw];exact HP24.2);have hp_:Kd.R (Kd.int .i64) 3 w25 w.heap.size (fun _=>True) (.slice (some ⟨go22,0,none⟩) x6_3.length co23) y490:=(by rw[hw,Ny490.out];exact HP24.1);clear HP24;replace HO_6:=aM (hp_);replace HB:=aM ((by rw[hw];exact below_set (HB.out) GB22.out:Below w.heap.size w w25));clear hg hw hp_)));go_wp2_with (first|((with_reducible refine gate_store (t:=3) (p:=62) rfl ?_);(try(rw[drewN_self wr];generalize hq_:World.drewN wr _=wr;have n0_:=aM (Kd.R_at hq_ HO_6.out);have n1_:=aM (below_at hq_ HB.out);clear hq_ HO_6 HB;have HO_6:=n0_;have HB:=n1_;clear n0_ n1_;(try(obtain⟨hx22_0,hf22_0⟩:=Kd.R_celln 0 HO_6.out ((ji15):Int) (of_eq_true p22) (of_eq_true q22)));(try(have HP24:=Kd.R_putg HO_6.out ((ji15):Int) (Int.tmod (wrap64 ((wrap64 ((rd x6_3 (ji15))+(wrap64 ((rd l0 x28_2) * (rd l1 x33_3)))))+x8_3)) 1000000000)))));refine store_event (t:=3) (p:=62) (v:=?vo_w25) (w1:=(wr.setCell ⟨go22,((ji15):Int).toNat,none⟩ (.int .i64 (Int.tmod (wrap64 ((wrap64 ((rd x6_3 (ji15))+(wrap64 ((rd l0 x28_2) * (rd l1 x33_3)))))+x8_3)) 1000000000)))) ?hg ?ho ?hn ?hr ?_;(case ho=>rfl);(case hg=>rfl);(case hn=>rfl);(case hr=>first|(go_simp;done)|(go_simp;rfl));intro w25 hw;have hg:wr.grownBy w25 (some go22):=(by rw[hw];exact HP24.2);have hp_:Kd.R (Kd.int .i64) 3 w25 w.heap.size (fun _=>True) (.slice (some ⟨go22,0,none⟩) x6_3.length co23) y490:=(by rw[hw,Ny490.out];exact HP24.1);clear HP24;replace HO_6:=aM (hp_);replace HB:=aM ((by rw[hw];exact below_set (HB.out) GB22.out:Below w.heap.size w w25));clear hg hw hp_)))
                  go_roundg k3
                  case measure=>have:=HJ2.out;have:=HK2.out;have:=HK3.out;omega
                  case rel=>exact⟨(y490),(wrap64 (Int.tdiv (wrap64 ((wrap64 ((rd x6_3 (ji15))+(wrap64 ((rd l0 x28_2) * (rd l1 x33_3)))))+x8_3)) 1000000000)),(wrap64 (x33_3+1)),(by first|rfl|(simp;done)|(simp only[← hji15] <;> (first|rfl|simp))|(simp [*];done)),sD,H',⟨by have:=HJ2.out;have:=HK2.out;have:=HK3.out;omega⟩,⟨rX HO_6.out⟩,⟨pB⟩⟩
                 ·rw[if_neg c21] at H;exact absurd H (by simp)
                ·rw[if_neg c20] at H;exact absurd H (by simp)
               ·rw[if_neg c19] at H;exact absurd H (by simp)
              ·rw[if_neg c18] at H;exact absurd H (by simp)
             ·rw[if_neg c17] at H;exact absurd H (by simp)
            ·rw[if_neg c16] at H;exact absurd H (by simp)
           ·rw[if_neg c14] at H;have c14b0:decide (x33_3 < (l1.length:Int))=false:=decide_eq_false c14;clear c14;obtain⟨ji26,hji26⟩:∃ j_:Int,(wrap64 (x28_2+(l1.length:Int)))=j_:=⟨_,rfl⟩;replace H:(if 0≤(ji26) then(if(ji26) < (x6_3.length:Int) then(Bzp.l0 k3 l0 l1 (x6_3.set ((ji26):Int).toNat x8_3) (l0.length:Int) (wrap64 (x28_2+1))) else(none)) else(none))=some (r1,r2):=by first|(rw[hji26] at H;exact H)|(simp only[hji26] at H ⊢;exact H)
            have hji26w:(IntKind.i64.wrap (x28_2+(l1.length:Int)))=ji26:=(i64_w _).trans hji26;by_cases c27:0≤(ji26)
            ·rw[if_pos c27] at H;have c27b0:decide (0≤(ji26))=true:=dE c27;clear c27;by_cases c28:(ji26) < (x6_3.length:Int)
             ·rw[if_pos c28] at H;have c28b0:decide ((ji26) < (x6_3.length:Int))=true:=dE c28;clear c28;obtain⟨y491,hy491⟩:∃ y_:List Int,y_=(x6_3.set ((ji26):Int).toNat x8_3):=⟨_,rfl⟩;replace H:(Bzp.l0 k3 l0 l1 y491 (l0.length:Int) (wrap64 (x28_2+1)))=some (r1,r2):=by first|(rw[hy491];with_reducible exact H)|(have H2_:=(Option.bind_some _ _).symm.trans H;rw[hy491];with_reducible exact H2_)|(have H2_:=(Option.bind_some _ _).symm.trans H;with_reducible exact H2_)|with_reducible exact H|(rw[hy491];exact H)|exact H
              have Ny491:=aM hy491;clear hy491;have H':=aM H;clear H;have p29:0≤((ji26):Int):=oE aS
              have q29:((ji26):Int) < ((x6_3.length:Int):Int):=oE aS
              obtain⟨go29,co29,eo29,gb29,gl29,cl29,HG29⟩:=Kd.R_form HO_6.out (by omega)
              (first|cases eo29|(injection eo29 with ea_ en_ ec_;(first|subst ea_|(injection ea_ with ea_;subst ea_));subst ec_;clear en_))
              have GB29:=aM gb29;have GG29:=aM HG29;clear gb29 gl29 HG29;obtain⟨hx29_0,hf29_0⟩:=Kd.R_celln 0 HO_6.out ((ji26):Int) p29 q29;replace p29:=eq_true p29;replace q29:=eq_true q29;have HP30:=Kd.R_putg HO_6.out ((ji26):Int) x8_3;have fl_:True:=trivial;repeat((first|clear fl_|go_quiet (first|((with_reducible refine gate_store (t:=3) (p:=70) rfl ?_);(try(rw[drewN_self wr];generalize hq_:World.drewN wr _=wr;have n0_:=aM (Kd.R_at hq_ HO_6.out);have n1_:=aM (below_at hq_ HB.out);clear hq_ HO_6 HB;have HO_6:=n0_;have HB:=n1_;clear n0_ n1_;(try(obtain⟨hx29_0,hf29_0⟩:=Kd.R_celln 0 HO_6.out ((ji26):Int) (of_eq_true p29) (of_eq_true q29)));(try(have HP30:=Kd.R_putg HO_6.out ((ji26):Int) x8_3))));refine store_event (t:=3) (p:=70) (v:=?vo_w31) (w1:=(wr.setCell ⟨go29,((ji26):Int).toNat,none⟩ (.int .i64 x8_3))) ?hg ?ho ?hn ?hr ?_;(case ho=>rfl);(case hg=>rfl);(case hn=>rfl);(case hr=>first|(go_simp;done)|(go_simp;rfl));intro w31 hw;have hg:wr.grownBy w31 (some go29):=(by rw[hw];exact HP30.2);have hp_:Kd.R (Kd.int .i64) 3 w31 w.heap.size (fun _=>True) (.slice (some ⟨go29,0,none⟩) x6_3.length co29) y491:=(by rw[hw,Ny491.out];exact HP30.1);clear HP30;replace HO_6:=aM (hp_);replace HB:=aM ((by rw[hw];exact below_set (HB.out) GB29.out:Below w.heap.size w w31));clear hg hw hp_)));go_wp2_with (first|((with_reducible refine gate_store (t:=3) (p:=70) rfl ?_);(try(rw[drewN_self wr];generalize hq_:World.drewN wr _=wr;have n0_:=aM (Kd.R_at hq_ HO_6.out);have n1_:=aM (below_at hq_ HB.out);clear hq_ HO_6 HB;have HO_6:=n0_;have HB:=n1_;clear n0_ n1_;(try(obtain⟨hx29_0,hf29_0⟩:=Kd.R_celln 0 HO_6.out ((ji26):Int) (of_eq_true p29) (of_eq_true q29)));(try(have HP30:=Kd.R_putg HO_6.out ((ji26):Int) x8_3))));refine store_event (t:=3) (p:=70) (v:=?vo_w31) (w1:=(wr.setCell ⟨go29,((ji26):Int).toNat,none⟩ (.int .i64 x8_3))) ?hg ?ho ?hn ?hr ?_;(case ho=>rfl);(case hg=>rfl);(case hn=>rfl);(case hr=>first|(go_simp;done)|(go_simp;rfl));intro w31 hw;have hg:wr.grownBy w31 (some go29):=(by rw[hw];exact HP30.2);have hp_:Kd.R (Kd.int .i64) 3 w31 w.heap.size (fun _=>True) (.slice (some ⟨go29,0,none⟩) x6_3.length co29) y491:=(by rw[hw,Ny491.out];exact HP30.1);clear HP30;replace HO_6:=aM (hp_);replace HB:=aM ((by rw[hw];exact below_set (HB.out) GB29.out:Below w.heap.size w w31));clear hg hw hp_)))
              go_roundg k3
              case measure=>have:=HJ2.out;have:=HK2.out;have:=HK3.out;omega
              case rel=>exact⟨(y491),(wrap64 (x28_2+1)),sD,H',⟨by have:=HJ2.out;have:=HK2.out;have:=HK3.out;omega⟩,⟨rX HO_6.out⟩,⟨pB⟩⟩
             ·rw[if_neg c28] at H;exact absurd H (by simp)
            ·rw[if_neg c27] at H;exact absurd H (by simp)
        ·rw[if_neg c13] at H;have c13b0:decide (x28_2 < (l0.length:Int))=false:=decide_eq_false c13;clear c13;replace H:=bS H;obtain⟨⟨t483,t486⟩,A320,H⟩:=H;replace H:(some (t483,t486))=some (r1,r2):=H;have A32:=aM A320;clear A320;simp only[Option.some.injEq,Prod.mk.injEq] at H;obtain⟨rfl,rfl⟩:=H;obtain⟨Ao33,co33,eo33⟩:=Kd.R_slice HO_6.out;subst eo33;have fl_:True:=trivial;repeat((first|clear fl_|go_quiet (first|(go_at_call 70;(with_reducible refine(Dzy.calls k2 (fun k_=>some k_=(.slice Ao33 x6_2.length co33:Value).ownBlock) (.slice Ao33 x6_2.length co33) x6_2 t483 t486 w _ ?side1 ?side2 A32.out).mono ?_);(case side1=>repeat(first|(with_reducible first|exact HB.out|apply below_alloc|apply pw_below_drewN|apply below_drew1)|exact HB.out));(case side2=>exact Kd.R_tight rfl HO_6.out);rintro e w34 ⟨v484,rfl,ho0,hb,hkp⟩;have HO485:=aM (Kd.R_mono (ok':=fun k_=>True) ho0 (fun k_ hk_=>trivial));replace HB:=aM (hb);clear HO_6;(try clear hb);(try clear hkp);(try clear ho0))));go_wp2_with (first|(go_at_call 70;(with_reducible refine(Dzy.calls k2 (fun k_=>some k_=(.slice Ao33 x6_2.length co33:Value).ownBlock) (.slice Ao33 x6_2.length co33) x6_2 t483 t486 w _ ?side1 ?side2 A32.out).mono ?_);(case side1=>repeat(first|(with_reducible first|exact HB.out|apply below_alloc|apply pw_below_drewN|apply below_drew1)|exact HB.out));(case side2=>exact Kd.R_tight rfl HO_6.out);rintro e w34 ⟨v484,rfl,ho0,hb,hkp⟩;have HO485:=aM (Kd.R_mono (ok':=fun k_=>True) ho0 (fun k_ hk_=>trivial));replace HB:=aM (hb);clear HO_6;(try clear hb);(try clear hkp);(try clear ho0))))
         go_ret2
         exact⟨_,by first|rfl|(simp [errW_none,errW_some] <;> rfl)|(simp only[← hji8];first|rfl|(simp [errW_none,errW_some] <;> rfl))|(simp [*,errW_none,errW_some] <;> rfl),rX HO485.out,pB⟩
     ·rw[if_neg c10] at H;exact absurd H (by simp)
    ·rw[if_neg c9] at H;exact absurd H (by simp)

end Go.Proofs.Ytokkiljkgejnhaa.Print
