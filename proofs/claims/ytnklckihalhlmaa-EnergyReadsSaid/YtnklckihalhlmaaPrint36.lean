import Derived.Test.YtnklckihalhlmaaPrint0
import Derived.Test.YtnklckihalhlmaaPrint31
import Derived.Test.YtnklckihalhlmaaPrint33
import Derived.Test.YtnklckihalhlmaaPrint34
namespace Go.Proofs.Ytnklckihalhlmaa.Print
open Go.RowKit Go.Proofs.YtnklckihalhlmaaW.PrintWords Go.Proofs.YtnklckihalhlmaaW.PrintLast Go.Proofs.YtnklckihalhlmaaW.PrintMore
attribute [local go_sem] max2_int min2_int max_two min_two max_three min_three max_four min_four
set_option linter.unusedVariables false
set_option maxRecDepth 100000
set_option maxHeartbeats 8000000
set_option linter.unusedSimpArgs false

mutual
def Azy.j0:Nat→List Int→List Int→Bool→Option (List Int × List Int × Int)
 | 0,_,_,_=>none
 | k+1,x0,x1,x18=>if x18=true then(some (([]:List Int),([]:List Int),3)) else(if(x1.length:Int)=0 then(some (([]:List Int),([]:List Int),16)) else(if 0≤(x0.length:Int) then(if((x0.length:Int):Int).toNat≤35184372088832 then(Azy.l0 k x0 x1 (List.replicate ((x0.length:Int):Int).toNat 0) ([]:List Int) (wrap64 ((x0.length:Int) - 1))) else(none)) else(none)))
def Azy.l0:Nat→List Int→List Int→List Int→List Int→Int→Option (List Int × List Int × Int)
 | 0,_,_,_,_,_=>none
 | k+1,x0,x1,x7,x8,x9=>if x9≥0 then(if 0≤x9 then(if x9 < (x0.length:Int) then((some (([rd x0 x9]:List Int):List Int)).bind fun y516=>(if y516.length+x8.length < 17592186044416 then((some (y516 ++ x8:List Int)).bind fun y519=>(if 0≤(wrap64 ((y519.length:Int) - 1)) then(if(wrap64 ((y519.length:Int) - 1)) < (y519.length:Int) then(if(rd y519 (wrap64 ((y519.length:Int) - 1)))=0 then(Azy.j2 k x0 x1 x7 ([]:List Int) x9) else(Azy.j2 k x0 x1 x7 y519 x9)) else(none)) else(none))) else(none))) else(none)) else(none)) else((Czq.f k x7).bind fun bt511=>(some (bt511.1,x8,0)))
def Azy.j2:Nat→List Int→List Int→List Int→List Int→Int→Option (List Int × List Int × Int)
 | 0,_,_,_,_,_=>none
 | k+1,x0,x1,x7,x8,x9=>(Bzf.f k x8 x1).bind fun t523=>(if 0≤x9 then(if x9 < (x7.length:Int) then((some (x7.set (x9:Int).toNat t523:List Int)).bind fun y524=>(if t523 > 0 then((Azk.f k x1 (([t523]:List Int))).bind fun t528=>((Bzb.f k x8 t528).bind fun t531=>(Azy.l0 k x0 x1 y524 t531 (wrap64 (x9 - 1))))) else(Azy.l0 k x0 x1 y524 x8 (wrap64 (x9 - 1))))) else(none)) else(none))
end
def Azy.f (k:Nat) (l0:List Int) (l1:List Int):Option (List Int × List Int × Int):=(Azx.f k l0).bind fun t506=>(if t506=true then((Azx.f k l1).bind fun t507=>(Azy.j0 k l0 l1 (!t507))) else(Azy.j0 k l0 l1 true))
theorem Azy.mono_l:∀ k,(∀ y0 y1 y2,LeO (Azy.j0 k y0 y1 y2) (Azy.j0 (k+1) y0 y1 y2))∧(∀ y0 y1 y2 y3 y4,LeO (Azy.l0 k y0 y1 y2 y3 y4) (Azy.l0 (k+1) y0 y1 y2 y3 y4))∧(∀ y0 y1 y2 y3 y4,LeO (Azy.j2 k y0 y1 y2 y3 y4) (Azy.j2 (k+1) y0 y1 y2 y3 y4))
 | 0=>⟨fun _ _ _ r h=>by simp [Azy.j0] at h,fun _ _ _ _ _ r h=>by simp [Azy.l0] at h,fun _ _ _ _ _ r h=>by simp [Azy.j2] at h⟩
 | k+1=>by
  obtain⟨ih0,ih1,ih2⟩:=Azy.mono_l k;refine⟨?_,?_,?_⟩
  ·intro y0 y1 y2;unfold Azy.j0;with_reducible repeat' first|exact ih0 _ _ _|exact ih1 _ _ _ _ _|exact ih2 _ _ _ _ _|exact Azx.mono _ _|exact Bzf.mono _ _ _|exact Czq.mono _ _|exact Bzb.mono _ _ _|exact Azk.mono _ _ _|exact LeO.refl _|exact LeO.none _|refine LeO.ite ?_ ?_|refine LeO.bind ?_ (fun _=>?_)
  ·intro y0 y1 y2 y3 y4;unfold Azy.l0;with_reducible repeat' first|exact ih0 _ _ _|exact ih1 _ _ _ _ _|exact ih2 _ _ _ _ _|exact Azx.mono _ _|exact Bzf.mono _ _ _|exact Czq.mono _ _|exact Bzb.mono _ _ _|exact Azk.mono _ _ _|exact LeO.refl _|exact LeO.none _|refine LeO.ite ?_ ?_|refine LeO.bind ?_ (fun _=>?_)
  ·intro y0 y1 y2 y3 y4;unfold Azy.j2;with_reducible repeat' first|exact ih0 _ _ _|exact ih1 _ _ _ _ _|exact ih2 _ _ _ _ _|exact Azx.mono _ _|exact Bzf.mono _ _ _|exact Czq.mono _ _|exact Bzb.mono _ _ _|exact Azk.mono _ _ _|exact LeO.refl _|exact LeO.none _|refine LeO.ite ?_ ?_|refine LeO.bind ?_ (fun _=>?_)
theorem Azy.mono:∀ a0 a1 k,LeO (Azy.f k a0 a1) (Azy.f (k+1) a0 a1):=by
 intro a0 a1 k;obtain⟨ih0,ih1,ih2⟩:=Azy.mono_l k;unfold Azy.f;with_reducible repeat' first|exact ih0 _ _ _|exact ih1 _ _ _ _ _|exact ih2 _ _ _ _ _|exact Azx.mono _ _|exact Bzf.mono _ _ _|exact Czq.mono _ _|exact Bzb.mono _ _ _|exact Azk.mono _ _ _|exact LeO.refl _|exact LeO.none _|refine LeO.ite ?_ ?_|refine LeO.bind ?_ (fun _=>?_)
theorem Azy.calls (k:Nat) (A0:Option Addr) (c0:Nat) (l0:List Int) (A1:Option Addr) (c1:Nat) (l1:List Int) (r1:List Int) (r2:List Int) (r3:Int) (w:World) (hr0:Kd.C (Kd.int .i64) w A0 l0.length l0) (hc0:l0.length≤c0) (hr1:Kd.C (Kd.int .i64) w A1 l1.length l1) (hc1:l1.length≤c1) (h:Azy.f k l0 l1=some (r1,r2,r3)) :
  Calls Try.prog 64 #[.slice A0 l0.length c0,.slice A1 l1.length c1] w fun e w'=>∃ v0_ v1_:Value,e=.returned (.tuple #[v0_,v1_,.int .i64 r3])∧Kd.R (Kd.int .i64) 3 w' w.heap.size (fun k_=>some k_≠(v1_:Value).ownBlock) v0_ r1∧Kd.R (Kd.int .i64) 3 w' w.heap.size (fun k_=>some k_≠(v0_:Value).ownBlock) v1_ r2∧Below w.heap.size w w':=by
 have HR0:=aM hr0;have HC0:=aM hc0;clear hr0 hc0;have HR1:=aM hr1;have HC1:=aM hc1;clear hr1 hc1;have HB:=aM (Below.refl w.heap.size w);have H:((Azx.f k l0).bind fun t506=>(if t506=true then((Azx.f k l1).bind fun t507=>(Azy.j0 k l0 l1 (!t507))) else(Azy.j0 k l0 l1 true)))=some (r1,r2,r3):=h
 clear h;have HC3:=aM H;clear H;go_enter Try.func64,Try.ntmps64
 go_upto_region 1 with (fail)
 go_cut [18] (fun v18 wc=>∃ (kq:Nat) (x18_2:Bool),v18=.bool x18_2∧Aside0 (Azy.j0 kq l0 l1 x18_2=some (r1,r2,r3))∧Aside0 (kq≤k)∧Aside0 (Below w.heap.size w wc))
 case first =>
  have H:=HC3.out;clear HC3;replace H:=bS H;obtain⟨t506,A40,H⟩:=H;(try dsimp only at H);have A4:=aM A40;clear A40;by_cases c5:t506=true
  ·subst c5;rw[if_pos rfl] at H;replace H:=bS H;obtain⟨t507,A60,H⟩:=H;(try dsimp only at H);have A6:=aM A60;clear A60;have H':=aM H;clear H;go_wp2_with (first|((with_reducible refine gate_callee (f:=42) rfl ?_);refine goesL_ (some 12) rfl rfl Try.func42 (by kernel_rfl) rfl #[.slice A0 l0.length c0] rfl mA ?_;(with_reducible refine(Azx.calls k _ _ l0 true _ ?side1 ?side2 A4.out).mono ?_);(case side1=>exact cX (Kd.C_below HR0.out HB.out));(case side2=>exact HC0.out);rintro e w' ⟨rfl,⟨nd,rfl⟩⟩;refine⟨_,rfl,?_⟩)|(go_at_call 42;(with_reducible refine(Azx.calls k _ _ l1 t507 _ ?side1 ?side2 A6.out).mono ?_);(case side1=>repeat(first|exact(Kd.C_below HR1.out pB)|(with_reducible refine Kd.C_alloc ?_ _)|(with_reducible refine Kd.C_drewN ?_ _)|(with_reducible refine Kd.C_drew ?_)));(case side2=>exact HC1.out);rintro e w' ⟨rfl,⟨nd,rfl⟩⟩))
   go_meet
   case rel=>exact⟨_,(!t507),sD,H',⟨by first|omega|exact Nat.le_refl _⟩,⟨pB⟩⟩
  ·replace c5:=Bool.eq_false_iff.mpr c5;subst c5;rw[if_neg (show ¬ (false=true) by decide)] at H
   have H':=aM H;clear H;go_wp2_with (first|((with_reducible refine gate_callee (f:=42) rfl ?_);refine goesL_ (some 12) rfl rfl Try.func42 (by kernel_rfl) rfl #[.slice A0 l0.length c0] rfl mA ?_;(with_reducible refine(Azx.calls k _ _ l0 false _ ?side1 ?side2 A4.out).mono ?_);(case side1=>exact cX (Kd.C_below HR0.out HB.out));(case side2=>exact HC0.out);rintro e w' ⟨rfl,⟨nd,rfl⟩⟩;refine⟨_,rfl,?_⟩))
   go_meet
   case rel=>exact⟨_,(true),sD,H',⟨by first|omega|exact Nat.le_refl _⟩,⟨pB⟩⟩
 case rest =>
  clear HC3;try clear c1
  try clear p2
  try clear c4
  try clear c5
  try clear c6
  obtain⟨kq,x18_2,rfl,HA,HJ2,HB⟩:=hcut;cases kq with
  | zero=>exact absurd HA.out (by simp [Azy.j0])
  | succ kj2 =>
   have H:=HA.out;clear HA;simp only[Azy.j0] at H;by_cases c7:x18_2=true
   ·subst c7;rw[if_pos rfl] at H;simp only[Option.some.injEq,Prod.mk.injEq] at H;obtain⟨rfl,rfl,rfl⟩:=H;go_wp2
    go_ret3
    exact⟨_,_,eW,by first|exact Kd.R_nil _ _ _ _ _|exact Kd.N_nil _ _ _ _ _|exact Kd.V_nil _ _ _ _ _|exact Kd.Q_nil _ _ _ _ _|exact Kd.S_nil _ _ _ _ _,by first|exact Kd.R_nil _ _ _ _ _|exact Kd.N_nil _ _ _ _ _|exact Kd.V_nil _ _ _ _ _|exact Kd.Q_nil _ _ _ _ _|exact Kd.S_nil _ _ _ _ _,pB⟩
   ·replace c7:=Bool.eq_false_iff.mpr c7;subst c7;rw[if_neg (show ¬ (false=true) by decide)] at H
    by_cases c8:(l1.length:Int)=0
    ·rw[if_pos c8] at H;have c8b0:((l1.length:Int) == 0)=true:=beq_iff_eq.mpr c8;have c8b1:((l1.length:Int) != 0)=false:=bne_eq_false_iff_eq.mpr c8;clear c8;simp only[Option.some.injEq,Prod.mk.injEq] at H;obtain⟨rfl,rfl,rfl⟩:=H;go_wp2
     go_ret3
     exact⟨_,_,eW,by first|exact Kd.R_nil _ _ _ _ _|exact Kd.N_nil _ _ _ _ _|exact Kd.V_nil _ _ _ _ _|exact Kd.Q_nil _ _ _ _ _|exact Kd.S_nil _ _ _ _ _,by first|exact Kd.R_nil _ _ _ _ _|exact Kd.N_nil _ _ _ _ _|exact Kd.V_nil _ _ _ _ _|exact Kd.Q_nil _ _ _ _ _|exact Kd.S_nil _ _ _ _ _,pB⟩
    ·rw[if_neg c8] at H;have c8b0:((l1.length:Int) == 0)=false:=beq_eq_false_iff_ne.mpr c8;have c8b1:((l1.length:Int) != 0)=true:=bne_iff_ne.mpr c8;have c8b2:¬ (l1=[]):=fun h_=>c8 (by rw[h_];rfl)
     by_cases c9:0≤(l0.length:Int)
     ·rw[if_pos c9] at H;have c9b0:=eq_true c9;have c9b1:decide (0≤(l0.length:Int))=true:=dE c9;clear c9;by_cases c10:((l0.length:Int):Int).toNat≤35184372088832
      ·rw[if_pos c10] at H;have c10b0:=eq_true c10;have c10b1:decide (((l0.length:Int):Int).toNat≤35184372088832)=true:=dE c10;clear c10;obtain⟨y508,hy508⟩:∃ y_:List Int,y_=(List.replicate ((l0.length:Int):Int).toNat 0):=⟨_,rfl⟩;replace H:(Azy.l0 kj2 l0 l1 y508 ([]:List Int) (wrap64 ((l0.length:Int) - 1)))=some (r1,r2,r3):=by first|(rw[hy508];with_reducible exact H)|(have H2_:=(Option.bind_some _ _).symm.trans H;rw[hy508];with_reducible exact H2_)|(have H2_:=(Option.bind_some _ _).symm.trans H;with_reducible exact H2_)|with_reducible exact H|(rw[hy508];exact H)|exact H
       have Ny508:=aM hy508;clear hy508;have H':=aM H;clear H;go_wp2_with (first|((with_reducible refine gate_dst (N:=24) rfl ?_);refine Kd.R_make (Kd.int .i64) _ 3 rfl (N:=24) rfl 37 _ _ rfl (l0.length:Int) rfl rfl Try.underlying37 (.int .i64 0) 8 info3 rfl (by decide) (by omega) 0 (ok:=fun _=>True) (okp:=fun _=>True) rfl (fun _ hk=>hk) trivial (oE aS) (Nat.le_trans (Nat.mul_le_mul_right _ (oE aS:(l0.length:Int).toNat≤35184372088832)) (by omega)) (Below.refl _ _) (Nat.le_refl _) ?_;intro v509 w11 ho12 hb hg_ hnew_;clear hg_ hnew_;(first|rw[← Ny508.out] at ho12|(simp only[Int.reduceToNat] at ho12;rw[← Ny508.out] at ho12));have HO510:=aM (Kd.R_lower ho12 (below_size pB));replace HB:=aM (below_step pB hb);clear hb ho12))
       go_loopg [8,9] kj2 (fun kq v8 v9 w'=>∃ (x7_2:List Int) (x8_2:List Int) (x9_2:Int),v9=.int .i64 x9_2∧Aside0 (Azy.l0 kq l0 l1 x7_2 x8_2 x9_2=some (r1,r2,r3))∧Aside0 (kq≤kj2)∧Aside0 (Kd.R (Kd.int .i64) 3 w' w.heap.size (fun k_=>some k_≠(v8:Value).ownBlock) v509 x7_2)∧Aside0 (Kd.R (Kd.int .i64) 3 w' w.heap.size (fun k_=>some k_≠(v509:Value).ownBlock) v8 x8_2)∧Aside0 (Below w.heap.size w w'))
       case atStart=>exact⟨(y508),(([]:List Int)),(wrap64 ((l0.length:Int) - 1)),sD,H',⟨Nat.le_refl _⟩,⟨by(with_reducible repeat(first|apply Kd.R_alloc|apply Kd.R_drewN|apply Kd.R_drew));exact Kd.R_mono HO510.out (fun _ hk=>(by simp [Value.ownBlock]))⟩,⟨by first|exact Kd.R_nil _ _ _ _ _|exact Kd.N_nil _ _ _ _ _|exact Kd.V_nil _ _ _ _ _|exact Kd.Q_nil _ _ _ _ _|exact Kd.S_nil _ _ _ _ _⟩,⟨pB⟩⟩
       case round =>
        clear H';try clear c1
        try clear p2
        try clear c4
        try clear c5
        try clear c6
        try clear p6
        try clear c7
        try clear c8
        try clear c8b0
        try clear c8b1
        try clear c8b2
        try clear c9
        try clear c9b0
        try clear c9b1
        try clear c10
        try clear c10b0
        try clear c10b1
        try clear p2
        obtain⟨x7_2,x8_2,x9_2,rfl,HA,HK2,HO_7,HO_8,HB⟩:=hrel;cases gk with
        | zero=>exact absurd HA.out (by simp [Azy.l0])
        | succ k2 =>
         have H:=HA.out;clear HA;simp only[Azy.l0] at H;by_cases c13:x9_2≥0
         ·rw[if_pos c13] at H;have c13b0:decide (0≤x9_2)=true:=dE c13;clear c13;by_cases c14:0≤x9_2
          ·rw[if_pos c14] at H;have c14b0:decide (0≤x9_2)=true:=dE c14;clear c14;by_cases c15:x9_2 < (l0.length:Int)
           ·rw[if_pos c15] at H;have c15b0:decide (x9_2 < (l0.length:Int))=true:=dE c15;clear c15;obtain⟨y516,hy516⟩:∃ y_:List Int,y_=(([rd l0 x9_2]:List Int)):=⟨_,rfl⟩;replace H:(if y516.length+x8_2.length < 17592186044416 then((some (y516 ++ x8_2:List Int)).bind fun y519=>(if 0≤(wrap64 ((y519.length:Int) - 1)) then(if(wrap64 ((y519.length:Int) - 1)) < (y519.length:Int) then(if(rd y519 (wrap64 ((y519.length:Int) - 1)))=0 then(Azy.j2 k2 l0 l1 x7_2 ([]:List Int) x9_2) else(Azy.j2 k2 l0 l1 x7_2 y519 x9_2)) else(none)) else(none))) else(none))=some (r1,r2,r3):=by first|(rw[hy516];with_reducible exact H)|(have H2_:=(Option.bind_some _ _).symm.trans H;rw[hy516];with_reducible exact H2_)|(have H2_:=(Option.bind_some _ _).symm.trans H;with_reducible exact H2_)|with_reducible exact H|(rw[hy516];exact H)|exact H
            have Ny516:=aM hy516;clear hy516;by_cases c16:y516.length+x8_2.length < 17592186044416
            ·rw[if_pos c16] at H;have LMc16:=aM c16;clear c16;obtain⟨y519,hy519⟩:∃ y_:List Int,y_=(y516 ++ x8_2):=⟨_,rfl⟩;replace H:(if 0≤(wrap64 ((y519.length:Int) - 1)) then(if(wrap64 ((y519.length:Int) - 1)) < (y519.length:Int) then(if(rd y519 (wrap64 ((y519.length:Int) - 1)))=0 then(Azy.j2 k2 l0 l1 x7_2 ([]:List Int) x9_2) else(Azy.j2 k2 l0 l1 x7_2 y519 x9_2)) else(none)) else(none))=some (r1,r2,r3):=by first|(rw[hy519];with_reducible exact H)|(have H2_:=(Option.bind_some _ _).symm.trans H;rw[hy519];with_reducible exact H2_)|(have H2_:=(Option.bind_some _ _).symm.trans H;with_reducible exact H2_)|with_reducible exact H|(rw[hy519];exact H)|exact H
             have Ny519:=aM hy519;clear hy519;obtain⟨ji17,hji17⟩:∃ j_:Int,(wrap64 ((y519.length:Int) - 1))=j_:=⟨_,rfl⟩;replace H:(if 0≤(ji17) then(if(ji17) < (y519.length:Int) then(if(rd y519 (ji17))=0 then(Azy.j2 k2 l0 l1 x7_2 ([]:List Int) x9_2) else(Azy.j2 k2 l0 l1 x7_2 y519 x9_2)) else(none)) else(none))=some (r1,r2,r3):=by first|(rw[hji17] at H;exact H)|(simp only[hji17] at H ⊢;exact H)
             have hji17w:(IntKind.i64.wrap ((y519.length:Int) - 1))=ji17:=(i64_w _).trans hji17;by_cases c18:0≤(ji17)
             ·rw[if_pos c18] at H;have c18b0:decide (0≤(ji17))=true:=dE c18;clear c18;by_cases c19:(ji17) < (y519.length:Int)
              ·rw[if_pos c19] at H;have c19b0:decide ((ji17) < (y519.length:Int))=true:=dE c19;clear c19;have HC20:=aM H;clear H;have p515:0≤(x9_2:Int):=oE aS
               have q515:x9_2 < (l0.length:Int):=oE aS
               obtain⟨ad515,e515,hx515_0⟩:=Kd.at_int HR0.out x9_2 p515 q515;cases e515
               replace hx515_0:=(HB.out.cell (World.block_lt_of_cell? w _ hx515_0)).trans hx515_0;replace p515:=eq_true p515;replace q515:=eq_true q515;go_upto_if 45 with (first|((with_reducible refine gate_dst (N:=36) rfl ?_);refine Kd.R_lit (Kd.int .i64) _ 3 ?hg (N:=36) ?hd (xs:=([rd l0 x9_2]:List Int)) (inner:=[.int .i64 (rd l0 x9_2)]) (ok:=fun _=>True) (okp:=fun _=>True) ?hr ?hp (fun _ hk=>hk) trivial (Below.refl _ _) (Nat.le_refl _) (by simp) ?_;(case hd=>rfl);(case hg=>rfl);(case hr=>first|(go_simp;done)|(go_simp;rfl));(case hp=>exact(Reps.one (show Kd.M (Kd.int .i64) _ _ _ (rd l0 x9_2) [.int .i64 (rd l0 x9_2)] from rfl) (Reps.none _ _)));intro v517 w21 ho22 hb hg_ hnew_;clear hg_ hnew_;(first|rw[← Ny516.out] at ho22|(simp only[Int.reduceToNat] at ho22;rw[← Ny516.out] at ho22));have HO518:=aM (Kd.R_lower (Kd.R_new' (Kd.R_new' ho22 (Kd.R_lt (rX HO_7.out))) (Kd.R_lt (rX HO_8.out))) (below_size pB));replace HO_7:=aM (Kd.R_elder' (rX HO_7.out) (Kd.R_base ho22) hb);replace HO_8:=aM (Kd.R_elder' (rX HO_8.out) (Kd.R_base ho22) hb);replace HB:=aM (below_step pB hb);clear hb ho22;obtain⟨Ao24,co24,eo24⟩:=Kd.R_slice HO_8.out;subst eo24)|((with_reducible refine gate_builtin (b:=.append) (xs:=#[.tmp 36,.tmp 37]) rfl ?_);at_builtin;refine Kd.R_append_rows (Kd.int .i64) (w0:=w) w.heap.size rfl (.tmp 36) (.tmp 37) 37 3 (.int .i64 0) 8 rfl Try.underlying37 info3 rfl (by decide) (by omega) v517 y516 x8_2 _ _ _ (fun k_=>some k_≠(v509:Value).ownBlock∧some k_≠(.slice Ao24 x8_2.length co24:Value).ownBlock) (fun _=>False) rfl rfl ?aO ?aR (fun _ _ h=>h) (fun _ h=>h.elim) ?aF ?aB ?aS ?aL ?_;(case aR=>repeat(first|exact(Kd.R_reads' HO_8.out).2.2|(with_reducible refine Kd.C_alloc ?_ _)|(with_reducible refine Kd.C_drewN ?_ _)|(with_reducible refine Kd.C_drew ?_)));(case aB=>exact pB);(case aF=>exact(fun k_ hk=>⟨Kd.fresh' (Kd.R_lt (rX HO_7.out)) k_ hk,Kd.fresh' (Kd.R_lt (rX HO_8.out)) k_ hk⟩));(case aO=>exact(rX (Kd.R_mono HO518.out (fun _ hk=>⟨hk.1.2,hk.2⟩))));(case aS=>exact(below_size pB));(case aL=>have:=LMc16.out;omega);intro v520 w23 ho hb hg hat;rw[← Ny519.out] at ho;have HO521:=aM (ho);replace HO_7:=aM (Kd.R_after (ok:=(fun k_=>some k_≠(.slice Ao24 x8_2.length co24:Value).ownBlock)) (rX HO_7.out) hg hat);replace HO_8:=aM (Kd.R_after (ok:=(fun k_=>some k_≠(v509:Value).ownBlock)) (rX HO_8.out) hg hat);replace HB:=aM (hb);clear HO518;clear ho hb hg hat;obtain⟨Ao25,co25,eo25⟩:=Kd.R_slice HO521.out;subst eo25;have p522:0≤((ji17):Int):=oE aS;have q522:(ji17) < (y519.length:Int):=oE aS;obtain⟨ad522,e522,hx522_0⟩:=Kd.at_int (Kd.R_reads' HO521.out).2.2 (ji17) p522 q522;cases e522;replace p522:=eq_true p522;replace q522:=eq_true q522))
               (try simp only[Act.put,sA,sZ,sC])
               go_cut [8] (fun v8 wc=>∃ (kq:Nat) (x8_19:List Int),Aside0 (Azy.j2 kq l0 l1 x7_2 x8_19 x9_2=some (r1,r2,r3))∧Aside0 (kq≤k2)∧Aside0 (Kd.R (Kd.int .i64) 3 wc w.heap.size (fun k_=>some k_≠(v8:Value).ownBlock) v509 x7_2)∧Aside0 (Kd.R (Kd.int .i64) 3 wc w.heap.size (fun k_=>some k_≠(v509:Value).ownBlock) v8 x8_19)∧Aside0 (Below w.heap.size w wc))
               case first =>
                have H:=HC20.out;clear HC20;by_cases c26:(rd y519 (ji17))=0
                ·rw[if_pos c26] at H;have c26b0:((rd y519 (ji17)) == 0)=true:=beq_iff_eq.mpr c26;have c26b1:((rd y519 (ji17)) != 0)=false:=bne_eq_false_iff_eq.mpr c26;clear c26;(first|rw[c26b0]|(simp only[i64_w,i32_w];rw[c26b0])|skip)
                 have H':=aM H;clear H;go_wp2
                 go_meet
                 case rel=>exact⟨_,(([]:List Int)),H',⟨by have:=HJ2.out;have:=HK2.out;first|omega|exact Nat.le_refl _⟩,⟨by(with_reducible repeat(first|apply Kd.R_alloc|apply Kd.R_drewN|apply Kd.R_drew));exact Kd.R_mono HO_7.out (fun _ hk=>(by simp [Value.ownBlock]))⟩,⟨by first|exact Kd.R_nil _ _ _ _ _|exact Kd.N_nil _ _ _ _ _|exact Kd.V_nil _ _ _ _ _|exact Kd.Q_nil _ _ _ _ _|exact Kd.S_nil _ _ _ _ _⟩,⟨pB⟩⟩
                ·rw[if_neg c26] at H;have c26b0:((rd y519 (ji17)) == 0)=false:=beq_eq_false_iff_ne.mpr c26;have c26b1:((rd y519 (ji17)) != 0)=true:=bne_iff_ne.mpr c26;(first|rw[c26b0]|(simp only[i64_w,i32_w];rw[c26b0])|skip)
                 have H':=aM H;clear H;go_wp2
                 go_meet
                 case rel=>exact⟨_,(y519),H',⟨by have:=HJ2.out;have:=HK2.out;first|omega|exact Nat.le_refl _⟩,⟨by(with_reducible repeat(first|apply Kd.R_alloc|apply Kd.R_drewN|apply Kd.R_drew));exact Kd.R_mono HO_7.out (fun _ hk=>hk.2)⟩,⟨by(with_reducible repeat(first|apply Kd.R_alloc|apply Kd.R_drewN|apply Kd.R_drew));exact Kd.R_mono HO521.out (fun _ hk=>hk.1)⟩,⟨pB⟩⟩
               case rest =>
                clear HC20;try clear c1
                try clear c2
                try clear p2
                try clear c4
                try clear c5
                try clear p5
                try clear q5
                try clear hx5
                try clear c6
                try clear p6
                try clear c7
                try clear c8
                try clear c8b0
                try clear c8b1
                try clear c8b2
                try clear c9
                try clear c9b0
                try clear c9b1
                try clear c10
                try clear c10b0
                try clear c10b1
                try clear c13
                try clear c13b0
                try clear c14
                try clear c14b0
                try clear c15
                try clear c15b0
                try clear c16
                try clear c18
                try clear c18b0
                try clear c19
                try clear c19b0
                try clear c26
                try clear c26b0
                try clear c26b1
                try clear hx515_0
                try clear hx522_0
                try clear p2
                try clear p515
                try clear p522
                try clear p6
                try clear q515
                try clear q522
                obtain⟨kq,x8_19,HA,HJ19,HO_7,HO_8,HB⟩:=hcut;cases kq with
                | zero=>exact absurd HA.out (by simp [Azy.j2])
                | succ kj19 =>
                 have H:=HA.out;clear HA;simp only[Azy.j2] at H;replace H:=bS H;obtain⟨t523,A270,H⟩:=H;(try dsimp only at H);have A27:=aM A270;clear A270;by_cases c28:0≤x9_2
                 ·rw[if_pos c28] at H;have c28b0:decide (0≤x9_2)=true:=dE c28;clear c28;by_cases c29:x9_2 < (x7_2.length:Int)
                  ·rw[if_pos c29] at H;have c29b0:decide (x9_2 < (x7_2.length:Int))=true:=dE c29;clear c29;obtain⟨y524,hy524⟩:∃ y_:List Int,y_=(x7_2.set (x9_2:Int).toNat t523):=⟨_,rfl⟩;replace H:(if t523 > 0 then((Azk.f kj19 l1 (([t523]:List Int))).bind fun t528=>((Bzb.f kj19 x8_19 t528).bind fun t531=>(Azy.l0 kj19 l0 l1 y524 t531 (wrap64 (x9_2 - 1))))) else(Azy.l0 kj19 l0 l1 y524 x8_19 (wrap64 (x9_2 - 1))))=some (r1,r2,r3):=by first|(rw[hy524];with_reducible exact H)|(have H2_:=(Option.bind_some _ _).symm.trans H;rw[hy524];with_reducible exact H2_)|(have H2_:=(Option.bind_some _ _).symm.trans H;with_reducible exact H2_)|with_reducible exact H|(rw[hy524];exact H)|exact H
                   have Ny524:=aM hy524;clear hy524;by_cases c31:t523 > 0
                   ·rw[if_pos c31] at H;have c31b0:decide (0 < t523)=true:=dE c31;clear c31;obtain⟨y525,hy525⟩:∃ y_:List Int,y_=(([t523]:List Int)):=⟨_,rfl⟩;replace H:((Azk.f kj19 l1 y525).bind fun t528=>((Bzb.f kj19 x8_19 t528).bind fun t531=>(Azy.l0 kj19 l0 l1 y524 t531 (wrap64 (x9_2 - 1)))))=some (r1,r2,r3):=by first|(rw[hy525];with_reducible exact H)|(have H2_:=(Option.bind_some _ _).symm.trans H;rw[hy525];with_reducible exact H2_)|(have H2_:=(Option.bind_some _ _).symm.trans H;with_reducible exact H2_)|with_reducible exact H|(rw[hy525];exact H)|exact H
                    have Ny525:=aM hy525;clear hy525;replace H:=bS H;obtain⟨t528,A320,H⟩:=H;(try dsimp only at H);have A32:=aM A320;clear A320;replace H:=bS H;obtain⟨t531,A330,H⟩:=H;(try dsimp only at H);have A33:=aM A330;clear A330;have H':=aM H;clear H;obtain⟨Ao34,co34,eo34⟩:=Kd.R_slice HO_8.out;subst eo34;go_wp2_with (first|((with_reducible refine gate_callee (f:=83) rfl ?_);refine goesL_ (some 48) rfl rfl Try.func83 (by kernel_rfl) rfl #[.slice Ao34 x8_19.length co34,.slice A1 l1.length c1] rfl mA ?_;(with_reducible refine(Bzf.calls kj19 _ _ x8_19 _ _ l1 t523 _ ?side1 ?side2 ?side3 ?side4 A27.out).mono ?_);(case side1=>repeat(first|exact(Kd.R_reads' HO_8.out).2.2|(with_reducible refine Kd.C_alloc ?_ _)|(with_reducible refine Kd.C_drewN ?_ _)|(with_reducible refine Kd.C_drew ?_)));(case side2=>exact(Kd.R_reads' HO_8.out).2.1);(case side3=>exact cX (Kd.C_below HR1.out HB.out));(case side4=>exact HC1.out);rintro e w35 ⟨rfl,hb⟩;refine⟨_,rfl,?_⟩;replace HO_7:=aM (Kd.R_below (rX HO_7.out) hb);replace HO_8:=aM (Kd.R_below (rX HO_8.out) hb);replace HB:=aM (below_step pB hb);(try clear hb);(try clear hb2);(try clear hk);(try clear hi);have p30:0≤(x9_2:Int):=oE aS;have q30:(x9_2:Int) < ((x7_2.length:Int):Int):=oE aS;obtain⟨go30,co30,eo30,gb30,gl30,cl30,HG30⟩:=Kd.R_form HO_7.out (by omega);(first|cases eo30|(injection eo30 with ea_ en_ ec_;(first|subst ea_|(injection ea_ with ea_;subst ea_));subst ec_;clear en_));have GB30:=aM gb30;have GG30:=aM HG30;clear gb30 gl30 HG30;obtain⟨hx30_0,hf30_0⟩:=Kd.R_celln 0 HO_7.out (x9_2:Int) p30 q30;replace p30:=eq_true p30;replace q30:=eq_true q30;obtain⟨hy36_,hz36_⟩:=Kd.R_celln 0 HO_7.out (x9_2:Int) (oE aS) (oE aS);have HP36:=Kd.R_putg HO_7.out (x9_2:Int) t523)|((with_reducible refine gate_store (t:=3) (p:=52) rfl ?_);refine store_event (t:=3) (p:=52) (v:=?vo_w37) (w1:=(w35.setCell ⟨go30,(x9_2:Int).toNat,none⟩ (.int .i64 t523))) ?hg ?ho ?hn ?hr ?_;(case ho=>rfl);(case hg=>rfl);(case hn=>rfl);(case hr=>first|(go_simp;done)|(go_simp;rfl));intro w37 hw;have hg:w35.grownBy w37 (some go30):=(by rw[hw];exact HP36.2);have hp_:Kd.R (Kd.int .i64) 3 w37 w.heap.size (fun k_=>some k_≠(.slice Ao34 x8_19.length co34:Value).ownBlock) (.slice (some ⟨go30,0,none⟩) x7_2.length co30) y524:=(by rw[hw,Ny524.out];exact HP36.1);clear HP36;replace HO_7:=aM (hp_);replace HO_8:=aM (Kd.R_after (v:=(.slice (some ⟨go30,0,none⟩) x7_2.length co30)) (v1:=(.slice (some ⟨go30,0,none⟩) x7_2.length co30)) (ok:=(fun _=>True)) (rX (Kd.R_mono HO_8.out (fun _ hk=>⟨trivial,hk⟩))) hg (.inl rfl));replace HB:=aM ((by rw[hw];exact below_set (HB.out) GB30.out:Below w.heap.size w w37));clear hg hw hp_)|((with_reducible refine gate_dst (N:=58) rfl ?_);refine Kd.R_lit (Kd.int .i64) _ 3 ?hg (N:=58) ?hd (xs:=([t523]:List Int)) (inner:=[.int .i64 t523]) (ok:=fun _=>True) (okp:=fun _=>True) ?hr ?hp (fun _ hk=>hk) trivial (Below.refl _ _) (Nat.le_refl _) (by simp) ?_;(case hd=>rfl);(case hg=>rfl);(case hr=>first|(go_simp;done)|(go_simp;rfl));(case hp=>exact(Reps.one (show Kd.M (Kd.int .i64) _ _ _ t523 [.int .i64 t523] from rfl) (Reps.none _ _)));intro v526 w38 ho39 hb hg_ hnew_;clear hg_ hnew_;(first|rw[← Ny525.out] at ho39|(simp only[Int.reduceToNat] at ho39;rw[← Ny525.out] at ho39));have HO527:=aM (Kd.R_lower (Kd.R_new' (Kd.R_new' ho39 (Kd.R_lt (rX HO_7.out))) (Kd.R_lt (rX HO_8.out))) (below_size pB));replace HO_7:=aM (Kd.R_elder' (rX HO_7.out) (Kd.R_base ho39) hb);replace HO_8:=aM (Kd.R_elder' (rX HO_8.out) (Kd.R_base ho39) hb);replace HB:=aM (below_step pB hb);clear hb ho39;obtain⟨Ao40,co40,eo40⟩:=Kd.R_slice HO527.out;subst eo40)|((with_reducible refine gate_callee (f:=66) rfl ?_);refine goesL_ (some 59) rfl rfl Try.func66 (by kernel_rfl) rfl #[.slice A1 l1.length c1,.slice Ao40 y525.length co40] rfl mA ?_;(with_reducible refine(Azk.calls kj19 _ _ l1 _ _ y525 t528 _ ?side1 ?side2 ?side3 ?side4 A32.out).mono ?_);(case side1=>exact cX (Kd.C_below HR1.out HB.out));(case side2=>exact HC1.out);(case side3=>repeat(first|exact(Kd.R_reads' HO527.out).2.2|(with_reducible refine Kd.C_alloc ?_ _)|(with_reducible refine Kd.C_drewN ?_ _)|(with_reducible refine Kd.C_drew ?_)));(case side4=>exact(Kd.R_reads' HO527.out).2.1);rintro e w41 ⟨v529,rfl,ho0,hb⟩;refine⟨_,rfl,?_⟩;have HO530:=aM (Kd.R_lower (Kd.R_new' (Kd.R_new' (Kd.R_new' ho0 (Kd.R_lt (rX HO_7.out))) (Kd.R_lt (rX HO_8.out))) (Kd.R_lt (rX HO527.out))) (below_size pB));replace HO_7:=aM (Kd.R_elder' (rX HO_7.out) (Kd.R_base ho0) hb);replace HO_8:=aM (Kd.R_elder' (rX HO_8.out) (Kd.R_base ho0) hb);replace HO527:=aM (Kd.R_elder' (rX HO527.out) (Kd.R_base ho0) hb);replace HB:=aM (below_step pB hb);(try clear hb);(try clear hb2);(try clear hk);(try clear hi);(try clear ho0);obtain⟨Ao42,co42,eo42⟩:=Kd.R_slice HO530.out;subst eo42)|((with_reducible refine gate_callee (f:=84) rfl ?_);refine goesL_ (some 60) rfl rfl Try.func84 (by kernel_rfl) rfl #[.slice Ao34 x8_19.length co34,.slice Ao42 t528.length co42] rfl mA ?_;(with_reducible refine(Bzb.calls kj19 _ _ x8_19 _ _ t528 t531 _ ?side1 ?side2 ?side3 ?side4 A33.out).mono ?_);(case side1=>repeat(first|exact(Kd.R_reads' HO_8.out).2.2|(with_reducible refine Kd.C_alloc ?_ _)|(with_reducible refine Kd.C_drewN ?_ _)|(with_reducible refine Kd.C_drew ?_)));(case side2=>exact(Kd.R_reads' HO_8.out).2.1);(case side3=>repeat(first|exact(Kd.R_reads' HO530.out).2.2|(with_reducible refine Kd.C_alloc ?_ _)|(with_reducible refine Kd.C_drewN ?_ _)|(with_reducible refine Kd.C_drew ?_)));(case side4=>exact(Kd.R_reads' HO530.out).2.1);rintro e w43 ⟨v532,rfl,ho0,hb⟩;refine⟨_,rfl,?_⟩;have HO533:=aM (Kd.R_lower (Kd.R_new' (Kd.R_new' (Kd.R_new' (Kd.R_new' ho0 (Kd.R_lt (rX HO_7.out))) (Kd.R_lt (rX HO_8.out))) (Kd.R_lt (rX HO527.out))) (Kd.R_lt (rX HO530.out))) (below_size pB));replace HO_7:=aM (Kd.R_elder' (rX HO_7.out) (Kd.R_base ho0) hb);replace HO_8:=aM (Kd.R_elder' (rX HO_8.out) (Kd.R_base ho0) hb);replace HO527:=aM (Kd.R_elder' (rX HO527.out) (Kd.R_base ho0) hb);replace HO530:=aM (Kd.R_elder' (rX HO530.out) (Kd.R_base ho0) hb);replace HB:=aM (below_step pB hb);(try clear hb);(try clear hb2);(try clear hk);(try clear hi);(try clear ho0)))
                    go_roundg kj19
                    case measure=>have:=HJ2.out;have:=HK2.out;have:=HJ19.out;omega
                    case rel=>exact⟨(y524),(t531),(wrap64 (x9_2 - 1)),sD,H',⟨by have:=HJ2.out;have:=HK2.out;have:=HJ19.out;omega⟩,⟨by(with_reducible repeat(first|apply Kd.R_alloc|apply Kd.R_drewN|apply Kd.R_drew));exact Kd.R_mono HO_7.out (fun _ hk=>hk.2)⟩,⟨by(with_reducible repeat(first|apply Kd.R_alloc|apply Kd.R_drewN|apply Kd.R_drew));exact Kd.R_mono HO533.out (fun _ hk=>hk.1.1.1.2)⟩,⟨pB⟩⟩
                   ·rw[if_neg c31] at H;have c31b0:decide (0 < t523)=false:=decide_eq_false c31;clear c31;have H':=aM H;clear H;obtain⟨Ao44,co44,eo44⟩:=Kd.R_slice HO_8.out;subst eo44;go_wp2_with (first|((with_reducible refine gate_callee (f:=83) rfl ?_);refine goesL_ (some 48) rfl rfl Try.func83 (by kernel_rfl) rfl #[.slice Ao44 x8_19.length co44,.slice A1 l1.length c1] rfl mA ?_;(with_reducible refine(Bzf.calls kj19 _ _ x8_19 _ _ l1 t523 _ ?side1 ?side2 ?side3 ?side4 A27.out).mono ?_);(case side1=>repeat(first|exact(Kd.R_reads' HO_8.out).2.2|(with_reducible refine Kd.C_alloc ?_ _)|(with_reducible refine Kd.C_drewN ?_ _)|(with_reducible refine Kd.C_drew ?_)));(case side2=>exact(Kd.R_reads' HO_8.out).2.1);(case side3=>exact cX (Kd.C_below HR1.out HB.out));(case side4=>exact HC1.out);rintro e w45 ⟨rfl,hb⟩;refine⟨_,rfl,?_⟩;replace HO_7:=aM (Kd.R_below (rX HO_7.out) hb);replace HO_8:=aM (Kd.R_below (rX HO_8.out) hb);replace HB:=aM (below_step pB hb);(try clear hb);(try clear hb2);(try clear hk);(try clear hi);have p30:0≤(x9_2:Int):=oE aS;have q30:(x9_2:Int) < ((x7_2.length:Int):Int):=oE aS;obtain⟨go30,co30,eo30,gb30,gl30,cl30,HG30⟩:=Kd.R_form HO_7.out (by omega);(first|cases eo30|(injection eo30 with ea_ en_ ec_;(first|subst ea_|(injection ea_ with ea_;subst ea_));subst ec_;clear en_));have GB30:=aM gb30;have GG30:=aM HG30;clear gb30 gl30 HG30;obtain⟨hx30_0,hf30_0⟩:=Kd.R_celln 0 HO_7.out (x9_2:Int) p30 q30;replace p30:=eq_true p30;replace q30:=eq_true q30;obtain⟨hy46_,hz46_⟩:=Kd.R_celln 0 HO_7.out (x9_2:Int) (oE aS) (oE aS);have HP46:=Kd.R_putg HO_7.out (x9_2:Int) t523)|((with_reducible refine gate_store (t:=3) (p:=52) rfl ?_);refine store_event (t:=3) (p:=52) (v:=?vo_w47) (w1:=(w45.setCell ⟨go30,(x9_2:Int).toNat,none⟩ (.int .i64 t523))) ?hg ?ho ?hn ?hr ?_;(case ho=>rfl);(case hg=>rfl);(case hn=>rfl);(case hr=>first|(go_simp;done)|(go_simp;rfl));intro w47 hw;have hg:w45.grownBy w47 (some go30):=(by rw[hw];exact HP46.2);have hp_:Kd.R (Kd.int .i64) 3 w47 w.heap.size (fun k_=>some k_≠(.slice Ao44 x8_19.length co44:Value).ownBlock) (.slice (some ⟨go30,0,none⟩) x7_2.length co30) y524:=(by rw[hw,Ny524.out];exact HP46.1);clear HP46;replace HO_7:=aM (hp_);replace HO_8:=aM (Kd.R_after (v:=(.slice (some ⟨go30,0,none⟩) x7_2.length co30)) (v1:=(.slice (some ⟨go30,0,none⟩) x7_2.length co30)) (ok:=(fun _=>True)) (rX (Kd.R_mono HO_8.out (fun _ hk=>⟨trivial,hk⟩))) hg (.inl rfl));replace HB:=aM ((by rw[hw];exact below_set (HB.out) GB30.out:Below w.heap.size w w47));clear hg hw hp_))
                    go_roundg kj19
                    case measure=>have:=HJ2.out;have:=HK2.out;have:=HJ19.out;omega
                    case rel=>exact⟨(y524),(x8_19),(wrap64 (x9_2 - 1)),sD,H',⟨by have:=HJ2.out;have:=HK2.out;have:=HJ19.out;omega⟩,⟨rX HO_7.out⟩,⟨by(with_reducible repeat(first|apply Kd.R_alloc|apply Kd.R_drewN|apply Kd.R_drew));exact Kd.R_mono HO_8.out (fun _ hk=>hk.2)⟩,⟨pB⟩⟩
                  ·rw[if_neg c29] at H;exact absurd H (by simp)
                 ·rw[if_neg c28] at H;exact absurd H (by simp)
              ·rw[if_neg c19] at H;exact absurd H (by simp)
             ·rw[if_neg c18] at H;exact absurd H (by simp)
            ·rw[if_neg c16] at H;exact absurd H (by simp)
           ·rw[if_neg c15] at H;exact absurd H (by simp)
          ·rw[if_neg c14] at H;exact absurd H (by simp)
         ·rw[if_neg c13] at H;have c13b0:decide (0≤x9_2)=false:=decide_eq_false c13;clear c13;replace H:=bS H;obtain⟨⟨t511,t512⟩,A480,H⟩:=H;replace H:(some (t511,x8_2,0))=some (r1,r2,r3):=H;have A48:=aM A480;clear A480;simp only[Option.some.injEq,Prod.mk.injEq] at H;obtain⟨rfl,rfl,rfl⟩:=H;obtain⟨Ao49,co49,eo49⟩:=Kd.R_slice HO_7.out;subst eo49;go_wp2_with (first|((with_reducible refine gate_callee (f:=65) rfl ?_);refine goesL_ (some 63) rfl rfl Try.func65 (by kernel_rfl) rfl #[.slice Ao49 x7_2.length co49] rfl mA ?_;(with_reducible refine(Czq.calls k2 _ _ x7_2 t511 t512 _ ?side1 ?side2 A48.out).mono ?_);(case side1=>repeat(first|exact(Kd.R_reads' HO_7.out).2.2|(with_reducible refine Kd.C_alloc ?_ _)|(with_reducible refine Kd.C_drewN ?_ _)|(with_reducible refine Kd.C_drew ?_)));(case side2=>exact(Kd.R_reads' HO_7.out).2.1);rintro e w50 ⟨v513,rfl,ho0,hb⟩;refine⟨_,rfl,?_⟩;have HO514:=aM (Kd.R_lower (Kd.R_new' (Kd.R_new' ho0 (Kd.R_lt (rX HO_7.out))) (Kd.R_lt (rX HO_8.out))) (below_size pB));replace HO_7:=aM (Kd.R_elder' (rX HO_7.out) (Kd.R_base ho0) hb);replace HO_8:=aM (Kd.R_elder' (rX HO_8.out) (Kd.R_base ho0) hb);replace HB:=aM (below_step pB hb);(try clear hb);(try clear hb2);(try clear hk);(try clear hi);(try clear ho0)))
          go_ret3
          exact⟨_,_,eW,by(with_reducible repeat(first|apply Kd.R_alloc|apply Kd.R_drewN|apply Kd.R_drew));exact Kd.R_mono HO514.out (fun _ hk=>hk.2),by(with_reducible repeat(first|apply Kd.R_alloc|apply Kd.R_drewN|apply Kd.R_drew));exact Kd.R_mono HO_8.out (fun _ hk=>hk.2),pB⟩
      ·rw[if_neg c10] at H;exact absurd H (by simp)
     ·rw[if_neg c9] at H;exact absurd H (by simp)

end Go.Proofs.Ytnklckihalhlmaa.Print
