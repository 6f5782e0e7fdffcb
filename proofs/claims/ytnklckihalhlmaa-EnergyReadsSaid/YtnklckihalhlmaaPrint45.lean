import Derived.Test.YtnklckihalhlmaaPrint0
import Derived.Test.YtnklckihalhlmaaPrint2
import Derived.Test.YtnklckihalhlmaaPrint7
import Derived.Test.YtnklckihalhlmaaPrint38
namespace Go.Proofs.Ytnklckihalhlmaa.Print
open Go.RowKit Go.Proofs.YtnklckihalhlmaaW.PrintWords Go.Proofs.YtnklckihalhlmaaW.PrintLast Go.Proofs.YtnklckihalhlmaaW.PrintMore
attribute [local go_sem] max2_int min2_int max_two min_two max_three min_three max_four min_four
set_option linter.unusedVariables false
set_option maxRecDepth 100000
set_option linter.unusedSimpArgs false

mutual
def Azj.j0:Nat→List (S46)→Int→Int→Bool→Option (Bool)
 | 0,_,_,_,_=>none
 | k+1,x0,x1,x2,x30=>if x30=true then((Azb.f k).bind fun t681=>(some t681)) else(if 0≤x1 then(if x1 < (x0.length:Int) then((Ezj.f k x0 ((rd_T46 x0 x1).f0)).bind fun bt683=>(if 0 < (x0.length:Int) then(if 0≤(wrap64 ((x0.length:Int) - 1)) then(if(wrap64 ((x0.length:Int) - 1)) < (x0.length:Int) then((Ezq.f k x0 ((rd_T46 x0 0).f0) ((rd_T46 x0 (wrap64 ((x0.length:Int) - 1))).f0)).bind fun bt687=>(if bt683.2=0 then(if bt687.2=0 then(if bt683.1=((rd_T46 x0 x1).f1) then(Azj.j1 k x0 x1 x2 (bt687.1 != (wrap64 (((rd_T46 x0 (wrap64 ((x0.length:Int) - 1))).f1) - ((rd_T46 x0 0).f1))))) else(Azj.j1 k x0 x1 x2 true)) else(Azj.j1 k x0 x1 x2 true)) else(Azj.j1 k x0 x1 x2 true))) else(none)) else(none)) else(none))) else(none)) else(none))
def Azj.j1:Nat→List (S46)→Int→Int→Bool→Option (Bool)
 | 0,_,_,_,_=>none
 | k+1,x0,x1,x2,x89=>if x89=true then(none) else(if 0≤(wrap64 (x1 - 1)) then(if(wrap64 (x1 - 1)) < (x0.length:Int) then(if x2 < ((rd_T46 x0 (wrap64 (x1 - 1))).f0) then(Azj.j2 k x0 x1 x2 true) else(if 0≤x1 then(if x1 < (x0.length:Int) then(Azj.j2 k x0 x1 x2 (decide (x2 > ((rd_T46 x0 x1).f0)))) else(none)) else(none))) else(none)) else(none))
def Azj.j2:Nat→List (S46)→Int→Int→Bool→Option (Bool)
 | 0,_,_,_,_=>none
 | k+1,x0,x1,x2,x106=>if x106=true then((Azb.f k).bind fun t694=>(some t694)) else((Ezj.f k x0 x2).bind fun bt695=>(if bt695.2=0 then(if 0≤(wrap64 (x1 - 1)) then(if(wrap64 (x1 - 1)) < (x0.length:Int) then(if bt695.1≥((rd_T46 x0 (wrap64 (x1 - 1))).f1) then(if 0≤x1 then(if x1 < (x0.length:Int) then(if bt695.1≤((rd_T46 x0 x1).f1) then((Azb.f k).bind fun t699=>(some t699)) else(none)) else(none)) else(none)) else(none)) else(none)) else(none)) else(none)))
end
def Azj.f (k:Nat) (l0:List (S46)) (a1:Int) (a2:Int):Option (Bool):=(Dzw.f l0).bind fun t679=>(if t679=true then((Bzj.f k l0).bind fun t680=>(if t680=0 then(if a1 < 1 then(Azj.j0 k l0 a1 a2 true) else(Azj.j0 k l0 a1 a2 (decide (a1≥(l0.length:Int))))) else(Azj.j0 k l0 a1 a2 true))) else(Azj.j0 k l0 a1 a2 true))
theorem Azj.mono_l:∀ k,(∀ y0 y1 y2 y3,LeO (Azj.j0 k y0 y1 y2 y3) (Azj.j0 (k+1) y0 y1 y2 y3))∧(∀ y0 y1 y2 y3,LeO (Azj.j1 k y0 y1 y2 y3) (Azj.j1 (k+1) y0 y1 y2 y3))∧(∀ y0 y1 y2 y3,LeO (Azj.j2 k y0 y1 y2 y3) (Azj.j2 (k+1) y0 y1 y2 y3))
 | 0=>⟨fun _ _ _ _ r h=>by simp [Azj.j0] at h,fun _ _ _ _ r h=>by simp [Azj.j1] at h,fun _ _ _ _ r h=>by simp [Azj.j2] at h⟩
 | k+1=>by
  obtain⟨ih0,ih1,ih2⟩:=Azj.mono_l k;refine⟨?_,?_,?_⟩
  ·intro y0 y1 y2 y3;unfold Azj.j0;with_reducible repeat' first|exact ih0 _ _ _ _|exact ih1 _ _ _ _|exact ih2 _ _ _ _|exact Bzj.mono _ _|exact Ezq.mono _ _ _ _|exact Ezj.mono _ _ _|exact Azb.mono _|exact LeO.refl _|exact LeO.none _|refine LeO.ite ?_ ?_|refine LeO.bind ?_ (fun _=>?_)
  ·intro y0 y1 y2 y3;unfold Azj.j1;with_reducible repeat' first|exact ih0 _ _ _ _|exact ih1 _ _ _ _|exact ih2 _ _ _ _|exact Bzj.mono _ _|exact Ezq.mono _ _ _ _|exact Ezj.mono _ _ _|exact Azb.mono _|exact LeO.refl _|exact LeO.none _|refine LeO.ite ?_ ?_|refine LeO.bind ?_ (fun _=>?_)
  ·intro y0 y1 y2 y3;unfold Azj.j2;with_reducible repeat' first|exact ih0 _ _ _ _|exact ih1 _ _ _ _|exact ih2 _ _ _ _|exact Bzj.mono _ _|exact Ezq.mono _ _ _ _|exact Ezj.mono _ _ _|exact Azb.mono _|exact LeO.refl _|exact LeO.none _|refine LeO.ite ?_ ?_|refine LeO.bind ?_ (fun _=>?_)
theorem Azj.mono:∀ a0 a1 a2 k,LeO (Azj.f k a0 a1 a2) (Azj.f (k+1) a0 a1 a2):=by
 intro a0 a1 a2 k;obtain⟨ih0,ih1,ih2⟩:=Azj.mono_l k;unfold Azj.f;with_reducible repeat' first|exact ih0 _ _ _ _|exact ih1 _ _ _ _|exact ih2 _ _ _ _|exact Bzj.mono _ _|exact Ezq.mono _ _ _ _|exact Ezj.mono _ _ _|exact Azb.mono _|exact LeO.refl _|exact LeO.none _|refine LeO.ite ?_ ?_|refine LeO.bind ?_ (fun _=>?_)
def Azj.T4:Bool × List (List Nat × List Nat):=(true,[([],[]),([],[]),([1],[1]),([2],[2]),([3],[3]),([],[]),([],[]),([6],[6]),([7],[7]),([5,8],[5,8]),([9],[9]),([10],[10]),([4,11],[4,11]),([0,12],[0,12]),([13],[13]),([14],[14]),([14],[14]),([15,13,0,1,2,3,4,5,6,7,8,9,10,11,12,13,14,15],[15]),([16,17,0,1,2,3,4,5,6,7,8,9,10,11,12,13,14,15,16,17],[16])])
def Azj.B4:List Nat:=[0,0,2,6,14,0,0,64,192,480,992,2016,4094,8191,16383,32767,32767,65535,262143]
theorem Azj.tab4:rtab .any (opsOf Try.f6 4)=Azj.T4:=by kernel_rfl
theorem Azj.bits4:waitsOk Azj.T4.2 Azj.B4=true:=by kernel_rfl
def Azj.T5:Bool × List (List Nat × List Nat):=(true,[([],[]),([0],[0]),([1],[1]),([2],[2]),([3,2],[2,3]),([2,4],[2,4]),([5,2],[5]),([6],[6]),([6],[6]),([6],[6]),([8,9,6],[6,8,9]),([10,6],[6,10]),([11,6],[6,11]),([7,12,6],[6,7,12]),([6,13],[6,13]),([14,6],[14]),([15],[15]),([15],[15]),([15],[15]),([18,15],[15,18]),([19,15],[15,19]),([17,20,15],[15,17,20]),([21,15],[15,21]),([22,15],[15,22]),([15],[15]),([24,15],[15,24]),([25,15],[15,25]),([26,15],[15,26]),([23,27,15],[15,23,27]),([16,28,15],[15,16,28]),([15,29],[15,29])])
def Azj.B5:List Nat:=[0,1,3,7,15,31,63,127,127,127,895,1919,3967,8191,16383,32767,65535,65535,65535,327679,851967,2031615,4128767,8323071,65535,16842751,50397183,117506047,268369919,536870911,1073741823]
theorem Azj.tab5:rtab .any (opsOf Try.f6 5)=Azj.T5:=by kernel_rfl
theorem Azj.bits5:waitsOk Azj.T5.2 Azj.B5=true:=by kernel_rfl
set_option maxHeartbeats 64000000 in
theorem Azj.calls (k:Nat) (A0:Option Addr) (c0:Nat) (l0:List (S46)) (a1:Int) (a2:Int) (r:Bool) (w:World) (hr0:Kd.C k46 w A0 l0.length l0) (hc0:l0.length≤c0) (h:Azj.f k l0 a1 a2=some r) :
  Calls Try.prog 6 #[.slice A0 l0.length c0,.int .i64 a1,.int .i64 a2] w fun e w'=>e=.returned (.bool r)∧Below w.heap.size w w':=by
 have hu31:=Try.underlying31;have HR0:=aM hr0;have HC0:=aM hc0;clear hr0 hc0;have HB:=aM (Below.refl w.heap.size w);have H:((Dzw.f l0).bind fun t679=>(if t679=true then((Bzj.f k l0).bind fun t680=>(if t680=0 then(if a1 < 1 then(Azj.j0 k l0 a1 a2 true) else(Azj.j0 k l0 a1 a2 (decide (a1≥(l0.length:Int))))) else(Azj.j0 k l0 a1 a2 true))) else(Azj.j0 k l0 a1 a2 true)))=some r:=h
 clear h;have HC4:=aM H;clear H;go_enter Try.func6,Try.ntmps6
 go_upto_region 1 with (fail)
 go_cut [30] (fun v30 wc=>∃ (kq:Nat) (x30_3:Bool),v30=.bool x30_3∧Aside0 (Azj.j0 kq l0 a1 a2 x30_3=some r)∧Aside0 (kq≤k)∧Aside0 (Below w.heap.size w wc))
 case first =>
  have H:=HC4.out;clear HC4;replace H:=bS H;obtain⟨t679,A50,H⟩:=H;(try dsimp only at H);have A5:=aM A50;clear A50;by_cases c6:t679=true
  ·subst c6;rw[if_pos rfl] at H;replace H:=bS H;obtain⟨t680,A70,H⟩:=H;(try dsimp only at H);have A7:=aM A70;clear A70;by_cases c8:t680=0
   ·rw[if_pos c8] at H;have c8b0:(t680 == 0)=true:=beq_iff_eq.mpr c8;have c8b1:(t680 != 0)=false:=bne_eq_false_iff_eq.mpr c8;clear c8;(first|rw[c8b0]|(simp only[i64_w,i32_w];rw[c8b0])|skip)
    by_cases c9:a1 < 1
    ·rw[if_pos c9] at H;have c9b0:decide (a1 < 1)=true:=dE c9;clear c9;have H':=aM H;clear H;go_wp2_with (first|((with_reducible refine gate_callee (f:=10) rfl ?_);refine goesL_ (some 14) rfl rfl Try.func10 (by kernel_rfl) rfl #[.slice A0 l0.length c0] rfl mA ?_;(with_reducible refine(Dzw.calls _ _ l0 true _ ?side1 ?side2 A5.out).mono ?_);(case side1=>exact cX (Kd.C_below HR0.out HB.out));(case side2=>exact HC0.out);rintro e w' ⟨rfl,⟨nd,rfl⟩⟩;refine⟨_,rfl,?_⟩)|(go_at_call 14;(with_reducible refine(Bzj.calls k _ _ l0 t680 _ ?side1 ?side2 A7.out).mono ?_);(case side1=>repeat(first|exact(Kd.C_below HR0.out pB)|(with_reducible refine Kd.C_alloc ?_ _)|(with_reducible refine Kd.C_drewN ?_ _)|(with_reducible refine Kd.C_drew ?_)));(case side2=>exact HC0.out);rintro e w10 ⟨rfl,hb⟩;replace HB:=aM (below_step pB hb);(try clear hb);(try clear hb2);(try clear hk);(try clear hi)))
     go_meet
     case rel=>exact⟨_,(true),sD,H',⟨by first|omega|exact Nat.le_refl _⟩,⟨pB⟩⟩
    ·rw[if_neg c9] at H;have c9b0:decide (a1 < 1)=false:=decide_eq_false c9;clear c9;have H':=aM H;clear H;go_wp2_with (first|((with_reducible refine gate_callee (f:=10) rfl ?_);refine goesL_ (some 14) rfl rfl Try.func10 (by kernel_rfl) rfl #[.slice A0 l0.length c0] rfl mA ?_;(with_reducible refine(Dzw.calls _ _ l0 true _ ?side1 ?side2 A5.out).mono ?_);(case side1=>exact cX (Kd.C_below HR0.out HB.out));(case side2=>exact HC0.out);rintro e w' ⟨rfl,⟨nd,rfl⟩⟩;refine⟨_,rfl,?_⟩)|(go_at_call 14;(with_reducible refine(Bzj.calls k _ _ l0 t680 _ ?side1 ?side2 A7.out).mono ?_);(case side1=>repeat(first|exact(Kd.C_below HR0.out pB)|(with_reducible refine Kd.C_alloc ?_ _)|(with_reducible refine Kd.C_drewN ?_ _)|(with_reducible refine Kd.C_drew ?_)));(case side2=>exact HC0.out);rintro e w11 ⟨rfl,hb⟩;replace HB:=aM (below_step pB hb);(try clear hb);(try clear hb2);(try clear hk);(try clear hi)))
     go_meet
     case rel=>exact⟨_,(decide (a1≥(l0.length:Int))),sD,H',⟨by first|omega|exact Nat.le_refl _⟩,⟨pB⟩⟩
   ·rw[if_neg c8] at H;have c8b0:(t680 == 0)=false:=beq_eq_false_iff_ne.mpr c8;have c8b1:(t680 != 0)=true:=bne_iff_ne.mpr c8;(first|rw[c8b0]|(simp only[i64_w,i32_w];rw[c8b0])|skip)
    have H':=aM H;clear H;go_wp2_with (first|((with_reducible refine gate_callee (f:=10) rfl ?_);refine goesL_ (some 14) rfl rfl Try.func10 (by kernel_rfl) rfl #[.slice A0 l0.length c0] rfl mA ?_;(with_reducible refine(Dzw.calls _ _ l0 true _ ?side1 ?side2 A5.out).mono ?_);(case side1=>exact cX (Kd.C_below HR0.out HB.out));(case side2=>exact HC0.out);rintro e w' ⟨rfl,⟨nd,rfl⟩⟩;refine⟨_,rfl,?_⟩)|(go_at_call 14;(with_reducible refine(Bzj.calls k _ _ l0 t680 _ ?side1 ?side2 A7.out).mono ?_);(case side1=>repeat(first|exact(Kd.C_below HR0.out pB)|(with_reducible refine Kd.C_alloc ?_ _)|(with_reducible refine Kd.C_drewN ?_ _)|(with_reducible refine Kd.C_drew ?_)));(case side2=>exact HC0.out);rintro e w12 ⟨rfl,hb⟩;replace HB:=aM (below_step pB hb);(try clear hb);(try clear hb2);(try clear hk);(try clear hi)))
    go_meet
    case rel=>exact⟨_,(true),sD,H',⟨by first|omega|exact Nat.le_refl _⟩,⟨pB⟩⟩
  ·replace c6:=Bool.eq_false_iff.mpr c6;subst c6;rw[if_neg (show ¬ (false=true) by decide)] at H
   have H':=aM H;clear H;go_wp2_with (first|((with_reducible refine gate_callee (f:=10) rfl ?_);refine goesL_ (some 14) rfl rfl Try.func10 (by kernel_rfl) rfl #[.slice A0 l0.length c0] rfl mA ?_;(with_reducible refine(Dzw.calls _ _ l0 false _ ?side1 ?side2 A5.out).mono ?_);(case side1=>exact cX (Kd.C_below HR0.out HB.out));(case side2=>exact HC0.out);rintro e w' ⟨rfl,⟨nd,rfl⟩⟩;refine⟨_,rfl,?_⟩))
   go_meet
   case rel=>exact⟨_,(true),sD,H',⟨by first|omega|exact Nat.le_refl _⟩,⟨pB⟩⟩
 case rest=>as_aux_lemma =>
  clear HC4;try clear c1
  try clear p2
  try clear c6
  try clear c8
  try clear c8b0
  try clear c8b1
  try clear c9
  try clear c9b0
  try clear c10
  obtain⟨kq,x30_3,rfl,HA,HJ3,HB⟩:=hcut;cases kq with
  | zero=>exact absurd HA.out (by simp [Azj.j0])
  | succ kj3 =>
   have H:=HA.out;clear HA;simp only[Azj.j0] at H;by_cases c13:x30_3=true
   ·subst c13;rw[if_pos rfl] at H;replace H:=bS H;obtain⟨t681,A140,H⟩:=H;replace H:(some t681)=some r:=H;have A14:=aM A140;clear A140;obtain rfl:=Option.some.inj H;go_wp2_with (first|((with_reducible refine gate_callee (f:=11) rfl ?_);refine goesL_ (some 31) rfl rfl Try.func11 (by kernel_rfl) rfl #[] rfl mA ?_;(with_reducible refine(Azb.calls kj3  t681 _ A14.out).mono ?_);rintro e w15 ⟨rfl,hb⟩;refine⟨_,rfl,?_⟩;replace HB:=aM (below_step pB hb);(try clear hb);(try clear hb2);(try clear hk);(try clear hi)))
    go_ret
    exact⟨eW,pB⟩
   ·replace c13:=Bool.eq_false_iff.mpr c13;subst c13;rw[if_neg (show ¬ (false=true) by decide)] at H
    by_cases c16:0≤a1
    ·rw[if_pos c16] at H;have c16b0:decide (0≤a1)=true:=dE c16;clear c16;by_cases c17:a1 < (l0.length:Int)
     ·rw[if_pos c17] at H;have c17b0:decide (a1 < (l0.length:Int))=true:=dE c17;clear c17;replace H:=bS H;obtain⟨⟨t683,t684⟩,A180,H⟩:=H;(try dsimp only at H);have A18:=aM A180;clear A180;by_cases c19:0 < (l0.length:Int)
      ·rw[if_pos c19] at H;have c19b0:decide (0 < (l0.length:Int))=true:=dE c19;have c19b1:decide (0 < l0.length)=true:=dE (by omega)
       clear c19;obtain⟨ji20,hji20⟩:∃ j_:Int,(wrap64 ((l0.length:Int) - 1))=j_:=⟨_,rfl⟩;replace H:(if 0≤(ji20) then(if(ji20) < (l0.length:Int) then((Ezq.f kj3 l0 ((rd_T46 l0 0).f0) ((rd_T46 l0 (ji20)).f0)).bind fun bt687=>(if t684=0 then(if bt687.2=0 then(if t683=((rd_T46 l0 a1).f1) then(Azj.j1 kj3 l0 a1 a2 (bt687.1 != (wrap64 (((rd_T46 l0 (ji20)).f1) - ((rd_T46 l0 0).f1))))) else(Azj.j1 kj3 l0 a1 a2 true)) else(Azj.j1 kj3 l0 a1 a2 true)) else(Azj.j1 kj3 l0 a1 a2 true))) else(none)) else(none))=some r:=by first|(rw[hji20] at H;exact H)|(simp only[hji20] at H ⊢;exact H)
       (try rw[hji20] at A18)
       have hji20w:(IntKind.i64.wrap ((l0.length:Int) - 1))=ji20:=(i64_w _).trans hji20;by_cases c21:0≤(ji20)
       ·rw[if_pos c21] at H;have c21b0:decide (0≤(ji20))=true:=dE c21;clear c21;by_cases c22:(ji20) < (l0.length:Int)
        ·rw[if_pos c22] at H;have c22b0:decide ((ji20) < (l0.length:Int))=true:=dE c22;clear c22;replace H:=bS H;obtain⟨⟨t687,t688⟩,A230,H⟩:=H;(try dsimp only at H);have A23:=aM A230;clear A230;have HC24:=aM H;clear H;have p682:0≤(a1:Int):=oE aS
         have q682:a1 < (l0.length:Int):=oE aS
         obtain⟨ad682,e682,hx682_0,hx682_1⟩:=at_T46 HR0.out a1 p682 q682;cases e682
         replace hx682_0:=(HB.out.cell (World.block_lt_of_cell? w _ hx682_0)).trans hx682_0;replace hx682_1:=(HB.out.cell (World.block_lt_of_cell? w _ hx682_1)).trans hx682_1;replace p682:=eq_true p682;replace q682:=eq_true q682;try go_wp2_with (first|((with_reducible refine gate_callee (f:=12) rfl ?_);refine goesL_ (some 39) rfl rfl Try.func12 (by kernel_rfl) rfl #[.slice (some ad682) l0.length c0,.int .i64 ((rd_T46 l0 a1).f0)] rfl mA ?_;(with_reducible refine(Ezj.calls kj3 _ _ l0 ((rd_T46 l0 a1).f0) t683 t684 _ ?side1 ?side2 A18.out).mono ?_);(case side1=>exact cX (Kd.C_below HR0.out HB.out));(case side2=>exact HC0.out);rintro e w25 ⟨rfl,hb⟩;refine⟨_,rfl,?_⟩;replace HB:=aM (below_step pB hb);(try clear hb);(try clear hb2);(try clear hk);(try clear hi)))
         have n0_:=aM (below_drew1 HB.out);clear HB;have HB:=n0_;clear n0_;have p685:0≤(0:Int):=(by omega)
         have q685:0 < (l0.length:Int):=oE aS
         obtain⟨ad685,e685,hx685_0,hx685_1⟩:=at_T46 HR0.out 0 p685 q685;have hw685_1:=hx685_1;(try rw[show((0:Int)).toNat=0 from rfl] at hw685_1)
         (try rw[show 0 * 2=0 from rfl] at hw685_1)
         (try rw[Addr.add_zero'] at hw685_1)
         have hw685_0:=hx685_0;(try rw[show((0:Int)).toNat=0 from rfl] at hw685_0)
         (try rw[show 0 * 2=0 from rfl] at hw685_0)
         (try rw[Addr.add_zero'] at hw685_0)
         obtain rfl:ad682=ad685:=(by injection e685)
         have qi685:(0 < l0.length)=True:=eq_true (by omega)
         (try rw[show((0:Int)).toNat=0 from rfl] at hx685_0)
         (try rw[show 0 * 2=0 from rfl] at hx685_0)
         (try rw[Addr.add_zero'] at hx685_0)
         (try rw[show((0:Int)).toNat=0 from rfl] at hx685_1)
         (try rw[show 0 * 2=0 from rfl] at hx685_1)
         (try rw[Addr.add_zero'] at hx685_1)
         replace hx685_0:=(HB.out.cell (World.block_lt_of_cell? w _ hx685_0)).trans hx685_0;replace hx685_1:=(HB.out.cell (World.block_lt_of_cell? w _ hx685_1)).trans hx685_1;replace p685:=eq_true p685;replace q685:=eq_true q685;have p686:0≤((ji20):Int):=oE aS
         have q686:(ji20) < (l0.length:Int):=oE aS
         obtain⟨ad686,e686,hx686_0,hx686_1⟩:=at_T46 HR0.out (ji20) p686 q686;have hw686_1:=hx686_1;have hw686_0:=hx686_0;obtain rfl:ad682=ad686:=(by injection e686)
         replace hx686_0:=(HB.out.cell (World.block_lt_of_cell? w _ hx686_0)).trans hx686_0;replace hx686_1:=(HB.out.cell (World.block_lt_of_cell? w _ hx686_1)).trans hx686_1;replace p686:=eq_true p686;replace q686:=eq_true q686;refine start_ (n:=19) (S:=fun w'=>w'.cell? ad682=some (.int .i64 ((rd_T46 l0 0).f0))∧w'.cell? ⟨ad682.block,ad682.off+1,none⟩=some (.int .i64 ((rd_T46 l0 0).f1))∧w'.cell? (ad682.add (((ji20)).toNat * 2))=some (.int .i64 ((rd_T46 l0 (ji20)).f0))∧w'.cell? ⟨(ad682.add (((ji20)).toNat * 2)).block,(ad682.add (((ji20)).toNat * 2)).off+1,none⟩=some (.int .i64 ((rd_T46 l0 (ji20)).f1))) (ds:=[]) #[false,false,false,false,false,false,false,false,false,false,false,false,false,false,false,false,false,false,false] (by kernel_rfl) rfl rfl ⟨((HB.out.cell (World.block_lt_of_cell? w _ hw685_0)).trans hw685_0),((HB.out.cell (World.block_lt_of_cell? w _ hw685_1)).trans hw685_1),((HB.out.cell (World.block_lt_of_cell? w _ hw686_0)).trans hw686_0),((HB.out.cell (World.block_lt_of_cell? w _ hw686_1)).trans hw686_1)⟩ (fun hHeld=>?_);refine with_tabW Azj.tab4 Azj.bits4 (fun HT_ HW_=>?_)
         generalize w25.drew=w26 at HB hx685_0 hx685_1 hx686_0 hx686_1 hHeld ⊢;refine pU (i:=0) (N:=some 43) HT_ #[true,false,false,false,false,false,false,false,false,false,false,false,false,false,false,false,false,false,false] ?_;refine pU (i:=1) (N:=some 44) HT_ #[true,true,false,false,false,false,false,false,false,false,false,false,false,false,false,false,false,false,false] ?_;refine pU (i:=2) (N:=some 45) HT_ #[true,true,true,false,false,false,false,false,false,false,false,false,false,false,false,false,false,false,false] ?_;refine pU (i:=3) (N:=some 46) HT_ #[true,true,true,true,false,false,false,false,false,false,false,false,false,false,false,false,false,false,false] ?_;refine pU (i:=5) (N:=some 48) HT_ #[true,true,true,true,false,true,false,false,false,false,false,false,false,false,false,false,false,false,false] ?_;refine pU (i:=6) (N:=some 49) HT_ #[true,true,true,true,false,true,true,false,false,false,false,false,false,false,false,false,false,false,false] ?_;refine pU (i:=7) (N:=some 50) HT_ #[true,true,true,true,false,true,true,true,false,false,false,false,false,false,false,false,false,false,false] ?_;refine pU (i:=8) (N:=some 51) HT_ #[true,true,true,true,false,true,true,true,true,false,false,false,false,false,false,false,false,false,false] ?_;refine pU (i:=9) (N:=some 52) HT_ #[true,true,true,true,false,true,true,true,true,true,false,false,false,false,false,false,false,false,false] ?_;refine pU (i:=10) (N:=some 53) HT_ #[true,true,true,true,false,true,true,true,true,true,true,false,false,false,false,false,false,false,false] ?_;refine take_ (i:=4) (N:=some 47) (v:=?_) (a':=?_) #[true,true,true,true,true,true,true,true,true,true,true,false,false,false,false,false,false,false,false] rfl rfl (take_ofW HT_.out HW_.out (by kernel_rfl)) (fun _ _ _ h=>h) (Or.inl ⟨by rfl,?_⟩) hHeld ?_ ?_
         rotate_left
         ·rintro w' ⟨s0,s1,s2,s3⟩;go_simp
          with_reducible rfl
         rotate_left
         ·simp only[Act.put,sA,sZ,sC,i64_w,i32_w];rfl
         refine take_ (i:=11) (N:=some 54) (v:=?_) (a':=?_) #[true,true,true,true,true,true,true,true,true,true,true,true,false,false,false,false,false,false,false] rfl rfl (take_ofW HT_.out HW_.out (by kernel_rfl)) (fun _ _ _ h=>h) (Or.inl ⟨by rfl,?_⟩) hHeld ?_ ?_
         rotate_left
         ·rintro w' ⟨s0,s1,s2,s3⟩;go_simp
          with_reducible rfl
         rotate_left
         ·simp only[Act.put,sA,sZ,sC,i64_w,i32_w];rfl
         refine pU (i:=12) (N:=some 55) HT_ #[true,true,true,true,true,true,true,true,true,true,true,true,true,false,false,false,false,false,false] ?_;refine one_ (i:=13) (N:=some 56) #[true,true,true,true,true,true,true,true,true,true,true,true,true,true,false,false,false,false,false] rfl rfl (one_of HT_.out (by kernel_rfl)) (by decide) (fun K hK=>?_)
         refine goes_ Try.func16 (by kernel_rfl) rfl #[.slice (some ad682) l0.length c0,.agg #[.int .i64 ((rd_T46 l0 0).f0),.int .i64 ((rd_T46 l0 (ji20)).f0)]] (by rfl) rfl rfl (by(try simp only[List.map_toArray,List.map_cons,List.map_nil]);first|done|(simp only[hji20];rfl)|rfl|(simp only[List.length_drop,List.length_take];rfl)) ?_
         with_reducible refine(Ezq.calls kj3 _ _ l0 ((rd_T46 l0 0).f0) ((rd_T46 l0 (ji20)).f0) t687 t688 _ ?side1 ?side2 A23.out).mono ?_
         (case side1=>exact cX (Kd.C_below HR0.out HB.out))
         (case side2=>exact HC0.out)
         rintro e w27 ⟨rfl,hb⟩;refine⟨_,rfl,?_⟩;have n0_:=aM (below_step pB hb);clear HB;have HB:=n0_;clear n0_;(try clear hb)
         (try clear hb2)
         (try clear hk)
         (try clear hi)
         refine hK.out _ _ ⟨((HB.out.cell (World.block_lt_of_cell? w _ hw685_0)).trans hw685_0),((HB.out.cell (World.block_lt_of_cell? w _ hw685_1)).trans hw685_1),((HB.out.cell (World.block_lt_of_cell? w _ hw686_0)).trans hw686_0),((HB.out.cell (World.block_lt_of_cell? w _ hw686_1)).trans hw686_1)⟩ (fun hHeld=>?_)
         clear hK K;refine norm_ (a':=?_) ?_ ?_;rotate_left
         ·show Act.put _ (some 56) _=_
          simp only[Act.put,sA,sZ,sC,i64_w,i32_w];rfl
         refine pU (i:=14) (N:=some 42) HT_ #[true,true,true,true,true,true,true,true,true,true,true,true,true,true,true,false,false,false,false] ?_;refine pU (i:=15) (N:=some 57) HT_ #[true,true,true,true,true,true,true,true,true,true,true,true,true,true,true,true,false,false,false] ?_;refine pU (i:=16) (N:=some 58) HT_ #[true,true,true,true,true,true,true,true,true,true,true,true,true,true,true,true,true,false,false] ?_;refine pU (i:=17) (N:=some 9) HT_ #[true,true,true,true,true,true,true,true,true,true,true,true,true,true,true,true,true,true,false] ?_;refine pU (i:=18) (N:=some 10) HT_ #[true,true,true,true,true,true,true,true,true,true,true,true,true,true,true,true,true,true,true] ?_;refine done_ (done_of HT_.out (by kernel_rfl)) ?_
         go_upto_region 5 with (fail)
         go_cut [89] (fun v89 wc=>∃ (kq:Nat) (x89_23:Bool),v89=.bool x89_23∧Aside0 (Azj.j1 kq l0 a1 a2 x89_23=some r)∧Aside0 (kq≤kj3)∧Aside0 (Below w.heap.size w wc))
         case first =>
          have H:=HC24.out;clear HC24;by_cases c28:t684=0
          ·rw[if_pos c28] at H;have c28b0:(t684 == 0)=true:=beq_iff_eq.mpr c28;have c28b1:(t684 != 0)=false:=bne_eq_false_iff_eq.mpr c28;clear c28;(first|rw[c28b0]|(simp only[i64_w,i32_w];rw[c28b0])|skip)
           by_cases c29:t688=0
           ·rw[if_pos c29] at H;have c29b0:(t688 == 0)=true:=beq_iff_eq.mpr c29;have c29b1:(t688 != 0)=false:=bne_eq_false_iff_eq.mpr c29;clear c29;by_cases c30:t683=((rd_T46 l0 a1).f1)
            ·rw[if_pos c30] at H;have c30b0:(t683 == ((rd_T46 l0 a1).f1))=true:=beq_iff_eq.mpr c30;have c30b1:(t683 != ((rd_T46 l0 a1).f1))=false:=bne_eq_false_iff_eq.mpr c30;clear c30;have H':=aM H;clear H;try go_wp2
             have n0_:=aM (below_drew1 HB.out);clear HB;have HB:=n0_;clear n0_;have p689:0≤(a1:Int):=oE aS
             have q689:a1 < (l0.length:Int):=oE aS
             obtain⟨ad689,e689,hx689_0,hx689_1⟩:=at_T46 HR0.out a1 p689 q689;have hw689_1:=hx689_1;have hw689_0:=hx689_0;obtain rfl:ad682=ad689:=(by injection e689)
             replace hx689_0:=(HB.out.cell (World.block_lt_of_cell? w _ hx689_0)).trans hx689_0;replace hx689_1:=(HB.out.cell (World.block_lt_of_cell? w _ hx689_1)).trans hx689_1;replace p689:=eq_true p689;replace q689:=eq_true q689;have p690:0≤((ji20):Int):=oE aS
             have q690:(ji20) < (l0.length:Int):=oE aS
             obtain⟨ad690,e690,hx690_0,hx690_1⟩:=at_T46 HR0.out (ji20) p690 q690;have hw690_1:=hx690_1;have hw690_0:=hx690_0;obtain rfl:ad682=ad690:=(by injection e690)
             replace hx690_0:=(HB.out.cell (World.block_lt_of_cell? w _ hx690_0)).trans hx690_0;replace hx690_1:=(HB.out.cell (World.block_lt_of_cell? w _ hx690_1)).trans hx690_1;replace p690:=eq_true p690;replace q690:=eq_true q690;have p691:0≤(0:Int):=(by omega)
             have q691:0 < (l0.length:Int):=oE aS
             obtain⟨ad691,e691,hx691_0,hx691_1⟩:=at_T46 HR0.out 0 p691 q691;have hw691_1:=hx691_1;(try rw[show((0:Int)).toNat=0 from rfl] at hw691_1)
             (try rw[show 0 * 2=0 from rfl] at hw691_1)
             (try rw[Addr.add_zero'] at hw691_1)
             have hw691_0:=hx691_0;(try rw[show((0:Int)).toNat=0 from rfl] at hw691_0)
             (try rw[show 0 * 2=0 from rfl] at hw691_0)
             (try rw[Addr.add_zero'] at hw691_0)
             obtain rfl:ad682=ad691:=(by injection e691)
             have qi691:(0 < l0.length)=True:=eq_true (by omega)
             (try rw[show((0:Int)).toNat=0 from rfl] at hx691_0)
             (try rw[show 0 * 2=0 from rfl] at hx691_0)
             (try rw[Addr.add_zero'] at hx691_0)
             (try rw[show((0:Int)).toNat=0 from rfl] at hx691_1)
             (try rw[show 0 * 2=0 from rfl] at hx691_1)
             (try rw[Addr.add_zero'] at hx691_1)
             replace hx691_0:=(HB.out.cell (World.block_lt_of_cell? w _ hx691_0)).trans hx691_0;replace hx691_1:=(HB.out.cell (World.block_lt_of_cell? w _ hx691_1)).trans hx691_1;replace p691:=eq_true p691;replace q691:=eq_true q691;refine start_ (n:=31) (S:=fun w'=>w'.cell? (ad682.add ((a1).toNat * 2))=some (.int .i64 ((rd_T46 l0 a1).f0))∧w'.cell? ⟨(ad682.add ((a1).toNat * 2)).block,(ad682.add ((a1).toNat * 2)).off+1,none⟩=some (.int .i64 ((rd_T46 l0 a1).f1))∧w'.cell? (ad682.add (((ji20)).toNat * 2))=some (.int .i64 ((rd_T46 l0 (ji20)).f0))∧w'.cell? ⟨(ad682.add (((ji20)).toNat * 2)).block,(ad682.add (((ji20)).toNat * 2)).off+1,none⟩=some (.int .i64 ((rd_T46 l0 (ji20)).f1))∧w'.cell? ad682=some (.int .i64 ((rd_T46 l0 0).f0))∧w'.cell? ⟨ad682.block,ad682.off+1,none⟩=some (.int .i64 ((rd_T46 l0 0).f1))) (ds:=[]) #[false,false,false,false,false,false,false,false,false,false,false,false,false,false,false,false,false,false,false,false,false,false,false,false,false,false,false,false,false,false,false] (by kernel_rfl) rfl rfl ⟨((HB.out.cell (World.block_lt_of_cell? w _ hw689_0)).trans hw689_0),((HB.out.cell (World.block_lt_of_cell? w _ hw689_1)).trans hw689_1),((HB.out.cell (World.block_lt_of_cell? w _ hw690_0)).trans hw690_0),((HB.out.cell (World.block_lt_of_cell? w _ hw690_1)).trans hw690_1),((HB.out.cell (World.block_lt_of_cell? w _ hw691_0)).trans hw691_0),((HB.out.cell (World.block_lt_of_cell? w _ hw691_1)).trans hw691_1)⟩ (fun hHeld=>?_);refine with_tabW Azj.tab5 Azj.bits5 (fun HT_ HW_=>?_)
             generalize w27.drew=w31 at HB hx689_0 hx689_1 hx690_0 hx690_1 hx691_0 hx691_1 hHeld ⊢;refine pU (i:=0) (N:=some 59) HT_ #[true,false,false,false,false,false,false,false,false,false,false,false,false,false,false,false,false,false,false,false,false,false,false,false,false,false,false,false,false,false,false] ?_;refine pU (i:=1) (N:=some 60) HT_ #[true,true,false,false,false,false,false,false,false,false,false,false,false,false,false,false,false,false,false,false,false,false,false,false,false,false,false,false,false,false,false] ?_;refine pU (i:=2) (N:=some 61) HT_ #[true,true,true,false,false,false,false,false,false,false,false,false,false,false,false,false,false,false,false,false,false,false,false,false,false,false,false,false,false,false,false] ?_;refine pU (i:=3) (N:=some 62) HT_ #[true,true,true,true,false,false,false,false,false,false,false,false,false,false,false,false,false,false,false,false,false,false,false,false,false,false,false,false,false,false,false] ?_;refine pU (i:=4) (N:=some 63) HT_ #[true,true,true,true,true,false,false,false,false,false,false,false,false,false,false,false,false,false,false,false,false,false,false,false,false,false,false,false,false,false,false] ?_;refine pU (i:=5) (N:=some 64) HT_ #[true,true,true,true,true,true,false,false,false,false,false,false,false,false,false,false,false,false,false,false,false,false,false,false,false,false,false,false,false,false,false] ?_;refine pU (i:=6) (N:=some 65) HT_ #[true,true,true,true,true,true,true,false,false,false,false,false,false,false,false,false,false,false,false,false,false,false,false,false,false,false,false,false,false,false,false] ?_;refine pU (i:=7) (N:=some 66) HT_ #[true,true,true,true,true,true,true,true,false,false,false,false,false,false,false,false,false,false,false,false,false,false,false,false,false,false,false,false,false,false,false] ?_;refine pU (i:=8) (N:=some 67) HT_ #[true,true,true,true,true,true,true,true,true,false,false,false,false,false,false,false,false,false,false,false,false,false,false,false,false,false,false,false,false,false,false] ?_;refine pU (i:=9) (N:=some 68) HT_ #[true,true,true,true,true,true,true,true,true,true,false,false,false,false,false,false,false,false,false,false,false,false,false,false,false,false,false,false,false,false,false] ?_;refine pU (i:=10) (N:=some 69) HT_ #[true,true,true,true,true,true,true,true,true,true,true,false,false,false,false,false,false,false,false,false,false,false,false,false,false,false,false,false,false,false,false] ?_;refine pU (i:=11) (N:=some 70) HT_ #[true,true,true,true,true,true,true,true,true,true,true,true,false,false,false,false,false,false,false,false,false,false,false,false,false,false,false,false,false,false,false] ?_;refine take_ (i:=12) (N:=some 71) (v:=?_) (a':=?_) #[true,true,true,true,true,true,true,true,true,true,true,true,true,false,false,false,false,false,false,false,false,false,false,false,false,false,false,false,false,false,false] rfl rfl (take_ofW HT_.out HW_.out (by kernel_rfl)) (fun _ _ _ h=>h) (Or.inl ⟨by rfl,?_⟩) hHeld ?_ ?_
             rotate_left
             ·rintro w' ⟨s0,s1,s2,s3,s4,s5⟩;go_simp
              with_reducible rfl
             rotate_left
             ·simp only[Act.put,sA,sZ,sC,i64_w,i32_w];rfl
             refine pU (i:=13) (N:=some 72) HT_ #[true,true,true,true,true,true,true,true,true,true,true,true,true,true,false,false,false,false,false,false,false,false,false,false,false,false,false,false,false,false,false] ?_;refine pU (i:=14) (N:=some 73) HT_ #[true,true,true,true,true,true,true,true,true,true,true,true,true,true,true,false,false,false,false,false,false,false,false,false,false,false,false,false,false,false,false] ?_;refine pU (i:=15) (N:=some 74) HT_ #[true,true,true,true,true,true,true,true,true,true,true,true,true,true,true,true,false,false,false,false,false,false,false,false,false,false,false,false,false,false,false] ?_;refine pU (i:=16) (N:=some 75) HT_ #[true,true,true,true,true,true,true,true,true,true,true,true,true,true,true,true,true,false,false,false,false,false,false,false,false,false,false,false,false,false,false] ?_;refine pU (i:=17) (N:=some 76) HT_ #[true,true,true,true,true,true,true,true,true,true,true,true,true,true,true,true,true,true,false,false,false,false,false,false,false,false,false,false,false,false,false] ?_;refine pU (i:=18) (N:=some 77) HT_ #[true,true,true,true,true,true,true,true,true,true,true,true,true,true,true,true,true,true,true,false,false,false,false,false,false,false,false,false,false,false,false] ?_;refine pU (i:=19) (N:=some 78) HT_ #[true,true,true,true,true,true,true,true,true,true,true,true,true,true,true,true,true,true,true,true,false,false,false,false,false,false,false,false,false,false,false] ?_;refine pU (i:=20) (N:=some 79) HT_ #[true,true,true,true,true,true,true,true,true,true,true,true,true,true,true,true,true,true,true,true,true,false,false,false,false,false,false,false,false,false,false] ?_;refine pU (i:=21) (N:=some 80) HT_ #[true,true,true,true,true,true,true,true,true,true,true,true,true,true,true,true,true,true,true,true,true,true,false,false,false,false,false,false,false,false,false] ?_;refine pU (i:=22) (N:=some 81) HT_ #[true,true,true,true,true,true,true,true,true,true,true,true,true,true,true,true,true,true,true,true,true,true,true,false,false,false,false,false,false,false,false] ?_;refine pU (i:=24) (N:=some 83) HT_ #[true,true,true,true,true,true,true,true,true,true,true,true,true,true,true,true,true,true,true,true,true,true,true,false,true,false,false,false,false,false,false] ?_;refine pU (i:=25) (N:=some 84) HT_ #[true,true,true,true,true,true,true,true,true,true,true,true,true,true,true,true,true,true,true,true,true,true,true,false,true,true,false,false,false,false,false] ?_;refine pU (i:=26) (N:=some 85) HT_ #[true,true,true,true,true,true,true,true,true,true,true,true,true,true,true,true,true,true,true,true,true,true,true,false,true,true,true,false,false,false,false] ?_;refine take_ (i:=23) (N:=some 82) (v:=?_) (a':=?_) #[true,true,true,true,true,true,true,true,true,true,true,true,true,true,true,true,true,true,true,true,true,true,true,true,true,true,true,false,false,false,false] rfl rfl (take_ofW HT_.out HW_.out (by kernel_rfl)) (fun _ _ _ h=>h) (Or.inl ⟨by rfl,?_⟩) hHeld ?_ ?_
             rotate_left
             ·rintro w' ⟨s0,s1,s2,s3,s4,s5⟩;go_simp
              with_reducible rfl
             rotate_left
             ·simp only[Act.put,sA,sZ,sC,i64_w,i32_w];rfl
             refine take_ (i:=27) (N:=some 86) (v:=?_) (a':=?_) #[true,true,true,true,true,true,true,true,true,true,true,true,true,true,true,true,true,true,true,true,true,true,true,true,true,true,true,true,false,false,false] rfl rfl (take_ofW HT_.out HW_.out (by kernel_rfl)) (fun _ _ _ h=>h) (Or.inl ⟨by rfl,?_⟩) hHeld ?_ ?_
             rotate_left
             ·rintro w' ⟨s0,s1,s2,s3,s4,s5⟩;go_simp
              with_reducible rfl
             rotate_left
             ·simp only[Act.put,sA,sZ,sC,i64_w,i32_w];rfl
             refine pU (i:=28) (N:=some 87) HT_ #[true,true,true,true,true,true,true,true,true,true,true,true,true,true,true,true,true,true,true,true,true,true,true,true,true,true,true,true,true,false,false] ?_;refine pU (i:=29) (N:=some 88) HT_ #[true,true,true,true,true,true,true,true,true,true,true,true,true,true,true,true,true,true,true,true,true,true,true,true,true,true,true,true,true,true,false] ?_;refine pU (i:=30) (N:=some 89) HT_ #[true,true,true,true,true,true,true,true,true,true,true,true,true,true,true,true,true,true,true,true,true,true,true,true,true,true,true,true,true,true,true] ?_;refine done_ (done_of HT_.out (by kernel_rfl)) ?_
             try go_wp2
             go_meet
             case rel=>exact⟨_,((t687 != (wrap64 (((rd_T46 l0 (ji20)).f1) - ((rd_T46 l0 0).f1))))),(by first|rfl|(simp;done)|(simp only[← hji20] <;> (first|rfl|simp))|(simp [*];done)),H',⟨by have:=HJ3.out;first|omega|exact Nat.le_refl _⟩,⟨pB⟩⟩
            ·rw[if_neg c30] at H;have c30b0:(t683 == ((rd_T46 l0 a1).f1))=false:=beq_eq_false_iff_ne.mpr c30;have c30b1:(t683 != ((rd_T46 l0 a1).f1))=true:=bne_iff_ne.mpr c30;have H':=aM H;clear H;try go_wp2
             have n0_:=aM (below_drew1 HB.out);clear HB;have HB:=n0_;clear n0_;have p689:0≤(a1:Int):=oE aS
             have q689:a1 < (l0.length:Int):=oE aS
             obtain⟨ad689,e689,hx689_0,hx689_1⟩:=at_T46 HR0.out a1 p689 q689;have hw689_1:=hx689_1;have hw689_0:=hx689_0;obtain rfl:ad682=ad689:=(by injection e689)
             replace hx689_0:=(HB.out.cell (World.block_lt_of_cell? w _ hx689_0)).trans hx689_0;replace hx689_1:=(HB.out.cell (World.block_lt_of_cell? w _ hx689_1)).trans hx689_1;replace p689:=eq_true p689;replace q689:=eq_true q689;refine start_ (n:=31) (S:=fun w'=>w'.cell? (ad682.add ((a1).toNat * 2))=some (.int .i64 ((rd_T46 l0 a1).f0))∧w'.cell? ⟨(ad682.add ((a1).toNat * 2)).block,(ad682.add ((a1).toNat * 2)).off+1,none⟩=some (.int .i64 ((rd_T46 l0 a1).f1))) (ds:=[]) #[false,false,false,false,false,false,false,false,false,false,false,false,false,false,false,false,false,false,false,false,false,false,false,false,false,false,false,false,false,false,false] (by kernel_rfl) rfl rfl ⟨((HB.out.cell (World.block_lt_of_cell? w _ hw689_0)).trans hw689_0),((HB.out.cell (World.block_lt_of_cell? w _ hw689_1)).trans hw689_1)⟩ (fun hHeld=>?_);refine with_tabW Azj.tab5 Azj.bits5 (fun HT_ HW_=>?_)
             generalize w27.drew=w32 at HB hx689_0 hx689_1 hHeld ⊢;refine pU (i:=0) (N:=some 59) HT_ #[true,false,false,false,false,false,false,false,false,false,false,false,false,false,false,false,false,false,false,false,false,false,false,false,false,false,false,false,false,false,false] ?_;refine pU (i:=1) (N:=some 60) HT_ #[true,true,false,false,false,false,false,false,false,false,false,false,false,false,false,false,false,false,false,false,false,false,false,false,false,false,false,false,false,false,false] ?_;refine pU (i:=2) (N:=some 61) HT_ #[true,true,true,false,false,false,false,false,false,false,false,false,false,false,false,false,false,false,false,false,false,false,false,false,false,false,false,false,false,false,false] ?_;refine pU (i:=3) (N:=some 62) HT_ #[true,true,true,true,false,false,false,false,false,false,false,false,false,false,false,false,false,false,false,false,false,false,false,false,false,false,false,false,false,false,false] ?_;refine pU (i:=4) (N:=some 63) HT_ #[true,true,true,true,true,false,false,false,false,false,false,false,false,false,false,false,false,false,false,false,false,false,false,false,false,false,false,false,false,false,false] ?_;refine pU (i:=5) (N:=some 64) HT_ #[true,true,true,true,true,true,false,false,false,false,false,false,false,false,false,false,false,false,false,false,false,false,false,false,false,false,false,false,false,false,false] ?_;refine pU (i:=6) (N:=some 65) HT_ #[true,true,true,true,true,true,true,false,false,false,false,false,false,false,false,false,false,false,false,false,false,false,false,false,false,false,false,false,false,false,false] ?_;refine pU (i:=7) (N:=some 66) HT_ #[true,true,true,true,true,true,true,true,false,false,false,false,false,false,false,false,false,false,false,false,false,false,false,false,false,false,false,false,false,false,false] ?_;refine pU (i:=8) (N:=some 67) HT_ #[true,true,true,true,true,true,true,true,true,false,false,false,false,false,false,false,false,false,false,false,false,false,false,false,false,false,false,false,false,false,false] ?_;refine pU (i:=9) (N:=some 68) HT_ #[true,true,true,true,true,true,true,true,true,true,false,false,false,false,false,false,false,false,false,false,false,false,false,false,false,false,false,false,false,false,false] ?_;refine pU (i:=10) (N:=some 69) HT_ #[true,true,true,true,true,true,true,true,true,true,true,false,false,false,false,false,false,false,false,false,false,false,false,false,false,false,false,false,false,false,false] ?_;refine pU (i:=11) (N:=some 70) HT_ #[true,true,true,true,true,true,true,true,true,true,true,true,false,false,false,false,false,false,false,false,false,false,false,false,false,false,false,false,false,false,false] ?_;refine take_ (i:=12) (N:=some 71) (v:=?_) (a':=?_) #[true,true,true,true,true,true,true,true,true,true,true,true,true,false,false,false,false,false,false,false,false,false,false,false,false,false,false,false,false,false,false] rfl rfl (take_ofW HT_.out HW_.out (by kernel_rfl)) (fun _ _ _ h=>h) (Or.inl ⟨by rfl,?_⟩) hHeld ?_ ?_
             rotate_left
             ·rintro w' ⟨s0,s1⟩;go_simp
              with_reducible rfl
             rotate_left
             ·simp only[Act.put,sA,sZ,sC,i64_w,i32_w];rfl
             refine pU (i:=13) (N:=some 72) HT_ #[true,true,true,true,true,true,true,true,true,true,true,true,true,true,false,false,false,false,false,false,false,false,false,false,false,false,false,false,false,false,false] ?_;refine pU (i:=14) (N:=some 73) HT_ #[true,true,true,true,true,true,true,true,true,true,true,true,true,true,true,false,false,false,false,false,false,false,false,false,false,false,false,false,false,false,false] ?_;refine pU (i:=15) (N:=some 74) HT_ #[true,true,true,true,true,true,true,true,true,true,true,true,true,true,true,true,false,false,false,false,false,false,false,false,false,false,false,false,false,false,false] ?_;refine pure_ (i:=16) (N:=some 75) (v:=undef) (a':=?_) #[true,true,true,true,true,true,true,true,true,true,true,true,true,true,true,true,true,false,false,false,false,false,false,false,false,false,false,false,false,false,false] rfl rfl (any_of HT_.out (by kernel_rfl)) (fun _ _ _ h=>h) (Or.inr ⟨by rfl,rfl⟩) ?_ ?_
             rotate_left
             ·simp only[Act.put,sA,sZ,sC,i64_w,i32_w];rfl
             refine pure_ (i:=17) (N:=some 76) (v:=undef) (a':=?_) #[true,true,true,true,true,true,true,true,true,true,true,true,true,true,true,true,true,true,false,false,false,false,false,false,false,false,false,false,false,false,false] rfl rfl (any_of HT_.out (by kernel_rfl)) (fun _ _ _ h=>h) (Or.inr ⟨by rfl,rfl⟩) ?_ ?_
             rotate_left
             ·simp only[Act.put,sA,sZ,sC,i64_w,i32_w];rfl
             refine pure_ (i:=18) (N:=some 77) (v:=undef) (a':=?_) #[true,true,true,true,true,true,true,true,true,true,true,true,true,true,true,true,true,true,true,false,false,false,false,false,false,false,false,false,false,false,false] rfl rfl (any_of HT_.out (by kernel_rfl)) (fun _ _ _ h=>h) (Or.inr ⟨by rfl,rfl⟩) ?_ ?_
             rotate_left
             ·simp only[Act.put,sA,sZ,sC,i64_w,i32_w];rfl
             refine pure_ (i:=19) (N:=some 78) (v:=undef) (a':=?_) #[true,true,true,true,true,true,true,true,true,true,true,true,true,true,true,true,true,true,true,true,false,false,false,false,false,false,false,false,false,false,false] rfl rfl (any_of HT_.out (by kernel_rfl)) (fun _ _ _ h=>h) (Or.inr ⟨by rfl,rfl⟩) ?_ ?_
             rotate_left
             ·simp only[Act.put,sA,sZ,sC,i64_w,i32_w];rfl
             refine pure_ (i:=20) (N:=some 79) (v:=undef) (a':=?_) #[true,true,true,true,true,true,true,true,true,true,true,true,true,true,true,true,true,true,true,true,true,false,false,false,false,false,false,false,false,false,false] rfl rfl (any_of HT_.out (by kernel_rfl)) (fun _ _ _ h=>h) (Or.inr ⟨by rfl,rfl⟩) ?_ ?_
             rotate_left
             ·simp only[Act.put,sA,sZ,sC,i64_w,i32_w];rfl
             refine pure_ (i:=21) (N:=some 80) (v:=undef) (a':=?_) #[true,true,true,true,true,true,true,true,true,true,true,true,true,true,true,true,true,true,true,true,true,true,false,false,false,false,false,false,false,false,false] rfl rfl (any_of HT_.out (by kernel_rfl)) (fun _ _ _ h=>h) (Or.inr ⟨by rfl,rfl⟩) ?_ ?_
             rotate_left
             ·simp only[Act.put,sA,sZ,sC,i64_w,i32_w];rfl
             refine pure_ (i:=22) (N:=some 81) (v:=undef) (a':=?_) #[true,true,true,true,true,true,true,true,true,true,true,true,true,true,true,true,true,true,true,true,true,true,true,false,false,false,false,false,false,false,false] rfl rfl (any_of HT_.out (by kernel_rfl)) (fun _ _ _ h=>h) (Or.inr ⟨by rfl,rfl⟩) ?_ ?_
             rotate_left
             ·simp only[Act.put,sA,sZ,sC,i64_w,i32_w];rfl
             refine pure_ (i:=23) (N:=some 82) (v:=undef) (a':=?_) #[true,true,true,true,true,true,true,true,true,true,true,true,true,true,true,true,true,true,true,true,true,true,true,true,false,false,false,false,false,false,false] rfl rfl (any_of HT_.out (by kernel_rfl)) (fun _ _ _ h=>h) (Or.inr ⟨by rfl,rfl⟩) ?_ ?_
             rotate_left
             ·simp only[Act.put,sA,sZ,sC,i64_w,i32_w];rfl
             refine pure_ (i:=24) (N:=some 83) (v:=undef) (a':=?_) #[true,true,true,true,true,true,true,true,true,true,true,true,true,true,true,true,true,true,true,true,true,true,true,true,true,false,false,false,false,false,false] rfl rfl (any_of HT_.out (by kernel_rfl)) (fun _ _ _ h=>h) (Or.inr ⟨by rfl,rfl⟩) ?_ ?_
             rotate_left
             ·simp only[Act.put,sA,sZ,sC,i64_w,i32_w];rfl
             refine pure_ (i:=25) (N:=some 84) (v:=undef) (a':=?_) #[true,true,true,true,true,true,true,true,true,true,true,true,true,true,true,true,true,true,true,true,true,true,true,true,true,true,false,false,false,false,false] rfl rfl (any_of HT_.out (by kernel_rfl)) (fun _ _ _ h=>h) (Or.inr ⟨by rfl,rfl⟩) ?_ ?_
             rotate_left
             ·simp only[Act.put,sA,sZ,sC,i64_w,i32_w];rfl
             refine pure_ (i:=26) (N:=some 85) (v:=undef) (a':=?_) #[true,true,true,true,true,true,true,true,true,true,true,true,true,true,true,true,true,true,true,true,true,true,true,true,true,true,true,false,false,false,false] rfl rfl (any_of HT_.out (by kernel_rfl)) (fun _ _ _ h=>h) (Or.inr ⟨by rfl,rfl⟩) ?_ ?_
             rotate_left
             ·simp only[Act.put,sA,sZ,sC,i64_w,i32_w];rfl
             refine pure_ (i:=27) (N:=some 86) (v:=undef) (a':=?_) #[true,true,true,true,true,true,true,true,true,true,true,true,true,true,true,true,true,true,true,true,true,true,true,true,true,true,true,true,false,false,false] rfl rfl (any_of HT_.out (by kernel_rfl)) (fun _ _ _ h=>h) (Or.inr ⟨by rfl,rfl⟩) ?_ ?_
             rotate_left
             ·simp only[Act.put,sA,sZ,sC,i64_w,i32_w];rfl
             refine pure_ (i:=28) (N:=some 87) (v:=undef) (a':=?_) #[true,true,true,true,true,true,true,true,true,true,true,true,true,true,true,true,true,true,true,true,true,true,true,true,true,true,true,true,true,false,false] rfl rfl (any_of HT_.out (by kernel_rfl)) (fun _ _ _ h=>h) (Or.inr ⟨by rfl,rfl⟩) ?_ ?_
             rotate_left
             ·simp only[Act.put,sA,sZ,sC,i64_w,i32_w];rfl
             refine pure_ (i:=29) (N:=some 88) (v:=undef) (a':=?_) #[true,true,true,true,true,true,true,true,true,true,true,true,true,true,true,true,true,true,true,true,true,true,true,true,true,true,true,true,true,true,false] rfl rfl (any_of HT_.out (by kernel_rfl)) (fun _ _ _ h=>h) (Or.inr ⟨by rfl,rfl⟩) ?_ ?_
             rotate_left
             ·simp only[Act.put,sA,sZ,sC,i64_w,i32_w];rfl
             refine pU (i:=30) (N:=some 89) HT_ #[true,true,true,true,true,true,true,true,true,true,true,true,true,true,true,true,true,true,true,true,true,true,true,true,true,true,true,true,true,true,true] ?_;refine done_ (done_of HT_.out (by kernel_rfl)) ?_
             try go_wp2
             go_meet
             case rel=>exact⟨_,(true),sD,H',⟨by have:=HJ3.out;first|omega|exact Nat.le_refl _⟩,⟨pB⟩⟩
           ·rw[if_neg c29] at H;have c29b0:(t688 == 0)=false:=beq_eq_false_iff_ne.mpr c29;have c29b1:(t688 != 0)=true:=bne_iff_ne.mpr c29;have H':=aM H;clear H;try go_wp2
            have n0_:=aM (below_drew1 HB.out);clear HB;have HB:=n0_;clear n0_;refine start_ (n:=31) (S:=fun w'=>True) (ds:=[]) #[false,false,false,false,false,false,false,false,false,false,false,false,false,false,false,false,false,false,false,false,false,false,false,false,false,false,false,false,false,false,false] (by kernel_rfl) rfl rfl trivial (fun hHeld=>?_);refine with_tabW Azj.tab5 Azj.bits5 (fun HT_ HW_=>?_)
            generalize w27.drew=w33 at HB hHeld ⊢;refine pU (i:=0) (N:=some 59) HT_ #[true,false,false,false,false,false,false,false,false,false,false,false,false,false,false,false,false,false,false,false,false,false,false,false,false,false,false,false,false,false,false] ?_;refine pU (i:=1) (N:=some 60) HT_ #[true,true,false,false,false,false,false,false,false,false,false,false,false,false,false,false,false,false,false,false,false,false,false,false,false,false,false,false,false,false,false] ?_;refine pU (i:=2) (N:=some 61) HT_ #[true,true,true,false,false,false,false,false,false,false,false,false,false,false,false,false,false,false,false,false,false,false,false,false,false,false,false,false,false,false,false] ?_;refine pU (i:=3) (N:=some 62) HT_ #[true,true,true,true,false,false,false,false,false,false,false,false,false,false,false,false,false,false,false,false,false,false,false,false,false,false,false,false,false,false,false] ?_;refine pU (i:=4) (N:=some 63) HT_ #[true,true,true,true,true,false,false,false,false,false,false,false,false,false,false,false,false,false,false,false,false,false,false,false,false,false,false,false,false,false,false] ?_;refine pU (i:=5) (N:=some 64) HT_ #[true,true,true,true,true,true,false,false,false,false,false,false,false,false,false,false,false,false,false,false,false,false,false,false,false,false,false,false,false,false,false] ?_;refine pU (i:=6) (N:=some 65) HT_ #[true,true,true,true,true,true,true,false,false,false,false,false,false,false,false,false,false,false,false,false,false,false,false,false,false,false,false,false,false,false,false] ?_;refine pure_ (i:=7) (N:=some 66) (v:=undef) (a':=?_) #[true,true,true,true,true,true,true,true,false,false,false,false,false,false,false,false,false,false,false,false,false,false,false,false,false,false,false,false,false,false,false] rfl rfl (any_of HT_.out (by kernel_rfl)) (fun _ _ _ h=>h) (Or.inr ⟨by rfl,rfl⟩) ?_ ?_
            rotate_left
            ·simp only[Act.put,sA,sZ,sC,i64_w,i32_w];rfl
            refine pure_ (i:=8) (N:=some 67) (v:=undef) (a':=?_) #[true,true,true,true,true,true,true,true,true,false,false,false,false,false,false,false,false,false,false,false,false,false,false,false,false,false,false,false,false,false,false] rfl rfl (any_of HT_.out (by kernel_rfl)) (fun _ _ _ h=>h) (Or.inr ⟨by rfl,rfl⟩) ?_ ?_
            rotate_left
            ·simp only[Act.put,sA,sZ,sC,i64_w,i32_w];rfl
            refine pure_ (i:=9) (N:=some 68) (v:=undef) (a':=?_) #[true,true,true,true,true,true,true,true,true,true,false,false,false,false,false,false,false,false,false,false,false,false,false,false,false,false,false,false,false,false,false] rfl rfl (any_of HT_.out (by kernel_rfl)) (fun _ _ _ h=>h) (Or.inr ⟨by rfl,rfl⟩) ?_ ?_
            rotate_left
            ·simp only[Act.put,sA,sZ,sC,i64_w,i32_w];rfl
            refine pure_ (i:=10) (N:=some 69) (v:=undef) (a':=?_) #[true,true,true,true,true,true,true,true,true,true,true,false,false,false,false,false,false,false,false,false,false,false,false,false,false,false,false,false,false,false,false] rfl rfl (any_of HT_.out (by kernel_rfl)) (fun _ _ _ h=>h) (Or.inr ⟨by rfl,rfl⟩) ?_ ?_
            rotate_left
            ·simp only[Act.put,sA,sZ,sC,i64_w,i32_w];rfl
            refine pure_ (i:=11) (N:=some 70) (v:=undef) (a':=?_) #[true,true,true,true,true,true,true,true,true,true,true,true,false,false,false,false,false,false,false,false,false,false,false,false,false,false,false,false,false,false,false] rfl rfl (any_of HT_.out (by kernel_rfl)) (fun _ _ _ h=>h) (Or.inr ⟨by rfl,rfl⟩) ?_ ?_
            rotate_left
            ·simp only[Act.put,sA,sZ,sC,i64_w,i32_w];rfl
            refine pure_ (i:=12) (N:=some 71) (v:=undef) (a':=?_) #[true,true,true,true,true,true,true,true,true,true,true,true,true,false,false,false,false,false,false,false,false,false,false,false,false,false,false,false,false,false,false] rfl rfl (any_of HT_.out (by kernel_rfl)) (fun _ _ _ h=>h) (Or.inr ⟨by rfl,rfl⟩) ?_ ?_
            rotate_left
            ·simp only[Act.put,sA,sZ,sC,i64_w,i32_w];rfl
            refine pure_ (i:=13) (N:=some 72) (v:=undef) (a':=?_) #[true,true,true,true,true,true,true,true,true,true,true,true,true,true,false,false,false,false,false,false,false,false,false,false,false,false,false,false,false,false,false] rfl rfl (any_of HT_.out (by kernel_rfl)) (fun _ _ _ h=>h) (Or.inr ⟨by rfl,rfl⟩) ?_ ?_
            rotate_left
            ·simp only[Act.put,sA,sZ,sC,i64_w,i32_w];rfl
            refine pU (i:=14) (N:=some 73) HT_ #[true,true,true,true,true,true,true,true,true,true,true,true,true,true,true,false,false,false,false,false,false,false,false,false,false,false,false,false,false,false,false] ?_;refine pU (i:=15) (N:=some 74) HT_ #[true,true,true,true,true,true,true,true,true,true,true,true,true,true,true,true,false,false,false,false,false,false,false,false,false,false,false,false,false,false,false] ?_;refine pure_ (i:=16) (N:=some 75) (v:=undef) (a':=?_) #[true,true,true,true,true,true,true,true,true,true,true,true,true,true,true,true,true,false,false,false,false,false,false,false,false,false,false,false,false,false,false] rfl rfl (any_of HT_.out (by kernel_rfl)) (fun _ _ _ h=>h) (Or.inr ⟨by rfl,rfl⟩) ?_ ?_
            rotate_left
            ·simp only[Act.put,sA,sZ,sC,i64_w,i32_w];rfl
            refine pure_ (i:=17) (N:=some 76) (v:=undef) (a':=?_) #[true,true,true,true,true,true,true,true,true,true,true,true,true,true,true,true,true,true,false,false,false,false,false,false,false,false,false,false,false,false,false] rfl rfl (any_of HT_.out (by kernel_rfl)) (fun _ _ _ h=>h) (Or.inr ⟨by rfl,rfl⟩) ?_ ?_
            rotate_left
            ·simp only[Act.put,sA,sZ,sC,i64_w,i32_w];rfl
            refine pure_ (i:=18) (N:=some 77) (v:=undef) (a':=?_) #[true,true,true,true,true,true,true,true,true,true,true,true,true,true,true,true,true,true,true,false,false,false,false,false,false,false,false,false,false,false,false] rfl rfl (any_of HT_.out (by kernel_rfl)) (fun _ _ _ h=>h) (Or.inr ⟨by rfl,rfl⟩) ?_ ?_
            rotate_left
            ·simp only[Act.put,sA,sZ,sC,i64_w,i32_w];rfl
            refine pure_ (i:=19) (N:=some 78) (v:=undef) (a':=?_) #[true,true,true,true,true,true,true,true,true,true,true,true,true,true,true,true,true,true,true,true,false,false,false,false,false,false,false,false,false,false,false] rfl rfl (any_of HT_.out (by kernel_rfl)) (fun _ _ _ h=>h) (Or.inr ⟨by rfl,rfl⟩) ?_ ?_
            rotate_left
            ·simp only[Act.put,sA,sZ,sC,i64_w,i32_w];rfl
            refine pure_ (i:=20) (N:=some 79) (v:=undef) (a':=?_) #[true,true,true,true,true,true,true,true,true,true,true,true,true,true,true,true,true,true,true,true,true,false,false,false,false,false,false,false,false,false,false] rfl rfl (any_of HT_.out (by kernel_rfl)) (fun _ _ _ h=>h) (Or.inr ⟨by rfl,rfl⟩) ?_ ?_
            rotate_left
            ·simp only[Act.put,sA,sZ,sC,i64_w,i32_w];rfl
            refine pure_ (i:=21) (N:=some 80) (v:=undef) (a':=?_) #[true,true,true,true,true,true,true,true,true,true,true,true,true,true,true,true,true,true,true,true,true,true,false,false,false,false,false,false,false,false,false] rfl rfl (any_of HT_.out (by kernel_rfl)) (fun _ _ _ h=>h) (Or.inr ⟨by rfl,rfl⟩) ?_ ?_
            rotate_left
            ·simp only[Act.put,sA,sZ,sC,i64_w,i32_w];rfl
            refine pure_ (i:=22) (N:=some 81) (v:=undef) (a':=?_) #[true,true,true,true,true,true,true,true,true,true,true,true,true,true,true,true,true,true,true,true,true,true,true,false,false,false,false,false,false,false,false] rfl rfl (any_of HT_.out (by kernel_rfl)) (fun _ _ _ h=>h) (Or.inr ⟨by rfl,rfl⟩) ?_ ?_
            rotate_left
            ·simp only[Act.put,sA,sZ,sC,i64_w,i32_w];rfl
            refine pure_ (i:=23) (N:=some 82) (v:=undef) (a':=?_) #[true,true,true,true,true,true,true,true,true,true,true,true,true,true,true,true,true,true,true,true,true,true,true,true,false,false,false,false,false,false,false] rfl rfl (any_of HT_.out (by kernel_rfl)) (fun _ _ _ h=>h) (Or.inr ⟨by rfl,rfl⟩) ?_ ?_
            rotate_left
            ·simp only[Act.put,sA,sZ,sC,i64_w,i32_w];rfl
            refine pure_ (i:=24) (N:=some 83) (v:=undef) (a':=?_) #[true,true,true,true,true,true,true,true,true,true,true,true,true,true,true,true,true,true,true,true,true,true,true,true,true,false,false,false,false,false,false] rfl rfl (any_of HT_.out (by kernel_rfl)) (fun _ _ _ h=>h) (Or.inr ⟨by rfl,rfl⟩) ?_ ?_
            rotate_left
            ·simp only[Act.put,sA,sZ,sC,i64_w,i32_w];rfl
            refine pure_ (i:=25) (N:=some 84) (v:=undef) (a':=?_) #[true,true,true,true,true,true,true,true,true,true,true,true,true,true,true,true,true,true,true,true,true,true,true,true,true,true,false,false,false,false,false] rfl rfl (any_of HT_.out (by kernel_rfl)) (fun _ _ _ h=>h) (Or.inr ⟨by rfl,rfl⟩) ?_ ?_
            rotate_left
            ·simp only[Act.put,sA,sZ,sC,i64_w,i32_w];rfl
            refine pure_ (i:=26) (N:=some 85) (v:=undef) (a':=?_) #[true,true,true,true,true,true,true,true,true,true,true,true,true,true,true,true,true,true,true,true,true,true,true,true,true,true,true,false,false,false,false] rfl rfl (any_of HT_.out (by kernel_rfl)) (fun _ _ _ h=>h) (Or.inr ⟨by rfl,rfl⟩) ?_ ?_
            rotate_left
            ·simp only[Act.put,sA,sZ,sC,i64_w,i32_w];rfl
            refine pure_ (i:=27) (N:=some 86) (v:=undef) (a':=?_) #[true,true,true,true,true,true,true,true,true,true,true,true,true,true,true,true,true,true,true,true,true,true,true,true,true,true,true,true,false,false,false] rfl rfl (any_of HT_.out (by kernel_rfl)) (fun _ _ _ h=>h) (Or.inr ⟨by rfl,rfl⟩) ?_ ?_
            rotate_left
            ·simp only[Act.put,sA,sZ,sC,i64_w,i32_w];rfl
            refine pure_ (i:=28) (N:=some 87) (v:=undef) (a':=?_) #[true,true,true,true,true,true,true,true,true,true,true,true,true,true,true,true,true,true,true,true,true,true,true,true,true,true,true,true,true,false,false] rfl rfl (any_of HT_.out (by kernel_rfl)) (fun _ _ _ h=>h) (Or.inr ⟨by rfl,rfl⟩) ?_ ?_
            rotate_left
            ·simp only[Act.put,sA,sZ,sC,i64_w,i32_w];rfl
            refine pure_ (i:=29) (N:=some 88) (v:=undef) (a':=?_) #[true,true,true,true,true,true,true,true,true,true,true,true,true,true,true,true,true,true,true,true,true,true,true,true,true,true,true,true,true,true,false] rfl rfl (any_of HT_.out (by kernel_rfl)) (fun _ _ _ h=>h) (Or.inr ⟨by rfl,rfl⟩) ?_ ?_
            rotate_left
            ·simp only[Act.put,sA,sZ,sC,i64_w,i32_w];rfl
            refine pU (i:=30) (N:=some 89) HT_ #[true,true,true,true,true,true,true,true,true,true,true,true,true,true,true,true,true,true,true,true,true,true,true,true,true,true,true,true,true,true,true] ?_;refine done_ (done_of HT_.out (by kernel_rfl)) ?_
            try go_wp2
            go_meet
            case rel=>exact⟨_,(true),sD,H',⟨by have:=HJ3.out;first|omega|exact Nat.le_refl _⟩,⟨pB⟩⟩
          ·rw[if_neg c28] at H;have c28b0:(t684 == 0)=false:=beq_eq_false_iff_ne.mpr c28;have c28b1:(t684 != 0)=true:=bne_iff_ne.mpr c28;(first|rw[c28b0]|(simp only[i64_w,i32_w];rw[c28b0])|skip)
           have H':=aM H;clear H;try go_wp2
           have n0_:=aM (below_drew1 HB.out);clear HB;have HB:=n0_;clear n0_;refine start_ (n:=31) (S:=fun w'=>True) (ds:=[]) #[false,false,false,false,false,false,false,false,false,false,false,false,false,false,false,false,false,false,false,false,false,false,false,false,false,false,false,false,false,false,false] (by kernel_rfl) rfl rfl trivial (fun hHeld=>?_);refine with_tabW Azj.tab5 Azj.bits5 (fun HT_ HW_=>?_)
           generalize w27.drew=w34 at HB hHeld ⊢;refine pU (i:=0) (N:=some 59) HT_ #[true,false,false,false,false,false,false,false,false,false,false,false,false,false,false,false,false,false,false,false,false,false,false,false,false,false,false,false,false,false,false] ?_;refine pU (i:=1) (N:=some 60) HT_ #[true,true,false,false,false,false,false,false,false,false,false,false,false,false,false,false,false,false,false,false,false,false,false,false,false,false,false,false,false,false,false] ?_;refine pU (i:=2) (N:=some 61) HT_ #[true,true,true,false,false,false,false,false,false,false,false,false,false,false,false,false,false,false,false,false,false,false,false,false,false,false,false,false,false,false,false] ?_;refine pure_ (i:=3) (N:=some 62) (v:=undef) (a':=?_) #[true,true,true,true,false,false,false,false,false,false,false,false,false,false,false,false,false,false,false,false,false,false,false,false,false,false,false,false,false,false,false] rfl rfl (any_of HT_.out (by kernel_rfl)) (fun _ _ _ h=>h) (Or.inr ⟨by rfl,rfl⟩) ?_ ?_
           rotate_left
           ·simp only[Act.put,sA,sZ,sC,i64_w,i32_w];rfl
           refine pure_ (i:=4) (N:=some 63) (v:=undef) (a':=?_) #[true,true,true,true,true,false,false,false,false,false,false,false,false,false,false,false,false,false,false,false,false,false,false,false,false,false,false,false,false,false,false] rfl rfl (any_of HT_.out (by kernel_rfl)) (fun _ _ _ h=>h) (Or.inr ⟨by rfl,rfl⟩) ?_ ?_
           rotate_left
           ·simp only[Act.put,sA,sZ,sC,i64_w,i32_w];rfl
           refine pU (i:=5) (N:=some 64) HT_ #[true,true,true,true,true,true,false,false,false,false,false,false,false,false,false,false,false,false,false,false,false,false,false,false,false,false,false,false,false,false,false] ?_;refine pU (i:=6) (N:=some 65) HT_ #[true,true,true,true,true,true,true,false,false,false,false,false,false,false,false,false,false,false,false,false,false,false,false,false,false,false,false,false,false,false,false] ?_;refine pure_ (i:=7) (N:=some 66) (v:=undef) (a':=?_) #[true,true,true,true,true,true,true,true,false,false,false,false,false,false,false,false,false,false,false,false,false,false,false,false,false,false,false,false,false,false,false] rfl rfl (any_of HT_.out (by kernel_rfl)) (fun _ _ _ h=>h) (Or.inr ⟨by rfl,rfl⟩) ?_ ?_
           rotate_left
           ·simp only[Act.put,sA,sZ,sC,i64_w,i32_w];rfl
           refine pure_ (i:=8) (N:=some 67) (v:=undef) (a':=?_) #[true,true,true,true,true,true,true,true,true,false,false,false,false,false,false,false,false,false,false,false,false,false,false,false,false,false,false,false,false,false,false] rfl rfl (any_of HT_.out (by kernel_rfl)) (fun _ _ _ h=>h) (Or.inr ⟨by rfl,rfl⟩) ?_ ?_
           rotate_left
           ·simp only[Act.put,sA,sZ,sC,i64_w,i32_w];rfl
           refine pure_ (i:=9) (N:=some 68) (v:=undef) (a':=?_) #[true,true,true,true,true,true,true,true,true,true,false,false,false,false,false,false,false,false,false,false,false,false,false,false,false,false,false,false,false,false,false] rfl rfl (any_of HT_.out (by kernel_rfl)) (fun _ _ _ h=>h) (Or.inr ⟨by rfl,rfl⟩) ?_ ?_
           rotate_left
           ·simp only[Act.put,sA,sZ,sC,i64_w,i32_w];rfl
           refine pure_ (i:=10) (N:=some 69) (v:=undef) (a':=?_) #[true,true,true,true,true,true,true,true,true,true,true,false,false,false,false,false,false,false,false,false,false,false,false,false,false,false,false,false,false,false,false] rfl rfl (any_of HT_.out (by kernel_rfl)) (fun _ _ _ h=>h) (Or.inr ⟨by rfl,rfl⟩) ?_ ?_
           rotate_left
           ·simp only[Act.put,sA,sZ,sC,i64_w,i32_w];rfl
           refine pure_ (i:=11) (N:=some 70) (v:=undef) (a':=?_) #[true,true,true,true,true,true,true,true,true,true,true,true,false,false,false,false,false,false,false,false,false,false,false,false,false,false,false,false,false,false,false] rfl rfl (any_of HT_.out (by kernel_rfl)) (fun _ _ _ h=>h) (Or.inr ⟨by rfl,rfl⟩) ?_ ?_
           rotate_left
           ·simp only[Act.put,sA,sZ,sC,i64_w,i32_w];rfl
           refine pure_ (i:=12) (N:=some 71) (v:=undef) (a':=?_) #[true,true,true,true,true,true,true,true,true,true,true,true,true,false,false,false,false,false,false,false,false,false,false,false,false,false,false,false,false,false,false] rfl rfl (any_of HT_.out (by kernel_rfl)) (fun _ _ _ h=>h) (Or.inr ⟨by rfl,rfl⟩) ?_ ?_
           rotate_left
           ·simp only[Act.put,sA,sZ,sC,i64_w,i32_w];rfl
           refine pure_ (i:=13) (N:=some 72) (v:=undef) (a':=?_) #[true,true,true,true,true,true,true,true,true,true,true,true,true,true,false,false,false,false,false,false,false,false,false,false,false,false,false,false,false,false,false] rfl rfl (any_of HT_.out (by kernel_rfl)) (fun _ _ _ h=>h) (Or.inr ⟨by rfl,rfl⟩) ?_ ?_
           rotate_left
           ·simp only[Act.put,sA,sZ,sC,i64_w,i32_w];rfl
           refine pU (i:=14) (N:=some 73) HT_ #[true,true,true,true,true,true,true,true,true,true,true,true,true,true,true,false,false,false,false,false,false,false,false,false,false,false,false,false,false,false,false] ?_;refine pU (i:=15) (N:=some 74) HT_ #[true,true,true,true,true,true,true,true,true,true,true,true,true,true,true,true,false,false,false,false,false,false,false,false,false,false,false,false,false,false,false] ?_;refine pure_ (i:=16) (N:=some 75) (v:=undef) (a':=?_) #[true,true,true,true,true,true,true,true,true,true,true,true,true,true,true,true,true,false,false,false,false,false,false,false,false,false,false,false,false,false,false] rfl rfl (any_of HT_.out (by kernel_rfl)) (fun _ _ _ h=>h) (Or.inr ⟨by rfl,rfl⟩) ?_ ?_
           rotate_left
           ·simp only[Act.put,sA,sZ,sC,i64_w,i32_w];rfl
           refine pure_ (i:=17) (N:=some 76) (v:=undef) (a':=?_) #[true,true,true,true,true,true,true,true,true,true,true,true,true,true,true,true,true,true,false,false,false,false,false,false,false,false,false,false,false,false,false] rfl rfl (any_of HT_.out (by kernel_rfl)) (fun _ _ _ h=>h) (Or.inr ⟨by rfl,rfl⟩) ?_ ?_
           rotate_left
           ·simp only[Act.put,sA,sZ,sC,i64_w,i32_w];rfl
           refine pure_ (i:=18) (N:=some 77) (v:=undef) (a':=?_) #[true,true,true,true,true,true,true,true,true,true,true,true,true,true,true,true,true,true,true,false,false,false,false,false,false,false,false,false,false,false,false] rfl rfl (any_of HT_.out (by kernel_rfl)) (fun _ _ _ h=>h) (Or.inr ⟨by rfl,rfl⟩) ?_ ?_
           rotate_left
           ·simp only[Act.put,sA,sZ,sC,i64_w,i32_w];rfl
           refine pure_ (i:=19) (N:=some 78) (v:=undef) (a':=?_) #[true,true,true,true,true,true,true,true,true,true,true,true,true,true,true,true,true,true,true,true,false,false,false,false,false,false,false,false,false,false,false] rfl rfl (any_of HT_.out (by kernel_rfl)) (fun _ _ _ h=>h) (Or.inr ⟨by rfl,rfl⟩) ?_ ?_
           rotate_left
           ·simp only[Act.put,sA,sZ,sC,i64_w,i32_w];rfl
           refine pure_ (i:=20) (N:=some 79) (v:=undef) (a':=?_) #[true,true,true,true,true,true,true,true,true,true,true,true,true,true,true,true,true,true,true,true,true,false,false,false,false,false,false,false,false,false,false] rfl rfl (any_of HT_.out (by kernel_rfl)) (fun _ _ _ h=>h) (Or.inr ⟨by rfl,rfl⟩) ?_ ?_
           rotate_left
           ·simp only[Act.put,sA,sZ,sC,i64_w,i32_w];rfl
           refine pure_ (i:=21) (N:=some 80) (v:=undef) (a':=?_) #[true,true,true,true,true,true,true,true,true,true,true,true,true,true,true,true,true,true,true,true,true,true,false,false,false,false,false,false,false,false,false] rfl rfl (any_of HT_.out (by kernel_rfl)) (fun _ _ _ h=>h) (Or.inr ⟨by rfl,rfl⟩) ?_ ?_
           rotate_left
           ·simp only[Act.put,sA,sZ,sC,i64_w,i32_w];rfl
           refine pure_ (i:=22) (N:=some 81) (v:=undef) (a':=?_) #[true,true,true,true,true,true,true,true,true,true,true,true,true,true,true,true,true,true,true,true,true,true,true,false,false,false,false,false,false,false,false] rfl rfl (any_of HT_.out (by kernel_rfl)) (fun _ _ _ h=>h) (Or.inr ⟨by rfl,rfl⟩) ?_ ?_
           rotate_left
           ·simp only[Act.put,sA,sZ,sC,i64_w,i32_w];rfl
           refine pure_ (i:=23) (N:=some 82) (v:=undef) (a':=?_) #[true,true,true,true,true,true,true,true,true,true,true,true,true,true,true,true,true,true,true,true,true,true,true,true,false,false,false,false,false,false,false] rfl rfl (any_of HT_.out (by kernel_rfl)) (fun _ _ _ h=>h) (Or.inr ⟨by rfl,rfl⟩) ?_ ?_
           rotate_left
           ·simp only[Act.put,sA,sZ,sC,i64_w,i32_w];rfl
           refine pure_ (i:=24) (N:=some 83) (v:=undef) (a':=?_) #[true,true,true,true,true,true,true,true,true,true,true,true,true,true,true,true,true,true,true,true,true,true,true,true,true,false,false,false,false,false,false] rfl rfl (any_of HT_.out (by kernel_rfl)) (fun _ _ _ h=>h) (Or.inr ⟨by rfl,rfl⟩) ?_ ?_
           rotate_left
           ·simp only[Act.put,sA,sZ,sC,i64_w,i32_w];rfl
           refine pure_ (i:=25) (N:=some 84) (v:=undef) (a':=?_) #[true,true,true,true,true,true,true,true,true,true,true,true,true,true,true,true,true,true,true,true,true,true,true,true,true,true,false,false,false,false,false] rfl rfl (any_of HT_.out (by kernel_rfl)) (fun _ _ _ h=>h) (Or.inr ⟨by rfl,rfl⟩) ?_ ?_
           rotate_left
           ·simp only[Act.put,sA,sZ,sC,i64_w,i32_w];rfl
           refine pure_ (i:=26) (N:=some 85) (v:=undef) (a':=?_) #[true,true,true,true,true,true,true,true,true,true,true,true,true,true,true,true,true,true,true,true,true,true,true,true,true,true,true,false,false,false,false] rfl rfl (any_of HT_.out (by kernel_rfl)) (fun _ _ _ h=>h) (Or.inr ⟨by rfl,rfl⟩) ?_ ?_
           rotate_left
           ·simp only[Act.put,sA,sZ,sC,i64_w,i32_w];rfl
           refine pure_ (i:=27) (N:=some 86) (v:=undef) (a':=?_) #[true,true,true,true,true,true,true,true,true,true,true,true,true,true,true,true,true,true,true,true,true,true,true,true,true,true,true,true,false,false,false] rfl rfl (any_of HT_.out (by kernel_rfl)) (fun _ _ _ h=>h) (Or.inr ⟨by rfl,rfl⟩) ?_ ?_
           rotate_left
           ·simp only[Act.put,sA,sZ,sC,i64_w,i32_w];rfl
           refine pure_ (i:=28) (N:=some 87) (v:=undef) (a':=?_) #[true,true,true,true,true,true,true,true,true,true,true,true,true,true,true,true,true,true,true,true,true,true,true,true,true,true,true,true,true,false,false] rfl rfl (any_of HT_.out (by kernel_rfl)) (fun _ _ _ h=>h) (Or.inr ⟨by rfl,rfl⟩) ?_ ?_
           rotate_left
           ·simp only[Act.put,sA,sZ,sC,i64_w,i32_w];rfl
           refine pure_ (i:=29) (N:=some 88) (v:=undef) (a':=?_) #[true,true,true,true,true,true,true,true,true,true,true,true,true,true,true,true,true,true,true,true,true,true,true,true,true,true,true,true,true,true,false] rfl rfl (any_of HT_.out (by kernel_rfl)) (fun _ _ _ h=>h) (Or.inr ⟨by rfl,rfl⟩) ?_ ?_
           rotate_left
           ·simp only[Act.put,sA,sZ,sC,i64_w,i32_w];rfl
           refine pU (i:=30) (N:=some 89) HT_ #[true,true,true,true,true,true,true,true,true,true,true,true,true,true,true,true,true,true,true,true,true,true,true,true,true,true,true,true,true,true,true] ?_;refine done_ (done_of HT_.out (by kernel_rfl)) ?_
           try go_wp2
           go_meet
           case rel=>exact⟨_,(true),sD,H',⟨by have:=HJ3.out;first|omega|exact Nat.le_refl _⟩,⟨pB⟩⟩
         case rest=>as_aux_lemma =>
          clear HC24;try clear c2
          try clear p2
          try clear c3
          try clear p6
          try clear q6
          try clear hx6
          try clear c28
          try clear c28b0
          try clear c28b1
          try clear c29
          try clear c29b0
          try clear c29b1
          try clear c30
          try clear c30b0
          try clear c30b1
          try clear hx689_0
          try clear hx689_1
          try clear p689
          try clear q689
          obtain⟨kq,x89_23,rfl,HA,HJ23,HB⟩:=hcut;cases kq with
          | zero=>exact absurd HA.out (by simp [Azj.j1])
          | succ kj23 =>
           have H:=HA.out;clear HA;simp only[Azj.j1] at H;by_cases c35:x89_23=true
           ·subst c35;rw[if_pos rfl] at H;exact absurd H (by simp)
           ·replace c35:=Bool.eq_false_iff.mpr c35;subst c35;rw[if_neg (show ¬ (false=true) by decide)] at H
            have HC36:=aM H;clear H;go_upto_region 7 with (fail)
            go_cut [106] (fun v106 wc=>∃ (kq:Nat) (x106_35:Bool),v106=.bool x106_35∧Aside0 (Azj.j2 kq l0 a1 a2 x106_35=some r)∧Aside0 (kq≤kj23)∧Aside0 (Below w.heap.size w wc))
            case first =>
             have H:=HC36.out;clear HC36;obtain⟨ji37,hji37⟩:∃ j_:Int,(wrap64 (a1 - 1))=j_:=⟨_,rfl⟩;replace H:(if 0≤(ji37) then(if(ji37) < (l0.length:Int) then(if a2 < ((rd_T46 l0 (ji37)).f0) then(Azj.j2 kj23 l0 a1 a2 true) else(if 0≤a1 then(if a1 < (l0.length:Int) then(Azj.j2 kj23 l0 a1 a2 (decide (a2 > ((rd_T46 l0 a1).f0)))) else(none)) else(none))) else(none)) else(none))=some r:=by first|(rw[hji37] at H;exact H)|(simp only[hji37] at H ⊢;exact H)
             have hji37w:(IntKind.i64.wrap (a1 - 1))=ji37:=(i64_w _).trans hji37;by_cases c38:0≤(ji37)
             ·rw[if_pos c38] at H;have c38b0:decide (0≤(ji37))=true:=dE c38;clear c38;(first|rw[c38b0]|(simp only[i64_w,i32_w];rw[c38b0])|skip)
              by_cases c39:(ji37) < (l0.length:Int)
              ·rw[if_pos c39] at H;have c39b0:decide ((ji37) < (l0.length:Int))=true:=dE c39;clear c39;by_cases c40:a2 < ((rd_T46 l0 (ji37)).f0)
               ·rw[if_pos c40] at H;have c40b0:decide (a2 < ((rd_T46 l0 (ji37)).f0))=true:=dE c40;clear c40;have H':=aM H;clear H;have p692:0≤((ji37):Int):=oE aS
                have q692:(ji37) < (l0.length:Int):=oE aS
                obtain⟨ad692,e692,hx692_0,hx692_1⟩:=at_T46 HR0.out (ji37) p692 q692;obtain rfl:ad682=ad692:=(by injection e692)
                replace hx692_0:=(HB.out.cell (World.block_lt_of_cell? w _ hx692_0)).trans hx692_0;replace hx692_1:=(HB.out.cell (World.block_lt_of_cell? w _ hx692_1)).trans hx692_1;replace p692:=eq_true p692;replace q692:=eq_true q692;go_wp2
                go_meet
                case rel=>exact⟨_,(true),sD,H',⟨by have:=HJ3.out;have:=HJ23.out;first|omega|exact Nat.le_refl _⟩,⟨pB⟩⟩
               ·rw[if_neg c40] at H;have c40b0:decide (a2 < ((rd_T46 l0 (ji37)).f0))=false:=decide_eq_false c40;clear c40;by_cases c41:0≤a1
                ·rw[if_pos c41] at H;have c41b0:decide (0≤a1)=true:=dE c41;clear c41;by_cases c42:a1 < (l0.length:Int)
                 ·rw[if_pos c42] at H;have c42b0:decide (a1 < (l0.length:Int))=true:=dE c42;clear c42;have H':=aM H;clear H;have p692:0≤((ji37):Int):=oE aS
                  have q692:(ji37) < (l0.length:Int):=oE aS
                  obtain⟨ad692,e692,hx692_0,hx692_1⟩:=at_T46 HR0.out (ji37) p692 q692;obtain rfl:ad682=ad692:=(by injection e692)
                  replace hx692_0:=(HB.out.cell (World.block_lt_of_cell? w _ hx692_0)).trans hx692_0;replace hx692_1:=(HB.out.cell (World.block_lt_of_cell? w _ hx692_1)).trans hx692_1;replace p692:=eq_true p692;replace q692:=eq_true q692;have p693:0≤(a1:Int):=oE aS
                  have q693:a1 < (l0.length:Int):=oE aS
                  obtain⟨ad693,e693,hx693_0,hx693_1⟩:=at_T46 HR0.out a1 p693 q693;obtain rfl:ad682=ad693:=(by injection e693)
                  replace hx693_0:=(HB.out.cell (World.block_lt_of_cell? w _ hx693_0)).trans hx693_0;replace hx693_1:=(HB.out.cell (World.block_lt_of_cell? w _ hx693_1)).trans hx693_1;replace p693:=eq_true p693;replace q693:=eq_true q693;go_wp2
                  go_meet
                  case rel=>exact⟨_,(decide (a2 > ((rd_T46 l0 a1).f0))),sD,H',⟨by have:=HJ3.out;have:=HJ23.out;first|omega|exact Nat.le_refl _⟩,⟨pB⟩⟩
                 ·rw[if_neg c42] at H;exact absurd H (by simp)
                ·rw[if_neg c41] at H;exact absurd H (by simp)
              ·rw[if_neg c39] at H;exact absurd H (by simp)
             ·rw[if_neg c38] at H;exact absurd H (by simp)
            case rest=>as_aux_lemma =>
             clear HC36;try clear c2
             try clear p2
             try clear c3
             try clear c4
             try clear p6
             try clear q6
             try clear hx6
             try clear c28
             try clear c28b0
             try clear c28b1
             try clear c29
             try clear c29b0
             try clear c29b1
             try clear c30
             try clear c30b0
             try clear c30b1
             try clear c35
             try clear c38
             try clear c38b0
             try clear c39
             try clear c39b0
             try clear c40
             try clear c40b0
             try clear c41
             try clear c41b0
             try clear c42
             try clear c42b0
             try clear hx689_0
             try clear hx689_1
             try clear hx692_0
             try clear hx692_1
             try clear hx693_0
             try clear hx693_1
             try clear p2
             try clear p6
             try clear p689
             try clear p692
             try clear p693
             try clear q6
             try clear q689
             try clear q692
             try clear q693
             obtain⟨kq,x106_35,rfl,HA,HJ35,HB⟩:=hcut;cases kq with
             | zero=>exact absurd HA.out (by simp [Azj.j2])
             | succ kj35 =>
              have H:=HA.out;clear HA;simp only[Azj.j2] at H;by_cases c43:x106_35=true
              ·subst c43;rw[if_pos rfl] at H;replace H:=bS H;obtain⟨t694,A440,H⟩:=H;replace H:(some t694)=some r:=H;have A44:=aM A440;clear A440;obtain rfl:=Option.some.inj H;go_wp2_with (first|((with_reducible refine gate_callee (f:=11) rfl ?_);refine goesL_ (some 107) rfl rfl Try.func11 (by kernel_rfl) rfl #[] rfl mA ?_;(with_reducible refine(Azb.calls kj35  t694 _ A44.out).mono ?_);rintro e w45 ⟨rfl,hb⟩;refine⟨_,rfl,?_⟩;replace HB:=aM (below_step pB hb);(try clear hb);(try clear hb2);(try clear hk);(try clear hi)))
               go_ret
               exact⟨by first|rfl|(simp [errW_none,errW_some] <;> rfl)|(simp only[← hji20];first|rfl|(simp [errW_none,errW_some] <;> rfl))|(simp [*,errW_none,errW_some] <;> rfl),pB⟩
              ·replace c43:=Bool.eq_false_iff.mpr c43;subst c43;rw[if_neg (show ¬ (false=true) by decide)] at H
               replace H:=bS H;obtain⟨⟨t695,t696⟩,A460,H⟩:=H;(try dsimp only at H);have A46:=aM A460;clear A460;by_cases c47:t696=0
               ·rw[if_pos c47] at H;have c47b0:(t696 == 0)=true:=beq_iff_eq.mpr c47;have c47b1:(t696 != 0)=false:=bne_eq_false_iff_eq.mpr c47;clear c47;obtain⟨ji48,hji48⟩:∃ j_:Int,(wrap64 (a1 - 1))=j_:=⟨_,rfl⟩;replace H:(if 0≤(ji48) then(if(ji48) < (l0.length:Int) then(if t695≥((rd_T46 l0 (ji48)).f1) then(if 0≤a1 then(if a1 < (l0.length:Int) then(if t695≤((rd_T46 l0 a1).f1) then((Azb.f kj35).bind fun t699=>(some t699)) else(none)) else(none)) else(none)) else(none)) else(none)) else(none))=some r:=by first|(rw[hji48] at H;exact H)|(simp only[hji48] at H ⊢;exact H)
                (try rw[hji48] at A46)
                have hji48w:(IntKind.i64.wrap (a1 - 1))=ji48:=(i64_w _).trans hji48;by_cases c49:0≤(ji48)
                ·rw[if_pos c49] at H;have c49b0:decide (0≤(ji48))=true:=dE c49;clear c49;by_cases c50:(ji48) < (l0.length:Int)
                 ·rw[if_pos c50] at H;have c50b0:decide ((ji48) < (l0.length:Int))=true:=dE c50;clear c50;by_cases c51:t695≥((rd_T46 l0 (ji48)).f1)
                  ·rw[if_pos c51] at H;have c51b0:decide (((rd_T46 l0 (ji48)).f1)≤t695)=true:=dE c51;clear c51;by_cases c52:0≤a1
                   ·rw[if_pos c52] at H;have c52b0:decide (0≤a1)=true:=dE c52;clear c52;by_cases c53:a1 < (l0.length:Int)
                    ·rw[if_pos c53] at H;have c53b0:decide (a1 < (l0.length:Int))=true:=dE c53;clear c53;by_cases c54:t695≤((rd_T46 l0 a1).f1)
                     ·rw[if_pos c54] at H;have c54b0:decide (t695≤((rd_T46 l0 a1).f1))=true:=dE c54;clear c54;replace H:=bS H;obtain⟨t699,A550,H⟩:=H;replace H:(some t699)=some r:=H;have A55:=aM A550;clear A550;obtain rfl:=Option.some.inj H;go_wp2_with (first|((with_reducible refine gate_callee (f:=12) rfl ?_);refine goesL_ (some 111) rfl rfl Try.func12 (by kernel_rfl) rfl #[.slice (some ad682) l0.length c0,.int .i64 a2] rfl mA ?_;(with_reducible refine(Ezj.calls kj35 _ _ l0 a2 t695 t696 _ ?side1 ?side2 A46.out).mono ?_);(case side1=>exact cX (Kd.C_below HR0.out HB.out));(case side2=>exact HC0.out);rintro e w56 ⟨rfl,hb⟩;refine⟨_,rfl,?_⟩;replace HB:=aM (below_step pB hb);(try clear hb);(try clear hb2);(try clear hk);(try clear hi);have p697:0≤((ji48):Int):=oE aS;have q697:(ji48) < (l0.length:Int):=oE aS;obtain⟨ad697,e697,hx697_0,hx697_1⟩:=at_T46 HR0.out (ji48) p697 q697;obtain rfl:ad682=ad697:=(by injection e697);replace hx697_0:=(HB.out.cell (World.block_lt_of_cell? w _ hx697_0)).trans hx697_0;replace hx697_1:=(HB.out.cell (World.block_lt_of_cell? w _ hx697_1)).trans hx697_1;replace p697:=eq_true p697;replace q697:=eq_true q697;have p698:0≤(a1:Int):=oE aS;have q698:a1 < (l0.length:Int):=oE aS;obtain⟨ad698,e698,hx698_0,hx698_1⟩:=at_T46 HR0.out a1 p698 q698;obtain rfl:ad682=ad698:=(by injection e698);replace hx698_0:=(HB.out.cell (World.block_lt_of_cell? w _ hx698_0)).trans hx698_0;replace hx698_1:=(HB.out.cell (World.block_lt_of_cell? w _ hx698_1)).trans hx698_1;replace p698:=eq_true p698;replace q698:=eq_true q698)|(go_at_call 11;(with_reducible refine(Azb.calls kj35  t699 _ A55.out).mono ?_);rintro e w57 ⟨rfl,hb⟩;replace HB:=aM (below_step pB hb);(try clear hb);(try clear hb2);(try clear hk);(try clear hi)))
                      go_ret
                      exact⟨by first|rfl|(simp [errW_none,errW_some] <;> rfl)|(simp only[← hji20,← hji48];first|rfl|(simp [errW_none,errW_some] <;> rfl))|(simp [*,errW_none,errW_some] <;> rfl),pB⟩
                     ·rw[if_neg c54] at H;exact absurd H (by simp)
                    ·rw[if_neg c53] at H;exact absurd H (by simp)
                   ·rw[if_neg c52] at H;exact absurd H (by simp)
                  ·rw[if_neg c51] at H;exact absurd H (by simp)
                 ·rw[if_neg c50] at H;exact absurd H (by simp)
                ·rw[if_neg c49] at H;exact absurd H (by simp)
               ·rw[if_neg c47] at H;exact absurd H (by simp)
        ·rw[if_neg c22] at H;exact absurd H (by simp)
       ·rw[if_neg c21] at H;exact absurd H (by simp)
      ·rw[if_neg c19] at H;exact absurd H (by simp)
     ·rw[if_neg c17] at H;exact absurd H (by simp)
    ·rw[if_neg c16] at H;exact absurd H (by simp)

/-- THE ONE PURE STATEMENT of Azj: yours. -/
def Azj.Pure:Prop:=∀ (l0:List (S46)) (a1:Int) (a2:Int),l0.length≤maxLen→l0.length * 16≤140737488351232→(∀ x_ ∈ l0,((Lit.int .i64 x_.f0).wf=true)∧((Lit.int .i64 x_.f1).wf=true))→(Lit.int .i64 a1).wf=true→(Lit.int .i64 a2).wf=true→∃ k,Azj.f k l0 a1 a2=some true

end Go.Proofs.Ytnklckihalhlmaa.Print
