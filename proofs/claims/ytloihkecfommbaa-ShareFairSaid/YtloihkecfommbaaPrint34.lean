import Derived.Test.YtloihkecfommbaaPrint0
import Derived.Test.YtloihkecfommbaaPrint24
import Derived.Test.YtloihkecfommbaaPrint28
import Derived.Test.YtloihkecfommbaaPrint33
namespace Go.Proofs.Ytloihkecfommbaa.Print
open Go.RowKit Go.Proofs.YtloihkecfommbaaW.PrintWords Go.Proofs.YtloihkecfommbaaW.PrintLast Go.Proofs.YtloihkecfommbaaW.PrintMore
attribute [local go_sem] max2_int min2_int max_two min_two max_three min_three max_four min_four
set_option linter.unusedVariables false
set_option maxRecDepth 100000
set_option maxHeartbeats 8000000
set_option linter.unusedSimpArgs false

mutual
def Czv.j0:Nat→Int→Bool→Bool→List Int→List Int→Option (Int × Int)
 | 0,_,_,_,_,_=>none
 | k+1,x9,x37,x547000,x547001,x547002=>if x37=true then(Czv.j1 k (wrap64 (x9+1)) x547000 x547001 x547002) else(Czv.j1 k x9 x547000 x547001 x547002)
def Czv.j1:Nat→Int→Bool→List Int→List Int→Option (Int × Int)
 | 0,_,_,_,_=>none
 | k+1,x9,x547000,x547001,x547002=>if x9 > 1125899906842624 then(some (0,2)) else(if x547000=true then(some (wrap64 (-x9),0)) else(some (x9,0)))
end
def Czv.f (k:Nat) (a0_0:Bool) (l0_1:List Int) (l0_2:List Int) (a1:Bool):Option (Int × Int):=(Dzm.f k a0_0 l0_1 l0_2).bind fun t547=>(if t547=true then((Bzf.f k l0_1 l0_2).bind fun bt548=>(if bt548.2.2=0 then((Ezp.f k bt548.1).bind fun bt555=>(if bt555.2=0 then(if(bt548.2.1.length:Int) > 0 then(Czv.j0 k bt555.1 a1 a0_0 l0_1 l0_2) else(Czv.j0 k bt555.1 false a0_0 l0_1 l0_2)) else(some (0,2)))) else(some (0,bt548.2.2)))) else(some (0,3)))
theorem Czv.mono_l:∀ k,(∀ y0 y1 y2 y3 y4,LeO (Czv.j0 k y0 y1 y2 y3 y4) (Czv.j0 (k+1) y0 y1 y2 y3 y4))∧(∀ y0 y1 y2 y3,LeO (Czv.j1 k y0 y1 y2 y3) (Czv.j1 (k+1) y0 y1 y2 y3))
 | 0=>⟨fun _ _ _ _ _ r h=>by simp [Czv.j0] at h,fun _ _ _ _ r h=>by simp [Czv.j1] at h⟩
 | k+1=>by
  obtain⟨ih0,ih1⟩:=Czv.mono_l k;refine⟨?_,?_⟩
  ·intro y0 y1 y2 y3 y4;unfold Czv.j0;with_reducible repeat' first|exact ih0 _ _ _ _ _|exact ih1 _ _ _ _|exact Bzf.mono _ _ _|exact Ezp.mono _ _|exact Dzm.mono _ _ _ _|exact LeO.refl _|exact LeO.none _|refine LeO.ite ?_ ?_|refine LeO.bind ?_ (fun _=>?_)
  ·intro y0 y1 y2 y3;unfold Czv.j1;with_reducible repeat' first|exact ih0 _ _ _ _ _|exact ih1 _ _ _ _|exact Bzf.mono _ _ _|exact Ezp.mono _ _|exact Dzm.mono _ _ _ _|exact LeO.refl _|exact LeO.none _|refine LeO.ite ?_ ?_|refine LeO.bind ?_ (fun _=>?_)
theorem Czv.mono:∀ a0 a1 a2 a3 k,LeO (Czv.f k a0 a1 a2 a3) (Czv.f (k+1) a0 a1 a2 a3):=by
 intro a0 a1 a2 a3 k;obtain⟨ih0,ih1⟩:=Czv.mono_l k;unfold Czv.f;with_reducible repeat' first|exact ih0 _ _ _ _ _|exact ih1 _ _ _ _|exact Bzf.mono _ _ _|exact Ezp.mono _ _|exact Dzm.mono _ _ _ _|exact LeO.refl _|exact LeO.none _|refine LeO.ite ?_ ?_|refine LeO.bind ?_ (fun _=>?_)
theorem Czv.calls (k:Nat) (a0_0:Bool) (A0_1:Option Addr) (c0_1:Nat) (l0_1:List Int) (A0_2:Option Addr) (c0_2:Nat) (l0_2:List Int) (a1:Bool) (r1:Int) (r2:Int) (w:World) (hr0_1:Kd.C (Kd.int .i64) w A0_1 l0_1.length l0_1) (hc0_1:l0_1.length≤c0_1) (hr0_2:Kd.C (Kd.int .i64) w A0_2 l0_2.length l0_2) (hc0_2:l0_2.length≤c0_2) (h:Czv.f k a0_0 l0_1 l0_2 a1=some (r1,r2)) :
  Calls Try.prog 37 #[.agg #[.bool a0_0,.slice A0_1 l0_1.length c0_1,.slice A0_2 l0_2.length c0_2],.bool a1] w fun e w'=>e=.returned (.tuple #[.int .i64 r1,.int .i64 r2])∧Below w.heap.size w w':=by
 have hu36:=Try.underlying36;have HR0_1:=aM hr0_1;have HC0_1:=aM hc0_1;clear hr0_1 hc0_1;have HR0_2:=aM hr0_2;have HC0_2:=aM hc0_2;clear hr0_2 hc0_2;have HB:=aM (Below.refl w.heap.size w);have H:((Dzm.f k a0_0 l0_1 l0_2).bind fun t547=>(if t547=true then((Bzf.f k l0_1 l0_2).bind fun bt548=>(if bt548.2.2=0 then((Ezp.f k bt548.1).bind fun bt555=>(if bt555.2=0 then(if(bt548.2.1.length:Int) > 0 then(Czv.j0 k bt555.1 a1 a0_0 l0_1 l0_2) else(Czv.j0 k bt555.1 false a0_0 l0_1 l0_2)) else(some (0,2)))) else(some (0,bt548.2.2)))) else(some (0,3))))=some (r1,r2):=h
 clear h;replace H:=bS H;obtain⟨t547,A30,H⟩:=H;(try dsimp only at H);have A3:=aM A30;clear A30;by_cases c4:t547=true
 ·subst c4;rw[if_pos rfl] at H;replace H:=bS H;obtain⟨⟨t548,t549,t550⟩,A50,H⟩:=H;(try dsimp only at H);have A5:=aM A50;clear A50;by_cases c6:t550=0
  ·rw[if_pos c6] at H;have c6b0:(t550 == 0)=true:=beq_iff_eq.mpr c6;have c6b1:(t550 != 0)=false:=bne_eq_false_iff_eq.mpr c6;clear c6;replace H:=bS H;obtain⟨⟨t555,t556⟩,A70,H⟩:=H;(try dsimp only at H);have A7:=aM A70;clear A70;by_cases c8:t556=0
   ·rw[if_pos c8] at H;have c8b0:(t556 == 0)=true:=beq_iff_eq.mpr c8;have c8b1:(t556 != 0)=false:=bne_eq_false_iff_eq.mpr c8;clear c8;have HC9:=aM H;clear H;go_enter Try.func37,Try.ntmps37
    go_upto_region 9 with (first|((with_reducible refine gate_dst (N:=2) rfl ?_);refine box_event ?hg (N:=2) ?hd (cs:=#[.bool a0_0,.slice A0_1 l0_1.length c0_1,.slice A0_2 l0_2.length c0_2]) (t:=36) ?hr ?_;(case hd=>rfl);(case hg=>rfl);(case hr=>first|(go_simp;done)|(go_simp;rfl));intro gb546 hg w10 hbox hb;have BK546:=aM (hbox);have GW546:=aM (gW hg:w.heap.size≤gb546);have GE546:=aM (gW hg:w.heap.size≤gb546);replace HB:=aM (below_step pB hb);clear hb hbox hg;obtain⟨hcz11_0,hcz11_1,hcz11_2,hfz11_0,hfz11_1,hfz11_2⟩:=bk3 BK546)|((with_reducible refine gate_callee (f:=51) rfl ?_);refine goesL_ (some 11) rfl rfl Try.func51 (by kernel_rfl) rfl #[.agg #[.bool a0_0,.slice A0_1 l0_1.length c0_1,.slice A0_2 l0_2.length c0_2]] rfl mA ?_;(with_reducible refine(Dzm.calls k a0_0 _ _ l0_1 _ _ l0_2 true _ ?side1 ?side2 ?side3 ?side4 A3.out).mono ?_);(case side1=>exact cX (Kd.C_below HR0_1.out HB.out));(case side2=>exact HC0_1.out);(case side3=>exact cX (Kd.C_below HR0_2.out HB.out));(case side4=>exact HC0_2.out);rintro e w12 ⟨rfl,hb⟩;refine⟨_,rfl,?_⟩;replace BK546:=aM (kB BK546 hb);replace HB:=aM (below_step pB hb);(try clear hb);(try clear hb2);(try clear hk);(try clear hi);obtain⟨hcz13_0,hcz13_1,hcz13_2,hfz13_0,hfz13_1,hfz13_2⟩:=bk3 BK546)|((with_reducible refine gate_callee (f:=52) rfl ?_);refine goesL_ (some 18) rfl rfl Try.func52 (by kernel_rfl) rfl #[.slice A0_1 l0_1.length c0_1,.slice A0_2 l0_2.length c0_2] rfl mA ?_;(with_reducible refine(Bzf.calls k _ _ l0_1 _ _ l0_2 t548 t549 t550 _ ?side1 ?side2 ?side3 ?side4 A5.out).mono ?_);(case side1=>exact cX (Kd.C_below HR0_1.out HB.out));(case side2=>exact HC0_1.out);(case side3=>exact cX (Kd.C_below HR0_2.out HB.out));(case side4=>exact HC0_2.out);rintro e w14 ⟨v551,v553,rfl,ho0,ho1,hb⟩;refine⟨_,rfl,?_⟩;have HO552:=aM (Kd.R_lower ho0 (below_size pB));have HO554:=aM (Kd.R_lower ho1 (below_size pB));replace BK546:=aM (kB BK546 hb);replace HB:=aM (below_step pB hb);(try clear hb);(try clear hb2);(try clear hk);(try clear hi);(try clear ho0);(try clear ho1);obtain⟨Ao15,co15,eo15⟩:=Kd.R_slice HO552.out;subst eo15)|((with_reducible refine gate_callee (f:=53) rfl ?_);refine goesL_ (some 27) rfl rfl Try.func53 (by kernel_rfl) rfl #[.slice Ao15 t548.length co15] rfl mA ?_;(with_reducible refine(Ezp.calls k _ _ t548 t555 t556 _ ?side1 ?side2 A7.out).mono ?_);(case side1=>repeat(first|exact(Kd.R_reads' HO552.out).2.2|(with_reducible refine Kd.C_alloc ?_ _)|(with_reducible refine Kd.C_drewN ?_ _)|(with_reducible refine Kd.C_drew ?_)));(case side2=>exact(Kd.R_reads' HO552.out).2.1);rintro e w' ⟨rfl,⟨nd,rfl⟩⟩;refine⟨_,rfl,?_⟩))
    (try simp only[Act.put,sA,sZ,sC])
    go_cut [37] (fun v37 wc=>∃ (kq:Nat) (x37_8:Bool),v37=.bool x37_8∧Aside0 (Czv.j0 kq t555 x37_8 a0_0 l0_1 l0_2=some (r1,r2))∧Aside0 (kq≤k)∧Aside0 (wc.heap[gb546]?=some (.cells #[.bool a0_0,(.slice A0_1 l0_1.length c0_1),(.slice A0_2 l0_2.length c0_2)] 36 (0,0)))∧Aside0 (Below w.heap.size w wc))
    case first =>
     have H:=HC9.out;clear HC9;by_cases c16:(t549.length:Int) > 0
     ·rw[if_pos c16] at H;have c16b0:decide (0 < (t549.length:Int))=true:=dE c16;have c16b1:decide (0 < t549.length)=true:=dE (by omega)
      clear c16;(first|rw[c16b0]|(simp only[i64_w,i32_w];rw[c16b0])|skip)
      have H':=aM H;clear H;obtain⟨Ao17,co17,eo17⟩:=Kd.R_slice HO554.out;subst eo17;go_wp2
      go_meet
      case rel=>exact⟨_,(a1),sD,H',⟨by first|omega|exact Nat.le_refl _⟩,⟨by(with_reducible repeat(first|refine blk_drewN ?_ _|refine blk_drew ?_|refine blk_alloc ?_ _));exact BK546.out⟩,⟨pB⟩⟩
     ·rw[if_neg c16] at H;have c16b0:decide (0 < (t549.length:Int))=false:=decide_eq_false c16;have c16b1:decide (0 < t549.length)=false:=decide_eq_false (by omega)
      clear c16;(first|rw[c16b0]|(simp only[i64_w,i32_w];rw[c16b0])|skip)
      have H':=aM H;clear H;obtain⟨Ao18,co18,eo18⟩:=Kd.R_slice HO554.out;subst eo18;go_wp2
      go_meet
      case rel=>exact⟨_,(false),sD,H',⟨by first|omega|exact Nat.le_refl _⟩,⟨by(with_reducible repeat(first|refine blk_drewN ?_ _|refine blk_drew ?_|refine blk_alloc ?_ _));exact BK546.out⟩,⟨pB⟩⟩
    case rest =>
     clear HC9;try clear c1
     try clear p2
     try clear c3
     try clear c4
     try clear c5
     try clear c6
     try clear c6b0
     try clear c6b1
     try clear c8
     try clear c8b0
     try clear c8b1
     try clear c16
     try clear c16b0
     try clear c16b1
     try clear hcz11_0
     try clear hcz11_1
     try clear hcz11_2
     try clear hcz13_0
     try clear hcz13_1
     try clear hcz13_2
     try clear hfz11_0
     try clear hfz11_1
     try clear hfz11_2
     try clear hfz13_0
     try clear hfz13_1
     try clear hfz13_2
     obtain⟨kq,x37_8,rfl,HA,HJ8,BK546,HB⟩:=hcut;cases kq with
     | zero=>exact absurd HA.out (by simp [Czv.j0])
     | succ kj8 =>
      have H:=HA.out;clear HA;simp only[Czv.j0] at H;have HC19:=aM H;clear H;go_upto_if 37 with (fail)
      go_cut [9] (fun v9 wc=>∃ (kq:Nat) (x9_18:Int),v9=.int .i64 x9_18∧Aside0 (Czv.j1 kq x9_18 a0_0 l0_1 l0_2=some (r1,r2))∧Aside0 (kq≤kj8)∧Aside0 (wc.heap[gb546]?=some (.cells #[.bool a0_0,(.slice A0_1 l0_1.length c0_1),(.slice A0_2 l0_2.length c0_2)] 36 (0,0)))∧Aside0 (Below w.heap.size w wc))
      case first =>
       have H:=HC19.out;clear HC19;by_cases c20:x37_8=true
       ·subst c20;rw[if_pos rfl] at H;have H':=aM H;clear H;go_wp2
        go_meet
        case rel=>exact⟨_,(wrap64 (t555+1)),sD,H',⟨by have:=HJ8.out;first|omega|exact Nat.le_refl _⟩,⟨by(with_reducible repeat(first|refine blk_drewN ?_ _|refine blk_drew ?_|refine blk_alloc ?_ _));exact BK546.out⟩,⟨pB⟩⟩
       ·replace c20:=Bool.eq_false_iff.mpr c20;subst c20;rw[if_neg (show ¬ (false=true) by decide)] at H
        have H':=aM H;clear H;go_wp2
        go_meet
        case rel=>exact⟨_,(t555),sD,H',⟨by have:=HJ8.out;first|omega|exact Nat.le_refl _⟩,⟨by(with_reducible repeat(first|refine blk_drewN ?_ _|refine blk_drew ?_|refine blk_alloc ?_ _));exact BK546.out⟩,⟨pB⟩⟩
      case rest =>
       clear HC19;try clear c1
       try clear c2
       try clear p2
       try clear c3
       try clear c4
       try clear c5
       try clear c6
       try clear c6b0
       try clear c6b1
       try clear p6
       try clear c8
       try clear c8b0
       try clear c8b1
       try clear c16
       try clear c16b0
       try clear c16b1
       try clear c20
       try clear hcz11_0
       try clear hcz11_1
       try clear hcz11_2
       try clear hcz13_0
       try clear hcz13_1
       try clear hcz13_2
       try clear hfz11_0
       try clear hfz11_1
       try clear hfz11_2
       try clear hfz13_0
       try clear hfz13_1
       try clear hfz13_2
       try clear p2
       obtain⟨kq,x9_18,rfl,HA,HJ18,BK546,HB⟩:=hcut;cases kq with
       | zero=>exact absurd HA.out (by simp [Czv.j1])
       | succ kj18 =>
        have H:=HA.out;clear HA;simp only[Czv.j1] at H;by_cases c21:x9_18 > 1125899906842624
        ·rw[if_pos c21] at H;have c21b0:decide (1125899906842624 < x9_18)=true:=dE c21;clear c21;simp only[Option.some.injEq,Prod.mk.injEq] at H;obtain⟨rfl,rfl⟩:=H;go_wp2
         go_ret2
         exact⟨eW,pB⟩
        ·rw[if_neg c21] at H;have c21b0:decide (1125899906842624 < x9_18)=false:=decide_eq_false c21;clear c21;by_cases c22:a0_0=true
         ·subst c22;rw[if_pos rfl] at H;simp only[Option.some.injEq,Prod.mk.injEq] at H;obtain⟨rfl,rfl⟩:=H;obtain⟨hcz23_0,hcz23_1,hcz23_2,hfz23_0,hfz23_1,hfz23_2⟩:=bk3 BK546;go_wp2
          go_ret2
          exact⟨eW,pB⟩
         ·replace c22:=Bool.eq_false_iff.mpr c22;subst c22;rw[if_neg (show ¬ (false=true) by decide)] at H
          simp only[Option.some.injEq,Prod.mk.injEq] at H;obtain⟨rfl,rfl⟩:=H;obtain⟨hcz24_0,hcz24_1,hcz24_2,hfz24_0,hfz24_1,hfz24_2⟩:=bk3 BK546;go_wp2
          go_ret2
          exact⟨eW,pB⟩
   ·rw[if_neg c8] at H;have c8b0:(t556 == 0)=false:=beq_eq_false_iff_ne.mpr c8;have c8b1:(t556 != 0)=true:=bne_iff_ne.mpr c8;simp only[Option.some.injEq,Prod.mk.injEq] at H;obtain⟨rfl,rfl⟩:=H;go_enter Try.func37,Try.ntmps37
    go_wp2_with (first|((with_reducible refine gate_dst (N:=2) rfl ?_);refine box_event ?hg (N:=2) ?hd (cs:=#[.bool a0_0,.slice A0_1 l0_1.length c0_1,.slice A0_2 l0_2.length c0_2]) (t:=36) ?hr ?_;(case hd=>rfl);(case hg=>rfl);(case hr=>first|(go_simp;done)|(go_simp;rfl));intro gb546 hg w25 hbox hb;have BK546:=aM (hbox);have GW546:=aM (gW hg:w.heap.size≤gb546);have GE546:=aM (gW hg:w.heap.size≤gb546);replace HB:=aM (below_step pB hb);clear hb hbox hg;obtain⟨hcz26_0,hcz26_1,hcz26_2,hfz26_0,hfz26_1,hfz26_2⟩:=bk3 BK546)|((with_reducible refine gate_callee (f:=51) rfl ?_);refine goesL_ (some 11) rfl rfl Try.func51 (by kernel_rfl) rfl #[.agg #[.bool a0_0,.slice A0_1 l0_1.length c0_1,.slice A0_2 l0_2.length c0_2]] rfl mA ?_;(with_reducible refine(Dzm.calls k a0_0 _ _ l0_1 _ _ l0_2 true _ ?side1 ?side2 ?side3 ?side4 A3.out).mono ?_);(case side1=>exact cX (Kd.C_below HR0_1.out HB.out));(case side2=>exact HC0_1.out);(case side3=>exact cX (Kd.C_below HR0_2.out HB.out));(case side4=>exact HC0_2.out);rintro e w27 ⟨rfl,hb⟩;refine⟨_,rfl,?_⟩;replace BK546:=aM (kB BK546 hb);replace HB:=aM (below_step pB hb);(try clear hb);(try clear hb2);(try clear hk);(try clear hi);obtain⟨hcz28_0,hcz28_1,hcz28_2,hfz28_0,hfz28_1,hfz28_2⟩:=bk3 BK546)|((with_reducible refine gate_callee (f:=52) rfl ?_);refine goesL_ (some 18) rfl rfl Try.func52 (by kernel_rfl) rfl #[.slice A0_1 l0_1.length c0_1,.slice A0_2 l0_2.length c0_2] rfl mA ?_;(with_reducible refine(Bzf.calls k _ _ l0_1 _ _ l0_2 t548 t549 t550 _ ?side1 ?side2 ?side3 ?side4 A5.out).mono ?_);(case side1=>exact cX (Kd.C_below HR0_1.out HB.out));(case side2=>exact HC0_1.out);(case side3=>exact cX (Kd.C_below HR0_2.out HB.out));(case side4=>exact HC0_2.out);rintro e w29 ⟨v551,v553,rfl,ho0,ho1,hb⟩;refine⟨_,rfl,?_⟩;have HO552:=aM (Kd.R_lower ho0 (below_size pB));have HO554:=aM (Kd.R_lower ho1 (below_size pB));replace BK546:=aM (kB BK546 hb);replace HB:=aM (below_step pB hb);(try clear hb);(try clear hb2);(try clear hk);(try clear hi);(try clear ho0);(try clear ho1);obtain⟨Ao30,co30,eo30⟩:=Kd.R_slice HO552.out;subst eo30)|((with_reducible refine gate_callee (f:=53) rfl ?_);refine goesL_ (some 27) rfl rfl Try.func53 (by kernel_rfl) rfl #[.slice Ao30 t548.length co30] rfl mA ?_;(with_reducible refine(Ezp.calls k _ _ t548 t555 t556 _ ?side1 ?side2 A7.out).mono ?_);(case side1=>repeat(first|exact(Kd.R_reads' HO552.out).2.2|(with_reducible refine Kd.C_alloc ?_ _)|(with_reducible refine Kd.C_drewN ?_ _)|(with_reducible refine Kd.C_drew ?_)));(case side2=>exact(Kd.R_reads' HO552.out).2.1);rintro e w' ⟨rfl,⟨nd,rfl⟩⟩;refine⟨_,rfl,?_⟩))
    go_ret2
    exact⟨eW,pB⟩
  ·rw[if_neg c6] at H;have c6b0:(t550 == 0)=false:=beq_eq_false_iff_ne.mpr c6;have c6b1:(t550 != 0)=true:=bne_iff_ne.mpr c6;simp only[Option.some.injEq,Prod.mk.injEq] at H;obtain⟨rfl,rfl⟩:=H;go_enter Try.func37,Try.ntmps37
   go_wp2_with (first|((with_reducible refine gate_dst (N:=2) rfl ?_);refine box_event ?hg (N:=2) ?hd (cs:=#[.bool a0_0,.slice A0_1 l0_1.length c0_1,.slice A0_2 l0_2.length c0_2]) (t:=36) ?hr ?_;(case hd=>rfl);(case hg=>rfl);(case hr=>first|(go_simp;done)|(go_simp;rfl));intro gb546 hg w31 hbox hb;have BK546:=aM (hbox);have GW546:=aM (gW hg:w.heap.size≤gb546);have GE546:=aM (gW hg:w.heap.size≤gb546);replace HB:=aM (below_step pB hb);clear hb hbox hg;obtain⟨hcz32_0,hcz32_1,hcz32_2,hfz32_0,hfz32_1,hfz32_2⟩:=bk3 BK546)|((with_reducible refine gate_callee (f:=51) rfl ?_);refine goesL_ (some 11) rfl rfl Try.func51 (by kernel_rfl) rfl #[.agg #[.bool a0_0,.slice A0_1 l0_1.length c0_1,.slice A0_2 l0_2.length c0_2]] rfl mA ?_;(with_reducible refine(Dzm.calls k a0_0 _ _ l0_1 _ _ l0_2 true _ ?side1 ?side2 ?side3 ?side4 A3.out).mono ?_);(case side1=>exact cX (Kd.C_below HR0_1.out HB.out));(case side2=>exact HC0_1.out);(case side3=>exact cX (Kd.C_below HR0_2.out HB.out));(case side4=>exact HC0_2.out);rintro e w33 ⟨rfl,hb⟩;refine⟨_,rfl,?_⟩;replace BK546:=aM (kB BK546 hb);replace HB:=aM (below_step pB hb);(try clear hb);(try clear hb2);(try clear hk);(try clear hi);obtain⟨hcz34_0,hcz34_1,hcz34_2,hfz34_0,hfz34_1,hfz34_2⟩:=bk3 BK546)|((with_reducible refine gate_callee (f:=52) rfl ?_);refine goesL_ (some 18) rfl rfl Try.func52 (by kernel_rfl) rfl #[.slice A0_1 l0_1.length c0_1,.slice A0_2 l0_2.length c0_2] rfl mA ?_;(with_reducible refine(Bzf.calls k _ _ l0_1 _ _ l0_2 t548 t549 t550 _ ?side1 ?side2 ?side3 ?side4 A5.out).mono ?_);(case side1=>exact cX (Kd.C_below HR0_1.out HB.out));(case side2=>exact HC0_1.out);(case side3=>exact cX (Kd.C_below HR0_2.out HB.out));(case side4=>exact HC0_2.out);rintro e w35 ⟨v551,v553,rfl,ho0,ho1,hb⟩;refine⟨_,rfl,?_⟩;have HO552:=aM (Kd.R_lower ho0 (below_size pB));have HO554:=aM (Kd.R_lower ho1 (below_size pB));replace BK546:=aM (kB BK546 hb);replace HB:=aM (below_step pB hb);(try clear hb);(try clear hb2);(try clear hk);(try clear hi);(try clear ho0);(try clear ho1)))
   go_ret2
   exact⟨eW,pB⟩
 ·replace c4:=Bool.eq_false_iff.mpr c4;subst c4;rw[if_neg (show ¬ (false=true) by decide)] at H
  simp only[Option.some.injEq,Prod.mk.injEq] at H;obtain⟨rfl,rfl⟩:=H;go_enter Try.func37,Try.ntmps37
  go_wp2_with (first|((with_reducible refine gate_dst (N:=2) rfl ?_);refine box_event ?hg (N:=2) ?hd (cs:=#[.bool a0_0,.slice A0_1 l0_1.length c0_1,.slice A0_2 l0_2.length c0_2]) (t:=36) ?hr ?_;(case hd=>rfl);(case hg=>rfl);(case hr=>first|(go_simp;done)|(go_simp;rfl));intro gb546 hg w36 hbox hb;have BK546:=aM (hbox);have GW546:=aM (gW hg:w.heap.size≤gb546);have GE546:=aM (gW hg:w.heap.size≤gb546);replace HB:=aM (below_step pB hb);clear hb hbox hg;obtain⟨hcz37_0,hcz37_1,hcz37_2,hfz37_0,hfz37_1,hfz37_2⟩:=bk3 BK546)|((with_reducible refine gate_callee (f:=51) rfl ?_);refine goesL_ (some 11) rfl rfl Try.func51 (by kernel_rfl) rfl #[.agg #[.bool a0_0,.slice A0_1 l0_1.length c0_1,.slice A0_2 l0_2.length c0_2]] rfl mA ?_;(with_reducible refine(Dzm.calls k a0_0 _ _ l0_1 _ _ l0_2 false _ ?side1 ?side2 ?side3 ?side4 A3.out).mono ?_);(case side1=>exact cX (Kd.C_below HR0_1.out HB.out));(case side2=>exact HC0_1.out);(case side3=>exact cX (Kd.C_below HR0_2.out HB.out));(case side4=>exact HC0_2.out);rintro e w38 ⟨rfl,hb⟩;refine⟨_,rfl,?_⟩;replace BK546:=aM (kB BK546 hb);replace HB:=aM (below_step pB hb);(try clear hb);(try clear hb2);(try clear hk);(try clear hi)))
  go_ret2
  exact⟨eW,pB⟩

def Ezj.f (k:Nat) (a0_0:Bool) (l0_1:List Int) (l0_2:List Int):Option (Int × Int):=(Czv.f k a0_0 l0_1 l0_2 a0_0).bind fun bt558=>(some (bt558.1,bt558.2))
theorem Ezj.mono:∀ a0 a1 a2 k,LeO (Ezj.f k a0 a1 a2) (Ezj.f (k+1) a0 a1 a2):=by
 intro a0 a1 a2 k;unfold Ezj.f;with_reducible repeat' first|exact Czv.mono _ _ _ _ _|exact LeO.refl _|exact LeO.none _|refine LeO.ite ?_ ?_|refine LeO.bind ?_ (fun _=>?_)
theorem Ezj.calls (k:Nat) (a0_0:Bool) (A0_1:Option Addr) (c0_1:Nat) (l0_1:List Int) (A0_2:Option Addr) (c0_2:Nat) (l0_2:List Int) (r1:Int) (r2:Int) (w:World) (hr0_1:Kd.C (Kd.int .i64) w A0_1 l0_1.length l0_1) (hc0_1:l0_1.length≤c0_1) (hr0_2:Kd.C (Kd.int .i64) w A0_2 l0_2.length l0_2) (hc0_2:l0_2.length≤c0_2) (h:Ezj.f k a0_0 l0_1 l0_2=some (r1,r2)) :
  Calls Try.prog 21 #[.agg #[.bool a0_0,.slice A0_1 l0_1.length c0_1,.slice A0_2 l0_2.length c0_2]] w fun e w'=>e=.returned (.tuple #[.int .i64 r1,.int .i64 r2])∧Below w.heap.size w w':=by
 have hu36:=Try.underlying36;have HR0_1:=aM hr0_1;have HC0_1:=aM hc0_1;clear hr0_1 hc0_1;have HR0_2:=aM hr0_2;have HC0_2:=aM hc0_2;clear hr0_2 hc0_2;have HB:=aM (Below.refl w.heap.size w);have H:((Czv.f k a0_0 l0_1 l0_2 a0_0).bind fun bt558=>(some (bt558.1,bt558.2)))=some (r1,r2):=h
 clear h;replace H:=bS H;obtain⟨⟨t558,t559⟩,A20,H⟩:=H;replace H:(some (t558,t559))=some (r1,r2):=H;have A2:=aM A20;clear A20;simp only[Option.some.injEq,Prod.mk.injEq] at H;obtain⟨rfl,rfl⟩:=H;go_enter Try.func21,Try.ntmps21
 go_wp2_with (first|((with_reducible refine gate_dst (N:=1) rfl ?_);refine box_event ?hg (N:=1) ?hd (cs:=#[.bool a0_0,.slice A0_1 l0_1.length c0_1,.slice A0_2 l0_2.length c0_2]) (t:=36) ?hr ?_;(case hd=>rfl);(case hg=>rfl);(case hr=>first|(go_simp;done)|(go_simp;rfl));intro gb557 hg w3 hbox hb;have BK557:=aM (hbox);have GW557:=aM (gW hg:w.heap.size≤gb557);have GE557:=aM (gW hg:w.heap.size≤gb557);replace HB:=aM (below_step pB hb);clear hb hbox hg;obtain⟨hcz4_0,hcz4_1,hcz4_2,hfz4_0,hfz4_1,hfz4_2⟩:=bk3 BK557)|((with_reducible refine gate_callee (f:=37) rfl ?_);refine goesL_ (some 7) rfl rfl Try.func37 (by kernel_rfl) rfl #[.agg #[.bool a0_0,.slice A0_1 l0_1.length c0_1,.slice A0_2 l0_2.length c0_2],.bool a0_0] rfl mA ?_;(with_reducible refine(Czv.calls k a0_0 _ _ l0_1 _ _ l0_2 a0_0 t558 t559 _ ?side1 ?side2 ?side3 ?side4 A2.out).mono ?_);(case side1=>exact cX (Kd.C_below HR0_1.out HB.out));(case side2=>exact HC0_1.out);(case side3=>exact cX (Kd.C_below HR0_2.out HB.out));(case side4=>exact HC0_2.out);rintro e w5 ⟨rfl,hb⟩;refine⟨_,rfl,?_⟩;replace BK557:=aM (kB BK557 hb);replace HB:=aM (below_step pB hb);(try clear hb);(try clear hb2);(try clear hk);(try clear hi)))
 go_ret2
 exact⟨eW,pB⟩


def Ezy.f (k:Nat) (a0_0:Bool) (l0_1:List Int) (l0_2:List Int):Option (Int × Int):=(Czv.f k a0_0 l0_1 l0_2 (!a0_0)).bind fun bt561=>(some (bt561.1,bt561.2))
theorem Ezy.mono:∀ a0 a1 a2 k,LeO (Ezy.f k a0 a1 a2) (Ezy.f (k+1) a0 a1 a2):=by
 intro a0 a1 a2 k;unfold Ezy.f;with_reducible repeat' first|exact Czv.mono _ _ _ _ _|exact LeO.refl _|exact LeO.none _|refine LeO.ite ?_ ?_|refine LeO.bind ?_ (fun _=>?_)
theorem Ezy.calls (k:Nat) (a0_0:Bool) (A0_1:Option Addr) (c0_1:Nat) (l0_1:List Int) (A0_2:Option Addr) (c0_2:Nat) (l0_2:List Int) (r1:Int) (r2:Int) (w:World) (hr0_1:Kd.C (Kd.int .i64) w A0_1 l0_1.length l0_1) (hc0_1:l0_1.length≤c0_1) (hr0_2:Kd.C (Kd.int .i64) w A0_2 l0_2.length l0_2) (hc0_2:l0_2.length≤c0_2) (h:Ezy.f k a0_0 l0_1 l0_2=some (r1,r2)) :
  Calls Try.prog 22 #[.agg #[.bool a0_0,.slice A0_1 l0_1.length c0_1,.slice A0_2 l0_2.length c0_2]] w fun e w'=>e=.returned (.tuple #[.int .i64 r1,.int .i64 r2])∧Below w.heap.size w w':=by
 have hu36:=Try.underlying36;have HR0_1:=aM hr0_1;have HC0_1:=aM hc0_1;clear hr0_1 hc0_1;have HR0_2:=aM hr0_2;have HC0_2:=aM hc0_2;clear hr0_2 hc0_2;have HB:=aM (Below.refl w.heap.size w);have H:((Czv.f k a0_0 l0_1 l0_2 (!a0_0)).bind fun bt561=>(some (bt561.1,bt561.2)))=some (r1,r2):=h
 clear h;replace H:=bS H;obtain⟨⟨t561,t562⟩,A20,H⟩:=H;replace H:(some (t561,t562))=some (r1,r2):=H;have A2:=aM A20;clear A20;simp only[Option.some.injEq,Prod.mk.injEq] at H;obtain⟨rfl,rfl⟩:=H;go_enter Try.func22,Try.ntmps22
 go_wp2_with (first|((with_reducible refine gate_dst (N:=1) rfl ?_);refine box_event ?hg (N:=1) ?hd (cs:=#[.bool a0_0,.slice A0_1 l0_1.length c0_1,.slice A0_2 l0_2.length c0_2]) (t:=36) ?hr ?_;(case hd=>rfl);(case hg=>rfl);(case hr=>first|(go_simp;done)|(go_simp;rfl));intro gb560 hg w3 hbox hb;have BK560:=aM (hbox);have GW560:=aM (gW hg:w.heap.size≤gb560);have GE560:=aM (gW hg:w.heap.size≤gb560);replace HB:=aM (below_step pB hb);clear hb hbox hg;obtain⟨hcz4_0,hcz4_1,hcz4_2,hfz4_0,hfz4_1,hfz4_2⟩:=bk3 BK560)|((with_reducible refine gate_callee (f:=37) rfl ?_);refine goesL_ (some 8) rfl rfl Try.func37 (by kernel_rfl) rfl #[.agg #[.bool a0_0,.slice A0_1 l0_1.length c0_1,.slice A0_2 l0_2.length c0_2],.bool (!a0_0)] rfl mA ?_;(with_reducible refine(Czv.calls k a0_0 _ _ l0_1 _ _ l0_2 (!a0_0) t561 t562 _ ?side1 ?side2 ?side3 ?side4 A2.out).mono ?_);(case side1=>exact cX (Kd.C_below HR0_1.out HB.out));(case side2=>exact HC0_1.out);(case side3=>exact cX (Kd.C_below HR0_2.out HB.out));(case side4=>exact HC0_2.out);rintro e w5 ⟨rfl,hb⟩;refine⟨_,rfl,?_⟩;replace BK560:=aM (kB BK560 hb);replace HB:=aM (below_step pB hb);(try clear hb);(try clear hb2);(try clear hk);(try clear hi)))
 go_ret2
 exact⟨eW,pB⟩

end Go.Proofs.Ytloihkecfommbaa.Print
