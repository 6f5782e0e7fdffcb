import Derived.Test.YtpjcpgobdiahpaaPrint0
import Derived.Test.YtpjcpgobdiahpaaPrint16
import Derived.Test.YtpjcpgobdiahpaaPrint25
import Derived.Test.YtpjcpgobdiahpaaPrint27
import Derived.Test.YtpjcpgobdiahpaaPrint28
namespace Go.Proofs.Ytpjcpgobdiahpaa.Print
open Go.RowKit Go.Proofs.YtpjcpgobdiahpaaW.PrintWords Go.Proofs.YtpjcpgobdiahpaaW.PrintLast Go.Proofs.YtpjcpgobdiahpaaW.PrintMore
attribute [local go_sem] max2_int min2_int max_two min_two max_three min_three max_four min_four
set_option linter.unusedVariables false
set_option maxRecDepth 100000
set_option maxHeartbeats 8000000
set_option linter.unusedSimpArgs false

def Ezb.f (k:Nat) (l0:List Int):Option (Int × Int):=(Azp.f k l0).bind fun t505=>(if t505=true then(if(l0.length:Int) > 2 then(some (0,2)) else((Czy.f k l0).bind fun t506=>(if t506 > 1125899906842624 then(some (0,2)) else((Czy.f k l0).bind fun t507=>(some (t507,0)))))) else(some (0,3)))
theorem Ezb.mono:∀ a0 k,LeO (Ezb.f k a0) (Ezb.f (k+1) a0):=by
 intro a0 k;unfold Ezb.f;with_reducible repeat' first|exact Azp.mono _ _|exact Czy.mono _ _|exact LeO.refl _|exact LeO.none _|refine LeO.ite ?_ ?_|refine LeO.bind ?_ (fun _=>?_)
theorem Ezb.calls (k:Nat) (A0:Option Addr) (c0:Nat) (l0:List Int) (r1:Int) (r2:Int) (w:World) (hr0:Kd.C (Kd.int .i64) w A0 l0.length l0) (hc0:l0.length≤c0) (h:Ezb.f k l0=some (r1,r2)) :
  Calls Try.prog 78 #[.slice A0 l0.length c0] w fun e w'=>e=.returned (.tuple #[.int .i64 r1,.int .i64 r2])∧Drawn0 w w':=by
 have HR0:=aM hr0;have HC0:=aM hc0;clear hr0 hc0;have H:((Azp.f k l0).bind fun t505=>(if t505=true then(if(l0.length:Int) > 2 then(some (0,2)) else((Czy.f k l0).bind fun t506=>(if t506 > 1125899906842624 then(some (0,2)) else((Czy.f k l0).bind fun t507=>(some (t507,0)))))) else(some (0,3))))=some (r1,r2):=h
 clear h;replace H:=bS H;obtain⟨t505,A20,H⟩:=H;(try dsimp only at H);have A2:=aM A20;clear A20;by_cases c3:t505=true
 ·subst c3;rw[if_pos rfl] at H;by_cases c4:(l0.length:Int) > 2
  ·rw[if_pos c4] at H;have c4b0:decide (2 < (l0.length:Int))=true:=dE c4;have c4b1:decide (2 < l0.length)=true:=dE (by omega)
   clear c4;simp only[Option.some.injEq,Prod.mk.injEq] at H;obtain⟨rfl,rfl⟩:=H;go_enter Try.func78,Try.ntmps78
   go_wp2_with (first|((with_reducible refine gate_callee (f:=91) rfl ?_);refine goesL_ (some 5) rfl rfl Try.func91 (by kernel_rfl) rfl #[.slice A0 l0.length c0] rfl mA ?_;(with_reducible refine(Azp.calls k _ _ l0 true _ ?side1 ?side2 A2.out).mono ?_);(case side1=>exact cX HR0.out);(case side2=>exact HC0.out);rintro e w' ⟨rfl,⟨nd,rfl⟩⟩;refine⟨_,rfl,?_⟩))
   go_ret2
   exact⟨by first|rfl|(simp;done)|(simp [*];done),by repeat(first|exact Drawn0.refl _|apply Drawn0.step)⟩
  ·rw[if_neg c4] at H;have c4b0:decide (2 < (l0.length:Int))=false:=decide_eq_false c4;have c4b1:decide (2 < l0.length)=false:=decide_eq_false (by omega)
   clear c4;replace H:=bS H;obtain⟨t506,A50,H⟩:=H;(try dsimp only at H);have A5:=aM A50;clear A50;by_cases c6:t506 > 1125899906842624
   ·rw[if_pos c6] at H;have c6b0:decide (1125899906842624 < t506)=true:=dE c6;clear c6;simp only[Option.some.injEq,Prod.mk.injEq] at H;obtain⟨rfl,rfl⟩:=H;go_enter Try.func78,Try.ntmps78
    go_wp2_with (first|((with_reducible refine gate_callee (f:=91) rfl ?_);refine goesL_ (some 5) rfl rfl Try.func91 (by kernel_rfl) rfl #[.slice A0 l0.length c0] rfl mA ?_;(with_reducible refine(Azp.calls k _ _ l0 true _ ?side1 ?side2 A2.out).mono ?_);(case side1=>exact cX HR0.out);(case side2=>exact HC0.out);rintro e w' ⟨rfl,⟨nd,rfl⟩⟩;refine⟨_,rfl,?_⟩)|(go_at_call 95;(with_reducible refine(Czy.calls k _ _ l0 t506 _ ?side1 ?side2 A5.out).mono ?_);(case side1=>exact cX HR0.out);(case side2=>exact HC0.out);rintro e w' ⟨rfl,⟨nd,rfl⟩⟩))
    go_ret2
    exact⟨by first|rfl|(simp;done)|(simp [*];done),by repeat(first|exact Drawn0.refl _|apply Drawn0.step)⟩
   ·rw[if_neg c6] at H;have c6b0:decide (1125899906842624 < t506)=false:=decide_eq_false c6;clear c6;replace H:=bS H;obtain⟨t507,A70,H⟩:=H;replace H:(some (t507,0))=some (r1,r2):=H;have A7:=aM A70;clear A70;simp only[Option.some.injEq,Prod.mk.injEq] at H;obtain⟨rfl,rfl⟩:=H;go_enter Try.func78,Try.ntmps78
    go_wp2_with (first|((with_reducible refine gate_callee (f:=91) rfl ?_);refine goesL_ (some 5) rfl rfl Try.func91 (by kernel_rfl) rfl #[.slice A0 l0.length c0] rfl mA ?_;(with_reducible refine(Azp.calls k _ _ l0 true _ ?side1 ?side2 A2.out).mono ?_);(case side1=>exact cX HR0.out);(case side2=>exact HC0.out);rintro e w' ⟨rfl,⟨nd,rfl⟩⟩;refine⟨_,rfl,?_⟩)|(go_at_call 95;(with_reducible refine(Czy.calls k _ _ l0 t506 _ ?side1 ?side2 A5.out).mono ?_);(case side1=>exact cX HR0.out);(case side2=>exact HC0.out);rintro e w' ⟨rfl,⟨nd,rfl⟩⟩)|((with_reducible refine gate_callee (f:=95) rfl ?_);refine goesL_ (some 16) rfl rfl Try.func95 (by kernel_rfl) rfl #[.slice A0 l0.length c0] rfl mA ?_;(with_reducible refine(Czy.calls k _ _ l0 t507 _ ?side1 ?side2 A7.out).mono ?_);(case side1=>exact cX HR0.out);(case side2=>exact HC0.out);rintro e w' ⟨rfl,⟨nd,rfl⟩⟩;refine⟨_,rfl,?_⟩))
    go_ret2
    exact⟨by first|rfl|(simp;done)|(simp [*];done),by repeat(first|exact Drawn0.refl _|apply Drawn0.step)⟩
 ·replace c3:=Bool.eq_false_iff.mpr c3;subst c3;rw[if_neg (show ¬ (false=true) by decide)] at H
  simp only[Option.some.injEq,Prod.mk.injEq] at H;obtain⟨rfl,rfl⟩:=H;go_enter Try.func78,Try.ntmps78
  go_wp2_with (first|((with_reducible refine gate_callee (f:=91) rfl ?_);refine goesL_ (some 5) rfl rfl Try.func91 (by kernel_rfl) rfl #[.slice A0 l0.length c0] rfl mA ?_;(with_reducible refine(Azp.calls k _ _ l0 false _ ?side1 ?side2 A2.out).mono ?_);(case side1=>exact cX HR0.out);(case side2=>exact HC0.out);rintro e w' ⟨rfl,⟨nd,rfl⟩⟩;refine⟨_,rfl,?_⟩))
  go_ret2
  exact⟨by first|rfl|(simp;done)|(simp [*];done),by repeat(first|exact Drawn0.refl _|apply Drawn0.step)⟩


mutual
def Czk.j0:Nat→Int→Bool→Bool→List Int→List Int→Option (Int × Int)
 | 0,_,_,_,_,_=>none
 | k+1,x9,x37,x509000,x509001,x509002=>if x37=true then(Czk.j1 k (wrap64 (x9+1)) x509000 x509001 x509002) else(Czk.j1 k x9 x509000 x509001 x509002)
def Czk.j1:Nat→Int→Bool→List Int→List Int→Option (Int × Int)
 | 0,_,_,_,_=>none
 | k+1,x9,x509000,x509001,x509002=>if x9 > 1125899906842624 then(some (0,2)) else(if x509000=true then(some (wrap64 (-x9),0)) else(some (x9,0)))
end
def Czk.f (k:Nat) (a0_0:Bool) (l0_1:List Int) (l0_2:List Int) (a1:Bool):Option (Int × Int):=(Dzb.f k a0_0 l0_1 l0_2).bind fun t509=>(if t509=true then((Bzf.f k l0_1 l0_2).bind fun bt510=>(if bt510.2.2=0 then((Ezb.f k bt510.1).bind fun bt517=>(if bt517.2=0 then(if(bt510.2.1.length:Int) > 0 then(Czk.j0 k bt517.1 a1 a0_0 l0_1 l0_2) else(Czk.j0 k bt517.1 false a0_0 l0_1 l0_2)) else(some (0,2)))) else(some (0,bt510.2.2)))) else(some (0,3)))
theorem Czk.mono_l:∀ k,(∀ y0 y1 y2 y3 y4,LeO (Czk.j0 k y0 y1 y2 y3 y4) (Czk.j0 (k+1) y0 y1 y2 y3 y4))∧(∀ y0 y1 y2 y3,LeO (Czk.j1 k y0 y1 y2 y3) (Czk.j1 (k+1) y0 y1 y2 y3))
 | 0=>⟨fun _ _ _ _ _ r h=>by simp [Czk.j0] at h,fun _ _ _ _ r h=>by simp [Czk.j1] at h⟩
 | k+1=>by
  obtain⟨ih0,ih1⟩:=Czk.mono_l k;refine⟨?_,?_⟩
  ·intro y0 y1 y2 y3 y4;unfold Czk.j0;with_reducible repeat' first|exact ih0 _ _ _ _ _|exact ih1 _ _ _ _|exact Bzf.mono _ _ _|exact Ezb.mono _ _|exact Dzb.mono _ _ _ _|exact LeO.refl _|exact LeO.none _|refine LeO.ite ?_ ?_|refine LeO.bind ?_ (fun _=>?_)
  ·intro y0 y1 y2 y3;unfold Czk.j1;with_reducible repeat' first|exact ih0 _ _ _ _ _|exact ih1 _ _ _ _|exact Bzf.mono _ _ _|exact Ezb.mono _ _|exact Dzb.mono _ _ _ _|exact LeO.refl _|exact LeO.none _|refine LeO.ite ?_ ?_|refine LeO.bind ?_ (fun _=>?_)
theorem Czk.mono:∀ a0 a1 a2 a3 k,LeO (Czk.f k a0 a1 a2 a3) (Czk.f (k+1) a0 a1 a2 a3):=by
 intro a0 a1 a2 a3 k;obtain⟨ih0,ih1⟩:=Czk.mono_l k;unfold Czk.f;with_reducible repeat' first|exact ih0 _ _ _ _ _|exact ih1 _ _ _ _|exact Bzf.mono _ _ _|exact Ezb.mono _ _|exact Dzb.mono _ _ _ _|exact LeO.refl _|exact LeO.none _|refine LeO.ite ?_ ?_|refine LeO.bind ?_ (fun _=>?_)
theorem Czk.calls (k:Nat) (a0_0:Bool) (A0_1:Option Addr) (c0_1:Nat) (l0_1:List Int) (A0_2:Option Addr) (c0_2:Nat) (l0_2:List Int) (a1:Bool) (r1:Int) (r2:Int) (w:World) (hr0_1:Kd.C (Kd.int .i64) w A0_1 l0_1.length l0_1) (hc0_1:l0_1.length≤c0_1) (hr0_2:Kd.C (Kd.int .i64) w A0_2 l0_2.length l0_2) (hc0_2:l0_2.length≤c0_2) (h:Czk.f k a0_0 l0_1 l0_2 a1=some (r1,r2)) :
  Calls Try.prog 50 #[.agg #[.bool a0_0,.slice A0_1 l0_1.length c0_1,.slice A0_2 l0_2.length c0_2],.bool a1] w fun e w'=>e=.returned (.tuple #[.int .i64 r1,.int .i64 r2])∧Below w.heap.size w w':=by
 have hu46:=Try.underlying46;have HR0_1:=aM hr0_1;have HC0_1:=aM hc0_1;clear hr0_1 hc0_1;have HR0_2:=aM hr0_2;have HC0_2:=aM hc0_2;clear hr0_2 hc0_2;have HB:=aM (Below.refl w.heap.size w);have H:((Dzb.f k a0_0 l0_1 l0_2).bind fun t509=>(if t509=true then((Bzf.f k l0_1 l0_2).bind fun bt510=>(if bt510.2.2=0 then((Ezb.f k bt510.1).bind fun bt517=>(if bt517.2=0 then(if(bt510.2.1.length:Int) > 0 then(Czk.j0 k bt517.1 a1 a0_0 l0_1 l0_2) else(Czk.j0 k bt517.1 false a0_0 l0_1 l0_2)) else(some (0,2)))) else(some (0,bt510.2.2)))) else(some (0,3))))=some (r1,r2):=h
 clear h;replace H:=bS H;obtain⟨t509,A30,H⟩:=H;(try dsimp only at H);have A3:=aM A30;clear A30;by_cases c4:t509=true
 ·subst c4;rw[if_pos rfl] at H;replace H:=bS H;obtain⟨⟨t510,t511,t512⟩,A50,H⟩:=H;(try dsimp only at H);have A5:=aM A50;clear A50;by_cases c6:t512=0
  ·rw[if_pos c6] at H;have c6b0:(t512 == 0)=true:=beq_iff_eq.mpr c6;have c6b1:(t512 != 0)=false:=bne_eq_false_iff_eq.mpr c6;clear c6;replace H:=bS H;obtain⟨⟨t517,t518⟩,A70,H⟩:=H;(try dsimp only at H);have A7:=aM A70;clear A70;by_cases c8:t518=0
   ·rw[if_pos c8] at H;have c8b0:(t518 == 0)=true:=beq_iff_eq.mpr c8;have c8b1:(t518 != 0)=false:=bne_eq_false_iff_eq.mpr c8;clear c8;have HC9:=aM H;clear H;go_enter Try.func50,Try.ntmps50
    go_upto_region 9 with (first|((with_reducible refine gate_dst (N:=2) rfl ?_);refine box_event ?hg (N:=2) ?hd (cs:=#[.bool a0_0,.slice A0_1 l0_1.length c0_1,.slice A0_2 l0_2.length c0_2]) (t:=46) ?hr ?_;(case hd=>rfl);(case hg=>rfl);(case hr=>first|(go_simp;done)|(go_simp;rfl));intro gb508 hg w10 hbox hb;have BK508:=aM (hbox);have GW508:=aM (gW hg:w.heap.size≤gb508);have GE508:=aM (gW hg:w.heap.size≤gb508);replace HB:=aM (below_step pB hb);clear hb hbox hg;obtain⟨hcz11_0,hcz11_1,hcz11_2,hfz11_0,hfz11_1,hfz11_2⟩:=bk3 BK508)|((with_reducible refine gate_callee (f:=75) rfl ?_);refine goesL_ (some 11) rfl rfl Try.func75 (by kernel_rfl) rfl #[.agg #[.bool a0_0,.slice A0_1 l0_1.length c0_1,.slice A0_2 l0_2.length c0_2]] rfl mA ?_;(with_reducible refine(Dzb.calls k a0_0 _ _ l0_1 _ _ l0_2 true _ ?side1 ?side2 ?side3 ?side4 A3.out).mono ?_);(case side1=>exact cX (Kd.C_below HR0_1.out HB.out));(case side2=>exact HC0_1.out);(case side3=>exact cX (Kd.C_below HR0_2.out HB.out));(case side4=>exact HC0_2.out);rintro e w12 ⟨rfl,hb⟩;refine⟨_,rfl,?_⟩;replace BK508:=aM (kB BK508 hb);replace HB:=aM (below_step pB hb);(try clear hb);(try clear hb2);(try clear hk);(try clear hi);obtain⟨hcz13_0,hcz13_1,hcz13_2,hfz13_0,hfz13_1,hfz13_2⟩:=bk3 BK508)|((with_reducible refine gate_callee (f:=73) rfl ?_);refine goesL_ (some 18) rfl rfl Try.func73 (by kernel_rfl) rfl #[.slice A0_1 l0_1.length c0_1,.slice A0_2 l0_2.length c0_2] rfl mA ?_;(with_reducible refine(Bzf.calls k _ _ l0_1 _ _ l0_2 t510 t511 t512 _ ?side1 ?side2 ?side3 ?side4 A5.out).mono ?_);(case side1=>exact cX (Kd.C_below HR0_1.out HB.out));(case side2=>exact HC0_1.out);(case side3=>exact cX (Kd.C_below HR0_2.out HB.out));(case side4=>exact HC0_2.out);rintro e w14 ⟨v513,v515,rfl,ho0,ho1,hb⟩;refine⟨_,rfl,?_⟩;have HO514:=aM (Kd.R_lower ho0 (below_size pB));have HO516:=aM (Kd.R_lower ho1 (below_size pB));replace BK508:=aM (kB BK508 hb);replace HB:=aM (below_step pB hb);(try clear hb);(try clear hb2);(try clear hk);(try clear hi);(try clear ho0);(try clear ho1);obtain⟨Ao15,co15,eo15⟩:=Kd.R_slice HO514.out;subst eo15)|((with_reducible refine gate_callee (f:=78) rfl ?_);refine goesL_ (some 27) rfl rfl Try.func78 (by kernel_rfl) rfl #[.slice Ao15 t510.length co15] rfl mA ?_;(with_reducible refine(Ezb.calls k _ _ t510 t517 t518 _ ?side1 ?side2 A7.out).mono ?_);(case side1=>repeat(first|exact(Kd.R_reads' HO514.out).2.2|(with_reducible refine Kd.C_alloc ?_ _)|(with_reducible refine Kd.C_drewN ?_ _)|(with_reducible refine Kd.C_drew ?_)));(case side2=>exact(Kd.R_reads' HO514.out).2.1);rintro e w' ⟨rfl,⟨nd,rfl⟩⟩;refine⟨_,rfl,?_⟩))
    (try simp only[Act.put,sA,sZ,sC])
    go_cut [37] (fun v37 wc=>∃ (kq:Nat) (x37_8:Bool),v37=.bool x37_8∧Aside0 (Czk.j0 kq t517 x37_8 a0_0 l0_1 l0_2=some (r1,r2))∧Aside0 (kq≤k)∧Aside0 (wc.heap[gb508]?=some (.cells #[.bool a0_0,(.slice A0_1 l0_1.length c0_1),(.slice A0_2 l0_2.length c0_2)] 46 (0,0)))∧Aside0 (Below w.heap.size w wc))
    case first =>
     have H:=HC9.out;clear HC9;by_cases c16:(t511.length:Int) > 0
     ·rw[if_pos c16] at H;have c16b0:decide (0 < (t511.length:Int))=true:=dE c16;have c16b1:decide (0 < t511.length)=true:=dE (by omega)
      clear c16;(first|rw[c16b0]|(simp only[i64_w,i32_w];rw[c16b0])|skip)
      have H':=aM H;clear H;obtain⟨Ao17,co17,eo17⟩:=Kd.R_slice HO516.out;subst eo17;go_wp2
      go_meet
      case rel=>exact⟨_,(a1),sD,H',⟨by first|omega|exact Nat.le_refl _⟩,⟨by(with_reducible repeat(first|refine blk_drewN ?_ _|refine blk_drew ?_|refine blk_alloc ?_ _));exact BK508.out⟩,⟨pB⟩⟩
     ·rw[if_neg c16] at H;have c16b0:decide (0 < (t511.length:Int))=false:=decide_eq_false c16;have c16b1:decide (0 < t511.length)=false:=decide_eq_false (by omega)
      clear c16;(first|rw[c16b0]|(simp only[i64_w,i32_w];rw[c16b0])|skip)
      have H':=aM H;clear H;obtain⟨Ao18,co18,eo18⟩:=Kd.R_slice HO516.out;subst eo18;go_wp2
      go_meet
      case rel=>exact⟨_,(false),sD,H',⟨by first|omega|exact Nat.le_refl _⟩,⟨by(with_reducible repeat(first|refine blk_drewN ?_ _|refine blk_drew ?_|refine blk_alloc ?_ _));exact BK508.out⟩,⟨pB⟩⟩
    case rest =>
     clear HC9;try clear c1
     try clear p2
     try clear c4
     try clear c5
     try clear c6
     try clear c6b0
     try clear c6b1
     try clear c7
     try clear c8
     try clear c8b0
     try clear c8b1
     try clear c16
     try clear c16b0
     try clear c16b1
     try clear hcz11_0
     try clear hcz11_1
     try clear hcz11_2
     try clear hcz13_0
     try clear hcz13_1
     try clear hcz13_2
     try clear hfz11_0
     try clear hfz11_1
     try clear hfz11_2
     try clear hfz13_0
     try clear hfz13_1
     try clear hfz13_2
     obtain⟨kq,x37_8,rfl,HA,HJ8,BK508,HB⟩:=hcut;cases kq with
     | zero=>exact absurd HA.out (by simp [Czk.j0])
     | succ kj8 =>
      have H:=HA.out;clear HA;simp only[Czk.j0] at H;have HC19:=aM H;clear H;go_upto_if 37 with (fail)
      go_cut [9] (fun v9 wc=>∃ (kq:Nat) (x9_18:Int),v9=.int .i64 x9_18∧Aside0 (Czk.j1 kq x9_18 a0_0 l0_1 l0_2=some (r1,r2))∧Aside0 (kq≤kj8)∧Aside0 (wc.heap[gb508]?=some (.cells #[.bool a0_0,(.slice A0_1 l0_1.length c0_1),(.slice A0_2 l0_2.length c0_2)] 46 (0,0)))∧Aside0 (Below w.heap.size w wc))
      case first =>
       have H:=HC19.out;clear HC19;by_cases c20:x37_8=true
       ·subst c20;rw[if_pos rfl] at H;have H':=aM H;clear H;go_wp2
        go_meet
        case rel=>exact⟨_,(wrap64 (t517+1)),sD,H',⟨by have:=HJ8.out;first|omega|exact Nat.le_refl _⟩,⟨by(with_reducible repeat(first|refine blk_drewN ?_ _|refine blk_drew ?_|refine blk_alloc ?_ _));exact BK508.out⟩,⟨pB⟩⟩
       ·replace c20:=Bool.eq_false_iff.mpr c20;subst c20;rw[if_neg (show ¬ (false=true) by decide)] at H
        have H':=aM H;clear H;go_wp2
        go_meet
        case rel=>exact⟨_,(t517),sD,H',⟨by have:=HJ8.out;first|omega|exact Nat.le_refl _⟩,⟨by(with_reducible repeat(first|refine blk_drewN ?_ _|refine blk_drew ?_|refine blk_alloc ?_ _));exact BK508.out⟩,⟨pB⟩⟩
      case rest =>
       clear HC19;try clear c1
       try clear c2
       try clear p2
       try clear c4
       try clear c5
       try clear c6
       try clear c6b0
       try clear c6b1
       try clear p6
       try clear c7
       try clear c8
       try clear c8b0
       try clear c8b1
       try clear c16
       try clear c16b0
       try clear c16b1
       try clear c20
       try clear hcz11_0
       try clear hcz11_1
       try clear hcz11_2
       try clear hcz13_0
       try clear hcz13_1
       try clear hcz13_2
       try clear hfz11_0
       try clear hfz11_1
       try clear hfz11_2
       try clear hfz13_0
       try clear hfz13_1
       try clear hfz13_2
       try clear p2
       obtain⟨kq,x9_18,rfl,HA,HJ18,BK508,HB⟩:=hcut;cases kq with
       | zero=>exact absurd HA.out (by simp [Czk.j1])
       | succ kj18 =>
        have H:=HA.out;clear HA;simp only[Czk.j1] at H;by_cases c21:x9_18 > 1125899906842624
        ·rw[if_pos c21] at H;have c21b0:decide (1125899906842624 < x9_18)=true:=dE c21;clear c21;simp only[Option.some.injEq,Prod.mk.injEq] at H;obtain⟨rfl,rfl⟩:=H;go_wp2
         go_ret2
         exact⟨eW,pB⟩
        ·rw[if_neg c21] at H;have c21b0:decide (1125899906842624 < x9_18)=false:=decide_eq_false c21;clear c21;by_cases c22:a0_0=true
         ·subst c22;rw[if_pos rfl] at H;simp only[Option.some.injEq,Prod.mk.injEq] at H;obtain⟨rfl,rfl⟩:=H;obtain⟨hcz23_0,hcz23_1,hcz23_2,hfz23_0,hfz23_1,hfz23_2⟩:=bk3 BK508;go_wp2
          go_ret2
          exact⟨eW,pB⟩
         ·replace c22:=Bool.eq_false_iff.mpr c22;subst c22;rw[if_neg (show ¬ (false=true) by decide)] at H
          simp only[Option.some.injEq,Prod.mk.injEq] at H;obtain⟨rfl,rfl⟩:=H;obtain⟨hcz24_0,hcz24_1,hcz24_2,hfz24_0,hfz24_1,hfz24_2⟩:=bk3 BK508;go_wp2
          go_ret2
          exact⟨eW,pB⟩
   ·rw[if_neg c8] at H;have c8b0:(t518 == 0)=false:=beq_eq_false_iff_ne.mpr c8;have c8b1:(t518 != 0)=true:=bne_iff_ne.mpr c8;simp only[Option.some.injEq,Prod.mk.injEq] at H;obtain⟨rfl,rfl⟩:=H;go_enter Try.func50,Try.ntmps50
    go_wp2_with (first|((with_reducible refine gate_dst (N:=2) rfl ?_);refine box_event ?hg (N:=2) ?hd (cs:=#[.bool a0_0,.slice A0_1 l0_1.length c0_1,.slice A0_2 l0_2.length c0_2]) (t:=46) ?hr ?_;(case hd=>rfl);(case hg=>rfl);(case hr=>first|(go_simp;done)|(go_simp;rfl));intro gb508 hg w25 hbox hb;have BK508:=aM (hbox);have GW508:=aM (gW hg:w.heap.size≤gb508);have GE508:=aM (gW hg:w.heap.size≤gb508);replace HB:=aM (below_step pB hb);clear hb hbox hg;obtain⟨hcz26_0,hcz26_1,hcz26_2,hfz26_0,hfz26_1,hfz26_2⟩:=bk3 BK508)|((with_reducible refine gate_callee (f:=75) rfl ?_);refine goesL_ (some 11) rfl rfl Try.func75 (by kernel_rfl) rfl #[.agg #[.bool a0_0,.slice A0_1 l0_1.length c0_1,.slice A0_2 l0_2.length c0_2]] rfl mA ?_;(with_reducible refine(Dzb.calls k a0_0 _ _ l0_1 _ _ l0_2 true _ ?side1 ?side2 ?side3 ?side4 A3.out).mono ?_);(case side1=>exact cX (Kd.C_below HR0_1.out HB.out));(case side2=>exact HC0_1.out);(case side3=>exact cX (Kd.C_below HR0_2.out HB.out));(case side4=>exact HC0_2.out);rintro e w27 ⟨rfl,hb⟩;refine⟨_,rfl,?_⟩;replace BK508:=aM (kB BK508 hb);replace HB:=aM (below_step pB hb);(try clear hb);(try clear hb2);(try clear hk);(try clear hi);obtain⟨hcz28_0,hcz28_1,hcz28_2,hfz28_0,hfz28_1,hfz28_2⟩:=bk3 BK508)|((with_reducible refine gate_callee (f:=73) rfl ?_);refine goesL_ (some 18) rfl rfl Try.func73 (by kernel_rfl) rfl #[.slice A0_1 l0_1.length c0_1,.slice A0_2 l0_2.length c0_2] rfl mA ?_;(with_reducible refine(Bzf.calls k _ _ l0_1 _ _ l0_2 t510 t511 t512 _ ?side1 ?side2 ?side3 ?side4 A5.out).mono ?_);(case side1=>exact cX (Kd.C_below HR0_1.out HB.out));(case side2=>exact HC0_1.out);(case side3=>exact cX (Kd.C_below HR0_2.out HB.out));(case side4=>exact HC0_2.out);rintro e w29 ⟨v513,v515,rfl,ho0,ho1,hb⟩;refine⟨_,rfl,?_⟩;have HO514:=aM (Kd.R_lower ho0 (below_size pB));have HO516:=aM (Kd.R_lower ho1 (below_size pB));replace BK508:=aM (kB BK508 hb);replace HB:=aM (below_step pB hb);(try clear hb);(try clear hb2);(try clear hk);(try clear hi);(try clear ho0);(try clear ho1);obtain⟨Ao30,co30,eo30⟩:=Kd.R_slice HO514.out;subst eo30)|((with_reducible refine gate_callee (f:=78) rfl ?_);refine goesL_ (some 27) rfl rfl Try.func78 (by kernel_rfl) rfl #[.slice Ao30 t510.length co30] rfl mA ?_;(with_reducible refine(Ezb.calls k _ _ t510 t517 t518 _ ?side1 ?side2 A7.out).mono ?_);(case side1=>repeat(first|exact(Kd.R_reads' HO514.out).2.2|(with_reducible refine Kd.C_alloc ?_ _)|(with_reducible refine Kd.C_drewN ?_ _)|(with_reducible refine Kd.C_drew ?_)));(case side2=>exact(Kd.R_reads' HO514.out).2.1);rintro e w' ⟨rfl,⟨nd,rfl⟩⟩;refine⟨_,rfl,?_⟩))
    go_ret2
    exact⟨eW,pB⟩
  ·rw[if_neg c6] at H;have c6b0:(t512 == 0)=false:=beq_eq_false_iff_ne.mpr c6;have c6b1:(t512 != 0)=true:=bne_iff_ne.mpr c6;simp only[Option.some.injEq,Prod.mk.injEq] at H;obtain⟨rfl,rfl⟩:=H;go_enter Try.func50,Try.ntmps50
   go_wp2_with (first|((with_reducible refine gate_dst (N:=2) rfl ?_);refine box_event ?hg (N:=2) ?hd (cs:=#[.bool a0_0,.slice A0_1 l0_1.length c0_1,.slice A0_2 l0_2.length c0_2]) (t:=46) ?hr ?_;(case hd=>rfl);(case hg=>rfl);(case hr=>first|(go_simp;done)|(go_simp;rfl));intro gb508 hg w31 hbox hb;have BK508:=aM (hbox);have GW508:=aM (gW hg:w.heap.size≤gb508);have GE508:=aM (gW hg:w.heap.size≤gb508);replace HB:=aM (below_step pB hb);clear hb hbox hg;obtain⟨hcz32_0,hcz32_1,hcz32_2,hfz32_0,hfz32_1,hfz32_2⟩:=bk3 BK508)|((with_reducible refine gate_callee (f:=75) rfl ?_);refine goesL_ (some 11) rfl rfl Try.func75 (by kernel_rfl) rfl #[.agg #[.bool a0_0,.slice A0_1 l0_1.length c0_1,.slice A0_2 l0_2.length c0_2]] rfl mA ?_;(with_reducible refine(Dzb.calls k a0_0 _ _ l0_1 _ _ l0_2 true _ ?side1 ?side2 ?side3 ?side4 A3.out).mono ?_);(case side1=>exact cX (Kd.C_below HR0_1.out HB.out));(case side2=>exact HC0_1.out);(case side3=>exact cX (Kd.C_below HR0_2.out HB.out));(case side4=>exact HC0_2.out);rintro e w33 ⟨rfl,hb⟩;refine⟨_,rfl,?_⟩;replace BK508:=aM (kB BK508 hb);replace HB:=aM (below_step pB hb);(try clear hb);(try clear hb2);(try clear hk);(try clear hi);obtain⟨hcz34_0,hcz34_1,hcz34_2,hfz34_0,hfz34_1,hfz34_2⟩:=bk3 BK508)|((with_reducible refine gate_callee (f:=73) rfl ?_);refine goesL_ (some 18) rfl rfl Try.func73 (by kernel_rfl) rfl #[.slice A0_1 l0_1.length c0_1,.slice A0_2 l0_2.length c0_2] rfl mA ?_;(with_reducible refine(Bzf.calls k _ _ l0_1 _ _ l0_2 t510 t511 t512 _ ?side1 ?side2 ?side3 ?side4 A5.out).mono ?_);(case side1=>exact cX (Kd.C_below HR0_1.out HB.out));(case side2=>exact HC0_1.out);(case side3=>exact cX (Kd.C_below HR0_2.out HB.out));(case side4=>exact HC0_2.out);rintro e w35 ⟨v513,v515,rfl,ho0,ho1,hb⟩;refine⟨_,rfl,?_⟩;have HO514:=aM (Kd.R_lower ho0 (below_size pB));have HO516:=aM (Kd.R_lower ho1 (below_size pB));replace BK508:=aM (kB BK508 hb);replace HB:=aM (below_step pB hb);(try clear hb);(try clear hb2);(try clear hk);(try clear hi);(try clear ho0);(try clear ho1)))
   go_ret2
   exact⟨eW,pB⟩
 ·replace c4:=Bool.eq_false_iff.mpr c4;subst c4;rw[if_neg (show ¬ (false=true) by decide)] at H
  simp only[Option.some.injEq,Prod.mk.injEq] at H;obtain⟨rfl,rfl⟩:=H;go_enter Try.func50,Try.ntmps50
  go_wp2_with (first|((with_reducible refine gate_dst (N:=2) rfl ?_);refine box_event ?hg (N:=2) ?hd (cs:=#[.bool a0_0,.slice A0_1 l0_1.length c0_1,.slice A0_2 l0_2.length c0_2]) (t:=46) ?hr ?_;(case hd=>rfl);(case hg=>rfl);(case hr=>first|(go_simp;done)|(go_simp;rfl));intro gb508 hg w36 hbox hb;have BK508:=aM (hbox);have GW508:=aM (gW hg:w.heap.size≤gb508);have GE508:=aM (gW hg:w.heap.size≤gb508);replace HB:=aM (below_step pB hb);clear hb hbox hg;obtain⟨hcz37_0,hcz37_1,hcz37_2,hfz37_0,hfz37_1,hfz37_2⟩:=bk3 BK508)|((with_reducible refine gate_callee (f:=75) rfl ?_);refine goesL_ (some 11) rfl rfl Try.func75 (by kernel_rfl) rfl #[.agg #[.bool a0_0,.slice A0_1 l0_1.length c0_1,.slice A0_2 l0_2.length c0_2]] rfl mA ?_;(with_reducible refine(Dzb.calls k a0_0 _ _ l0_1 _ _ l0_2 false _ ?side1 ?side2 ?side3 ?side4 A3.out).mono ?_);(case side1=>exact cX (Kd.C_below HR0_1.out HB.out));(case side2=>exact HC0_1.out);(case side3=>exact cX (Kd.C_below HR0_2.out HB.out));(case side4=>exact HC0_2.out);rintro e w38 ⟨rfl,hb⟩;refine⟨_,rfl,?_⟩;replace BK508:=aM (kB BK508 hb);replace HB:=aM (below_step pB hb);(try clear hb);(try clear hb2);(try clear hk);(try clear hi)))
  go_ret2
  exact⟨eW,pB⟩

def Ezy.f (k:Nat) (a0_0:Bool) (l0_1:List Int) (l0_2:List Int):Option (Int × Int):=(Czk.f k a0_0 l0_1 l0_2 a0_0).bind fun bt520=>(some (bt520.1,bt520.2))
theorem Ezy.mono:∀ a0 a1 a2 k,LeO (Ezy.f k a0 a1 a2) (Ezy.f (k+1) a0 a1 a2):=by
 intro a0 a1 a2 k;unfold Ezy.f;with_reducible repeat' first|exact Czk.mono _ _ _ _ _|exact LeO.refl _|exact LeO.none _|refine LeO.ite ?_ ?_|refine LeO.bind ?_ (fun _=>?_)
theorem Ezy.calls (k:Nat) (a0_0:Bool) (A0_1:Option Addr) (c0_1:Nat) (l0_1:List Int) (A0_2:Option Addr) (c0_2:Nat) (l0_2:List Int) (r1:Int) (r2:Int) (w:World) (hr0_1:Kd.C (Kd.int .i64) w A0_1 l0_1.length l0_1) (hc0_1:l0_1.length≤c0_1) (hr0_2:Kd.C (Kd.int .i64) w A0_2 l0_2.length l0_2) (hc0_2:l0_2.length≤c0_2) (h:Ezy.f k a0_0 l0_1 l0_2=some (r1,r2)) :
  Calls Try.prog 30 #[.agg #[.bool a0_0,.slice A0_1 l0_1.length c0_1,.slice A0_2 l0_2.length c0_2]] w fun e w'=>e=.returned (.tuple #[.int .i64 r1,.int .i64 r2])∧Below w.heap.size w w':=by
 have hu46:=Try.underlying46;have HR0_1:=aM hr0_1;have HC0_1:=aM hc0_1;clear hr0_1 hc0_1;have HR0_2:=aM hr0_2;have HC0_2:=aM hc0_2;clear hr0_2 hc0_2;have HB:=aM (Below.refl w.heap.size w);have H:((Czk.f k a0_0 l0_1 l0_2 a0_0).bind fun bt520=>(some (bt520.1,bt520.2)))=some (r1,r2):=h
 clear h;replace H:=bS H;obtain⟨⟨t520,t521⟩,A20,H⟩:=H;replace H:(some (t520,t521))=some (r1,r2):=H;have A2:=aM A20;clear A20;simp only[Option.some.injEq,Prod.mk.injEq] at H;obtain⟨rfl,rfl⟩:=H;go_enter Try.func30,Try.ntmps30
 go_wp2_with (first|((with_reducible refine gate_dst (N:=1) rfl ?_);refine box_event ?hg (N:=1) ?hd (cs:=#[.bool a0_0,.slice A0_1 l0_1.length c0_1,.slice A0_2 l0_2.length c0_2]) (t:=46) ?hr ?_;(case hd=>rfl);(case hg=>rfl);(case hr=>first|(go_simp;done)|(go_simp;rfl));intro gb519 hg w3 hbox hb;have BK519:=aM (hbox);have GW519:=aM (gW hg:w.heap.size≤gb519);have GE519:=aM (gW hg:w.heap.size≤gb519);replace HB:=aM (below_step pB hb);clear hb hbox hg;obtain⟨hcz4_0,hcz4_1,hcz4_2,hfz4_0,hfz4_1,hfz4_2⟩:=bk3 BK519)|((with_reducible refine gate_callee (f:=50) rfl ?_);refine goesL_ (some 7) rfl rfl Try.func50 (by kernel_rfl) rfl #[.agg #[.bool a0_0,.slice A0_1 l0_1.length c0_1,.slice A0_2 l0_2.length c0_2],.bool a0_0] rfl mA ?_;(with_reducible refine(Czk.calls k a0_0 _ _ l0_1 _ _ l0_2 a0_0 t520 t521 _ ?side1 ?side2 ?side3 ?side4 A2.out).mono ?_);(case side1=>exact cX (Kd.C_below HR0_1.out HB.out));(case side2=>exact HC0_1.out);(case side3=>exact cX (Kd.C_below HR0_2.out HB.out));(case side4=>exact HC0_2.out);rintro e w5 ⟨rfl,hb⟩;refine⟨_,rfl,?_⟩;replace BK519:=aM (kB BK519 hb);replace HB:=aM (below_step pB hb);(try clear hb);(try clear hb2);(try clear hk);(try clear hi)))
 go_ret2
 exact⟨eW,pB⟩


def Ezk.f (k:Nat) (a0_0:Bool) (l0_1:List Int) (l0_2:List Int):Option (Int × Int):=(Czk.f k a0_0 l0_1 l0_2 (!a0_0)).bind fun bt523=>(some (bt523.1,bt523.2))
theorem Ezk.mono:∀ a0 a1 a2 k,LeO (Ezk.f k a0 a1 a2) (Ezk.f (k+1) a0 a1 a2):=by
 intro a0 a1 a2 k;unfold Ezk.f;with_reducible repeat' first|exact Czk.mono _ _ _ _ _|exact LeO.refl _|exact LeO.none _|refine LeO.ite ?_ ?_|refine LeO.bind ?_ (fun _=>?_)
theorem Ezk.calls (k:Nat) (a0_0:Bool) (A0_1:Option Addr) (c0_1:Nat) (l0_1:List Int) (A0_2:Option Addr) (c0_2:Nat) (l0_2:List Int) (r1:Int) (r2:Int) (w:World) (hr0_1:Kd.C (Kd.int .i64) w A0_1 l0_1.length l0_1) (hc0_1:l0_1.length≤c0_1) (hr0_2:Kd.C (Kd.int .i64) w A0_2 l0_2.length l0_2) (hc0_2:l0_2.length≤c0_2) (h:Ezk.f k a0_0 l0_1 l0_2=some (r1,r2)) :
  Calls Try.prog 31 #[.agg #[.bool a0_0,.slice A0_1 l0_1.length c0_1,.slice A0_2 l0_2.length c0_2]] w fun e w'=>e=.returned (.tuple #[.int .i64 r1,.int .i64 r2])∧Below w.heap.size w w':=by
 have hu46:=Try.underlying46;have HR0_1:=aM hr0_1;have HC0_1:=aM hc0_1;clear hr0_1 hc0_1;have HR0_2:=aM hr0_2;have HC0_2:=aM hc0_2;clear hr0_2 hc0_2;have HB:=aM (Below.refl w.heap.size w);have H:((Czk.f k a0_0 l0_1 l0_2 (!a0_0)).bind fun bt523=>(some (bt523.1,bt523.2)))=some (r1,r2):=h
 clear h;replace H:=bS H;obtain⟨⟨t523,t524⟩,A20,H⟩:=H;replace H:(some (t523,t524))=some (r1,r2):=H;have A2:=aM A20;clear A20;simp only[Option.some.injEq,Prod.mk.injEq] at H;obtain⟨rfl,rfl⟩:=H;go_enter Try.func31,Try.ntmps31
 go_wp2_with (first|((with_reducible refine gate_dst (N:=1) rfl ?_);refine box_event ?hg (N:=1) ?hd (cs:=#[.bool a0_0,.slice A0_1 l0_1.length c0_1,.slice A0_2 l0_2.length c0_2]) (t:=46) ?hr ?_;(case hd=>rfl);(case hg=>rfl);(case hr=>first|(go_simp;done)|(go_simp;rfl));intro gb522 hg w3 hbox hb;have BK522:=aM (hbox);have GW522:=aM (gW hg:w.heap.size≤gb522);have GE522:=aM (gW hg:w.heap.size≤gb522);replace HB:=aM (below_step pB hb);clear hb hbox hg;obtain⟨hcz4_0,hcz4_1,hcz4_2,hfz4_0,hfz4_1,hfz4_2⟩:=bk3 BK522)|((with_reducible refine gate_callee (f:=50) rfl ?_);refine goesL_ (some 8) rfl rfl Try.func50 (by kernel_rfl) rfl #[.agg #[.bool a0_0,.slice A0_1 l0_1.length c0_1,.slice A0_2 l0_2.length c0_2],.bool (!a0_0)] rfl mA ?_;(with_reducible refine(Czk.calls k a0_0 _ _ l0_1 _ _ l0_2 (!a0_0) t523 t524 _ ?side1 ?side2 ?side3 ?side4 A2.out).mono ?_);(case side1=>exact cX (Kd.C_below HR0_1.out HB.out));(case side2=>exact HC0_1.out);(case side3=>exact cX (Kd.C_below HR0_2.out HB.out));(case side4=>exact HC0_2.out);rintro e w5 ⟨rfl,hb⟩;refine⟨_,rfl,?_⟩;replace BK522:=aM (kB BK522 hb);replace HB:=aM (below_step pB hb);(try clear hb);(try clear hb2);(try clear hk);(try clear hi)))
 go_ret2
 exact⟨eW,pB⟩

end Go.Proofs.Ytpjcpgobdiahpaa.Print
