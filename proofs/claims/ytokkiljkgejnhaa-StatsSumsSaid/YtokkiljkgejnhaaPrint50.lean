import Derived.Test.YtokkiljkgejnhaaPrint0
import Derived.Test.YtokkiljkgejnhaaPrint13
import Derived.Test.YtokkiljkgejnhaaPrint14
import Derived.Test.YtokkiljkgejnhaaPrint23
import Derived.Test.YtokkiljkgejnhaaPrint24
import Derived.Test.YtokkiljkgejnhaaPrint37
namespace Go.Proofs.Ytokkiljkgejnhaa.Print
open Go.RowKit Go.Proofs.YtokkiljkgejnhaaW.PrintWords Go.Proofs.YtokkiljkgejnhaaW.PrintLast Go.Proofs.YtokkiljkgejnhaaW.PrintMore
attribute [local go_sem] max2_int min2_int max_two min_two max_three min_three max_four min_four
set_option linter.unusedVariables false
set_option maxRecDepth 100000
set_option maxHeartbeats 8000000
set_option linter.unusedSimpArgs false

mutual
def papermilllaw60_StatsSums.j0:Nat→List Int→Int→List Int→Bool→Option (Bool)
 | 0,_,_,_,_=>none
 | k+1,x0,x1,x5,x62=>if x62=true then(none) else(papermilllaw60_StatsSums.l0 k x0 x1 x5 0)
def papermilllaw60_StatsSums.l0:Nat→List Int→Int→List Int→Int→Option (Bool)
 | 0,_,_,_,_=>none
 | k+1,x0,x1,x5,x9=>if x9 < (x5.length:Int) then(if x9 > 0 then(if 0≤x9 then(if 0≤(wrap64 (x9 - 1)) then(if(wrap64 (x9 - 1)) < (x5.length:Int) then(if(wrap64 (x9 - 1)) < (x0.length:Int) then(if 0≤(wrap64 ((wrap64 (x9+x1)) - 1)) then(if(wrap64 ((wrap64 (x9+x1)) - 1)) < (x0.length:Int) then(if(rd x5 x9)=(wrap64 ((wrap64 ((rd x5 (wrap64 (x9 - 1))) - (rd x0 (wrap64 (x9 - 1)))))+(rd x0 (wrap64 ((wrap64 (x9+x1)) - 1))))) then(papermilllaw60_StatsSums.l0 k x0 x1 x5 (wrap64 (x9+1))) else(none)) else(none)) else(none)) else(none)) else(none)) else(none)) else(none)) else(papermilllaw60_StatsSums.l0 k x0 x1 x5 (wrap64 (x9+1)))) else(if 0≤x1 then(if x1≤(x0.length:Int) then((Dzv.f k (x0.take (x1:Int).toNat)).bind fun bt734=>(if bt734.2.2.2=0 then(if 0 < (x5.length:Int) then((Czf.f k bt734.1 bt734.2.1 bt734.2.2.1 (rd x5 0) x1).bind fun t744=>(if t744=true then((Azz.f k).bind fun t745=>(some t745)) else(none))) else(none)) else(none))) else(none)) else(none))
end
def papermilllaw60_StatsSums.f (k:Nat) (l0:List Int) (a1:Int):Option (Bool):=if(l0.length:Int) > 100 then((Azz.f k).bind fun t718=>(some t718)) else((Bzv.f k l0 a1).bind fun bt719=>(if bt719.2=0 then((Bzv.f k l0 1).bind fun bt724=>(if bt724.2=0 then((Azy.f k bt724.1 l0).bind fun t728=>(if t728=true then(if a1 < 1 then(papermilllaw60_StatsSums.j0 k l0 a1 bt719.1 true) else(if a1 > (l0.length:Int) then(papermilllaw60_StatsSums.j0 k l0 a1 bt719.1 true) else(papermilllaw60_StatsSums.j0 k l0 a1 bt719.1 ((bt719.1.length:Int) != (wrap64 ((wrap64 ((l0.length:Int) - a1))+1)))))) else(papermilllaw60_StatsSums.j0 k l0 a1 bt719.1 true))) else(papermilllaw60_StatsSums.j0 k l0 a1 bt719.1 true))) else(if(bt719.1.length:Int)=0 then((Azz.f k).bind fun t723=>(some t723)) else(none))))
theorem papermilllaw60_StatsSums.mono_l:∀ k,(∀ y0 y1 y2 y3,LeO (papermilllaw60_StatsSums.j0 k y0 y1 y2 y3) (papermilllaw60_StatsSums.j0 (k+1) y0 y1 y2 y3))∧(∀ y0 y1 y2 y3,LeO (papermilllaw60_StatsSums.l0 k y0 y1 y2 y3) (papermilllaw60_StatsSums.l0 (k+1) y0 y1 y2 y3))
 | 0=>⟨fun _ _ _ _ r h=>by simp [papermilllaw60_StatsSums.j0] at h,fun _ _ _ _ r h=>by simp [papermilllaw60_StatsSums.l0] at h⟩
 | k+1=>by
  obtain⟨ih0,ih1⟩:=papermilllaw60_StatsSums.mono_l k;refine⟨?_,?_⟩
  ·intro y0 y1 y2 y3;unfold papermilllaw60_StatsSums.j0;with_reducible repeat' first|exact ih0 _ _ _ _|exact ih1 _ _ _ _|exact Azz.mono _|exact Czf.mono _ _ _ _ _ _|exact Azy.mono _ _ _|exact Dzv.mono _ _|exact Bzv.mono _ _ _|exact LeO.refl _|exact LeO.none _|refine LeO.ite ?_ ?_|refine LeO.bind ?_ (fun _=>?_)
  ·intro y0 y1 y2 y3;unfold papermilllaw60_StatsSums.l0;with_reducible repeat' first|exact ih0 _ _ _ _|exact ih1 _ _ _ _|exact Azz.mono _|exact Czf.mono _ _ _ _ _ _|exact Azy.mono _ _ _|exact Dzv.mono _ _|exact Bzv.mono _ _ _|exact LeO.refl _|exact LeO.none _|refine LeO.ite ?_ ?_|refine LeO.bind ?_ (fun _=>?_)
theorem papermilllaw60_StatsSums.mono:∀ a0 a1 k,LeO (papermilllaw60_StatsSums.f k a0 a1) (papermilllaw60_StatsSums.f (k+1) a0 a1):=by
 intro a0 a1 k;obtain⟨ih0,ih1⟩:=papermilllaw60_StatsSums.mono_l k;unfold papermilllaw60_StatsSums.f;with_reducible repeat' first|exact ih0 _ _ _ _|exact ih1 _ _ _ _|exact Azz.mono _|exact Czf.mono _ _ _ _ _ _|exact Azy.mono _ _ _|exact Dzv.mono _ _|exact Bzv.mono _ _ _|exact LeO.refl _|exact LeO.none _|refine LeO.ite ?_ ?_|refine LeO.bind ?_ (fun _=>?_)
def papermilllaw60_StatsSums.T12:Bool × List (List Nat × List Nat):=(true,[([],[]),([0],[0]),([1],[1]),([2],[2]),([2],[2]),([3,4,2],[2,3,4]),([5,2],[2,5]),([2],[2]),([2],[2]),([8,2],[2,8]),([7,9,2],[2,7,9]),([10,2],[2,10]),([2],[2]),([2],[2]),([13,2],[2,13]),([12,14,2],[2,12,14]),([15,2],[2,15]),([11,16,2],[2,11,16]),([2],[2]),([2],[2]),([2],[2]),([19,20,2],[2,19,20]),([21,2],[2,21]),([18,22,2],[2,18,22]),([23,2],[2,23]),([17,24,2],[2,17,24]),([6,25,2],[2,6,25]),([2,26],[2,26])])
def papermilllaw60_StatsSums.B12:List Nat:=[0,1,3,7,7,31,63,7,7,263,903,1927,7,7,8199,28679,61447,130951,7,7,7,1572871,3670023,8126471,16515079,33554311,67108863,134217727]
theorem papermilllaw60_StatsSums.tab12:rtab .any (opsOf Try.f7 12)=papermilllaw60_StatsSums.T12:=by kernel_rfl
theorem papermilllaw60_StatsSums.bits12:waitsOk papermilllaw60_StatsSums.T12.2 papermilllaw60_StatsSums.B12=true:=by kernel_rfl
def papermilllaw60_StatsSums.T15:Bool × List (List Nat × List Nat):=(true,[([],[]),([0],[0]),([1],[1]),([2],[2]),([2],[2]),([4,2],[2,4]),([5,2],[2,5]),([2],[2]),([3,6,7,2,2],[2,3,6,7]),([2,8],[2,8]),([9,8],[9]),([10,10],[10]),([10,11],[10,11]),([12,11,0,1,2,3,4,5,6,7,8,9,10,11,12],[12])])
def papermilllaw60_StatsSums.B15:List Nat:=[0,1,3,7,7,23,55,7,255,511,1023,2047,4095,8191]
theorem papermilllaw60_StatsSums.tab15:rtab .any (opsOf Try.f7 15)=papermilllaw60_StatsSums.T15:=by kernel_rfl
theorem papermilllaw60_StatsSums.bits15:waitsOk papermilllaw60_StatsSums.T15.2 papermilllaw60_StatsSums.B15=true:=by kernel_rfl
theorem papermilllaw60_StatsSums.calls (k:Nat) (A0:Option Addr) (c0:Nat) (l0:List Int) (a1:Int) (r:Bool) (w:World) (hr0:Kd.C (Kd.int .i64) w A0 l0.length l0) (hc0:l0.length≤c0) (h:papermilllaw60_StatsSums.f k l0 a1=some r) :
  Calls Try.prog 7 #[.slice A0 l0.length c0,.int .i64 a1] w fun e w'=>e=.returned (.bool r)∧Below w.heap.size w w':=by
 have hu38:=Try.underlying38;have HR0:=aM hr0;have HC0:=aM hc0;clear hr0 hc0;have HB:=aM (Below.refl w.heap.size w);have H:(if(l0.length:Int) > 100 then((Azz.f k).bind fun t718=>(some t718)) else((Bzv.f k l0 a1).bind fun bt719=>(if bt719.2=0 then((Bzv.f k l0 1).bind fun bt724=>(if bt724.2=0 then((Azy.f k bt724.1 l0).bind fun t728=>(if t728=true then(if a1 < 1 then(papermilllaw60_StatsSums.j0 k l0 a1 bt719.1 true) else(if a1 > (l0.length:Int) then(papermilllaw60_StatsSums.j0 k l0 a1 bt719.1 true) else(papermilllaw60_StatsSums.j0 k l0 a1 bt719.1 ((bt719.1.length:Int) != (wrap64 ((wrap64 ((l0.length:Int) - a1))+1)))))) else(papermilllaw60_StatsSums.j0 k l0 a1 bt719.1 true))) else(papermilllaw60_StatsSums.j0 k l0 a1 bt719.1 true))) else(if(bt719.1.length:Int)=0 then((Azz.f k).bind fun t723=>(some t723)) else(none)))))=some r:=h
 clear h;by_cases c3:(l0.length:Int) > 100
 ·rw[if_pos c3] at H;have c3b0:decide (100 < (l0.length:Int))=true:=dE c3;have c3b1:decide (100 < l0.length)=true:=dE (by omega)
  clear c3;replace H:=bS H;obtain⟨t718,A40,H⟩:=H;replace H:(some t718)=some r:=H;have A4:=aM A40;clear A40;obtain rfl:=Option.some.inj H;go_enter Try.func7,Try.ntmps7
  go_wp2_with (first|((with_reducible refine gate_callee (f:=10) rfl ?_);refine goesL_ (some 15) rfl rfl Try.func10 (by kernel_rfl) rfl #[] rfl mA ?_;(with_reducible refine(Azz.calls k  t718 _ A4.out).mono ?_);rintro e w5 ⟨rfl,hb⟩;refine⟨_,rfl,?_⟩;replace HB:=aM (below_step pB hb);(try clear hb);(try clear hb2);(try clear hk);(try clear hi)))
  go_ret
  exact⟨eW,pB⟩
 ·rw[if_neg c3] at H;have c3b0:decide (100 < (l0.length:Int))=false:=decide_eq_false c3;have c3b1:decide (100 < l0.length)=false:=decide_eq_false (by omega)
  clear c3;replace H:=bS H;obtain⟨⟨t719,t720⟩,A60,H⟩:=H;(try dsimp only at H);have A6:=aM A60;clear A60;by_cases c7:t720=0
  ·rw[if_pos c7] at H;have c7b0:(t720 == 0)=true:=beq_iff_eq.mpr c7;have c7b1:(t720 != 0)=false:=bne_eq_false_iff_eq.mpr c7;clear c7;replace H:=bS H;obtain⟨⟨t724,t725⟩,A80,H⟩:=H;(try dsimp only at H);have A8:=aM A80;clear A80;have HC9:=aM H;clear H;go_enter Try.func7,Try.ntmps7
   go_upto_region 7 with (first|((with_reducible refine gate_callee (f:=17) rfl ?_);refine goesL_ (some 19) rfl rfl Try.func17 (by kernel_rfl) rfl #[.slice A0 l0.length c0,.int .i64 a1] rfl mA ?_;(with_reducible refine(Bzv.calls k _ _ l0 a1 t719 t720 _ ?side1 ?side2 A6.out).mono ?_);(case side1=>exact cX HR0.out);(case side2=>exact HC0.out);rintro e w10 ⟨v721,rfl,ho0,hb⟩;refine⟨_,rfl,?_⟩;have HO722:=aM (Kd.R_lower ho0 (below_size pB));replace HB:=aM (below_step pB hb);(try clear hb);(try clear hb2);(try clear hk);(try clear hi);(try clear ho0))|((with_reducible refine gate_callee (f:=17) rfl ?_);refine goesL_ (some 32) rfl rfl Try.func17 (by kernel_rfl) rfl #[.slice A0 l0.length c0,.int .i64 1] rfl mA ?_;(with_reducible refine(Bzv.calls k _ _ l0 1 t724 t725 _ ?side1 ?side2 A8.out).mono ?_);(case side1=>exact cX (Kd.C_below HR0.out HB.out));(case side2=>exact HC0.out);rintro e w11 ⟨v726,rfl,ho0,hb⟩;refine⟨_,rfl,?_⟩;have HO727:=aM (Kd.R_lower (Kd.R_new' ho0 (Kd.R_lt (rX HO722.out))) (below_size pB));replace HO722:=aM (Kd.R_elder' (rX HO722.out) (Kd.R_base ho0) hb);replace HB:=aM (below_step pB hb);(try clear hb);(try clear hb2);(try clear hk);(try clear hi);(try clear ho0)))
   (try simp only[Act.put,sA,sZ,sC])
   go_cut [62] (fun v62 wc=>∃ (kq:Nat) (x62_8:Bool),v62=.bool x62_8∧Aside0 (papermilllaw60_StatsSums.j0 kq l0 a1 t719 x62_8=some r)∧Aside0 (kq≤k)∧Aside0 (Kd.R (Kd.int .i64) 3 wc w.heap.size (fun _=>True) v721 t719)∧Aside0 (Below w.heap.size w wc))
   case first =>
    have H:=HC9.out;clear HC9;by_cases c12:t725=0
    ·rw[if_pos c12] at H;have c12b0:(t725 == 0)=true:=beq_iff_eq.mpr c12;have c12b1:(t725 != 0)=false:=bne_eq_false_iff_eq.mpr c12;clear c12;(first|rw[c12b0]|(simp only[i64_w,i32_w];rw[c12b0])|skip)
     replace H:=bS H;obtain⟨t728,A130,H⟩:=H;(try dsimp only at H);have A13:=aM A130;clear A130;by_cases c14:t728=true
     ·subst c14;rw[if_pos rfl] at H;by_cases c15:a1 < 1
      ·rw[if_pos c15] at H;have c15b0:decide (a1 < 1)=true:=dE c15;clear c15;have H':=aM H;clear H;obtain⟨Ao16,co16,eo16⟩:=Kd.R_slice HO727.out;subst eo16;go_wp2_with (first|(go_at_call 19;(with_reducible refine(Azy.calls k _ _ t724 _ _ l0 true _ ?side1 ?side2 ?side3 ?side4 A13.out).mono ?_);(case side1=>repeat(first|exact(Kd.R_reads' HO727.out).2.2|(with_reducible refine Kd.C_alloc ?_ _)|(with_reducible refine Kd.C_drewN ?_ _)|(with_reducible refine Kd.C_drew ?_)));(case side2=>exact(Kd.R_reads' HO727.out).2.1);(case side3=>exact cX (Kd.C_below HR0.out HB.out));(case side4=>exact HC0.out);rintro e w' ⟨rfl,⟨nd,rfl⟩⟩))
       go_meet
       case rel=>exact⟨_,(true),sD,H',⟨by first|omega|exact Nat.le_refl _⟩,⟨by(with_reducible repeat(first|apply Kd.R_alloc|apply Kd.R_drewN|apply Kd.R_drew));exact Kd.R_mono HO722.out (fun _ hk=>trivial)⟩,⟨pB⟩⟩
      ·rw[if_neg c15] at H;have c15b0:decide (a1 < 1)=false:=decide_eq_false c15;clear c15;by_cases c17:a1 > (l0.length:Int)
       ·rw[if_pos c17] at H;have c17b0:decide ((l0.length:Int) < a1)=true:=dE c17;clear c17;have H':=aM H;clear H;obtain⟨Ao18,co18,eo18⟩:=Kd.R_slice HO727.out;subst eo18;go_wp2_with (first|(go_at_call 19;(with_reducible refine(Azy.calls k _ _ t724 _ _ l0 true _ ?side1 ?side2 ?side3 ?side4 A13.out).mono ?_);(case side1=>repeat(first|exact(Kd.R_reads' HO727.out).2.2|(with_reducible refine Kd.C_alloc ?_ _)|(with_reducible refine Kd.C_drewN ?_ _)|(with_reducible refine Kd.C_drew ?_)));(case side2=>exact(Kd.R_reads' HO727.out).2.1);(case side3=>exact cX (Kd.C_below HR0.out HB.out));(case side4=>exact HC0.out);rintro e w' ⟨rfl,⟨nd,rfl⟩⟩))
        go_meet
        case rel=>exact⟨_,(true),sD,H',⟨by first|omega|exact Nat.le_refl _⟩,⟨by(with_reducible repeat(first|apply Kd.R_alloc|apply Kd.R_drewN|apply Kd.R_drew));exact Kd.R_mono HO722.out (fun _ hk=>trivial)⟩,⟨pB⟩⟩
       ·rw[if_neg c17] at H;have c17b0:decide ((l0.length:Int) < a1)=false:=decide_eq_false c17;clear c17;have H':=aM H;clear H;obtain⟨Ao19,co19,eo19⟩:=Kd.R_slice HO727.out;subst eo19;go_wp2_with (first|(go_at_call 19;(with_reducible refine(Azy.calls k _ _ t724 _ _ l0 true _ ?side1 ?side2 ?side3 ?side4 A13.out).mono ?_);(case side1=>repeat(first|exact(Kd.R_reads' HO727.out).2.2|(with_reducible refine Kd.C_alloc ?_ _)|(with_reducible refine Kd.C_drewN ?_ _)|(with_reducible refine Kd.C_drew ?_)));(case side2=>exact(Kd.R_reads' HO727.out).2.1);(case side3=>exact cX (Kd.C_below HR0.out HB.out));(case side4=>exact HC0.out);rintro e w' ⟨rfl,⟨nd,rfl⟩⟩;obtain⟨Ao20,co20,eo20⟩:=Kd.R_slice HO722.out;subst eo20))
        go_meet
        case rel=>exact⟨_,(((t719.length:Int) != (wrap64 ((wrap64 ((l0.length:Int) - a1))+1)))),sD,H',⟨by first|omega|exact Nat.le_refl _⟩,⟨by(with_reducible repeat(first|apply Kd.R_alloc|apply Kd.R_drewN|apply Kd.R_drew));exact Kd.R_mono HO722.out (fun _ hk=>trivial)⟩,⟨pB⟩⟩
     ·replace c14:=Bool.eq_false_iff.mpr c14;subst c14;rw[if_neg (show ¬ (false=true) by decide)] at H
      have H':=aM H;clear H;obtain⟨Ao21,co21,eo21⟩:=Kd.R_slice HO727.out;subst eo21;go_wp2_with (first|(go_at_call 19;(with_reducible refine(Azy.calls k _ _ t724 _ _ l0 false _ ?side1 ?side2 ?side3 ?side4 A13.out).mono ?_);(case side1=>repeat(first|exact(Kd.R_reads' HO727.out).2.2|(with_reducible refine Kd.C_alloc ?_ _)|(with_reducible refine Kd.C_drewN ?_ _)|(with_reducible refine Kd.C_drew ?_)));(case side2=>exact(Kd.R_reads' HO727.out).2.1);(case side3=>exact cX (Kd.C_below HR0.out HB.out));(case side4=>exact HC0.out);rintro e w' ⟨rfl,⟨nd,rfl⟩⟩))
      go_meet
      case rel=>exact⟨_,(true),sD,H',⟨by first|omega|exact Nat.le_refl _⟩,⟨by(with_reducible repeat(first|apply Kd.R_alloc|apply Kd.R_drewN|apply Kd.R_drew));exact Kd.R_mono HO722.out (fun _ hk=>trivial)⟩,⟨pB⟩⟩
    ·rw[if_neg c12] at H;have c12b0:(t725 == 0)=false:=beq_eq_false_iff_ne.mpr c12;have c12b1:(t725 != 0)=true:=bne_iff_ne.mpr c12;(first|rw[c12b0]|(simp only[i64_w,i32_w];rw[c12b0])|skip)
     have H':=aM H;clear H;go_wp2
     go_meet
     case rel=>exact⟨_,(true),sD,H',⟨by first|omega|exact Nat.le_refl _⟩,⟨by(with_reducible repeat(first|apply Kd.R_alloc|apply Kd.R_drewN|apply Kd.R_drew));exact Kd.R_mono HO722.out (fun _ hk=>trivial)⟩,⟨pB⟩⟩
   case rest =>
    clear HC9;try clear c1
    try clear p2
    try clear c3
    try clear c3b0
    try clear c3b1
    try clear p6
    try clear c7
    try clear c7b0
    try clear c7b1
    try clear c10
    try clear c12
    try clear c12b0
    try clear c12b1
    try clear c14
    try clear c15
    try clear c15b0
    try clear c17
    try clear c17b0
    obtain⟨kq,x62_8,rfl,HA,HJ8,HO_5,HB⟩:=hcut;cases kq with
    | zero=>exact absurd HA.out (by simp [papermilllaw60_StatsSums.j0])
    | succ kj8 =>
     have H:=HA.out;clear HA;simp only[papermilllaw60_StatsSums.j0] at H;by_cases c22:x62_8=true
     ·subst c22;rw[if_pos rfl] at H;exact absurd H (by simp)
     ·replace c22:=Bool.eq_false_iff.mpr c22;subst c22;rw[if_neg (show ¬ (false=true) by decide)] at H
      have H':=aM H;clear H;go_wp2
      go_loopg [9] kj8 (fun kq v9 w'=>∃ (x9_2:Int),v9=.int .i64 x9_2∧Aside0 (papermilllaw60_StatsSums.l0 kq l0 a1 t719 x9_2=some r)∧Aside0 (kq≤kj8)∧Aside0 (Kd.R (Kd.int .i64) 3 w' w.heap.size (fun _=>True) v721 t719)∧Aside0 (Below w.heap.size w w'))
      case atStart=>exact⟨(0),sD,H',⟨Nat.le_refl _⟩,⟨rX HO_5.out⟩,⟨pB⟩⟩
      case round =>
       clear H';try clear c1
       try clear c2
       try clear p2
       try clear c3
       try clear c3b0
       try clear c3b1
       try clear p6
       try clear c7
       try clear c7b0
       try clear c7b1
       try clear c10
       try clear c12
       try clear c12b0
       try clear c12b1
       try clear c14
       try clear c15
       try clear c15b0
       try clear c17
       try clear c17b0
       try clear c22
       try clear p2
       try clear p6
       obtain⟨x9_2,rfl,HA,HK2,HO_5,HB⟩:=hrel;cases gk with
       | zero=>exact absurd HA.out (by simp [papermilllaw60_StatsSums.l0])
       | succ k2 =>
        have H:=HA.out;clear HA;simp only[papermilllaw60_StatsSums.l0] at H;by_cases c23:x9_2 < (t719.length:Int)
        ·rw[if_pos c23] at H;have c23b0:decide (x9_2 < (t719.length:Int))=true:=dE c23;clear c23;by_cases c24:x9_2 > 0
         ·rw[if_pos c24] at H;have c24b0:decide (0 < x9_2)=true:=dE c24;clear c24;by_cases c25:0≤x9_2
          ·rw[if_pos c25] at H;have c25b0:decide (0≤x9_2)=true:=dE c25;clear c25;obtain⟨ji26,hji26⟩:∃ j_:Int,(wrap64 (x9_2 - 1))=j_:=⟨_,rfl⟩;replace H:(if 0≤(ji26) then(if(ji26) < (t719.length:Int) then(if(ji26) < (l0.length:Int) then(if 0≤(wrap64 ((wrap64 (x9_2+a1)) - 1)) then(if(wrap64 ((wrap64 (x9_2+a1)) - 1)) < (l0.length:Int) then(if(rd t719 x9_2)=(wrap64 ((wrap64 ((rd t719 (ji26)) - (rd l0 (ji26))))+(rd l0 (wrap64 ((wrap64 (x9_2+a1)) - 1))))) then(papermilllaw60_StatsSums.l0 k2 l0 a1 t719 (wrap64 (x9_2+1))) else(none)) else(none)) else(none)) else(none)) else(none)) else(none))=some r:=by first|(rw[hji26] at H;exact H)|(simp only[hji26] at H ⊢;exact H)
           have hji26w:(IntKind.i64.wrap (x9_2 - 1))=ji26:=(i64_w _).trans hji26;by_cases c27:0≤(ji26)
           ·rw[if_pos c27] at H;have c27b0:decide (0≤(ji26))=true:=dE c27;clear c27;by_cases c28:(ji26) < (t719.length:Int)
            ·rw[if_pos c28] at H;have c28b0:decide ((ji26) < (t719.length:Int))=true:=dE c28;clear c28;by_cases c29:(ji26) < (l0.length:Int)
             ·rw[if_pos c29] at H;have c29b0:decide ((ji26) < (l0.length:Int))=true:=dE c29;clear c29;obtain⟨ji30,hji30⟩:∃ j_:Int,(wrap64 ((wrap64 (x9_2+a1)) - 1))=j_:=⟨_,rfl⟩;replace H:(if 0≤(ji30) then(if(ji30) < (l0.length:Int) then(if(rd t719 x9_2)=(wrap64 ((wrap64 ((rd t719 (ji26)) - (rd l0 (ji26))))+(rd l0 (ji30)))) then(papermilllaw60_StatsSums.l0 k2 l0 a1 t719 (wrap64 (x9_2+1))) else(none)) else(none)) else(none))=some r:=by first|(rw[hji30] at H;exact H)|(simp only[hji30] at H ⊢;exact H)
              have hji30w:(IntKind.i64.wrap ((wrap64 (x9_2+a1)) - 1))=ji30:=(i64_w _).trans hji30;by_cases c31:0≤(ji30)
              ·rw[if_pos c31] at H;have c31b0:decide (0≤(ji30))=true:=dE c31;clear c31;by_cases c32:(ji30) < (l0.length:Int)
               ·rw[if_pos c32] at H;have c32b0:decide ((ji30) < (l0.length:Int))=true:=dE c32;clear c32;by_cases c33:(rd t719 x9_2)=(wrap64 ((wrap64 ((rd t719 (ji26)) - (rd l0 (ji26))))+(rd l0 (ji30))))
                ·rw[if_pos c33] at H;have c33b0:((rd t719 x9_2) == (wrap64 ((wrap64 ((rd t719 (ji26)) - (rd l0 (ji26))))+(rd l0 (ji30)))))=true:=beq_iff_eq.mpr c33;have c33b1:((rd t719 x9_2) != (wrap64 ((wrap64 ((rd t719 (ji26)) - (rd l0 (ji26))))+(rd l0 (ji30)))))=false:=bne_eq_false_iff_eq.mpr c33;clear c33;have H':=aM H;clear H;obtain⟨Ao34,co34,eo34⟩:=Kd.R_slice HO_5.out;subst eo34;try go_wp2
                 have n0_:=aM (Kd.R_drew HO_5.out);have n1_:=aM (below_drew1 HB.out);clear HO_5;clear HB;have HO_5:=n0_;have HB:=n1_;clear n0_ n1_;have p729:0≤(x9_2:Int):=oE aS
                 have q729:x9_2 < (t719.length:Int):=oE aS
                 obtain⟨ad729,e729,hx729_0⟩:=Kd.at_int (Kd.R_reads' HO_5.out).2.2 x9_2 p729 q729;cases e729
                 replace p729:=eq_true p729;replace q729:=eq_true q729;have p730:0≤((ji26):Int):=oE aS
                 have q730:(ji26) < (t719.length:Int):=oE aS
                 obtain⟨ad730,e730,hx730_0⟩:=Kd.at_int (Kd.R_reads' HO_5.out).2.2 (ji26) p730 q730;obtain rfl:ad729=ad730:=(by injection e730)
                 replace p730:=eq_true p730;replace q730:=eq_true q730;have p731:0≤((ji26):Int):=oE aS
                 have q731:(ji26) < (l0.length:Int):=oE aS
                 obtain⟨ad731,e731,hx731_0⟩:=Kd.at_int HR0.out (ji26) p731 q731;have hw731_0:=hx731_0;cases e731
                 replace hx731_0:=(HB.out.cell (World.block_lt_of_cell? w _ hx731_0)).trans hx731_0;replace p731:=eq_true p731;replace q731:=eq_true q731;have p732:0≤((ji30):Int):=oE aS
                 have q732:(ji30) < (l0.length:Int):=oE aS
                 obtain⟨ad732,e732,hx732_0⟩:=Kd.at_int HR0.out (ji30) p732 q732;have hw732_0:=hx732_0;obtain rfl:ad731=ad732:=(by injection e732)
                 replace hx732_0:=(HB.out.cell (World.block_lt_of_cell? w _ hx732_0)).trans hx732_0;replace p732:=eq_true p732;replace q732:=eq_true q732;refine start_ (n:=28) (S:=fun w'=>w'.cell? (ad729.add (x9_2).toNat)=some (.int .i64 (rd t719 x9_2))∧w'.cell? (ad729.add ((ji26)).toNat)=some (.int .i64 (rd t719 (ji26)))∧w'.cell? (ad731.add ((ji26)).toNat)=some (.int .i64 (rd l0 (ji26)))∧w'.cell? (ad731.add ((ji30)).toNat)=some (.int .i64 (rd l0 (ji30)))) (ds:=[]) #[false,false,false,false,false,false,false,false,false,false,false,false,false,false,false,false,false,false,false,false,false,false,false,false,false,false,false,false] (by kernel_rfl) rfl rfl ⟨hx729_0,hx730_0,((HB.out.cell (World.block_lt_of_cell? w _ hw731_0)).trans hw731_0),((HB.out.cell (World.block_lt_of_cell? w _ hw732_0)).trans hw732_0)⟩ (fun hHeld=>?_);refine with_tabW papermilllaw60_StatsSums.tab12 papermilllaw60_StatsSums.bits12 (fun HT_ HW_=>?_)
                 generalize wr.drew=w35 at HO_5 HB hx729_0 hx730_0 hx731_0 hx732_0 hHeld ⊢;refine pU (i:=0) (N:=some 69) HT_ #[true,false,false,false,false,false,false,false,false,false,false,false,false,false,false,false,false,false,false,false,false,false,false,false,false,false,false,false] ?_;refine pU (i:=1) (N:=some 70) HT_ #[true,true,false,false,false,false,false,false,false,false,false,false,false,false,false,false,false,false,false,false,false,false,false,false,false,false,false,false] ?_;refine pU (i:=2) (N:=some 71) HT_ #[true,true,true,false,false,false,false,false,false,false,false,false,false,false,false,false,false,false,false,false,false,false,false,false,false,false,false,false] ?_;refine pU (i:=3) (N:=some 72) HT_ #[true,true,true,true,false,false,false,false,false,false,false,false,false,false,false,false,false,false,false,false,false,false,false,false,false,false,false,false] ?_;refine pU (i:=4) (N:=some 73) HT_ #[true,true,true,true,true,false,false,false,false,false,false,false,false,false,false,false,false,false,false,false,false,false,false,false,false,false,false,false] ?_;refine pU (i:=5) (N:=some 74) HT_ #[true,true,true,true,true,true,false,false,false,false,false,false,false,false,false,false,false,false,false,false,false,false,false,false,false,false,false,false] ?_;refine pU (i:=7) (N:=some 76) HT_ #[true,true,true,true,true,true,false,true,false,false,false,false,false,false,false,false,false,false,false,false,false,false,false,false,false,false,false,false] ?_;refine pU (i:=8) (N:=some 77) HT_ #[true,true,true,true,true,true,false,true,true,false,false,false,false,false,false,false,false,false,false,false,false,false,false,false,false,false,false,false] ?_;refine pU (i:=9) (N:=some 78) HT_ #[true,true,true,true,true,true,false,true,true,true,false,false,false,false,false,false,false,false,false,false,false,false,false,false,false,false,false,false] ?_;refine pU (i:=10) (N:=some 79) HT_ #[true,true,true,true,true,true,false,true,true,true,true,false,false,false,false,false,false,false,false,false,false,false,false,false,false,false,false,false] ?_;refine pU (i:=12) (N:=some 81) HT_ #[true,true,true,true,true,true,false,true,true,true,true,false,true,false,false,false,false,false,false,false,false,false,false,false,false,false,false,false] ?_;refine pU (i:=13) (N:=some 82) HT_ #[true,true,true,true,true,true,false,true,true,true,true,false,true,true,false,false,false,false,false,false,false,false,false,false,false,false,false,false] ?_;refine pU (i:=14) (N:=some 83) HT_ #[true,true,true,true,true,true,false,true,true,true,true,false,true,true,true,false,false,false,false,false,false,false,false,false,false,false,false,false] ?_;refine pU (i:=15) (N:=some 84) HT_ #[true,true,true,true,true,true,false,true,true,true,true,false,true,true,true,true,false,false,false,false,false,false,false,false,false,false,false,false] ?_;refine pU (i:=18) (N:=some 87) HT_ #[true,true,true,true,true,true,false,true,true,true,true,false,true,true,true,true,false,false,true,false,false,false,false,false,false,false,false,false] ?_;refine pU (i:=19) (N:=some 88) HT_ #[true,true,true,true,true,true,false,true,true,true,true,false,true,true,true,true,false,false,true,true,false,false,false,false,false,false,false,false] ?_;refine pU (i:=20) (N:=some 89) HT_ #[true,true,true,true,true,true,false,true,true,true,true,false,true,true,true,true,false,false,true,true,true,false,false,false,false,false,false,false] ?_;refine pU (i:=21) (N:=some 90) HT_ #[true,true,true,true,true,true,false,true,true,true,true,false,true,true,true,true,false,false,true,true,true,true,false,false,false,false,false,false] ?_;refine pU (i:=22) (N:=some 91) HT_ #[true,true,true,true,true,true,false,true,true,true,true,false,true,true,true,true,false,false,true,true,true,true,true,false,false,false,false,false] ?_;refine pU (i:=23) (N:=some 92) HT_ #[true,true,true,true,true,true,false,true,true,true,true,false,true,true,true,true,false,false,true,true,true,true,true,true,false,false,false,false] ?_;refine take_ (i:=6) (N:=some 75) (v:=?_) (a':=?_) #[true,true,true,true,true,true,true,true,true,true,true,false,true,true,true,true,false,false,true,true,true,true,true,true,false,false,false,false] rfl rfl (take_ofW HT_.out HW_.out (by kernel_rfl)) (fun _ _ _ h=>h) (Or.inl ⟨by rfl,?_⟩) hHeld ?_ ?_
                 rotate_left
                 ·rintro w' ⟨s0,s1,s2,s3⟩;go_simp
                  with_reducible rfl
                 rotate_left
                 ·simp only[Act.put,sA,sZ,sC,i64_w,i32_w];rfl
                 refine take_ (i:=11) (N:=some 80) (v:=?_) (a':=?_) #[true,true,true,true,true,true,true,true,true,true,true,true,true,true,true,true,false,false,true,true,true,true,true,true,false,false,false,false] rfl rfl (take_ofW HT_.out HW_.out (by kernel_rfl)) (fun _ _ _ h=>h) (Or.inl ⟨by rfl,?_⟩) hHeld ?_ ?_
                 rotate_left
                 ·rintro w' ⟨s0,s1,s2,s3⟩;go_simp
                  with_reducible rfl
                 rotate_left
                 ·simp only[Act.put,sA,sZ,sC,i64_w,i32_w];rfl
                 refine take_ (i:=16) (N:=some 85) (v:=?_) (a':=?_) #[true,true,true,true,true,true,true,true,true,true,true,true,true,true,true,true,true,false,true,true,true,true,true,true,false,false,false,false] rfl rfl (take_ofW HT_.out HW_.out (by kernel_rfl)) (fun _ _ _ h=>h) (Or.inl ⟨by rfl,?_⟩) hHeld ?_ ?_
                 rotate_left
                 ·rintro w' ⟨s0,s1,s2,s3⟩;go_simp
                  with_reducible rfl
                 rotate_left
                 ·simp only[Act.put,sA,sZ,sC,i64_w,i32_w];rfl
                 refine pU (i:=17) (N:=some 86) HT_ #[true,true,true,true,true,true,true,true,true,true,true,true,true,true,true,true,true,true,true,true,true,true,true,true,false,false,false,false] ?_;refine take_ (i:=24) (N:=some 93) (v:=?_) (a':=?_) #[true,true,true,true,true,true,true,true,true,true,true,true,true,true,true,true,true,true,true,true,true,true,true,true,true,false,false,false] rfl rfl (take_ofW HT_.out HW_.out (by kernel_rfl)) (fun _ _ _ h=>h) (Or.inl ⟨by rfl,?_⟩) hHeld ?_ ?_
                 rotate_left
                 ·rintro w' ⟨s0,s1,s2,s3⟩;go_simp
                  with_reducible rfl
                 rotate_left
                 ·simp only[Act.put,sA,sZ,sC,i64_w,i32_w];rfl
                 refine pU (i:=25) (N:=some 94) HT_ #[true,true,true,true,true,true,true,true,true,true,true,true,true,true,true,true,true,true,true,true,true,true,true,true,true,true,false,false] ?_;refine pU (i:=26) (N:=some 95) HT_ #[true,true,true,true,true,true,true,true,true,true,true,true,true,true,true,true,true,true,true,true,true,true,true,true,true,true,true,false] ?_;refine pU (i:=27) (N:=some 96) HT_ #[true,true,true,true,true,true,true,true,true,true,true,true,true,true,true,true,true,true,true,true,true,true,true,true,true,true,true,true] ?_;refine done_ (done_of HT_.out (by kernel_rfl)) ?_
                 try go_wp2
                 go_roundg k2
                 case measure=>have:=HJ8.out;have:=HK2.out;omega
                 case rel=>exact⟨(wrap64 (x9_2+1)),sD,H',⟨by have:=HJ8.out;have:=HK2.out;omega⟩,⟨rX HO_5.out⟩,⟨pB⟩⟩
                ·rw[if_neg c33] at H;exact absurd H (by simp)
               ·rw[if_neg c32] at H;exact absurd H (by simp)
              ·rw[if_neg c31] at H;exact absurd H (by simp)
             ·rw[if_neg c29] at H;exact absurd H (by simp)
            ·rw[if_neg c28] at H;exact absurd H (by simp)
           ·rw[if_neg c27] at H;exact absurd H (by simp)
          ·rw[if_neg c25] at H;exact absurd H (by simp)
         ·rw[if_neg c24] at H;have c24b0:decide (0 < x9_2)=false:=decide_eq_false c24;clear c24;have H':=aM H;clear H;obtain⟨Ao36,co36,eo36⟩:=Kd.R_slice HO_5.out;subst eo36;try go_wp2
          have n0_:=aM (Kd.R_drew HO_5.out);have n1_:=aM (below_drew1 HB.out);clear HO_5;clear HB;have HO_5:=n0_;have HB:=n1_;clear n0_ n1_;refine start_ (n:=28) (S:=fun w'=>True) (ds:=[]) #[false,false,false,false,false,false,false,false,false,false,false,false,false,false,false,false,false,false,false,false,false,false,false,false,false,false,false,false] (by kernel_rfl) rfl rfl trivial (fun hHeld=>?_);refine with_tabW papermilllaw60_StatsSums.tab12 papermilllaw60_StatsSums.bits12 (fun HT_ HW_=>?_)
          generalize wr.drew=w37 at HO_5 HB hHeld ⊢;refine pU (i:=0) (N:=some 69) HT_ #[true,false,false,false,false,false,false,false,false,false,false,false,false,false,false,false,false,false,false,false,false,false,false,false,false,false,false,false] ?_;refine pU (i:=1) (N:=some 70) HT_ #[true,true,false,false,false,false,false,false,false,false,false,false,false,false,false,false,false,false,false,false,false,false,false,false,false,false,false,false] ?_;refine pU (i:=2) (N:=some 71) HT_ #[true,true,true,false,false,false,false,false,false,false,false,false,false,false,false,false,false,false,false,false,false,false,false,false,false,false,false,false] ?_;refine pure_ (i:=3) (N:=some 72) (v:=undef) (a':=?_) #[true,true,true,true,false,false,false,false,false,false,false,false,false,false,false,false,false,false,false,false,false,false,false,false,false,false,false,false] rfl rfl (any_of HT_.out (by kernel_rfl)) (fun _ _ _ h=>h) (Or.inr ⟨by rfl,rfl⟩) ?_ ?_
          rotate_left
          ·simp only[Act.put,sA,sZ,sC,i64_w,i32_w];rfl
          refine pure_ (i:=4) (N:=some 73) (v:=undef) (a':=?_) #[true,true,true,true,true,false,false,false,false,false,false,false,false,false,false,false,false,false,false,false,false,false,false,false,false,false,false,false] rfl rfl (any_of HT_.out (by kernel_rfl)) (fun _ _ _ h=>h) (Or.inr ⟨by rfl,rfl⟩) ?_ ?_
          rotate_left
          ·simp only[Act.put,sA,sZ,sC,i64_w,i32_w];rfl
          refine pure_ (i:=5) (N:=some 74) (v:=undef) (a':=?_) #[true,true,true,true,true,true,false,false,false,false,false,false,false,false,false,false,false,false,false,false,false,false,false,false,false,false,false,false] rfl rfl (any_of HT_.out (by kernel_rfl)) (fun _ _ _ h=>h) (Or.inr ⟨by rfl,rfl⟩) ?_ ?_
          rotate_left
          ·simp only[Act.put,sA,sZ,sC,i64_w,i32_w];rfl
          refine pure_ (i:=6) (N:=some 75) (v:=undef) (a':=?_) #[true,true,true,true,true,true,true,false,false,false,false,false,false,false,false,false,false,false,false,false,false,false,false,false,false,false,false,false] rfl rfl (any_of HT_.out (by kernel_rfl)) (fun _ _ _ h=>h) (Or.inr ⟨by rfl,rfl⟩) ?_ ?_
          rotate_left
          ·simp only[Act.put,sA,sZ,sC,i64_w,i32_w];rfl
          refine pure_ (i:=7) (N:=some 76) (v:=undef) (a':=?_) #[true,true,true,true,true,true,true,true,false,false,false,false,false,false,false,false,false,false,false,false,false,false,false,false,false,false,false,false] rfl rfl (any_of HT_.out (by kernel_rfl)) (fun _ _ _ h=>h) (Or.inr ⟨by rfl,rfl⟩) ?_ ?_
          rotate_left
          ·simp only[Act.put,sA,sZ,sC,i64_w,i32_w];rfl
          refine pure_ (i:=8) (N:=some 77) (v:=undef) (a':=?_) #[true,true,true,true,true,true,true,true,true,false,false,false,false,false,false,false,false,false,false,false,false,false,false,false,false,false,false,false] rfl rfl (any_of HT_.out (by kernel_rfl)) (fun _ _ _ h=>h) (Or.inr ⟨by rfl,rfl⟩) ?_ ?_
          rotate_left
          ·simp only[Act.put,sA,sZ,sC,i64_w,i32_w];rfl
          refine pure_ (i:=9) (N:=some 78) (v:=undef) (a':=?_) #[true,true,true,true,true,true,true,true,true,true,false,false,false,false,false,false,false,false,false,false,false,false,false,false,false,false,false,false] rfl rfl (any_of HT_.out (by kernel_rfl)) (fun _ _ _ h=>h) (Or.inr ⟨by rfl,rfl⟩) ?_ ?_
          rotate_left
          ·simp only[Act.put,sA,sZ,sC,i64_w,i32_w];rfl
          refine pure_ (i:=10) (N:=some 79) (v:=undef) (a':=?_) #[true,true,true,true,true,true,true,true,true,true,true,false,false,false,false,false,false,false,false,false,false,false,false,false,false,false,false,false] rfl rfl (any_of HT_.out (by kernel_rfl)) (fun _ _ _ h=>h) (Or.inr ⟨by rfl,rfl⟩) ?_ ?_
          rotate_left
          ·simp only[Act.put,sA,sZ,sC,i64_w,i32_w];rfl
          refine pure_ (i:=11) (N:=some 80) (v:=undef) (a':=?_) #[true,true,true,true,true,true,true,true,true,true,true,true,false,false,false,false,false,false,false,false,false,false,false,false,false,false,false,false] rfl rfl (any_of HT_.out (by kernel_rfl)) (fun _ _ _ h=>h) (Or.inr ⟨by rfl,rfl⟩) ?_ ?_
          rotate_left
          ·simp only[Act.put,sA,sZ,sC,i64_w,i32_w];rfl
          refine pure_ (i:=12) (N:=some 81) (v:=undef) (a':=?_) #[true,true,true,true,true,true,true,true,true,true,true,true,true,false,false,false,false,false,false,false,false,false,false,false,false,false,false,false] rfl rfl (any_of HT_.out (by kernel_rfl)) (fun _ _ _ h=>h) (Or.inr ⟨by rfl,rfl⟩) ?_ ?_
          rotate_left
          ·simp only[Act.put,sA,sZ,sC,i64_w,i32_w];rfl
          refine pure_ (i:=13) (N:=some 82) (v:=undef) (a':=?_) #[true,true,true,true,true,true,true,true,true,true,true,true,true,true,false,false,false,false,false,false,false,false,false,false,false,false,false,false] rfl rfl (any_of HT_.out (by kernel_rfl)) (fun _ _ _ h=>h) (Or.inr ⟨by rfl,rfl⟩) ?_ ?_
          rotate_left
          ·simp only[Act.put,sA,sZ,sC,i64_w,i32_w];rfl
          refine pure_ (i:=14) (N:=some 83) (v:=undef) (a':=?_) #[true,true,true,true,true,true,true,true,true,true,true,true,true,true,true,false,false,false,false,false,false,false,false,false,false,false,false,false] rfl rfl (any_of HT_.out (by kernel_rfl)) (fun _ _ _ h=>h) (Or.inr ⟨by rfl,rfl⟩) ?_ ?_
          rotate_left
          ·simp only[Act.put,sA,sZ,sC,i64_w,i32_w];rfl
          refine pure_ (i:=15) (N:=some 84) (v:=undef) (a':=?_) #[true,true,true,true,true,true,true,true,true,true,true,true,true,true,true,true,false,false,false,false,false,false,false,false,false,false,false,false] rfl rfl (any_of HT_.out (by kernel_rfl)) (fun _ _ _ h=>h) (Or.inr ⟨by rfl,rfl⟩) ?_ ?_
          rotate_left
          ·simp only[Act.put,sA,sZ,sC,i64_w,i32_w];rfl
          refine pure_ (i:=16) (N:=some 85) (v:=undef) (a':=?_) #[true,true,true,true,true,true,true,true,true,true,true,true,true,true,true,true,true,false,false,false,false,false,false,false,false,false,false,false] rfl rfl (any_of HT_.out (by kernel_rfl)) (fun _ _ _ h=>h) (Or.inr ⟨by rfl,rfl⟩) ?_ ?_
          rotate_left
          ·simp only[Act.put,sA,sZ,sC,i64_w,i32_w];rfl
          refine pure_ (i:=17) (N:=some 86) (v:=undef) (a':=?_) #[true,true,true,true,true,true,true,true,true,true,true,true,true,true,true,true,true,true,false,false,false,false,false,false,false,false,false,false] rfl rfl (any_of HT_.out (by kernel_rfl)) (fun _ _ _ h=>h) (Or.inr ⟨by rfl,rfl⟩) ?_ ?_
          rotate_left
          ·simp only[Act.put,sA,sZ,sC,i64_w,i32_w];rfl
          refine pure_ (i:=18) (N:=some 87) (v:=undef) (a':=?_) #[true,true,true,true,true,true,true,true,true,true,true,true,true,true,true,true,true,true,true,false,false,false,false,false,false,false,false,false] rfl rfl (any_of HT_.out (by kernel_rfl)) (fun _ _ _ h=>h) (Or.inr ⟨by rfl,rfl⟩) ?_ ?_
          rotate_left
          ·simp only[Act.put,sA,sZ,sC,i64_w,i32_w];rfl
          refine pure_ (i:=19) (N:=some 88) (v:=undef) (a':=?_) #[true,true,true,true,true,true,true,true,true,true,true,true,true,true,true,true,true,true,true,true,false,false,false,false,false,false,false,false] rfl rfl (any_of HT_.out (by kernel_rfl)) (fun _ _ _ h=>h) (Or.inr ⟨by rfl,rfl⟩) ?_ ?_
          rotate_left
          ·simp only[Act.put,sA,sZ,sC,i64_w,i32_w];rfl
          refine pure_ (i:=20) (N:=some 89) (v:=undef) (a':=?_) #[true,true,true,true,true,true,true,true,true,true,true,true,true,true,true,true,true,true,true,true,true,false,false,false,false,false,false,false] rfl rfl (any_of HT_.out (by kernel_rfl)) (fun _ _ _ h=>h) (Or.inr ⟨by rfl,rfl⟩) ?_ ?_
          rotate_left
          ·simp only[Act.put,sA,sZ,sC,i64_w,i32_w];rfl
          refine pure_ (i:=21) (N:=some 90) (v:=undef) (a':=?_) #[true,true,true,true,true,true,true,true,true,true,true,true,true,true,true,true,true,true,true,true,true,true,false,false,false,false,false,false] rfl rfl (any_of HT_.out (by kernel_rfl)) (fun _ _ _ h=>h) (Or.inr ⟨by rfl,rfl⟩) ?_ ?_
          rotate_left
          ·simp only[Act.put,sA,sZ,sC,i64_w,i32_w];rfl
          refine pure_ (i:=22) (N:=some 91) (v:=undef) (a':=?_) #[true,true,true,true,true,true,true,true,true,true,true,true,true,true,true,true,true,true,true,true,true,true,true,false,false,false,false,false] rfl rfl (any_of HT_.out (by kernel_rfl)) (fun _ _ _ h=>h) (Or.inr ⟨by rfl,rfl⟩) ?_ ?_
          rotate_left
          ·simp only[Act.put,sA,sZ,sC,i64_w,i32_w];rfl
          refine pure_ (i:=23) (N:=some 92) (v:=undef) (a':=?_) #[true,true,true,true,true,true,true,true,true,true,true,true,true,true,true,true,true,true,true,true,true,true,true,true,false,false,false,false] rfl rfl (any_of HT_.out (by kernel_rfl)) (fun _ _ _ h=>h) (Or.inr ⟨by rfl,rfl⟩) ?_ ?_
          rotate_left
          ·simp only[Act.put,sA,sZ,sC,i64_w,i32_w];rfl
          refine pure_ (i:=24) (N:=some 93) (v:=undef) (a':=?_) #[true,true,true,true,true,true,true,true,true,true,true,true,true,true,true,true,true,true,true,true,true,true,true,true,true,false,false,false] rfl rfl (any_of HT_.out (by kernel_rfl)) (fun _ _ _ h=>h) (Or.inr ⟨by rfl,rfl⟩) ?_ ?_
          rotate_left
          ·simp only[Act.put,sA,sZ,sC,i64_w,i32_w];rfl
          refine pure_ (i:=25) (N:=some 94) (v:=undef) (a':=?_) #[true,true,true,true,true,true,true,true,true,true,true,true,true,true,true,true,true,true,true,true,true,true,true,true,true,true,false,false] rfl rfl (any_of HT_.out (by kernel_rfl)) (fun _ _ _ h=>h) (Or.inr ⟨by rfl,rfl⟩) ?_ ?_
          rotate_left
          ·simp only[Act.put,sA,sZ,sC,i64_w,i32_w];rfl
          refine pure_ (i:=26) (N:=some 95) (v:=undef) (a':=?_) #[true,true,true,true,true,true,true,true,true,true,true,true,true,true,true,true,true,true,true,true,true,true,true,true,true,true,true,false] rfl rfl (any_of HT_.out (by kernel_rfl)) (fun _ _ _ h=>h) (Or.inr ⟨by rfl,rfl⟩) ?_ ?_
          rotate_left
          ·simp only[Act.put,sA,sZ,sC,i64_w,i32_w];rfl
          refine pU (i:=27) (N:=some 96) HT_ #[true,true,true,true,true,true,true,true,true,true,true,true,true,true,true,true,true,true,true,true,true,true,true,true,true,true,true,true] ?_;refine done_ (done_of HT_.out (by kernel_rfl)) ?_
          try go_wp2
          go_roundg k2
          case measure=>have:=HJ8.out;have:=HK2.out;omega
          case rel=>exact⟨(wrap64 (x9_2+1)),sD,H',⟨by have:=HJ8.out;have:=HK2.out;omega⟩,⟨rX HO_5.out⟩,⟨pB⟩⟩
        ·rw[if_neg c23] at H;have c23b0:decide (x9_2 < (t719.length:Int))=false:=decide_eq_false c23;clear c23;by_cases c38:0≤a1
         ·rw[if_pos c38] at H;have c38b0:=eq_true c38;have c38b1:decide (0≤a1)=true:=dE c38;clear c38;by_cases c39:a1≤(l0.length:Int)
          ·rw[if_pos c39] at H;have c39b0:=eq_true c39;have c39b1:decide (a1≤(l0.length:Int))=true:=dE c39;clear c39;replace H:=bS H;obtain⟨⟨t734,t735,t738,t741⟩,A400,H⟩:=H;(try dsimp only at H);have A40:=aM A400;clear A400;by_cases c41:t741=0
           ·rw[if_pos c41] at H;have c41b0:(t741 == 0)=true:=beq_iff_eq.mpr c41;have c41b1:(t741 != 0)=false:=bne_eq_false_iff_eq.mpr c41;clear c41;by_cases c42:0 < (t719.length:Int)
            ·rw[if_pos c42] at H;have c42b0:decide (0 < (t719.length:Int))=true:=dE c42;have c42b1:decide (0 < t719.length)=true:=dE (by omega)
             clear c42;replace H:=bS H;obtain⟨t744,A430,H⟩:=H;(try dsimp only at H);have A43:=aM A430;clear A430;by_cases c44:t744=true
             ·subst c44;rw[if_pos rfl] at H;replace H:=bS H;obtain⟨t745,A450,H⟩:=H;replace H:(some t745)=some r:=H;have A45:=aM A450;clear A450;obtain rfl:=Option.some.inj H;obtain⟨Ao46,co46,eo46⟩:=Kd.R_slice HO_5.out;subst eo46;obtain⟨i047,hi047,_,hsz47,_⟩:=info_parts info3;obtain⟨hcut47,hA47,hC47⟩:=print_take_of (P:=Try.prog) (Value.int .i64) 0 22 3 .i64 Try.underlying22 hi047 hsz47 A0 c0 l0 a1 (oE aS) (oE aS) HC0.out
              have HR733:=aM (Kd.C_of_reads (h1:=fun _=>rfl) (hA47 _ (Kd.reads_of_C HR0.out)))
              have HC733:=aM hC47;clear hA47 hC47 hi047 hsz47;try go_wp2_with (first|((with_reducible refine gate_callee (f:=20) rfl ?_);refine goesL_ (some 101) rfl rfl Try.func20 (by kernel_rfl) rfl #[.slice A0 (l0.take (a1:Int).toNat).length c0] rfl (by(try simp only[List.map_toArray,List.map_cons,List.map_nil]);first|done|(rw[show(l0.take (a1:Int).toNat).length=a1.toNat from(by rw[List.length_take];have h_:(a1:Int)≤(l0.length:Int):=oE aS;omega)] <;> rfl)|rfl|(simp only[List.length_drop,List.length_take];rfl)) ?_;(with_reducible refine(Dzv.calls k2 _ _ (l0.take (a1:Int).toNat) t734 t735 t738 t741 _ ?side1 ?side2 A40.out).mono ?_);(case side1=>exact cX (Kd.C_below HR733.out HB.out));(case side2=>exact HC733.out);rintro e w48 ⟨v736,v739,rfl,ho0,ho1,hb⟩;refine⟨_,rfl,?_⟩;have HO737:=aM (Kd.R_lower (Kd.R_new' ho0 (Kd.R_lt (rX HO_5.out))) (below_size pB));have HO740:=aM (Kd.R_lower (Kd.R_new' ho1 (Kd.R_lt (rX HO_5.out))) (below_size pB));replace HO_5:=aM (Kd.R_mono (Kd.R_told (Kd.R_told (Kd.R_old (rX HO_5.out) hb) (Kd.R_base ho0)) (Kd.R_base ho1)) (fun _ h_=>h_.1));replace HB:=aM (below_step pB hb);(try clear hb);(try clear hb2);(try clear hk);(try clear hi);(try clear ho0);(try clear ho1))|((with_reducible refine gate_dst (N:=10) rfl ?_);(try(refine gate_guard (by rfl) ?_;dsimp only));refine box_event ?hg (N:=10) ?hd (cs:=#[.bool false,.slice none 0 0,.slice none 0 0]) (t:=38) ?hr ?_;(case hd=>rfl);(case hg=>rfl);(case hr=>first|(go_simp;done)|(go_simp;rfl));intro gb742 hg w49 hbox hb;have BK742:=aM (hbox);have GW742:=aM (gW hg:w.heap.size≤gb742);have GE742:=aM (gW hg:w.heap.size≤gb742);replace HO_5:=aM (Kd.R_below (rX HO_5.out) hb);replace HO737:=aM (Kd.R_below (rX HO737.out) hb);replace HO740:=aM (Kd.R_below (rX HO740.out) hb);replace HB:=aM (below_step pB hb);clear hb hbox hg;obtain⟨hcz50_0,hcz50_1,hcz50_2,hfz50_0,hfz50_1,hfz50_2⟩:=bk3 BK742;obtain⟨Ao51,co51,eo51⟩:=Kd.R_slice HO737.out;subst eo51;obtain⟨Ao52,co52,eo52⟩:=Kd.R_slice HO740.out;subst eo52))
              have n0_:Aside0 (Kd.R (Kd.int .i64) 3 (((w49.setCell ⟨gb742,0,none⟩ (.bool t734)).setCell ⟨gb742,1,none⟩ (.slice Ao51 t735.length co51)).setCell ⟨gb742,2,none⟩ (.slice Ao52 t738.length co52)) w.heap.size (fun k_=>some k_≠(.slice Ao51 t735.length co51:Value).ownBlock∧some k_≠(.slice Ao52 t738.length co52:Value).ownBlock) (.slice Ao46 t719.length co46) t719):=⟨by(with_reducible repeat(first|apply Kd.R_alloc|apply Kd.R_drewN|apply Kd.R_drew));exact Kd.R_mono (Kd.R_far (p:=⟨gb742,2,none⟩) (Kd.R_far (p:=⟨gb742,1,none⟩) (Kd.R_far (p:=⟨gb742,0,none⟩) (Kd.R_types HO_5.out BK742.out (by decide)) (fun _ hk=>hk.2) (.bool t734)) (fun _ hk=>hk.2) (.slice Ao51 t735.length co51)) (fun _ hk=>hk.2) (.slice Ao52 t738.length co52)) (fun _ hk=>⟨hk.1.1.2,hk.1.2⟩)⟩
              have n1_:Aside0 (Kd.R (Kd.int .i64) 3 (((w49.setCell ⟨gb742,0,none⟩ (.bool t734)).setCell ⟨gb742,1,none⟩ (.slice Ao51 t735.length co51)).setCell ⟨gb742,2,none⟩ (.slice Ao52 t738.length co52)) w.heap.size (fun k_=>some k_≠(.slice Ao46 t719.length co46:Value).ownBlock∧some k_≠(.slice Ao52 t738.length co52:Value).ownBlock) (.slice Ao51 t735.length co51) t735):=⟨by(with_reducible repeat(first|apply Kd.R_alloc|apply Kd.R_drewN|apply Kd.R_drew));exact Kd.R_mono (Kd.R_far (p:=⟨gb742,2,none⟩) (Kd.R_far (p:=⟨gb742,1,none⟩) (Kd.R_far (p:=⟨gb742,0,none⟩) (Kd.R_types HO737.out BK742.out (by decide)) (fun _ hk=>hk.2) (.bool t734)) (fun _ hk=>hk.2) (.slice Ao51 t735.length co51)) (fun _ hk=>hk.2) (.slice Ao52 t738.length co52)) (fun _ hk=>⟨hk.1.2,hk.1.1⟩)⟩
              have n2_:Aside0 (Kd.R (Kd.int .i64) 3 (((w49.setCell ⟨gb742,0,none⟩ (.bool t734)).setCell ⟨gb742,1,none⟩ (.slice Ao51 t735.length co51)).setCell ⟨gb742,2,none⟩ (.slice Ao52 t738.length co52)) w.heap.size (fun k_=>some k_≠(.slice Ao46 t719.length co46:Value).ownBlock∧some k_≠(.slice Ao51 t735.length co51:Value).ownBlock) (.slice Ao52 t738.length co52) t738):=⟨by(with_reducible repeat(first|apply Kd.R_alloc|apply Kd.R_drewN|apply Kd.R_drew));exact Kd.R_mono (Kd.R_far (p:=⟨gb742,2,none⟩) (Kd.R_far (p:=⟨gb742,1,none⟩) (Kd.R_far (p:=⟨gb742,0,none⟩) (Kd.R_types HO740.out BK742.out (by decide)) (fun _ hk=>hk.2) (.bool t734)) (fun _ hk=>hk.2) (.slice Ao51 t735.length co51)) (fun _ hk=>hk.2) (.slice Ao52 t738.length co52)) (fun _ hk=>⟨hk.1.2,hk.1.1⟩)⟩
              have n3_:Aside0 ((((w49.setCell ⟨gb742,0,none⟩ (.bool t734)).setCell ⟨gb742,1,none⟩ (.slice Ao51 t735.length co51)).setCell ⟨gb742,2,none⟩ (.slice Ao52 t738.length co52)).heap[gb742]?=some (.cells #[.bool t734,.slice Ao51 t735.length co51,.slice Ao52 t738.length co52] 38 (0,0))):=⟨by refine bD ?_;refine blk_put (cs:=#[.bool t734,.slice Ao51 t735.length co51,.slice none 0 0]) ?_ 2 _ rfl;refine bD ?_;refine blk_put (cs:=#[.bool t734,.slice none 0 0,.slice none 0 0]) ?_ 1 _ rfl;refine bD ?_;refine blk_put (cs:=#[.bool false,.slice none 0 0,.slice none 0 0]) ?_ 0 _ rfl;(with_reducible repeat(first|refine blk_drewN ?_ _|refine blk_drew ?_|refine blk_alloc ?_ _));exact BK742.out⟩
              have n4_:Aside0 (Below w.heap.size w (((w49.setCell ⟨gb742,0,none⟩ (.bool t734)).setCell ⟨gb742,1,none⟩ (.slice Ao51 t735.length co51)).setCell ⟨gb742,2,none⟩ (.slice Ao52 t738.length co52))):=⟨pB⟩;(try clear HO_5)
              (try clear HO737)
              (try clear HO740)
              (try clear BK742)
              (try clear HB)
              generalize (((w49.setCell ⟨gb742,0,none⟩ (.bool t734)).setCell ⟨gb742,1,none⟩ (.slice Ao51 t735.length co51)).setCell ⟨gb742,2,none⟩ (.slice Ao52 t738.length co52))=w53 at n0_ n1_ n2_ n3_ n4_ ⊢;have HO_5:=n0_;have HO737:=n1_;have HO740:=n2_;have BK742:=n3_;have HB:=n4_;clear n0_ n1_ n2_ n3_ n4_;have n0_:=aM (Kd.R_drew HO_5.out);have n1_:=aM (Kd.R_drew HO737.out);have n2_:=aM (Kd.R_drew HO740.out);have n3_:=aM (blk_drew BK742.out);have n4_:=aM (below_drew1 HB.out);clear HO_5;clear HO737;clear HO740;clear BK742;clear HB;have HO_5:=n0_;have HO737:=n1_;have HO740:=n2_;have BK742:=n3_;have HB:=n4_;clear n0_ n1_ n2_ n3_ n4_;have p743:0≤(0:Int):=(by omega)
              have q743:0 < (t719.length:Int):=oE aS
              obtain⟨ad743,e743,hx743_0⟩:=Kd.at_int (Kd.R_reads' HO_5.out).2.2 0 p743 q743;cases e743
              have qi743:(0 < t719.length)=True:=eq_true (by omega)
              (try rw[show((0:Int)).toNat=0 from rfl] at hx743_0)
              (try rw[Addr.add_zero'] at hx743_0)
              replace p743:=eq_true p743;replace q743:=eq_true q743;refine start_ (n:=14) (S:=fun w'=>w'.cell? ⟨gb742,0,none⟩=some (.bool t734)∧w'.cell? ⟨gb742,1,none⟩=some (.slice Ao51 t735.length co51)∧w'.cell? ⟨gb742,2,none⟩=some (.slice Ao52 t738.length co52)∧w'.cell? ad743=some (.int .i64 (rd t719 0))) (ds:=[]) #[false,false,false,false,false,false,false,false,false,false,false,false,false,false] (by kernel_rfl) rfl rfl ⟨(blk_cell BK742.out 0).trans rfl,(blk_cell BK742.out 1).trans rfl,(blk_cell BK742.out 2).trans rfl,hx743_0⟩ (fun hHeld=>?_);refine with_tabW papermilllaw60_StatsSums.tab15 papermilllaw60_StatsSums.bits15 (fun HT_ HW_=>?_)
              generalize w53.drew=w54 at HO_5 HO737 HO740 BK742 HB hx743_0 hHeld ⊢;refine pU (i:=0) (N:=some 104) HT_ #[true,false,false,false,false,false,false,false,false,false,false,false,false,false] ?_;refine pU (i:=1) (N:=some 105) HT_ #[true,true,false,false,false,false,false,false,false,false,false,false,false,false] ?_;refine pU (i:=2) (N:=some 106) HT_ #[true,true,true,false,false,false,false,false,false,false,false,false,false,false] ?_;refine pU (i:=4) (N:=some 108) HT_ #[true,true,true,false,true,false,false,false,false,false,false,false,false,false] ?_;refine pU (i:=5) (N:=some 109) HT_ #[true,true,true,false,true,true,false,false,false,false,false,false,false,false] ?_;refine pU (i:=7) (N:=some 111) HT_ #[true,true,true,false,true,true,false,true,false,false,false,false,false,false] ?_;refine take_ (i:=3) (N:=some 107) (v:=?_) (a':=?_) #[true,true,true,true,true,true,false,true,false,false,false,false,false,false] rfl rfl (take_ofW HT_.out HW_.out (by kernel_rfl)) (fun _ _ _ h=>h) (Or.inl ⟨by rfl,?_⟩) hHeld ?_ ?_
              rotate_left
              ·rintro w' ⟨s0,s1,s2,s3⟩;go_simp
               with_reducible rfl
              rotate_left
              ·simp only[Act.put,sA,sZ,sC,i64_w,i32_w];rfl
              refine take_ (i:=6) (N:=some 110) (v:=?_) (a':=?_) #[true,true,true,true,true,true,true,true,false,false,false,false,false,false] rfl rfl (take_ofW HT_.out HW_.out (by kernel_rfl)) (fun _ _ _ h=>h) (Or.inl ⟨by rfl,?_⟩) hHeld ?_ ?_
              rotate_left
              ·rintro w' ⟨s0,s1,s2,s3⟩;go_simp
               with_reducible rfl
              rotate_left
              ·simp only[Act.put,sA,sZ,sC,i64_w,i32_w];rfl
              refine one_ (i:=8) (N:=some 112) #[true,true,true,true,true,true,true,true,true,false,false,false,false,false] rfl rfl (one_of HT_.out (by kernel_rfl)) (by decide) (fun K hK=>?_)
              refine goes_ Try.func21 (by kernel_rfl) rfl #[.agg #[.bool t734,.slice Ao51 t735.length co51,.slice Ao52 t738.length co52],.int .i64 (rd t719 0),.int .i64 a1] (by rfl) rfl rfl mA ?_
              with_reducible refine(Czf.calls k2 t734 _ _ t735 _ _ t738 (rd t719 0) a1 true _ ?side1 ?side2 ?side3 ?side4 A43.out).mono ?_
              (case side1=>repeat(first|exact(Kd.R_reads' HO737.out).2.2|(with_reducible refine Kd.C_alloc ?_ _)|(with_reducible refine Kd.C_drewN ?_ _)|(with_reducible refine Kd.C_drew ?_)))
              (case side2=>exact(Kd.R_reads' HO737.out).2.1)
              (case side3=>repeat(first|exact(Kd.R_reads' HO740.out).2.2|(with_reducible refine Kd.C_alloc ?_ _)|(with_reducible refine Kd.C_drewN ?_ _)|(with_reducible refine Kd.C_drew ?_)))
              (case side4=>exact(Kd.R_reads' HO740.out).2.1)
              rintro e w55 ⟨rfl,hb⟩;have HS3_:=(hb.cell (World.block_lt_of_cell? _ _ (hHeld.2.2.2))).trans (hHeld.2.2.2);refine⟨_,rfl,?_⟩;have n0_:=aM (Kd.R_below (rX HO_5.out) hb);have n1_:=aM (Kd.R_below (rX HO737.out) hb);have n2_:=aM (Kd.R_below (rX HO740.out) hb);have n3_:=aM (kB BK742 hb);have n4_:=aM (below_step pB hb);clear HO_5;clear HO737;clear HO740;clear BK742;clear HB;have HO_5:=n0_;have HO737:=n1_;have HO740:=n2_;have BK742:=n3_;have HB:=n4_;clear n0_ n1_ n2_ n3_ n4_;(try clear hb)
              (try clear hb2)
              (try clear hk)
              (try clear hi)
              refine hK.out _ _ ⟨(blk_cell BK742.out 0).trans rfl,(blk_cell BK742.out 1).trans rfl,(blk_cell BK742.out 2).trans rfl,HS3_⟩ (fun hHeld=>?_)
              clear hK K;refine norm_ (a':=?_) ?_ ?_;rotate_left
              ·show Act.put _ (some 112) _=_
               simp only[Act.put,sA,sZ,sC,i64_w,i32_w];rfl
              refine pU (i:=9) (N:=some 113) HT_ #[true,true,true,true,true,true,true,true,true,true,false,false,false,false] ?_;refine pU (i:=10) (N:=some 114) HT_ #[true,true,true,true,true,true,true,true,true,true,true,false,false,false] ?_;refine one_ (i:=11) (N:=some 115) #[true,true,true,true,true,true,true,true,true,true,true,true,false,false] rfl rfl (one_of HT_.out (by kernel_rfl)) (by decide) (fun K hK=>?_)
              refine goes_ Try.func10 (by kernel_rfl) rfl #[] (by rfl) rfl rfl mA ?_
              with_reducible refine(Azz.calls k2  t745 _ A45.out).mono ?_
              rintro e w56 ⟨rfl,hb⟩;have HS3_:=(hb.cell (World.block_lt_of_cell? _ _ (hHeld.2.2.2))).trans (hHeld.2.2.2);refine⟨_,rfl,?_⟩;have n0_:=aM (Kd.R_below (rX HO_5.out) hb);have n1_:=aM (Kd.R_below (rX HO737.out) hb);have n2_:=aM (Kd.R_below (rX HO740.out) hb);have n3_:=aM (kB BK742 hb);have n4_:=aM (below_step pB hb);clear HO_5;clear HO737;clear HO740;clear BK742;clear HB;have HO_5:=n0_;have HO737:=n1_;have HO740:=n2_;have BK742:=n3_;have HB:=n4_;clear n0_ n1_ n2_ n3_ n4_;(try clear hb)
              (try clear hb2)
              (try clear hk)
              (try clear hi)
              refine hK.out _ _ ⟨(blk_cell BK742.out 0).trans rfl,(blk_cell BK742.out 1).trans rfl,(blk_cell BK742.out 2).trans rfl,HS3_⟩ (fun hHeld=>?_)
              clear hK K;refine norm_ (a':=?_) ?_ ?_;rotate_left
              ·show Act.put _ (some 115) _=_
               simp only[Act.put,sA,sZ,sC,i64_w,i32_w];rfl
              refine pU (i:=12) (N:=some 116) HT_ #[true,true,true,true,true,true,true,true,true,true,true,true,true,false] ?_;refine pU (i:=13) (N:=some 4) HT_ #[true,true,true,true,true,true,true,true,true,true,true,true,true,true] ?_;refine done_ (done_of HT_.out (by kernel_rfl)) ?_
              try go_wp2
              go_ret
              exact⟨eW,pB⟩
             ·replace c44:=Bool.eq_false_iff.mpr c44;subst c44;rw[if_neg (show ¬ (false=true) by decide)] at H
              exact absurd H (by simp)
            ·rw[if_neg c42] at H;exact absurd H (by simp)
           ·rw[if_neg c41] at H;have c41b0:(t741 == 0)=false:=beq_eq_false_iff_ne.mpr c41;have c41b1:(t741 != 0)=true:=bne_iff_ne.mpr c41;exact absurd H (by simp)
          ·rw[if_neg c39] at H;exact absurd H (by simp)
         ·rw[if_neg c38] at H;exact absurd H (by simp)
  ·rw[if_neg c7] at H;have c7b0:(t720 == 0)=false:=beq_eq_false_iff_ne.mpr c7;have c7b1:(t720 != 0)=true:=bne_iff_ne.mpr c7;by_cases c57:(t719.length:Int)=0
   ·rw[if_pos c57] at H;have c57b0:((t719.length:Int) == 0)=true:=beq_iff_eq.mpr c57;have c57b1:((t719.length:Int) != 0)=false:=bne_eq_false_iff_eq.mpr c57;clear c57;replace H:=bS H;obtain⟨t723,A580,H⟩:=H;replace H:(some t723)=some r:=H;have A58:=aM A580;clear A580;obtain rfl:=Option.some.inj H;go_enter Try.func7,Try.ntmps7
    go_wp2_with (first|((with_reducible refine gate_callee (f:=17) rfl ?_);refine goesL_ (some 19) rfl rfl Try.func17 (by kernel_rfl) rfl #[.slice A0 l0.length c0,.int .i64 a1] rfl mA ?_;(with_reducible refine(Bzv.calls k _ _ l0 a1 t719 t720 _ ?side1 ?side2 A6.out).mono ?_);(case side1=>exact cX HR0.out);(case side2=>exact HC0.out);rintro e w59 ⟨v721,rfl,ho0,hb⟩;refine⟨_,rfl,?_⟩;have HO722:=aM (Kd.R_lower ho0 (below_size pB));replace HB:=aM (below_step pB hb);(try clear hb);(try clear hb2);(try clear hk);(try clear hi);(try clear ho0);obtain⟨Ao60,co60,eo60⟩:=Kd.R_slice HO722.out;subst eo60)|(go_at_call 10;(with_reducible refine(Azz.calls k  t723 _ A58.out).mono ?_);rintro e w61 ⟨rfl,hb⟩;replace HO722:=aM (Kd.R_below (rX HO722.out) hb);replace HB:=aM (below_step pB hb);(try clear hb);(try clear hb2);(try clear hk);(try clear hi)))
    go_ret
    exact⟨eW,pB⟩
   ·rw[if_neg c57] at H;exact absurd H (by simp)

/-- THE ONE PURE STATEMENT of papermilllaw60_StatsSums: yours. -/
def papermilllaw60_StatsSums.Pure:Prop:=∀ (l0:List Int) (a1:Int),l0.length≤maxLen→l0.length * 8≤140737488351232→(∀ x ∈ l0,(Lit.int .i64 x).wf=true)→(Lit.int .i64 a1).wf=true→∃ k,papermilllaw60_StatsSums.f k l0 a1=some true
theorem papermilllaw60_StatsSums.walk (P:papermilllaw60_StatsSums.Pure) (a0:Option Addr) (len0 cap0:Nat) (z0:List Int) (a1:Int) (w:World) (w0:(a0=none∧len0=0∧cap0=0∧z0=[])∨∃ x,a0=some x∧len0≤cap0∧cap0≤maxLen∧z0.length=cap0∧(∀ i,i < z0.length→w.cell? (x.add i)=some (.int .i64 (z0.getD i 0)))∧∀ n ∈ z0,(Lit.int .i64 n).wf=true) (y0:len0 * 8≤140737488351232) (w1:(Lit.int .i64 a1).wf=true) :
  Calls Try.prog 7 #[.slice a0 len0 cap0,.int .i64 a1] w fun e w'=>e=.returned (.bool true)∧Below w.heap.size w w':=by
 obtain⟨l0,rfl,hr0,hm0,hw0,hc0⟩:=ReadsInt.ofRowC w0;obtain⟨k,h⟩:=P l0 a1 hm0 y0 hw0 w1;refine(papermilllaw60_StatsSums.calls k _ _ l0 a1 true w (Kd.C_of_reads (d:=(0:Int)) (h1:=fun _=>rfl) hr0) hc0 h).mono ?_
 rintro e w' ⟨rfl,hd⟩;exact⟨rfl,hd⟩

end Go.Proofs.Ytokkiljkgejnhaa.Print
