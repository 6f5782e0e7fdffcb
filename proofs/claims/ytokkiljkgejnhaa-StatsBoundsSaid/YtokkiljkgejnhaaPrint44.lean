import Derived.Test.YtokkiljkgejnhaaPrint0
import Derived.Test.YtokkiljkgejnhaaPrint10
import Derived.Test.YtokkiljkgejnhaaPrint37
namespace Go.Proofs.Ytokkiljkgejnhaa.Print
open Go.RowKit Go.Proofs.YtokkiljkgejnhaaW.PrintWords Go.Proofs.YtokkiljkgejnhaaW.PrintLast Go.Proofs.YtokkiljkgejnhaaW.PrintMore
attribute [local go_sem] max2_int min2_int max_two min_two max_three min_three max_four min_four
set_option linter.unusedVariables false
set_option maxRecDepth 100000
set_option maxHeartbeats 8000000
set_option linter.unusedSimpArgs false

mutual
def papermilllaw60_StatsBounds.j0:Nat→List Int→Int→Int→Int→Int→Int→Bool→Option (Bool)
 | 0,_,_,_,_,_,_,_=>none
 | k+1,x0,x1,x2,x7,x9,x11,x51=>if x51=true then((Azz.f k).bind fun t786=>(some t786)) else(if 0 < (x0.length:Int) then(papermilllaw60_StatsBounds.l0 k x0 x1 x2 x7 x9 x11 0 0 false (rd x0 0) ([]:List Int) 0) else(none))
def papermilllaw60_StatsBounds.l0:Nat→List Int→Int→Int→Int→Int→Int→Int→Int→Bool→Int→List Int→Int→Option (Bool)
 | 0,_,_,_,_,_,_,_,_,_,_,_,_=>none
 | k+1,x0,x1,x2,x7,x9,x11,x13,x14,x15,x16,x17,x18=>if x18 < (x0.length:Int) then(if 0≤x18 then(if(rd x0 x18)≤x7 then(if(rd x0 x18) < x7 then(if x15=true then(if 0≤(wrap64 ((wrap64 ((x0.length:Int) - 1)) - x18)) then(if(wrap64 ((wrap64 ((x0.length:Int) - 1)) - x18)) < (x0.length:Int) then(if x17.length < 17592186044416 then(papermilllaw60_StatsBounds.l0 k x0 x1 x2 x7 x9 x11 (wrap64 (x13+1)) (wrap64 (x14+1)) true (mx x16 (rd x0 x18)) (x17 ++ [rd x0 (wrap64 ((wrap64 ((x0.length:Int) - 1)) - x18))]) (wrap64 (x18+1))) else(none)) else(none)) else(none)) else(if 0≤(wrap64 ((wrap64 ((x0.length:Int) - 1)) - x18)) then(if(wrap64 ((wrap64 ((x0.length:Int) - 1)) - x18)) < (x0.length:Int) then(if x17.length < 17592186044416 then(papermilllaw60_StatsBounds.l0 k x0 x1 x2 x7 x9 x11 (wrap64 (x13+1)) (wrap64 (x14+1)) ((rd x0 x18) == x7) (mx x16 (rd x0 x18)) (x17 ++ [rd x0 (wrap64 ((wrap64 ((x0.length:Int) - 1)) - x18))]) (wrap64 (x18+1))) else(none)) else(none)) else(none))) else(if x15=true then(if 0≤(wrap64 ((wrap64 ((x0.length:Int) - 1)) - x18)) then(if(wrap64 ((wrap64 ((x0.length:Int) - 1)) - x18)) < (x0.length:Int) then(if x17.length < 17592186044416 then(papermilllaw60_StatsBounds.l0 k x0 x1 x2 x7 x9 x11 (wrap64 (x13+1)) x14 true (mx x16 (rd x0 x18)) (x17 ++ [rd x0 (wrap64 ((wrap64 ((x0.length:Int) - 1)) - x18))]) (wrap64 (x18+1))) else(none)) else(none)) else(none)) else(if 0≤(wrap64 ((wrap64 ((x0.length:Int) - 1)) - x18)) then(if(wrap64 ((wrap64 ((x0.length:Int) - 1)) - x18)) < (x0.length:Int) then(if x17.length < 17592186044416 then(papermilllaw60_StatsBounds.l0 k x0 x1 x2 x7 x9 x11 (wrap64 (x13+1)) x14 ((rd x0 x18) == x7) (mx x16 (rd x0 x18)) (x17 ++ [rd x0 (wrap64 ((wrap64 ((x0.length:Int) - 1)) - x18))]) (wrap64 (x18+1))) else(none)) else(none)) else(none)))) else(if(rd x0 x18) < x7 then(if x15=true then(if 0≤(wrap64 ((wrap64 ((x0.length:Int) - 1)) - x18)) then(if(wrap64 ((wrap64 ((x0.length:Int) - 1)) - x18)) < (x0.length:Int) then(if x17.length < 17592186044416 then(papermilllaw60_StatsBounds.l0 k x0 x1 x2 x7 x9 x11 x13 (wrap64 (x14+1)) true (mx x16 (rd x0 x18)) (x17 ++ [rd x0 (wrap64 ((wrap64 ((x0.length:Int) - 1)) - x18))]) (wrap64 (x18+1))) else(none)) else(none)) else(none)) else(if 0≤(wrap64 ((wrap64 ((x0.length:Int) - 1)) - x18)) then(if(wrap64 ((wrap64 ((x0.length:Int) - 1)) - x18)) < (x0.length:Int) then(if x17.length < 17592186044416 then(papermilllaw60_StatsBounds.l0 k x0 x1 x2 x7 x9 x11 x13 (wrap64 (x14+1)) ((rd x0 x18) == x7) (mx x16 (rd x0 x18)) (x17 ++ [rd x0 (wrap64 ((wrap64 ((x0.length:Int) - 1)) - x18))]) (wrap64 (x18+1))) else(none)) else(none)) else(none))) else(if x15=true then(if 0≤(wrap64 ((wrap64 ((x0.length:Int) - 1)) - x18)) then(if(wrap64 ((wrap64 ((x0.length:Int) - 1)) - x18)) < (x0.length:Int) then(if x17.length < 17592186044416 then(papermilllaw60_StatsBounds.l0 k x0 x1 x2 x7 x9 x11 x13 x14 true (mx x16 (rd x0 x18)) (x17 ++ [rd x0 (wrap64 ((wrap64 ((x0.length:Int) - 1)) - x18))]) (wrap64 (x18+1))) else(none)) else(none)) else(none)) else(if 0≤(wrap64 ((wrap64 ((x0.length:Int) - 1)) - x18)) then(if(wrap64 ((wrap64 ((x0.length:Int) - 1)) - x18)) < (x0.length:Int) then(if x17.length < 17592186044416 then(papermilllaw60_StatsBounds.l0 k x0 x1 x2 x7 x9 x11 x13 x14 ((rd x0 x18) == x7) (mx x16 (rd x0 x18)) (x17 ++ [rd x0 (wrap64 ((wrap64 ((x0.length:Int) - 1)) - x18))]) (wrap64 (x18+1))) else(none)) else(none)) else(none))))) else(none)) else((Azb.f k x17 x1).bind fun bt835=>(if x15=true then(if(wrap64 (1000 * x13)) < (wrap64 (x1 * (x0.length:Int))) then(none) else(if(wrap64 (1000 * x14))≥(wrap64 (x1 * (x0.length:Int))) then(none) else(if x11=x16 then(if bt835.2=0 then(if bt835.1=x7 then(if x1 > x2 then(if x1 < x2 then((Azz.f k).bind fun t837=>(some t837)) else(if x7≥x9 then((Azz.f k).bind fun t838=>(some t838)) else(none))) else(if x7≤x9 then(if x1 < x2 then((Azz.f k).bind fun t839=>(some t839)) else(if x7≥x9 then((Azz.f k).bind fun t840=>(some t840)) else(none))) else(none))) else(none)) else(none)) else(none)))) else(none)))
end
def papermilllaw60_StatsBounds.f (k:Nat) (l0:List Int) (a1:Int) (a2:Int):Option (Bool):=if(l0.length:Int) > 520 then((Azz.f k).bind fun t779=>(some t779)) else((Azb.f k l0 a1).bind fun bt780=>((Azb.f k l0 a2).bind fun bt782=>((Azb.f k l0 1000).bind fun bt784=>(if bt780.2=0 then(if bt782.2=0 then(papermilllaw60_StatsBounds.j0 k l0 a1 a2 bt780.1 bt782.1 bt784.1 (bt784.2 != 0)) else(papermilllaw60_StatsBounds.j0 k l0 a1 a2 bt780.1 bt782.1 bt784.1 true)) else(papermilllaw60_StatsBounds.j0 k l0 a1 a2 bt780.1 bt782.1 bt784.1 true)))))
theorem papermilllaw60_StatsBounds.mono_l:∀ k,(∀ y0 y1 y2 y3 y4 y5 y6,LeO (papermilllaw60_StatsBounds.j0 k y0 y1 y2 y3 y4 y5 y6) (papermilllaw60_StatsBounds.j0 (k+1) y0 y1 y2 y3 y4 y5 y6))∧(∀ y0 y1 y2 y3 y4 y5 y6 y7 y8 y9 y10 y11,LeO (papermilllaw60_StatsBounds.l0 k y0 y1 y2 y3 y4 y5 y6 y7 y8 y9 y10 y11) (papermilllaw60_StatsBounds.l0 (k+1) y0 y1 y2 y3 y4 y5 y6 y7 y8 y9 y10 y11))
 | 0=>⟨fun _ _ _ _ _ _ _ r h=>by simp [papermilllaw60_StatsBounds.j0] at h,fun _ _ _ _ _ _ _ _ _ _ _ _ r h=>by simp [papermilllaw60_StatsBounds.l0] at h⟩
 | k+1=>by
  obtain⟨ih0,ih1⟩:=papermilllaw60_StatsBounds.mono_l k;refine⟨?_,?_⟩
  ·intro y0 y1 y2 y3 y4 y5 y6;unfold papermilllaw60_StatsBounds.j0;with_reducible repeat' first|exact ih0 _ _ _ _ _ _ _|exact ih1 _ _ _ _ _ _ _ _ _ _ _ _|exact Azz.mono _|exact Azb.mono _ _ _|exact LeO.refl _|exact LeO.none _|refine LeO.ite ?_ ?_|refine LeO.bind ?_ (fun _=>?_)
  ·intro y0 y1 y2 y3 y4 y5 y6 y7 y8 y9 y10 y11;unfold papermilllaw60_StatsBounds.l0;with_reducible repeat' first|exact ih0 _ _ _ _ _ _ _|exact ih1 _ _ _ _ _ _ _ _ _ _ _ _|exact Azz.mono _|exact Azb.mono _ _ _|exact LeO.refl _|exact LeO.none _|refine LeO.ite ?_ ?_|refine LeO.bind ?_ (fun _=>?_)
theorem papermilllaw60_StatsBounds.mono:∀ a0 a1 a2 k,LeO (papermilllaw60_StatsBounds.f k a0 a1 a2) (papermilllaw60_StatsBounds.f (k+1) a0 a1 a2):=by
 intro a0 a1 a2 k;obtain⟨ih0,ih1⟩:=papermilllaw60_StatsBounds.mono_l k;unfold papermilllaw60_StatsBounds.f;with_reducible repeat' first|exact ih0 _ _ _ _ _ _ _|exact ih1 _ _ _ _ _ _ _ _ _ _ _ _|exact Azz.mono _|exact Azb.mono _ _ _|exact LeO.refl _|exact LeO.none _|refine LeO.ite ?_ ?_|refine LeO.bind ?_ (fun _=>?_)
theorem papermilllaw60_StatsBounds.calls (k:Nat) (A0:Option Addr) (c0:Nat) (l0:List Int) (a1:Int) (a2:Int) (r:Bool) (w:World) (hr0:Kd.C (Kd.int .i64) w A0 l0.length l0) (hc0:l0.length≤c0) (h:papermilllaw60_StatsBounds.f k l0 a1 a2=some r) :
  Calls Try.prog 5 #[.slice A0 l0.length c0,.int .i64 a1,.int .i64 a2] w fun e w'=>e=.returned (.bool r)∧Below w.heap.size w w':=by
 have HR0:=aM hr0;have HC0:=aM hc0;clear hr0 hc0;have HB:=aM (Below.refl w.heap.size w);have H:(if(l0.length:Int) > 520 then((Azz.f k).bind fun t779=>(some t779)) else((Azb.f k l0 a1).bind fun bt780=>((Azb.f k l0 a2).bind fun bt782=>((Azb.f k l0 1000).bind fun bt784=>(if bt780.2=0 then(if bt782.2=0 then(papermilllaw60_StatsBounds.j0 k l0 a1 a2 bt780.1 bt782.1 bt784.1 (bt784.2 != 0)) else(papermilllaw60_StatsBounds.j0 k l0 a1 a2 bt780.1 bt782.1 bt784.1 true)) else(papermilllaw60_StatsBounds.j0 k l0 a1 a2 bt780.1 bt782.1 bt784.1 true))))))=some r:=h
 clear h;by_cases c4:(l0.length:Int) > 520
 ·rw[if_pos c4] at H;have c4b0:decide (520 < (l0.length:Int))=true:=dE c4;have c4b1:decide (520 < l0.length)=true:=dE (by omega)
  clear c4;replace H:=bS H;obtain⟨t779,A50,H⟩:=H;replace H:(some t779)=some r:=H;have A5:=aM A50;clear A50;obtain rfl:=Option.some.inj H;go_enter Try.func5,Try.ntmps5
  go_wp2_with (first|(go_at_call 10;(with_reducible refine(Azz.calls k  t779 _ A5.out).mono ?_);rintro e w6 ⟨rfl,hb⟩;replace HB:=aM (below_step pB hb);(try clear hb);(try clear hb2);(try clear hk);(try clear hi)))
  repeat(go_quiet (first|(go_at_call 10;(with_reducible refine(Azz.calls k  t779 _ A5.out).mono ?_);rintro e w6 ⟨rfl,hb⟩;replace HB:=aM (below_step pB hb);(try clear hb);(try clear hb2);(try clear hk);(try clear hi)));try go_wp2_with (first|(go_at_call 10;(with_reducible refine(Azz.calls k  t779 _ A5.out).mono ?_);rintro e w6 ⟨rfl,hb⟩;replace HB:=aM (below_step pB hb);(try clear hb);(try clear hb2);(try clear hk);(try clear hi))))
  go_ret
  exact⟨eW,pB⟩
 ·rw[if_neg c4] at H;have c4b0:decide (520 < (l0.length:Int))=false:=decide_eq_false c4;have c4b1:decide (520 < l0.length)=false:=decide_eq_false (by omega)
  clear c4;replace H:=bS H;obtain⟨⟨t780,t781⟩,A70,H⟩:=H;(try dsimp only at H);have A7:=aM A70;clear A70;replace H:=bS H;obtain⟨⟨t782,t783⟩,A80,H⟩:=H;(try dsimp only at H);have A8:=aM A80;clear A80;replace H:=bS H;obtain⟨⟨t784,t785⟩,A90,H⟩:=H;(try dsimp only at H);have A9:=aM A90;clear A90;have HC10:=aM H;clear H;go_enter Try.func5,Try.ntmps5
  go_upto_region 6 with (first|(go_at_call 11;(with_reducible refine(Azb.calls k _ _ l0 a1 t780 t781 _ ?side1 ?side2 A7.out).mono ?_);(case side1=>exact cX HR0.out);(case side2=>exact HC0.out);rintro e w11 ⟨rfl,hb⟩;replace HB:=aM (below_step pB hb);(try clear hb);(try clear hb2);(try clear hk);(try clear hi))|(go_at_call 11;(with_reducible refine(Azb.calls k _ _ l0 a2 t782 t783 _ ?side1 ?side2 A8.out).mono ?_);(case side1=>exact cX (Kd.C_below HR0.out HB.out));(case side2=>exact HC0.out);rintro e w12 ⟨rfl,hb⟩;replace HB:=aM (below_step pB hb);(try clear hb);(try clear hb2);(try clear hk);(try clear hi))|(go_at_call 11;(with_reducible refine(Azb.calls k _ _ l0 1000 t784 t785 _ ?side1 ?side2 A9.out).mono ?_);(case side1=>exact cX (Kd.C_below HR0.out HB.out));(case side2=>exact HC0.out);rintro e w13 ⟨rfl,hb⟩;replace HB:=aM (below_step pB hb);(try clear hb);(try clear hb2);(try clear hk);(try clear hi)))
  repeat(go_quiet (first|(go_at_call 11;(with_reducible refine(Azb.calls k _ _ l0 a1 t780 t781 _ ?side1 ?side2 A7.out).mono ?_);(case side1=>exact cX HR0.out);(case side2=>exact HC0.out);rintro e w11 ⟨rfl,hb⟩;replace HB:=aM (below_step pB hb);(try clear hb);(try clear hb2);(try clear hk);(try clear hi))|(go_at_call 11;(with_reducible refine(Azb.calls k _ _ l0 a2 t782 t783 _ ?side1 ?side2 A8.out).mono ?_);(case side1=>exact cX (Kd.C_below HR0.out HB.out));(case side2=>exact HC0.out);rintro e w12 ⟨rfl,hb⟩;replace HB:=aM (below_step pB hb);(try clear hb);(try clear hb2);(try clear hk);(try clear hi))|(go_at_call 11;(with_reducible refine(Azb.calls k _ _ l0 1000 t784 t785 _ ?side1 ?side2 A9.out).mono ?_);(case side1=>exact cX (Kd.C_below HR0.out HB.out));(case side2=>exact HC0.out);rintro e w13 ⟨rfl,hb⟩;replace HB:=aM (below_step pB hb);(try clear hb);(try clear hb2);(try clear hk);(try clear hi)));go_upto_region 6 with (first|(go_at_call 11;(with_reducible refine(Azb.calls k _ _ l0 a1 t780 t781 _ ?side1 ?side2 A7.out).mono ?_);(case side1=>exact cX HR0.out);(case side2=>exact HC0.out);rintro e w11 ⟨rfl,hb⟩;replace HB:=aM (below_step pB hb);(try clear hb);(try clear hb2);(try clear hk);(try clear hi))|(go_at_call 11;(with_reducible refine(Azb.calls k _ _ l0 a2 t782 t783 _ ?side1 ?side2 A8.out).mono ?_);(case side1=>exact cX (Kd.C_below HR0.out HB.out));(case side2=>exact HC0.out);rintro e w12 ⟨rfl,hb⟩;replace HB:=aM (below_step pB hb);(try clear hb);(try clear hb2);(try clear hk);(try clear hi))|(go_at_call 11;(with_reducible refine(Azb.calls k _ _ l0 1000 t784 t785 _ ?side1 ?side2 A9.out).mono ?_);(case side1=>exact cX (Kd.C_below HR0.out HB.out));(case side2=>exact HC0.out);rintro e w13 ⟨rfl,hb⟩;replace HB:=aM (below_step pB hb);(try clear hb);(try clear hb2);(try clear hk);(try clear hi))))
  (try simp only[Act.put,sA,sZ,sC])
  go_cut [51] (fun v51 wc=>∃ (kq:Nat) (x51_9:Bool),v51=.bool x51_9∧Aside0 (papermilllaw60_StatsBounds.j0 kq l0 a1 a2 t780 t782 t784 x51_9=some r)∧Aside0 (kq≤k)∧Aside0 (Below w.heap.size w wc))
  case first =>
   have H:=HC10.out;clear HC10;by_cases c14:t781=0
   ·rw[if_pos c14] at H;have c14b0:(t781 == 0)=true:=beq_iff_eq.mpr c14;have c14b1:(t781 != 0)=false:=bne_eq_false_iff_eq.mpr c14;clear c14;(first|rw[c14b0]|(simp only[i64_w,i32_w];rw[c14b0])|skip)
    by_cases c15:t783=0
    ·rw[if_pos c15] at H;have c15b0:(t783 == 0)=true:=beq_iff_eq.mpr c15;have c15b1:(t783 != 0)=false:=bne_eq_false_iff_eq.mpr c15;clear c15;have H':=aM H;clear H;go_wp2
     repeat(go_quiet (fail);try go_wp2)
     go_meet
     case rel=>exact⟨_,((t785 != 0)),sD,H',⟨by first|omega|exact Nat.le_refl _⟩,⟨pB⟩⟩
    ·rw[if_neg c15] at H;have c15b0:(t783 == 0)=false:=beq_eq_false_iff_ne.mpr c15;have c15b1:(t783 != 0)=true:=bne_iff_ne.mpr c15;have H':=aM H;clear H;go_wp2
     repeat(go_quiet (fail);try go_wp2)
     go_meet
     case rel=>exact⟨_,(true),sD,H',⟨by first|omega|exact Nat.le_refl _⟩,⟨pB⟩⟩
   ·rw[if_neg c14] at H;have c14b0:(t781 == 0)=false:=beq_eq_false_iff_ne.mpr c14;have c14b1:(t781 != 0)=true:=bne_iff_ne.mpr c14;(first|rw[c14b0]|(simp only[i64_w,i32_w];rw[c14b0])|skip)
    have H':=aM H;clear H;go_wp2
    repeat(go_quiet (fail);try go_wp2)
    go_meet
    case rel=>exact⟨_,(true),sD,H',⟨by first|omega|exact Nat.le_refl _⟩,⟨pB⟩⟩
  case rest =>
   clear HC10;try clear c1
   try clear p2
   try clear c4
   try clear c4b0
   try clear c4b1
   try clear c5
   try clear c14
   try clear c14b0
   try clear c14b1
   try clear c15
   try clear c15b0
   try clear c15b1
   obtain⟨kq,x51_9,rfl,HA,HJ9,HB⟩:=hcut;cases kq with
   | zero=>exact absurd HA.out (by simp [papermilllaw60_StatsBounds.j0])
   | succ kj9 =>
    have H:=HA.out;clear HA;simp only[papermilllaw60_StatsBounds.j0] at H;by_cases c16:x51_9=true
    ·subst c16;rw[if_pos rfl] at H;replace H:=bS H;obtain⟨t786,A170,H⟩:=H;replace H:(some t786)=some r:=H;have A17:=aM A170;clear A170;obtain rfl:=Option.some.inj H;go_wp2_with (first|(go_at_call 10;(with_reducible refine(Azz.calls kj9  t786 _ A17.out).mono ?_);rintro e w18 ⟨rfl,hb⟩;replace HB:=aM (below_step pB hb);(try clear hb);(try clear hb2);(try clear hk);(try clear hi)))
     repeat(go_quiet (first|(go_at_call 10;(with_reducible refine(Azz.calls kj9  t786 _ A17.out).mono ?_);rintro e w18 ⟨rfl,hb⟩;replace HB:=aM (below_step pB hb);(try clear hb);(try clear hb2);(try clear hk);(try clear hi)));try go_wp2_with (first|(go_at_call 10;(with_reducible refine(Azz.calls kj9  t786 _ A17.out).mono ?_);rintro e w18 ⟨rfl,hb⟩;replace HB:=aM (below_step pB hb);(try clear hb);(try clear hb2);(try clear hk);(try clear hi))))
     go_ret
     exact⟨eW,pB⟩
    ·replace c16:=Bool.eq_false_iff.mpr c16;subst c16;rw[if_neg (show ¬ (false=true) by decide)] at H
     by_cases c19:0 < (l0.length:Int)
     ·rw[if_pos c19] at H;have c19b0:decide (0 < (l0.length:Int))=true:=dE c19;have c19b1:decide (0 < l0.length)=true:=dE (by omega)
      clear c19;have H':=aM H;clear H;have p787:0≤(0:Int):=(by omega)
      have q787:0 < (l0.length:Int):=oE aS
      obtain⟨ad787,e787,hx787_0⟩:=Kd.at_int HR0.out 0 p787 q787;cases e787
      have qi787:(0 < l0.length)=True:=eq_true (by omega)
      (try rw[show((0:Int)).toNat=0 from rfl] at hx787_0)
      (try rw[Addr.add_zero'] at hx787_0)
      replace hx787_0:=(HB.out.cell (World.block_lt_of_cell? w _ hx787_0)).trans hx787_0;replace p787:=eq_true p787;replace q787:=eq_true q787;go_wp2
      repeat(go_quiet (fail);try go_wp2)
      go_loopg [13,14,15,16,17,18] kj9 (fun kq v13 v14 v15 v16 v17 v18 w'=>∃ (x13_2:Int) (x14_2:Int) (x15_2:Bool) (x16_2:Int) (x17_2:List Int) (x18_2:Int),v13=.int .i64 x13_2∧v14=.int .i64 x14_2∧v15=.bool x15_2∧v16=.int .i64 x16_2∧v18=.int .i64 x18_2∧Aside0 (papermilllaw60_StatsBounds.l0 kq l0 a1 a2 t780 t782 t784 x13_2 x14_2 x15_2 x16_2 x17_2 x18_2=some r)∧Aside0 (kq≤kj9)∧Aside0 (Kd.R (Kd.int .i64) 3 w' w.heap.size (fun _=>True) v17 x17_2)∧Aside0 (Below w.heap.size w w'))
      case atStart=>exact⟨(0),(0),(false),(rd l0 0),(([]:List Int)),(0),sD,sD,sD,sD,sD,H',⟨Nat.le_refl _⟩,⟨by first|exact Kd.R_nil _ _ _ _ _|exact Kd.N_nil _ _ _ _ _|exact Kd.V_nil _ _ _ _ _|exact Kd.Q_nil _ _ _ _ _|exact Kd.S_nil _ _ _ _ _⟩,⟨pB⟩⟩
      case round =>
       clear H';try clear c1
       try clear p2
       try clear c4
       try clear c4b0
       try clear c4b1
       try clear c5
       try clear p7
       try clear q7
       try clear hx7
       try clear qi7
       try clear c14
       try clear c14b0
       try clear c14b1
       try clear c15
       try clear c15b0
       try clear c15b1
       try clear c16
       try clear c19
       try clear c19b0
       try clear c19b1
       try clear hx787_0
       try clear p2
       try clear p787
       try clear q787
       obtain⟨x13_2,x14_2,x15_2,x16_2,x17_2,x18_2,rfl,rfl,rfl,rfl,rfl,HA,HK2,HO_17,HB⟩:=hrel;cases gk with
       | zero=>exact absurd HA.out (by simp [papermilllaw60_StatsBounds.l0])
       | succ k2 =>
        have H:=HA.out;clear HA;simp only[papermilllaw60_StatsBounds.l0] at H;by_cases c20:x18_2 < (l0.length:Int)
        ·rw[if_pos c20] at H;have c20b0:decide (x18_2 < (l0.length:Int))=true:=dE c20;clear c20;by_cases c21:0≤x18_2
         ·rw[if_pos c21] at H;have c21b0:decide (0≤x18_2)=true:=dE c21;clear c21;by_cases c22:(rd l0 x18_2)≤t780
          ·rw[if_pos c22] at H;have c22b0:decide ((rd l0 x18_2)≤t780)=true:=dE c22;clear c22;by_cases c23:(rd l0 x18_2) < t780
           ·rw[if_pos c23] at H;have c23b0:decide ((rd l0 x18_2) < t780)=true:=dE c23;clear c23;by_cases c24:x15_2=true
            ·subst c24;rw[if_pos rfl] at H;obtain⟨ji25,hji25⟩:∃ j_:Int,(mx x16_2 (rd l0 x18_2))=j_:=⟨_,rfl⟩;replace H:(if 0≤(wrap64 ((wrap64 ((l0.length:Int) - 1)) - x18_2)) then(if(wrap64 ((wrap64 ((l0.length:Int) - 1)) - x18_2)) < (l0.length:Int) then(if x17_2.length < 17592186044416 then(papermilllaw60_StatsBounds.l0 k2 l0 a1 a2 t780 t782 t784 (wrap64 (x13_2+1)) (wrap64 (x14_2+1)) true ji25 (x17_2 ++ [rd l0 (wrap64 ((wrap64 ((l0.length:Int) - 1)) - x18_2))]) (wrap64 (x18_2+1))) else(none)) else(none)) else(none))=some r:=by first|(rw[hji25] at H;exact H)|(simp only[hji25] at H ⊢;exact H)
             have hji25_:(if x16_2 < (rd l0 x18_2) then(rd l0 x18_2) else x16_2)=ji25:=hji25
             obtain⟨ji26,hji26⟩:∃ j_:Int,(wrap64 ((wrap64 ((l0.length:Int) - 1)) - x18_2))=j_:=⟨_,rfl⟩;replace H:(if 0≤(ji26) then(if(ji26) < (l0.length:Int) then(if x17_2.length < 17592186044416 then(papermilllaw60_StatsBounds.l0 k2 l0 a1 a2 t780 t782 t784 (wrap64 (x13_2+1)) (wrap64 (x14_2+1)) true ji25 (x17_2 ++ [rd l0 (ji26)]) (wrap64 (x18_2+1))) else(none)) else(none)) else(none))=some r:=by first|(rw[hji26] at H;exact H)|(simp only[hji26] at H ⊢;exact H)
             have hji26w:(IntKind.i64.wrap ((wrap64 ((l0.length:Int) - 1)) - x18_2))=ji26:=(i64_w _).trans hji26;by_cases c27:0≤(ji26)
             ·rw[if_pos c27] at H;have c27b0:decide (0≤(ji26))=true:=dE c27;clear c27;by_cases c28:(ji26) < (l0.length:Int)
              ·rw[if_pos c28] at H;have c28b0:decide ((ji26) < (l0.length:Int))=true:=dE c28;clear c28;by_cases c29:x17_2.length < 17592186044416
               ·rw[if_pos c29] at H;have LMc29:=aM c29;clear c29;obtain⟨y792,hy792⟩:∃ y_:List Int,y_=(x17_2 ++ [rd l0 (ji26)]):=⟨_,rfl⟩;replace H:(papermilllaw60_StatsBounds.l0 k2 l0 a1 a2 t780 t782 t784 (wrap64 (x13_2+1)) (wrap64 (x14_2+1)) true ji25 y792 (wrap64 (x18_2+1)))=some r:=by first|(rw[hy792];with_reducible exact H)|(have H2_:=(Option.bind_some _ _).symm.trans H;rw[hy792];with_reducible exact H2_)|(have H2_:=(Option.bind_some _ _).symm.trans H;with_reducible exact H2_)|with_reducible exact H|(rw[hy792];exact H)|exact H
                have Ny792:=aM hy792;clear hy792;have H':=aM H;clear H;have p788:0≤(x18_2:Int):=oE aS
                have q788:x18_2 < (l0.length:Int):=oE aS
                obtain⟨ad788,e788,hx788_0⟩:=Kd.at_int HR0.out x18_2 p788 q788;obtain rfl:ad787=ad788:=(by injection e788)
                replace hx788_0:=(HB.out.cell (World.block_lt_of_cell? w _ hx788_0)).trans hx788_0;replace p788:=eq_true p788;replace q788:=eq_true q788;have p789:0≤(x18_2:Int):=oE aS
                have q789:x18_2 < (l0.length:Int):=oE aS
                obtain⟨ad789,e789,hx789_0⟩:=Kd.at_int HR0.out x18_2 p789 q789;obtain rfl:ad787=ad789:=(by injection e789)
                replace hx789_0:=(HB.out.cell (World.block_lt_of_cell? w _ hx789_0)).trans hx789_0;replace p789:=eq_true p789;replace q789:=eq_true q789;have p790:0≤(x18_2:Int):=oE aS
                have q790:x18_2 < (l0.length:Int):=oE aS
                obtain⟨ad790,e790,hx790_0⟩:=Kd.at_int HR0.out x18_2 p790 q790;obtain rfl:ad787=ad790:=(by injection e790)
                replace hx790_0:=(HB.out.cell (World.block_lt_of_cell? w _ hx790_0)).trans hx790_0;replace p790:=eq_true p790;replace q790:=eq_true q790;have p791:0≤((ji26):Int):=oE aS
                have q791:(ji26) < (l0.length:Int):=oE aS
                obtain⟨ad791,e791,hx791_0⟩:=Kd.at_int HR0.out (ji26) p791 q791;obtain rfl:ad787=ad791:=(by injection e791)
                replace hx791_0:=(HB.out.cell (World.block_lt_of_cell? w _ hx791_0)).trans hx791_0;replace p791:=eq_true p791;replace q791:=eq_true q791;have fl_:True:=trivial;repeat((first|clear fl_|go_quiet (first|((with_reducible refine gate_builtin (b:=.append) (xs:=#[.tmp 93,.tmp 102]) rfl ?_);(try(refine gate_guard (by rfl) ?_;dsimp only));at_builtin;refine Kd.R_append (Kd.int .i64) (w0:=w) w.heap.size rfl (.tmp 93) (.tmp 102) 22 3 (.int .i64 0) 8 rfl Try.underlying22 info3 rfl (by decide) (by omega) u17 x17_2 (rd l0 (ji26)) [.int .i64 (rd l0 (ji26))] (fun _=>True) (fun _=>False) rfl rfl ?aP (fun _ hk=>hk.elim) ?aF ?aO ?aB ?aS ?aL ?_;(case aP=>exact rfl);(case aB=>exact pB);(case aF=>exact(fun _ _=>trivial));(case aO=>exact(rX HO_17.out));(case aS=>exact(below_size pB));(case aL=>have:=LMc29.out;omega);intro v793 w30 ho hb hg hat;rw[← Ny792.out] at ho;have HO794:=aM (ho);replace HB:=aM (hb);clear HO_17;clear ho hb hg hat)));go_wp2_with (first|((with_reducible refine gate_builtin (b:=.append) (xs:=#[.tmp 93,.tmp 102]) rfl ?_);(try(refine gate_guard (by rfl) ?_;dsimp only));at_builtin;refine Kd.R_append (Kd.int .i64) (w0:=w) w.heap.size rfl (.tmp 93) (.tmp 102) 22 3 (.int .i64 0) 8 rfl Try.underlying22 info3 rfl (by decide) (by omega) u17 x17_2 (rd l0 (ji26)) [.int .i64 (rd l0 (ji26))] (fun _=>True) (fun _=>False) rfl rfl ?aP (fun _ hk=>hk.elim) ?aF ?aO ?aB ?aS ?aL ?_;(case aP=>exact rfl);(case aB=>exact pB);(case aF=>exact(fun _ _=>trivial));(case aO=>exact(rX HO_17.out));(case aS=>exact(below_size pB));(case aL=>have:=LMc29.out;omega);intro v793 w30 ho hb hg hat;rw[← Ny792.out] at ho;have HO794:=aM (ho);replace HB:=aM (hb);clear HO_17;clear ho hb hg hat)))
                go_roundg k2
                case measure=>have:=HJ9.out;have:=HK2.out;omega
                case rel=>exact⟨(wrap64 (x13_2+1)),(wrap64 (x14_2+1)),(true),(ji25),(y792),(wrap64 (x18_2+1)),sD,sD,sD,(by first|rfl|(simp;done)|(simp only[← hji25] <;> (first|rfl|simp))|(simp [*];done)),sD,H',⟨by have:=HJ9.out;have:=HK2.out;omega⟩,⟨rX HO794.out⟩,⟨pB⟩⟩
               ·rw[if_neg c29] at H;exact absurd H (by simp)
              ·rw[if_neg c28] at H;exact absurd H (by simp)
             ·rw[if_neg c27] at H;exact absurd H (by simp)
            ·replace c24:=Bool.eq_false_iff.mpr c24;subst c24;rw[if_neg (show ¬ (false=true) by decide)] at H
             obtain⟨ji31,hji31⟩:∃ j_:Int,(mx x16_2 (rd l0 x18_2))=j_:=⟨_,rfl⟩;replace H:(if 0≤(wrap64 ((wrap64 ((l0.length:Int) - 1)) - x18_2)) then(if(wrap64 ((wrap64 ((l0.length:Int) - 1)) - x18_2)) < (l0.length:Int) then(if x17_2.length < 17592186044416 then(papermilllaw60_StatsBounds.l0 k2 l0 a1 a2 t780 t782 t784 (wrap64 (x13_2+1)) (wrap64 (x14_2+1)) ((rd l0 x18_2) == t780) ji31 (x17_2 ++ [rd l0 (wrap64 ((wrap64 ((l0.length:Int) - 1)) - x18_2))]) (wrap64 (x18_2+1))) else(none)) else(none)) else(none))=some r:=by first|(rw[hji31] at H;exact H)|(simp only[hji31] at H ⊢;exact H)
             have hji31_:(if x16_2 < (rd l0 x18_2) then(rd l0 x18_2) else x16_2)=ji31:=hji31
             obtain⟨ji32,hji32⟩:∃ j_:Int,(wrap64 ((wrap64 ((l0.length:Int) - 1)) - x18_2))=j_:=⟨_,rfl⟩;replace H:(if 0≤(ji32) then(if(ji32) < (l0.length:Int) then(if x17_2.length < 17592186044416 then(papermilllaw60_StatsBounds.l0 k2 l0 a1 a2 t780 t782 t784 (wrap64 (x13_2+1)) (wrap64 (x14_2+1)) ((rd l0 x18_2) == t780) ji31 (x17_2 ++ [rd l0 (ji32)]) (wrap64 (x18_2+1))) else(none)) else(none)) else(none))=some r:=by first|(rw[hji32] at H;exact H)|(simp only[hji32] at H ⊢;exact H)
             have hji32w:(IntKind.i64.wrap ((wrap64 ((l0.length:Int) - 1)) - x18_2))=ji32:=(i64_w _).trans hji32;by_cases c33:0≤(ji32)
             ·rw[if_pos c33] at H;have c33b0:decide (0≤(ji32))=true:=dE c33;clear c33;by_cases c34:(ji32) < (l0.length:Int)
              ·rw[if_pos c34] at H;have c34b0:decide ((ji32) < (l0.length:Int))=true:=dE c34;clear c34;by_cases c35:x17_2.length < 17592186044416
               ·rw[if_pos c35] at H;have LMc35:=aM c35;clear c35;obtain⟨y798,hy798⟩:∃ y_:List Int,y_=(x17_2 ++ [rd l0 (ji32)]):=⟨_,rfl⟩;replace H:(papermilllaw60_StatsBounds.l0 k2 l0 a1 a2 t780 t782 t784 (wrap64 (x13_2+1)) (wrap64 (x14_2+1)) ((rd l0 x18_2) == t780) ji31 y798 (wrap64 (x18_2+1)))=some r:=by first|(rw[hy798];with_reducible exact H)|(have H2_:=(Option.bind_some _ _).symm.trans H;rw[hy798];with_reducible exact H2_)|(have H2_:=(Option.bind_some _ _).symm.trans H;with_reducible exact H2_)|with_reducible exact H|(rw[hy798];exact H)|exact H
                have Ny798:=aM hy798;clear hy798;have H':=aM H;clear H;have p788:0≤(x18_2:Int):=oE aS
                have q788:x18_2 < (l0.length:Int):=oE aS
                obtain⟨ad788,e788,hx788_0⟩:=Kd.at_int HR0.out x18_2 p788 q788;obtain rfl:ad787=ad788:=(by injection e788)
                replace hx788_0:=(HB.out.cell (World.block_lt_of_cell? w _ hx788_0)).trans hx788_0;replace p788:=eq_true p788;replace q788:=eq_true q788;have p789:0≤(x18_2:Int):=oE aS
                have q789:x18_2 < (l0.length:Int):=oE aS
                obtain⟨ad789,e789,hx789_0⟩:=Kd.at_int HR0.out x18_2 p789 q789;obtain rfl:ad787=ad789:=(by injection e789)
                replace hx789_0:=(HB.out.cell (World.block_lt_of_cell? w _ hx789_0)).trans hx789_0;replace p789:=eq_true p789;replace q789:=eq_true q789;have p795:0≤(x18_2:Int):=oE aS
                have q795:x18_2 < (l0.length:Int):=oE aS
                obtain⟨ad795,e795,hx795_0⟩:=Kd.at_int HR0.out x18_2 p795 q795;obtain rfl:ad787=ad795:=(by injection e795)
                replace hx795_0:=(HB.out.cell (World.block_lt_of_cell? w _ hx795_0)).trans hx795_0;replace p795:=eq_true p795;replace q795:=eq_true q795;have p796:0≤(x18_2:Int):=oE aS
                have q796:x18_2 < (l0.length:Int):=oE aS
                obtain⟨ad796,e796,hx796_0⟩:=Kd.at_int HR0.out x18_2 p796 q796;obtain rfl:ad787=ad796:=(by injection e796)
                replace hx796_0:=(HB.out.cell (World.block_lt_of_cell? w _ hx796_0)).trans hx796_0;replace p796:=eq_true p796;replace q796:=eq_true q796;have p797:0≤((ji32):Int):=oE aS
                have q797:(ji32) < (l0.length:Int):=oE aS
                obtain⟨ad797,e797,hx797_0⟩:=Kd.at_int HR0.out (ji32) p797 q797;obtain rfl:ad787=ad797:=(by injection e797)
                replace hx797_0:=(HB.out.cell (World.block_lt_of_cell? w _ hx797_0)).trans hx797_0;replace p797:=eq_true p797;replace q797:=eq_true q797;have fl_:True:=trivial;repeat((first|clear fl_|go_quiet (first|((with_reducible refine gate_builtin (b:=.append) (xs:=#[.tmp 93,.tmp 102]) rfl ?_);(try(refine gate_guard (by rfl) ?_;dsimp only));at_builtin;refine Kd.R_append (Kd.int .i64) (w0:=w) w.heap.size rfl (.tmp 93) (.tmp 102) 22 3 (.int .i64 0) 8 rfl Try.underlying22 info3 rfl (by decide) (by omega) u17 x17_2 (rd l0 (ji32)) [.int .i64 (rd l0 (ji32))] (fun _=>True) (fun _=>False) rfl rfl ?aP (fun _ hk=>hk.elim) ?aF ?aO ?aB ?aS ?aL ?_;(case aP=>exact rfl);(case aB=>exact pB);(case aF=>exact(fun _ _=>trivial));(case aO=>exact(rX HO_17.out));(case aS=>exact(below_size pB));(case aL=>have:=LMc35.out;omega);intro v799 w36 ho hb hg hat;rw[← Ny798.out] at ho;have HO800:=aM (ho);replace HB:=aM (hb);clear HO_17;clear ho hb hg hat)));go_wp2_with (first|((with_reducible refine gate_builtin (b:=.append) (xs:=#[.tmp 93,.tmp 102]) rfl ?_);(try(refine gate_guard (by rfl) ?_;dsimp only));at_builtin;refine Kd.R_append (Kd.int .i64) (w0:=w) w.heap.size rfl (.tmp 93) (.tmp 102) 22 3 (.int .i64 0) 8 rfl Try.underlying22 info3 rfl (by decide) (by omega) u17 x17_2 (rd l0 (ji32)) [.int .i64 (rd l0 (ji32))] (fun _=>True) (fun _=>False) rfl rfl ?aP (fun _ hk=>hk.elim) ?aF ?aO ?aB ?aS ?aL ?_;(case aP=>exact rfl);(case aB=>exact pB);(case aF=>exact(fun _ _=>trivial));(case aO=>exact(rX HO_17.out));(case aS=>exact(below_size pB));(case aL=>have:=LMc35.out;omega);intro v799 w36 ho hb hg hat;rw[← Ny798.out] at ho;have HO800:=aM (ho);replace HB:=aM (hb);clear HO_17;clear ho hb hg hat)))
                go_roundg k2
                case measure=>have:=HJ9.out;have:=HK2.out;omega
                case rel=>exact⟨(wrap64 (x13_2+1)),(wrap64 (x14_2+1)),(((rd l0 x18_2) == t780)),(ji31),(y798),(wrap64 (x18_2+1)),sD,sD,sD,(by first|rfl|(simp;done)|(simp only[← hji31] <;> (first|rfl|simp))|(simp [*];done)),sD,H',⟨by have:=HJ9.out;have:=HK2.out;omega⟩,⟨rX HO800.out⟩,⟨pB⟩⟩
               ·rw[if_neg c35] at H;exact absurd H (by simp)
              ·rw[if_neg c34] at H;exact absurd H (by simp)
             ·rw[if_neg c33] at H;exact absurd H (by simp)
           ·rw[if_neg c23] at H;have c23b0:decide ((rd l0 x18_2) < t780)=false:=decide_eq_false c23;clear c23;by_cases c37:x15_2=true
            ·subst c37;rw[if_pos rfl] at H;obtain⟨ji38,hji38⟩:∃ j_:Int,(mx x16_2 (rd l0 x18_2))=j_:=⟨_,rfl⟩;replace H:(if 0≤(wrap64 ((wrap64 ((l0.length:Int) - 1)) - x18_2)) then(if(wrap64 ((wrap64 ((l0.length:Int) - 1)) - x18_2)) < (l0.length:Int) then(if x17_2.length < 17592186044416 then(papermilllaw60_StatsBounds.l0 k2 l0 a1 a2 t780 t782 t784 (wrap64 (x13_2+1)) x14_2 true ji38 (x17_2 ++ [rd l0 (wrap64 ((wrap64 ((l0.length:Int) - 1)) - x18_2))]) (wrap64 (x18_2+1))) else(none)) else(none)) else(none))=some r:=by first|(rw[hji38] at H;exact H)|(simp only[hji38] at H ⊢;exact H)
             have hji38_:(if x16_2 < (rd l0 x18_2) then(rd l0 x18_2) else x16_2)=ji38:=hji38
             obtain⟨ji39,hji39⟩:∃ j_:Int,(wrap64 ((wrap64 ((l0.length:Int) - 1)) - x18_2))=j_:=⟨_,rfl⟩;replace H:(if 0≤(ji39) then(if(ji39) < (l0.length:Int) then(if x17_2.length < 17592186044416 then(papermilllaw60_StatsBounds.l0 k2 l0 a1 a2 t780 t782 t784 (wrap64 (x13_2+1)) x14_2 true ji38 (x17_2 ++ [rd l0 (ji39)]) (wrap64 (x18_2+1))) else(none)) else(none)) else(none))=some r:=by first|(rw[hji39] at H;exact H)|(simp only[hji39] at H ⊢;exact H)
             have hji39w:(IntKind.i64.wrap ((wrap64 ((l0.length:Int) - 1)) - x18_2))=ji39:=(i64_w _).trans hji39;by_cases c40:0≤(ji39)
             ·rw[if_pos c40] at H;have c40b0:decide (0≤(ji39))=true:=dE c40;clear c40;by_cases c41:(ji39) < (l0.length:Int)
              ·rw[if_pos c41] at H;have c41b0:decide ((ji39) < (l0.length:Int))=true:=dE c41;clear c41;by_cases c42:x17_2.length < 17592186044416
               ·rw[if_pos c42] at H;have LMc42:=aM c42;clear c42;obtain⟨y803,hy803⟩:∃ y_:List Int,y_=(x17_2 ++ [rd l0 (ji39)]):=⟨_,rfl⟩;replace H:(papermilllaw60_StatsBounds.l0 k2 l0 a1 a2 t780 t782 t784 (wrap64 (x13_2+1)) x14_2 true ji38 y803 (wrap64 (x18_2+1)))=some r:=by first|(rw[hy803];with_reducible exact H)|(have H2_:=(Option.bind_some _ _).symm.trans H;rw[hy803];with_reducible exact H2_)|(have H2_:=(Option.bind_some _ _).symm.trans H;with_reducible exact H2_)|with_reducible exact H|(rw[hy803];exact H)|exact H
                have Ny803:=aM hy803;clear hy803;have H':=aM H;clear H;have p788:0≤(x18_2:Int):=oE aS
                have q788:x18_2 < (l0.length:Int):=oE aS
                obtain⟨ad788,e788,hx788_0⟩:=Kd.at_int HR0.out x18_2 p788 q788;obtain rfl:ad787=ad788:=(by injection e788)
                replace hx788_0:=(HB.out.cell (World.block_lt_of_cell? w _ hx788_0)).trans hx788_0;replace p788:=eq_true p788;replace q788:=eq_true q788;have p789:0≤(x18_2:Int):=oE aS
                have q789:x18_2 < (l0.length:Int):=oE aS
                obtain⟨ad789,e789,hx789_0⟩:=Kd.at_int HR0.out x18_2 p789 q789;obtain rfl:ad787=ad789:=(by injection e789)
                replace hx789_0:=(HB.out.cell (World.block_lt_of_cell? w _ hx789_0)).trans hx789_0;replace p789:=eq_true p789;replace q789:=eq_true q789;have p801:0≤(x18_2:Int):=oE aS
                have q801:x18_2 < (l0.length:Int):=oE aS
                obtain⟨ad801,e801,hx801_0⟩:=Kd.at_int HR0.out x18_2 p801 q801;obtain rfl:ad787=ad801:=(by injection e801)
                replace hx801_0:=(HB.out.cell (World.block_lt_of_cell? w _ hx801_0)).trans hx801_0;replace p801:=eq_true p801;replace q801:=eq_true q801;have p802:0≤((ji39):Int):=oE aS
                have q802:(ji39) < (l0.length:Int):=oE aS
                obtain⟨ad802,e802,hx802_0⟩:=Kd.at_int HR0.out (ji39) p802 q802;obtain rfl:ad787=ad802:=(by injection e802)
                replace hx802_0:=(HB.out.cell (World.block_lt_of_cell? w _ hx802_0)).trans hx802_0;replace p802:=eq_true p802;replace q802:=eq_true q802;have fl_:True:=trivial;repeat((first|clear fl_|go_quiet (first|((with_reducible refine gate_builtin (b:=.append) (xs:=#[.tmp 93,.tmp 102]) rfl ?_);(try(refine gate_guard (by rfl) ?_;dsimp only));at_builtin;refine Kd.R_append (Kd.int .i64) (w0:=w) w.heap.size rfl (.tmp 93) (.tmp 102) 22 3 (.int .i64 0) 8 rfl Try.underlying22 info3 rfl (by decide) (by omega) u17 x17_2 (rd l0 (ji39)) [.int .i64 (rd l0 (ji39))] (fun _=>True) (fun _=>False) rfl rfl ?aP (fun _ hk=>hk.elim) ?aF ?aO ?aB ?aS ?aL ?_;(case aP=>exact rfl);(case aB=>exact pB);(case aF=>exact(fun _ _=>trivial));(case aO=>exact(rX HO_17.out));(case aS=>exact(below_size pB));(case aL=>have:=LMc42.out;omega);intro v804 w43 ho hb hg hat;rw[← Ny803.out] at ho;have HO805:=aM (ho);replace HB:=aM (hb);clear HO_17;clear ho hb hg hat)));go_wp2_with (first|((with_reducible refine gate_builtin (b:=.append) (xs:=#[.tmp 93,.tmp 102]) rfl ?_);(try(refine gate_guard (by rfl) ?_;dsimp only));at_builtin;refine Kd.R_append (Kd.int .i64) (w0:=w) w.heap.size rfl (.tmp 93) (.tmp 102) 22 3 (.int .i64 0) 8 rfl Try.underlying22 info3 rfl (by decide) (by omega) u17 x17_2 (rd l0 (ji39)) [.int .i64 (rd l0 (ji39))] (fun _=>True) (fun _=>False) rfl rfl ?aP (fun _ hk=>hk.elim) ?aF ?aO ?aB ?aS ?aL ?_;(case aP=>exact rfl);(case aB=>exact pB);(case aF=>exact(fun _ _=>trivial));(case aO=>exact(rX HO_17.out));(case aS=>exact(below_size pB));(case aL=>have:=LMc42.out;omega);intro v804 w43 ho hb hg hat;rw[← Ny803.out] at ho;have HO805:=aM (ho);replace HB:=aM (hb);clear HO_17;clear ho hb hg hat)))
                go_roundg k2
                case measure=>have:=HJ9.out;have:=HK2.out;omega
                case rel=>exact⟨(wrap64 (x13_2+1)),(x14_2),(true),(ji38),(y803),(wrap64 (x18_2+1)),sD,sD,sD,(by first|rfl|(simp;done)|(simp only[← hji38] <;> (first|rfl|simp))|(simp [*];done)),sD,H',⟨by have:=HJ9.out;have:=HK2.out;omega⟩,⟨rX HO805.out⟩,⟨pB⟩⟩
               ·rw[if_neg c42] at H;exact absurd H (by simp)
              ·rw[if_neg c41] at H;exact absurd H (by simp)
             ·rw[if_neg c40] at H;exact absurd H (by simp)
            ·replace c37:=Bool.eq_false_iff.mpr c37;subst c37;rw[if_neg (show ¬ (false=true) by decide)] at H
             obtain⟨ji44,hji44⟩:∃ j_:Int,(mx x16_2 (rd l0 x18_2))=j_:=⟨_,rfl⟩;replace H:(if 0≤(wrap64 ((wrap64 ((l0.length:Int) - 1)) - x18_2)) then(if(wrap64 ((wrap64 ((l0.length:Int) - 1)) - x18_2)) < (l0.length:Int) then(if x17_2.length < 17592186044416 then(papermilllaw60_StatsBounds.l0 k2 l0 a1 a2 t780 t782 t784 (wrap64 (x13_2+1)) x14_2 ((rd l0 x18_2) == t780) ji44 (x17_2 ++ [rd l0 (wrap64 ((wrap64 ((l0.length:Int) - 1)) - x18_2))]) (wrap64 (x18_2+1))) else(none)) else(none)) else(none))=some r:=by first|(rw[hji44] at H;exact H)|(simp only[hji44] at H ⊢;exact H)
             have hji44_:(if x16_2 < (rd l0 x18_2) then(rd l0 x18_2) else x16_2)=ji44:=hji44
             obtain⟨ji45,hji45⟩:∃ j_:Int,(wrap64 ((wrap64 ((l0.length:Int) - 1)) - x18_2))=j_:=⟨_,rfl⟩;replace H:(if 0≤(ji45) then(if(ji45) < (l0.length:Int) then(if x17_2.length < 17592186044416 then(papermilllaw60_StatsBounds.l0 k2 l0 a1 a2 t780 t782 t784 (wrap64 (x13_2+1)) x14_2 ((rd l0 x18_2) == t780) ji44 (x17_2 ++ [rd l0 (ji45)]) (wrap64 (x18_2+1))) else(none)) else(none)) else(none))=some r:=by first|(rw[hji45] at H;exact H)|(simp only[hji45] at H ⊢;exact H)
             have hji45w:(IntKind.i64.wrap ((wrap64 ((l0.length:Int) - 1)) - x18_2))=ji45:=(i64_w _).trans hji45;by_cases c46:0≤(ji45)
             ·rw[if_pos c46] at H;have c46b0:decide (0≤(ji45))=true:=dE c46;clear c46;by_cases c47:(ji45) < (l0.length:Int)
              ·rw[if_pos c47] at H;have c47b0:decide ((ji45) < (l0.length:Int))=true:=dE c47;clear c47;by_cases c48:x17_2.length < 17592186044416
               ·rw[if_pos c48] at H;have LMc48:=aM c48;clear c48;obtain⟨y809,hy809⟩:∃ y_:List Int,y_=(x17_2 ++ [rd l0 (ji45)]):=⟨_,rfl⟩;replace H:(papermilllaw60_StatsBounds.l0 k2 l0 a1 a2 t780 t782 t784 (wrap64 (x13_2+1)) x14_2 ((rd l0 x18_2) == t780) ji44 y809 (wrap64 (x18_2+1)))=some r:=by first|(rw[hy809];with_reducible exact H)|(have H2_:=(Option.bind_some _ _).symm.trans H;rw[hy809];with_reducible exact H2_)|(have H2_:=(Option.bind_some _ _).symm.trans H;with_reducible exact H2_)|with_reducible exact H|(rw[hy809];exact H)|exact H
                have Ny809:=aM hy809;clear hy809;have H':=aM H;clear H;have p788:0≤(x18_2:Int):=oE aS
                have q788:x18_2 < (l0.length:Int):=oE aS
                obtain⟨ad788,e788,hx788_0⟩:=Kd.at_int HR0.out x18_2 p788 q788;obtain rfl:ad787=ad788:=(by injection e788)
                replace hx788_0:=(HB.out.cell (World.block_lt_of_cell? w _ hx788_0)).trans hx788_0;replace p788:=eq_true p788;replace q788:=eq_true q788;have p789:0≤(x18_2:Int):=oE aS
                have q789:x18_2 < (l0.length:Int):=oE aS
                obtain⟨ad789,e789,hx789_0⟩:=Kd.at_int HR0.out x18_2 p789 q789;obtain rfl:ad787=ad789:=(by injection e789)
                replace hx789_0:=(HB.out.cell (World.block_lt_of_cell? w _ hx789_0)).trans hx789_0;replace p789:=eq_true p789;replace q789:=eq_true q789;have p806:0≤(x18_2:Int):=oE aS
                have q806:x18_2 < (l0.length:Int):=oE aS
                obtain⟨ad806,e806,hx806_0⟩:=Kd.at_int HR0.out x18_2 p806 q806;obtain rfl:ad787=ad806:=(by injection e806)
                replace hx806_0:=(HB.out.cell (World.block_lt_of_cell? w _ hx806_0)).trans hx806_0;replace p806:=eq_true p806;replace q806:=eq_true q806;have p807:0≤(x18_2:Int):=oE aS
                have q807:x18_2 < (l0.length:Int):=oE aS
                obtain⟨ad807,e807,hx807_0⟩:=Kd.at_int HR0.out x18_2 p807 q807;obtain rfl:ad787=ad807:=(by injection e807)
                replace hx807_0:=(HB.out.cell (World.block_lt_of_cell? w _ hx807_0)).trans hx807_0;replace p807:=eq_true p807;replace q807:=eq_true q807;have p808:0≤((ji45):Int):=oE aS
                have q808:(ji45) < (l0.length:Int):=oE aS
                obtain⟨ad808,e808,hx808_0⟩:=Kd.at_int HR0.out (ji45) p808 q808;obtain rfl:ad787=ad808:=(by injection e808)
                replace hx808_0:=(HB.out.cell (World.block_lt_of_cell? w _ hx808_0)).trans hx808_0;replace p808:=eq_true p808;replace q808:=eq_true q808;have fl_:True:=trivial;repeat((first|clear fl_|go_quiet (first|((with_reducible refine gate_builtin (b:=.append) (xs:=#[.tmp 93,.tmp 102]) rfl ?_);(try(refine gate_guard (by rfl) ?_;dsimp only));at_builtin;refine Kd.R_append (Kd.int .i64) (w0:=w) w.heap.size rfl (.tmp 93) (.tmp 102) 22 3 (.int .i64 0) 8 rfl Try.underlying22 info3 rfl (by decide) (by omega) u17 x17_2 (rd l0 (ji45)) [.int .i64 (rd l0 (ji45))] (fun _=>True) (fun _=>False) rfl rfl ?aP (fun _ hk=>hk.elim) ?aF ?aO ?aB ?aS ?aL ?_;(case aP=>exact rfl);(case aB=>exact pB);(case aF=>exact(fun _ _=>trivial));(case aO=>exact(rX HO_17.out));(case aS=>exact(below_size pB));(case aL=>have:=LMc48.out;omega);intro v810 w49 ho hb hg hat;rw[← Ny809.out] at ho;have HO811:=aM (ho);replace HB:=aM (hb);clear HO_17;clear ho hb hg hat)));go_wp2_with (first|((with_reducible refine gate_builtin (b:=.append) (xs:=#[.tmp 93,.tmp 102]) rfl ?_);(try(refine gate_guard (by rfl) ?_;dsimp only));at_builtin;refine Kd.R_append (Kd.int .i64) (w0:=w) w.heap.size rfl (.tmp 93) (.tmp 102) 22 3 (.int .i64 0) 8 rfl Try.underlying22 info3 rfl (by decide) (by omega) u17 x17_2 (rd l0 (ji45)) [.int .i64 (rd l0 (ji45))] (fun _=>True) (fun _=>False) rfl rfl ?aP (fun _ hk=>hk.elim) ?aF ?aO ?aB ?aS ?aL ?_;(case aP=>exact rfl);(case aB=>exact pB);(case aF=>exact(fun _ _=>trivial));(case aO=>exact(rX HO_17.out));(case aS=>exact(below_size pB));(case aL=>have:=LMc48.out;omega);intro v810 w49 ho hb hg hat;rw[← Ny809.out] at ho;have HO811:=aM (ho);replace HB:=aM (hb);clear HO_17;clear ho hb hg hat)))
                go_roundg k2
                case measure=>have:=HJ9.out;have:=HK2.out;omega
                case rel=>exact⟨(wrap64 (x13_2+1)),(x14_2),(((rd l0 x18_2) == t780)),(ji44),(y809),(wrap64 (x18_2+1)),sD,sD,sD,(by first|rfl|(simp;done)|(simp only[← hji44] <;> (first|rfl|simp))|(simp [*];done)),sD,H',⟨by have:=HJ9.out;have:=HK2.out;omega⟩,⟨rX HO811.out⟩,⟨pB⟩⟩
               ·rw[if_neg c48] at H;exact absurd H (by simp)
              ·rw[if_neg c47] at H;exact absurd H (by simp)
             ·rw[if_neg c46] at H;exact absurd H (by simp)
          ·rw[if_neg c22] at H;have c22b0:decide ((rd l0 x18_2)≤t780)=false:=decide_eq_false c22;clear c22;by_cases c50:(rd l0 x18_2) < t780
           ·rw[if_pos c50] at H;have c50b0:decide ((rd l0 x18_2) < t780)=true:=dE c50;clear c50;by_cases c51:x15_2=true
            ·subst c51;rw[if_pos rfl] at H;obtain⟨ji52,hji52⟩:∃ j_:Int,(mx x16_2 (rd l0 x18_2))=j_:=⟨_,rfl⟩;replace H:(if 0≤(wrap64 ((wrap64 ((l0.length:Int) - 1)) - x18_2)) then(if(wrap64 ((wrap64 ((l0.length:Int) - 1)) - x18_2)) < (l0.length:Int) then(if x17_2.length < 17592186044416 then(papermilllaw60_StatsBounds.l0 k2 l0 a1 a2 t780 t782 t784 x13_2 (wrap64 (x14_2+1)) true ji52 (x17_2 ++ [rd l0 (wrap64 ((wrap64 ((l0.length:Int) - 1)) - x18_2))]) (wrap64 (x18_2+1))) else(none)) else(none)) else(none))=some r:=by first|(rw[hji52] at H;exact H)|(simp only[hji52] at H ⊢;exact H)
             have hji52_:(if x16_2 < (rd l0 x18_2) then(rd l0 x18_2) else x16_2)=ji52:=hji52
             obtain⟨ji53,hji53⟩:∃ j_:Int,(wrap64 ((wrap64 ((l0.length:Int) - 1)) - x18_2))=j_:=⟨_,rfl⟩;replace H:(if 0≤(ji53) then(if(ji53) < (l0.length:Int) then(if x17_2.length < 17592186044416 then(papermilllaw60_StatsBounds.l0 k2 l0 a1 a2 t780 t782 t784 x13_2 (wrap64 (x14_2+1)) true ji52 (x17_2 ++ [rd l0 (ji53)]) (wrap64 (x18_2+1))) else(none)) else(none)) else(none))=some r:=by first|(rw[hji53] at H;exact H)|(simp only[hji53] at H ⊢;exact H)
             have hji53w:(IntKind.i64.wrap ((wrap64 ((l0.length:Int) - 1)) - x18_2))=ji53:=(i64_w _).trans hji53;by_cases c54:0≤(ji53)
             ·rw[if_pos c54] at H;have c54b0:decide (0≤(ji53))=true:=dE c54;clear c54;by_cases c55:(ji53) < (l0.length:Int)
              ·rw[if_pos c55] at H;have c55b0:decide ((ji53) < (l0.length:Int))=true:=dE c55;clear c55;by_cases c56:x17_2.length < 17592186044416
               ·rw[if_pos c56] at H;have LMc56:=aM c56;clear c56;obtain⟨y815,hy815⟩:∃ y_:List Int,y_=(x17_2 ++ [rd l0 (ji53)]):=⟨_,rfl⟩;replace H:(papermilllaw60_StatsBounds.l0 k2 l0 a1 a2 t780 t782 t784 x13_2 (wrap64 (x14_2+1)) true ji52 y815 (wrap64 (x18_2+1)))=some r:=by first|(rw[hy815];with_reducible exact H)|(have H2_:=(Option.bind_some _ _).symm.trans H;rw[hy815];with_reducible exact H2_)|(have H2_:=(Option.bind_some _ _).symm.trans H;with_reducible exact H2_)|with_reducible exact H|(rw[hy815];exact H)|exact H
                have Ny815:=aM hy815;clear hy815;have H':=aM H;clear H;have p788:0≤(x18_2:Int):=oE aS
                have q788:x18_2 < (l0.length:Int):=oE aS
                obtain⟨ad788,e788,hx788_0⟩:=Kd.at_int HR0.out x18_2 p788 q788;obtain rfl:ad787=ad788:=(by injection e788)
                replace hx788_0:=(HB.out.cell (World.block_lt_of_cell? w _ hx788_0)).trans hx788_0;replace p788:=eq_true p788;replace q788:=eq_true q788;have p812:0≤(x18_2:Int):=oE aS
                have q812:x18_2 < (l0.length:Int):=oE aS
                obtain⟨ad812,e812,hx812_0⟩:=Kd.at_int HR0.out x18_2 p812 q812;obtain rfl:ad787=ad812:=(by injection e812)
                replace hx812_0:=(HB.out.cell (World.block_lt_of_cell? w _ hx812_0)).trans hx812_0;replace p812:=eq_true p812;replace q812:=eq_true q812;have p813:0≤(x18_2:Int):=oE aS
                have q813:x18_2 < (l0.length:Int):=oE aS
                obtain⟨ad813,e813,hx813_0⟩:=Kd.at_int HR0.out x18_2 p813 q813;obtain rfl:ad787=ad813:=(by injection e813)
                replace hx813_0:=(HB.out.cell (World.block_lt_of_cell? w _ hx813_0)).trans hx813_0;replace p813:=eq_true p813;replace q813:=eq_true q813;have p814:0≤((ji53):Int):=oE aS
                have q814:(ji53) < (l0.length:Int):=oE aS
                obtain⟨ad814,e814,hx814_0⟩:=Kd.at_int HR0.out (ji53) p814 q814;obtain rfl:ad787=ad814:=(by injection e814)
                replace hx814_0:=(HB.out.cell (World.block_lt_of_cell? w _ hx814_0)).trans hx814_0;replace p814:=eq_true p814;replace q814:=eq_true q814;have fl_:True:=trivial;repeat((first|clear fl_|go_quiet (first|((with_reducible refine gate_builtin (b:=.append) (xs:=#[.tmp 93,.tmp 102]) rfl ?_);(try(refine gate_guard (by rfl) ?_;dsimp only));at_builtin;refine Kd.R_append (Kd.int .i64) (w0:=w) w.heap.size rfl (.tmp 93) (.tmp 102) 22 3 (.int .i64 0) 8 rfl Try.underlying22 info3 rfl (by decide) (by omega) u17 x17_2 (rd l0 (ji53)) [.int .i64 (rd l0 (ji53))] (fun _=>True) (fun _=>False) rfl rfl ?aP (fun _ hk=>hk.elim) ?aF ?aO ?aB ?aS ?aL ?_;(case aP=>exact rfl);(case aB=>exact pB);(case aF=>exact(fun _ _=>trivial));(case aO=>exact(rX HO_17.out));(case aS=>exact(below_size pB));(case aL=>have:=LMc56.out;omega);intro v816 w57 ho hb hg hat;rw[← Ny815.out] at ho;have HO817:=aM (ho);replace HB:=aM (hb);clear HO_17;clear ho hb hg hat)));go_wp2_with (first|((with_reducible refine gate_builtin (b:=.append) (xs:=#[.tmp 93,.tmp 102]) rfl ?_);(try(refine gate_guard (by rfl) ?_;dsimp only));at_builtin;refine Kd.R_append (Kd.int .i64) (w0:=w) w.heap.size rfl (.tmp 93) (.tmp 102) 22 3 (.int .i64 0) 8 rfl Try.underlying22 info3 rfl (by decide) (by omega) u17 x17_2 (rd l0 (ji53)) [.int .i64 (rd l0 (ji53))] (fun _=>True) (fun _=>False) rfl rfl ?aP (fun _ hk=>hk.elim) ?aF ?aO ?aB ?aS ?aL ?_;(case aP=>exact rfl);(case aB=>exact pB);(case aF=>exact(fun _ _=>trivial));(case aO=>exact(rX HO_17.out));(case aS=>exact(below_size pB));(case aL=>have:=LMc56.out;omega);intro v816 w57 ho hb hg hat;rw[← Ny815.out] at ho;have HO817:=aM (ho);replace HB:=aM (hb);clear HO_17;clear ho hb hg hat)))
                go_roundg k2
                case measure=>have:=HJ9.out;have:=HK2.out;omega
                case rel=>exact⟨(x13_2),(wrap64 (x14_2+1)),(true),(ji52),(y815),(wrap64 (x18_2+1)),sD,sD,sD,(by first|rfl|(simp;done)|(simp only[← hji52] <;> (first|rfl|simp))|(simp [*];done)),sD,H',⟨by have:=HJ9.out;have:=HK2.out;omega⟩,⟨rX HO817.out⟩,⟨pB⟩⟩
               ·rw[if_neg c56] at H;exact absurd H (by simp)
              ·rw[if_neg c55] at H;exact absurd H (by simp)
             ·rw[if_neg c54] at H;exact absurd H (by simp)
            ·replace c51:=Bool.eq_false_iff.mpr c51;subst c51;rw[if_neg (show ¬ (false=true) by decide)] at H
             obtain⟨ji58,hji58⟩:∃ j_:Int,(mx x16_2 (rd l0 x18_2))=j_:=⟨_,rfl⟩;replace H:(if 0≤(wrap64 ((wrap64 ((l0.length:Int) - 1)) - x18_2)) then(if(wrap64 ((wrap64 ((l0.length:Int) - 1)) - x18_2)) < (l0.length:Int) then(if x17_2.length < 17592186044416 then(papermilllaw60_StatsBounds.l0 k2 l0 a1 a2 t780 t782 t784 x13_2 (wrap64 (x14_2+1)) ((rd l0 x18_2) == t780) ji58 (x17_2 ++ [rd l0 (wrap64 ((wrap64 ((l0.length:Int) - 1)) - x18_2))]) (wrap64 (x18_2+1))) else(none)) else(none)) else(none))=some r:=by first|(rw[hji58] at H;exact H)|(simp only[hji58] at H ⊢;exact H)
             have hji58_:(if x16_2 < (rd l0 x18_2) then(rd l0 x18_2) else x16_2)=ji58:=hji58
             obtain⟨ji59,hji59⟩:∃ j_:Int,(wrap64 ((wrap64 ((l0.length:Int) - 1)) - x18_2))=j_:=⟨_,rfl⟩;replace H:(if 0≤(ji59) then(if(ji59) < (l0.length:Int) then(if x17_2.length < 17592186044416 then(papermilllaw60_StatsBounds.l0 k2 l0 a1 a2 t780 t782 t784 x13_2 (wrap64 (x14_2+1)) ((rd l0 x18_2) == t780) ji58 (x17_2 ++ [rd l0 (ji59)]) (wrap64 (x18_2+1))) else(none)) else(none)) else(none))=some r:=by first|(rw[hji59] at H;exact H)|(simp only[hji59] at H ⊢;exact H)
             have hji59w:(IntKind.i64.wrap ((wrap64 ((l0.length:Int) - 1)) - x18_2))=ji59:=(i64_w _).trans hji59;by_cases c60:0≤(ji59)
             ·rw[if_pos c60] at H;have c60b0:decide (0≤(ji59))=true:=dE c60;clear c60;by_cases c61:(ji59) < (l0.length:Int)
              ·rw[if_pos c61] at H;have c61b0:decide ((ji59) < (l0.length:Int))=true:=dE c61;clear c61;by_cases c62:x17_2.length < 17592186044416
               ·rw[if_pos c62] at H;have LMc62:=aM c62;clear c62;obtain⟨y821,hy821⟩:∃ y_:List Int,y_=(x17_2 ++ [rd l0 (ji59)]):=⟨_,rfl⟩;replace H:(papermilllaw60_StatsBounds.l0 k2 l0 a1 a2 t780 t782 t784 x13_2 (wrap64 (x14_2+1)) ((rd l0 x18_2) == t780) ji58 y821 (wrap64 (x18_2+1)))=some r:=by first|(rw[hy821];with_reducible exact H)|(have H2_:=(Option.bind_some _ _).symm.trans H;rw[hy821];with_reducible exact H2_)|(have H2_:=(Option.bind_some _ _).symm.trans H;with_reducible exact H2_)|with_reducible exact H|(rw[hy821];exact H)|exact H
                have Ny821:=aM hy821;clear hy821;have H':=aM H;clear H;have p788:0≤(x18_2:Int):=oE aS
                have q788:x18_2 < (l0.length:Int):=oE aS
                obtain⟨ad788,e788,hx788_0⟩:=Kd.at_int HR0.out x18_2 p788 q788;obtain rfl:ad787=ad788:=(by injection e788)
                replace hx788_0:=(HB.out.cell (World.block_lt_of_cell? w _ hx788_0)).trans hx788_0;replace p788:=eq_true p788;replace q788:=eq_true q788;have p812:0≤(x18_2:Int):=oE aS
                have q812:x18_2 < (l0.length:Int):=oE aS
                obtain⟨ad812,e812,hx812_0⟩:=Kd.at_int HR0.out x18_2 p812 q812;obtain rfl:ad787=ad812:=(by injection e812)
                replace hx812_0:=(HB.out.cell (World.block_lt_of_cell? w _ hx812_0)).trans hx812_0;replace p812:=eq_true p812;replace q812:=eq_true q812;have p818:0≤(x18_2:Int):=oE aS
                have q818:x18_2 < (l0.length:Int):=oE aS
                obtain⟨ad818,e818,hx818_0⟩:=Kd.at_int HR0.out x18_2 p818 q818;obtain rfl:ad787=ad818:=(by injection e818)
                replace hx818_0:=(HB.out.cell (World.block_lt_of_cell? w _ hx818_0)).trans hx818_0;replace p818:=eq_true p818;replace q818:=eq_true q818;have p819:0≤(x18_2:Int):=oE aS
                have q819:x18_2 < (l0.length:Int):=oE aS
                obtain⟨ad819,e819,hx819_0⟩:=Kd.at_int HR0.out x18_2 p819 q819;obtain rfl:ad787=ad819:=(by injection e819)
                replace hx819_0:=(HB.out.cell (World.block_lt_of_cell? w _ hx819_0)).trans hx819_0;replace p819:=eq_true p819;replace q819:=eq_true q819;have p820:0≤((ji59):Int):=oE aS
                have q820:(ji59) < (l0.length:Int):=oE aS
                obtain⟨ad820,e820,hx820_0⟩:=Kd.at_int HR0.out (ji59) p820 q820;obtain rfl:ad787=ad820:=(by injection e820)
                replace hx820_0:=(HB.out.cell (World.block_lt_of_cell? w _ hx820_0)).trans hx820_0;replace p820:=eq_true p820;replace q820:=eq_true q820;have fl_:True:=trivial;repeat((first|clear fl_|go_quiet (first|((with_reducible refine gate_builtin (b:=.append) (xs:=#[.tmp 93,.tmp 102]) rfl ?_);(try(refine gate_guard (by rfl) ?_;dsimp only));at_builtin;refine Kd.R_append (Kd.int .i64) (w0:=w) w.heap.size rfl (.tmp 93) (.tmp 102) 22 3 (.int .i64 0) 8 rfl Try.underlying22 info3 rfl (by decide) (by omega) u17 x17_2 (rd l0 (ji59)) [.int .i64 (rd l0 (ji59))] (fun _=>True) (fun _=>False) rfl rfl ?aP (fun _ hk=>hk.elim) ?aF ?aO ?aB ?aS ?aL ?_;(case aP=>exact rfl);(case aB=>exact pB);(case aF=>exact(fun _ _=>trivial));(case aO=>exact(rX HO_17.out));(case aS=>exact(below_size pB));(case aL=>have:=LMc62.out;omega);intro v822 w63 ho hb hg hat;rw[← Ny821.out] at ho;have HO823:=aM (ho);replace HB:=aM (hb);clear HO_17;clear ho hb hg hat)));go_wp2_with (first|((with_reducible refine gate_builtin (b:=.append) (xs:=#[.tmp 93,.tmp 102]) rfl ?_);(try(refine gate_guard (by rfl) ?_;dsimp only));at_builtin;refine Kd.R_append (Kd.int .i64) (w0:=w) w.heap.size rfl (.tmp 93) (.tmp 102) 22 3 (.int .i64 0) 8 rfl Try.underlying22 info3 rfl (by decide) (by omega) u17 x17_2 (rd l0 (ji59)) [.int .i64 (rd l0 (ji59))] (fun _=>True) (fun _=>False) rfl rfl ?aP (fun _ hk=>hk.elim) ?aF ?aO ?aB ?aS ?aL ?_;(case aP=>exact rfl);(case aB=>exact pB);(case aF=>exact(fun _ _=>trivial));(case aO=>exact(rX HO_17.out));(case aS=>exact(below_size pB));(case aL=>have:=LMc62.out;omega);intro v822 w63 ho hb hg hat;rw[← Ny821.out] at ho;have HO823:=aM (ho);replace HB:=aM (hb);clear HO_17;clear ho hb hg hat)))
                go_roundg k2
                case measure=>have:=HJ9.out;have:=HK2.out;omega
                case rel=>exact⟨(x13_2),(wrap64 (x14_2+1)),(((rd l0 x18_2) == t780)),(ji58),(y821),(wrap64 (x18_2+1)),sD,sD,sD,(by first|rfl|(simp;done)|(simp only[← hji58] <;> (first|rfl|simp))|(simp [*];done)),sD,H',⟨by have:=HJ9.out;have:=HK2.out;omega⟩,⟨rX HO823.out⟩,⟨pB⟩⟩
               ·rw[if_neg c62] at H;exact absurd H (by simp)
              ·rw[if_neg c61] at H;exact absurd H (by simp)
             ·rw[if_neg c60] at H;exact absurd H (by simp)
           ·rw[if_neg c50] at H;have c50b0:decide ((rd l0 x18_2) < t780)=false:=decide_eq_false c50;clear c50;by_cases c64:x15_2=true
            ·subst c64;rw[if_pos rfl] at H;obtain⟨ji65,hji65⟩:∃ j_:Int,(mx x16_2 (rd l0 x18_2))=j_:=⟨_,rfl⟩;replace H:(if 0≤(wrap64 ((wrap64 ((l0.length:Int) - 1)) - x18_2)) then(if(wrap64 ((wrap64 ((l0.length:Int) - 1)) - x18_2)) < (l0.length:Int) then(if x17_2.length < 17592186044416 then(papermilllaw60_StatsBounds.l0 k2 l0 a1 a2 t780 t782 t784 x13_2 x14_2 true ji65 (x17_2 ++ [rd l0 (wrap64 ((wrap64 ((l0.length:Int) - 1)) - x18_2))]) (wrap64 (x18_2+1))) else(none)) else(none)) else(none))=some r:=by first|(rw[hji65] at H;exact H)|(simp only[hji65] at H ⊢;exact H)
             have hji65_:(if x16_2 < (rd l0 x18_2) then(rd l0 x18_2) else x16_2)=ji65:=hji65
             obtain⟨ji66,hji66⟩:∃ j_:Int,(wrap64 ((wrap64 ((l0.length:Int) - 1)) - x18_2))=j_:=⟨_,rfl⟩;replace H:(if 0≤(ji66) then(if(ji66) < (l0.length:Int) then(if x17_2.length < 17592186044416 then(papermilllaw60_StatsBounds.l0 k2 l0 a1 a2 t780 t782 t784 x13_2 x14_2 true ji65 (x17_2 ++ [rd l0 (ji66)]) (wrap64 (x18_2+1))) else(none)) else(none)) else(none))=some r:=by first|(rw[hji66] at H;exact H)|(simp only[hji66] at H ⊢;exact H)
             have hji66w:(IntKind.i64.wrap ((wrap64 ((l0.length:Int) - 1)) - x18_2))=ji66:=(i64_w _).trans hji66;by_cases c67:0≤(ji66)
             ·rw[if_pos c67] at H;have c67b0:decide (0≤(ji66))=true:=dE c67;clear c67;by_cases c68:(ji66) < (l0.length:Int)
              ·rw[if_pos c68] at H;have c68b0:decide ((ji66) < (l0.length:Int))=true:=dE c68;clear c68;by_cases c69:x17_2.length < 17592186044416
               ·rw[if_pos c69] at H;have LMc69:=aM c69;clear c69;obtain⟨y826,hy826⟩:∃ y_:List Int,y_=(x17_2 ++ [rd l0 (ji66)]):=⟨_,rfl⟩;replace H:(papermilllaw60_StatsBounds.l0 k2 l0 a1 a2 t780 t782 t784 x13_2 x14_2 true ji65 y826 (wrap64 (x18_2+1)))=some r:=by first|(rw[hy826];with_reducible exact H)|(have H2_:=(Option.bind_some _ _).symm.trans H;rw[hy826];with_reducible exact H2_)|(have H2_:=(Option.bind_some _ _).symm.trans H;with_reducible exact H2_)|with_reducible exact H|(rw[hy826];exact H)|exact H
                have Ny826:=aM hy826;clear hy826;have H':=aM H;clear H;have p788:0≤(x18_2:Int):=oE aS
                have q788:x18_2 < (l0.length:Int):=oE aS
                obtain⟨ad788,e788,hx788_0⟩:=Kd.at_int HR0.out x18_2 p788 q788;obtain rfl:ad787=ad788:=(by injection e788)
                replace hx788_0:=(HB.out.cell (World.block_lt_of_cell? w _ hx788_0)).trans hx788_0;replace p788:=eq_true p788;replace q788:=eq_true q788;have p812:0≤(x18_2:Int):=oE aS
                have q812:x18_2 < (l0.length:Int):=oE aS
                obtain⟨ad812,e812,hx812_0⟩:=Kd.at_int HR0.out x18_2 p812 q812;obtain rfl:ad787=ad812:=(by injection e812)
                replace hx812_0:=(HB.out.cell (World.block_lt_of_cell? w _ hx812_0)).trans hx812_0;replace p812:=eq_true p812;replace q812:=eq_true q812;have p824:0≤(x18_2:Int):=oE aS
                have q824:x18_2 < (l0.length:Int):=oE aS
                obtain⟨ad824,e824,hx824_0⟩:=Kd.at_int HR0.out x18_2 p824 q824;obtain rfl:ad787=ad824:=(by injection e824)
                replace hx824_0:=(HB.out.cell (World.block_lt_of_cell? w _ hx824_0)).trans hx824_0;replace p824:=eq_true p824;replace q824:=eq_true q824;have p825:0≤((ji66):Int):=oE aS
                have q825:(ji66) < (l0.length:Int):=oE aS
                obtain⟨ad825,e825,hx825_0⟩:=Kd.at_int HR0.out (ji66) p825 q825;obtain rfl:ad787=ad825:=(by injection e825)
                replace hx825_0:=(HB.out.cell (World.block_lt_of_cell? w _ hx825_0)).trans hx825_0;replace p825:=eq_true p825;replace q825:=eq_true q825;have fl_:True:=trivial;repeat((first|clear fl_|go_quiet (first|((with_reducible refine gate_builtin (b:=.append) (xs:=#[.tmp 93,.tmp 102]) rfl ?_);(try(refine gate_guard (by rfl) ?_;dsimp only));at_builtin;refine Kd.R_append (Kd.int .i64) (w0:=w) w.heap.size rfl (.tmp 93) (.tmp 102) 22 3 (.int .i64 0) 8 rfl Try.underlying22 info3 rfl (by decide) (by omega) u17 x17_2 (rd l0 (ji66)) [.int .i64 (rd l0 (ji66))] (fun _=>True) (fun _=>False) rfl rfl ?aP (fun _ hk=>hk.elim) ?aF ?aO ?aB ?aS ?aL ?_;(case aP=>exact rfl);(case aB=>exact pB);(case aF=>exact(fun _ _=>trivial));(case aO=>exact(rX HO_17.out));(case aS=>exact(below_size pB));(case aL=>have:=LMc69.out;omega);intro v827 w70 ho hb hg hat;rw[← Ny826.out] at ho;have HO828:=aM (ho);replace HB:=aM (hb);clear HO_17;clear ho hb hg hat)));go_wp2_with (first|((with_reducible refine gate_builtin (b:=.append) (xs:=#[.tmp 93,.tmp 102]) rfl ?_);(try(refine gate_guard (by rfl) ?_;dsimp only));at_builtin;refine Kd.R_append (Kd.int .i64) (w0:=w) w.heap.size rfl (.tmp 93) (.tmp 102) 22 3 (.int .i64 0) 8 rfl Try.underlying22 info3 rfl (by decide) (by omega) u17 x17_2 (rd l0 (ji66)) [.int .i64 (rd l0 (ji66))] (fun _=>True) (fun _=>False) rfl rfl ?aP (fun _ hk=>hk.elim) ?aF ?aO ?aB ?aS ?aL ?_;(case aP=>exact rfl);(case aB=>exact pB);(case aF=>exact(fun _ _=>trivial));(case aO=>exact(rX HO_17.out));(case aS=>exact(below_size pB));(case aL=>have:=LMc69.out;omega);intro v827 w70 ho hb hg hat;rw[← Ny826.out] at ho;have HO828:=aM (ho);replace HB:=aM (hb);clear HO_17;clear ho hb hg hat)))
                go_roundg k2
                case measure=>have:=HJ9.out;have:=HK2.out;omega
                case rel=>exact⟨(x13_2),(x14_2),(true),(ji65),(y826),(wrap64 (x18_2+1)),sD,sD,sD,(by first|rfl|(simp;done)|(simp only[← hji65] <;> (first|rfl|simp))|(simp [*];done)),sD,H',⟨by have:=HJ9.out;have:=HK2.out;omega⟩,⟨rX HO828.out⟩,⟨pB⟩⟩
               ·rw[if_neg c69] at H;exact absurd H (by simp)
              ·rw[if_neg c68] at H;exact absurd H (by simp)
             ·rw[if_neg c67] at H;exact absurd H (by simp)
            ·replace c64:=Bool.eq_false_iff.mpr c64;subst c64;rw[if_neg (show ¬ (false=true) by decide)] at H
             obtain⟨ji71,hji71⟩:∃ j_:Int,(mx x16_2 (rd l0 x18_2))=j_:=⟨_,rfl⟩;replace H:(if 0≤(wrap64 ((wrap64 ((l0.length:Int) - 1)) - x18_2)) then(if(wrap64 ((wrap64 ((l0.length:Int) - 1)) - x18_2)) < (l0.length:Int) then(if x17_2.length < 17592186044416 then(papermilllaw60_StatsBounds.l0 k2 l0 a1 a2 t780 t782 t784 x13_2 x14_2 ((rd l0 x18_2) == t780) ji71 (x17_2 ++ [rd l0 (wrap64 ((wrap64 ((l0.length:Int) - 1)) - x18_2))]) (wrap64 (x18_2+1))) else(none)) else(none)) else(none))=some r:=by first|(rw[hji71] at H;exact H)|(simp only[hji71] at H ⊢;exact H)
             have hji71_:(if x16_2 < (rd l0 x18_2) then(rd l0 x18_2) else x16_2)=ji71:=hji71
             obtain⟨ji72,hji72⟩:∃ j_:Int,(wrap64 ((wrap64 ((l0.length:Int) - 1)) - x18_2))=j_:=⟨_,rfl⟩;replace H:(if 0≤(ji72) then(if(ji72) < (l0.length:Int) then(if x17_2.length < 17592186044416 then(papermilllaw60_StatsBounds.l0 k2 l0 a1 a2 t780 t782 t784 x13_2 x14_2 ((rd l0 x18_2) == t780) ji71 (x17_2 ++ [rd l0 (ji72)]) (wrap64 (x18_2+1))) else(none)) else(none)) else(none))=some r:=by first|(rw[hji72] at H;exact H)|(simp only[hji72] at H ⊢;exact H)
             have hji72w:(IntKind.i64.wrap ((wrap64 ((l0.length:Int) - 1)) - x18_2))=ji72:=(i64_w _).trans hji72;by_cases c73:0≤(ji72)
             ·rw[if_pos c73] at H;have c73b0:decide (0≤(ji72))=true:=dE c73;clear c73;by_cases c74:(ji72) < (l0.length:Int)
              ·rw[if_pos c74] at H;have c74b0:decide ((ji72) < (l0.length:Int))=true:=dE c74;clear c74;by_cases c75:x17_2.length < 17592186044416
               ·rw[if_pos c75] at H;have LMc75:=aM c75;clear c75;obtain⟨y832,hy832⟩:∃ y_:List Int,y_=(x17_2 ++ [rd l0 (ji72)]):=⟨_,rfl⟩;replace H:(papermilllaw60_StatsBounds.l0 k2 l0 a1 a2 t780 t782 t784 x13_2 x14_2 ((rd l0 x18_2) == t780) ji71 y832 (wrap64 (x18_2+1)))=some r:=by first|(rw[hy832];with_reducible exact H)|(have H2_:=(Option.bind_some _ _).symm.trans H;rw[hy832];with_reducible exact H2_)|(have H2_:=(Option.bind_some _ _).symm.trans H;with_reducible exact H2_)|with_reducible exact H|(rw[hy832];exact H)|exact H
                have Ny832:=aM hy832;clear hy832;have H':=aM H;clear H;have p788:0≤(x18_2:Int):=oE aS
                have q788:x18_2 < (l0.length:Int):=oE aS
                obtain⟨ad788,e788,hx788_0⟩:=Kd.at_int HR0.out x18_2 p788 q788;obtain rfl:ad787=ad788:=(by injection e788)
                replace hx788_0:=(HB.out.cell (World.block_lt_of_cell? w _ hx788_0)).trans hx788_0;replace p788:=eq_true p788;replace q788:=eq_true q788;have p812:0≤(x18_2:Int):=oE aS
                have q812:x18_2 < (l0.length:Int):=oE aS
                obtain⟨ad812,e812,hx812_0⟩:=Kd.at_int HR0.out x18_2 p812 q812;obtain rfl:ad787=ad812:=(by injection e812)
                replace hx812_0:=(HB.out.cell (World.block_lt_of_cell? w _ hx812_0)).trans hx812_0;replace p812:=eq_true p812;replace q812:=eq_true q812;have p829:0≤(x18_2:Int):=oE aS
                have q829:x18_2 < (l0.length:Int):=oE aS
                obtain⟨ad829,e829,hx829_0⟩:=Kd.at_int HR0.out x18_2 p829 q829;obtain rfl:ad787=ad829:=(by injection e829)
                replace hx829_0:=(HB.out.cell (World.block_lt_of_cell? w _ hx829_0)).trans hx829_0;replace p829:=eq_true p829;replace q829:=eq_true q829;have p830:0≤(x18_2:Int):=oE aS
                have q830:x18_2 < (l0.length:Int):=oE aS
                obtain⟨ad830,e830,hx830_0⟩:=Kd.at_int HR0.out x18_2 p830 q830;obtain rfl:ad787=ad830:=(by injection e830)
                replace hx830_0:=(HB.out.cell (World.block_lt_of_cell? w _ hx830_0)).trans hx830_0;replace p830:=eq_true p830;replace q830:=eq_true q830;have p831:0≤((ji72):Int):=oE aS
                have q831:(ji72) < (l0.length:Int):=oE aS
                obtain⟨ad831,e831,hx831_0⟩:=Kd.at_int HR0.out (ji72) p831 q831;obtain rfl:ad787=ad831:=(by injection e831)
                replace hx831_0:=(HB.out.cell (World.block_lt_of_cell? w _ hx831_0)).trans hx831_0;replace p831:=eq_true p831;replace q831:=eq_true q831;have fl_:True:=trivial;repeat((first|clear fl_|go_quiet (first|((with_reducible refine gate_builtin (b:=.append) (xs:=#[.tmp 93,.tmp 102]) rfl ?_);(try(refine gate_guard (by rfl) ?_;dsimp only));at_builtin;refine Kd.R_append (Kd.int .i64) (w0:=w) w.heap.size rfl (.tmp 93) (.tmp 102) 22 3 (.int .i64 0) 8 rfl Try.underlying22 info3 rfl (by decide) (by omega) u17 x17_2 (rd l0 (ji72)) [.int .i64 (rd l0 (ji72))] (fun _=>True) (fun _=>False) rfl rfl ?aP (fun _ hk=>hk.elim) ?aF ?aO ?aB ?aS ?aL ?_;(case aP=>exact rfl);(case aB=>exact pB);(case aF=>exact(fun _ _=>trivial));(case aO=>exact(rX HO_17.out));(case aS=>exact(below_size pB));(case aL=>have:=LMc75.out;omega);intro v833 w76 ho hb hg hat;rw[← Ny832.out] at ho;have HO834:=aM (ho);replace HB:=aM (hb);clear HO_17;clear ho hb hg hat)));go_wp2_with (first|((with_reducible refine gate_builtin (b:=.append) (xs:=#[.tmp 93,.tmp 102]) rfl ?_);(try(refine gate_guard (by rfl) ?_;dsimp only));at_builtin;refine Kd.R_append (Kd.int .i64) (w0:=w) w.heap.size rfl (.tmp 93) (.tmp 102) 22 3 (.int .i64 0) 8 rfl Try.underlying22 info3 rfl (by decide) (by omega) u17 x17_2 (rd l0 (ji72)) [.int .i64 (rd l0 (ji72))] (fun _=>True) (fun _=>False) rfl rfl ?aP (fun _ hk=>hk.elim) ?aF ?aO ?aB ?aS ?aL ?_;(case aP=>exact rfl);(case aB=>exact pB);(case aF=>exact(fun _ _=>trivial));(case aO=>exact(rX HO_17.out));(case aS=>exact(below_size pB));(case aL=>have:=LMc75.out;omega);intro v833 w76 ho hb hg hat;rw[← Ny832.out] at ho;have HO834:=aM (ho);replace HB:=aM (hb);clear HO_17;clear ho hb hg hat)))
                go_roundg k2
                case measure=>have:=HJ9.out;have:=HK2.out;omega
                case rel=>exact⟨(x13_2),(x14_2),(((rd l0 x18_2) == t780)),(ji71),(y832),(wrap64 (x18_2+1)),sD,sD,sD,(by first|rfl|(simp;done)|(simp only[← hji71] <;> (first|rfl|simp))|(simp [*];done)),sD,H',⟨by have:=HJ9.out;have:=HK2.out;omega⟩,⟨rX HO834.out⟩,⟨pB⟩⟩
               ·rw[if_neg c75] at H;exact absurd H (by simp)
              ·rw[if_neg c74] at H;exact absurd H (by simp)
             ·rw[if_neg c73] at H;exact absurd H (by simp)
         ·rw[if_neg c21] at H;exact absurd H (by simp)
        ·rw[if_neg c20] at H;have c20b0:decide (x18_2 < (l0.length:Int))=false:=decide_eq_false c20;clear c20;replace H:=bS H;obtain⟨⟨t835,t836⟩,A770,H⟩:=H;(try dsimp only at H);have A77:=aM A770;clear A770;by_cases c78:x15_2=true
         ·subst c78;rw[if_pos rfl] at H;by_cases c79:(wrap64 (1000 * x13_2)) < (wrap64 (a1 * (l0.length:Int)))
          ·rw[if_pos c79] at H;exact absurd H (by simp)
          ·rw[if_neg c79] at H;have c79b0:decide ((wrap64 (1000 * x13_2)) < (wrap64 (a1 * (l0.length:Int))))=false:=decide_eq_false c79;have c79b0w:decide ((IntKind.i64.wrap (1000 * x13_2)) < (IntKind.i64.wrap (a1 * (l0.length:Int))))=false:=by have h_:=c79b0;first|exact h_|(simp only[i64_w];exact h_)
           clear c79;by_cases c80:(wrap64 (1000 * x14_2))≥(wrap64 (a1 * (l0.length:Int)))
           ·rw[if_pos c80] at H;exact absurd H (by simp)
           ·rw[if_neg c80] at H;have c80b0:decide ((wrap64 (a1 * (l0.length:Int)))≤(wrap64 (1000 * x14_2)))=false:=decide_eq_false c80;have c80b0w:decide ((IntKind.i64.wrap (a1 * (l0.length:Int)))≤(IntKind.i64.wrap (1000 * x14_2)))=false:=by have h_:=c80b0;first|exact h_|(simp only[i64_w];exact h_)
            clear c80;by_cases c81:t784=x16_2
            ·rw[if_pos c81] at H;have c81b0:(t784 == x16_2)=true:=beq_iff_eq.mpr c81;have c81b1:(t784 != x16_2)=false:=bne_eq_false_iff_eq.mpr c81;clear c81;by_cases c82:t836=0
             ·rw[if_pos c82] at H;have c82b0:(t836 == 0)=true:=beq_iff_eq.mpr c82;have c82b1:(t836 != 0)=false:=bne_eq_false_iff_eq.mpr c82;clear c82;by_cases c83:t835=t780
              ·rw[if_pos c83] at H;have c83b0:(t835 == t780)=true:=beq_iff_eq.mpr c83;have c83b1:(t835 != t780)=false:=bne_eq_false_iff_eq.mpr c83;clear c83;by_cases c84:a1 > a2
               ·rw[if_pos c84] at H;have c84b0:decide (a2 < a1)=true:=dE c84;clear c84;by_cases c85:a1 < a2
                ·rw[if_pos c85] at H;have c85b0:decide (a1 < a2)=true:=dE c85;clear c85;replace H:=bS H;obtain⟨t837,A860,H⟩:=H;replace H:(some t837)=some r:=H;have A86:=aM A860;clear A860;obtain rfl:=Option.some.inj H;obtain⟨Ao87,co87,eo87⟩:=Kd.R_slice HO_17.out;subst eo87;have fl_:True:=trivial;repeat((first|clear fl_|go_quiet (first|(go_at_call 11;(with_reducible refine(Azb.calls k2 _ _ x17_2 a1 t835 t836 _ ?side1 ?side2 A77.out).mono ?_);(case side1=>repeat(first|exact(Kd.R_reads' HO_17.out).2.2|(with_reducible refine Kd.C_alloc ?_ _)|(with_reducible refine Kd.C_drewN ?_ _)|(with_reducible refine Kd.C_drew ?_)));(case side2=>exact(Kd.R_reads' HO_17.out).2.1);rintro e w88 ⟨rfl,hb⟩;replace HO_17:=aM (Kd.R_below (rX HO_17.out) hb);replace HB:=aM (below_step pB hb);(try clear hb);(try clear hb2);(try clear hk);(try clear hi))|(go_at_call 10;(with_reducible refine(Azz.calls k2  t837 _ A86.out).mono ?_);rintro e w89 ⟨rfl,hb⟩;replace HO_17:=aM (Kd.R_below (rX HO_17.out) hb);replace HB:=aM (below_step pB hb);(try clear hb);(try clear hb2);(try clear hk);(try clear hi))));go_wp2_with (first|(go_at_call 11;(with_reducible refine(Azb.calls k2 _ _ x17_2 a1 t835 t836 _ ?side1 ?side2 A77.out).mono ?_);(case side1=>repeat(first|exact(Kd.R_reads' HO_17.out).2.2|(with_reducible refine Kd.C_alloc ?_ _)|(with_reducible refine Kd.C_drewN ?_ _)|(with_reducible refine Kd.C_drew ?_)));(case side2=>exact(Kd.R_reads' HO_17.out).2.1);rintro e w88 ⟨rfl,hb⟩;replace HO_17:=aM (Kd.R_below (rX HO_17.out) hb);replace HB:=aM (below_step pB hb);(try clear hb);(try clear hb2);(try clear hk);(try clear hi))|(go_at_call 10;(with_reducible refine(Azz.calls k2  t837 _ A86.out).mono ?_);rintro e w89 ⟨rfl,hb⟩;replace HO_17:=aM (Kd.R_below (rX HO_17.out) hb);replace HB:=aM (below_step pB hb);(try clear hb);(try clear hb2);(try clear hk);(try clear hi))))
                 go_ret
                 exact⟨eW,pB⟩
                ·rw[if_neg c85] at H;have c85b0:decide (a1 < a2)=false:=decide_eq_false c85;clear c85;by_cases c90:t780≥t782
                 ·rw[if_pos c90] at H;have c90b0:decide (t782≤t780)=true:=dE c90;clear c90;replace H:=bS H;obtain⟨t838,A910,H⟩:=H;replace H:(some t838)=some r:=H;have A91:=aM A910;clear A910;obtain rfl:=Option.some.inj H;obtain⟨Ao92,co92,eo92⟩:=Kd.R_slice HO_17.out;subst eo92;have fl_:True:=trivial;repeat((first|clear fl_|go_quiet (first|(go_at_call 11;(with_reducible refine(Azb.calls k2 _ _ x17_2 a1 t835 t836 _ ?side1 ?side2 A77.out).mono ?_);(case side1=>repeat(first|exact(Kd.R_reads' HO_17.out).2.2|(with_reducible refine Kd.C_alloc ?_ _)|(with_reducible refine Kd.C_drewN ?_ _)|(with_reducible refine Kd.C_drew ?_)));(case side2=>exact(Kd.R_reads' HO_17.out).2.1);rintro e w93 ⟨rfl,hb⟩;replace HO_17:=aM (Kd.R_below (rX HO_17.out) hb);replace HB:=aM (below_step pB hb);(try clear hb);(try clear hb2);(try clear hk);(try clear hi))|(go_at_call 10;(with_reducible refine(Azz.calls k2  t838 _ A91.out).mono ?_);rintro e w94 ⟨rfl,hb⟩;replace HO_17:=aM (Kd.R_below (rX HO_17.out) hb);replace HB:=aM (below_step pB hb);(try clear hb);(try clear hb2);(try clear hk);(try clear hi))));go_wp2_with (first|(go_at_call 11;(with_reducible refine(Azb.calls k2 _ _ x17_2 a1 t835 t836 _ ?side1 ?side2 A77.out).mono ?_);(case side1=>repeat(first|exact(Kd.R_reads' HO_17.out).2.2|(with_reducible refine Kd.C_alloc ?_ _)|(with_reducible refine Kd.C_drewN ?_ _)|(with_reducible refine Kd.C_drew ?_)));(case side2=>exact(Kd.R_reads' HO_17.out).2.1);rintro e w93 ⟨rfl,hb⟩;replace HO_17:=aM (Kd.R_below (rX HO_17.out) hb);replace HB:=aM (below_step pB hb);(try clear hb);(try clear hb2);(try clear hk);(try clear hi))|(go_at_call 10;(with_reducible refine(Azz.calls k2  t838 _ A91.out).mono ?_);rintro e w94 ⟨rfl,hb⟩;replace HO_17:=aM (Kd.R_below (rX HO_17.out) hb);replace HB:=aM (below_step pB hb);(try clear hb);(try clear hb2);(try clear hk);(try clear hi))))
                  go_ret
                  exact⟨eW,pB⟩
                 ·rw[if_neg c90] at H;exact absurd H (by simp)
               ·rw[if_neg c84] at H;have c84b0:decide (a2 < a1)=false:=decide_eq_false c84;clear c84;by_cases c95:t780≤t782
                ·rw[if_pos c95] at H;have c95b0:decide (t780≤t782)=true:=dE c95;clear c95;by_cases c96:a1 < a2
                 ·rw[if_pos c96] at H;have c96b0:decide (a1 < a2)=true:=dE c96;clear c96;replace H:=bS H;obtain⟨t839,A970,H⟩:=H;replace H:(some t839)=some r:=H;have A97:=aM A970;clear A970;obtain rfl:=Option.some.inj H;obtain⟨Ao98,co98,eo98⟩:=Kd.R_slice HO_17.out;subst eo98;have fl_:True:=trivial;repeat((first|clear fl_|go_quiet (first|(go_at_call 11;(with_reducible refine(Azb.calls k2 _ _ x17_2 a1 t835 t836 _ ?side1 ?side2 A77.out).mono ?_);(case side1=>repeat(first|exact(Kd.R_reads' HO_17.out).2.2|(with_reducible refine Kd.C_alloc ?_ _)|(with_reducible refine Kd.C_drewN ?_ _)|(with_reducible refine Kd.C_drew ?_)));(case side2=>exact(Kd.R_reads' HO_17.out).2.1);rintro e w99 ⟨rfl,hb⟩;replace HO_17:=aM (Kd.R_below (rX HO_17.out) hb);replace HB:=aM (below_step pB hb);(try clear hb);(try clear hb2);(try clear hk);(try clear hi))|(go_at_call 10;(with_reducible refine(Azz.calls k2  t839 _ A97.out).mono ?_);rintro e w100 ⟨rfl,hb⟩;replace HO_17:=aM (Kd.R_below (rX HO_17.out) hb);replace HB:=aM (below_step pB hb);(try clear hb);(try clear hb2);(try clear hk);(try clear hi))));go_wp2_with (first|(go_at_call 11;(with_reducible refine(Azb.calls k2 _ _ x17_2 a1 t835 t836 _ ?side1 ?side2 A77.out).mono ?_);(case side1=>repeat(first|exact(Kd.R_reads' HO_17.out).2.2|(with_reducible refine Kd.C_alloc ?_ _)|(with_reducible refine Kd.C_drewN ?_ _)|(with_reducible refine Kd.C_drew ?_)));(case side2=>exact(Kd.R_reads' HO_17.out).2.1);rintro e w99 ⟨rfl,hb⟩;replace HO_17:=aM (Kd.R_below (rX HO_17.out) hb);replace HB:=aM (below_step pB hb);(try clear hb);(try clear hb2);(try clear hk);(try clear hi))|(go_at_call 10;(with_reducible refine(Azz.calls k2  t839 _ A97.out).mono ?_);rintro e w100 ⟨rfl,hb⟩;replace HO_17:=aM (Kd.R_below (rX HO_17.out) hb);replace HB:=aM (below_step pB hb);(try clear hb);(try clear hb2);(try clear hk);(try clear hi))))
                  go_ret
                  exact⟨eW,pB⟩
                 ·rw[if_neg c96] at H;have c96b0:decide (a1 < a2)=false:=decide_eq_false c96;clear c96;by_cases c101:t780≥t782
                  ·rw[if_pos c101] at H;have c101b0:decide (t782≤t780)=true:=dE c101;clear c101;replace H:=bS H;obtain⟨t840,A1020,H⟩:=H;replace H:(some t840)=some r:=H;have A102:=aM A1020;clear A1020;obtain rfl:=Option.some.inj H;obtain⟨Ao103,co103,eo103⟩:=Kd.R_slice HO_17.out;subst eo103;have fl_:True:=trivial;repeat((first|clear fl_|go_quiet (first|(go_at_call 11;(with_reducible refine(Azb.calls k2 _ _ x17_2 a1 t835 t836 _ ?side1 ?side2 A77.out).mono ?_);(case side1=>repeat(first|exact(Kd.R_reads' HO_17.out).2.2|(with_reducible refine Kd.C_alloc ?_ _)|(with_reducible refine Kd.C_drewN ?_ _)|(with_reducible refine Kd.C_drew ?_)));(case side2=>exact(Kd.R_reads' HO_17.out).2.1);rintro e w104 ⟨rfl,hb⟩;replace HO_17:=aM (Kd.R_below (rX HO_17.out) hb);replace HB:=aM (below_step pB hb);(try clear hb);(try clear hb2);(try clear hk);(try clear hi))|(go_at_call 10;(with_reducible refine(Azz.calls k2  t840 _ A102.out).mono ?_);rintro e w105 ⟨rfl,hb⟩;replace HO_17:=aM (Kd.R_below (rX HO_17.out) hb);replace HB:=aM (below_step pB hb);(try clear hb);(try clear hb2);(try clear hk);(try clear hi))));go_wp2_with (first|(go_at_call 11;(with_reducible refine(Azb.calls k2 _ _ x17_2 a1 t835 t836 _ ?side1 ?side2 A77.out).mono ?_);(case side1=>repeat(first|exact(Kd.R_reads' HO_17.out).2.2|(with_reducible refine Kd.C_alloc ?_ _)|(with_reducible refine Kd.C_drewN ?_ _)|(with_reducible refine Kd.C_drew ?_)));(case side2=>exact(Kd.R_reads' HO_17.out).2.1);rintro e w104 ⟨rfl,hb⟩;replace HO_17:=aM (Kd.R_below (rX HO_17.out) hb);replace HB:=aM (below_step pB hb);(try clear hb);(try clear hb2);(try clear hk);(try clear hi))|(go_at_call 10;(with_reducible refine(Azz.calls k2  t840 _ A102.out).mono ?_);rintro e w105 ⟨rfl,hb⟩;replace HO_17:=aM (Kd.R_below (rX HO_17.out) hb);replace HB:=aM (below_step pB hb);(try clear hb);(try clear hb2);(try clear hk);(try clear hi))))
                   go_ret
                   exact⟨eW,pB⟩
                  ·rw[if_neg c101] at H;exact absurd H (by simp)
                ·rw[if_neg c95] at H;exact absurd H (by simp)
              ·rw[if_neg c83] at H;exact absurd H (by simp)
             ·rw[if_neg c82] at H;exact absurd H (by simp)
            ·rw[if_neg c81] at H;exact absurd H (by simp)
         ·replace c78:=Bool.eq_false_iff.mpr c78;subst c78;rw[if_neg (show ¬ (false=true) by decide)] at H
          exact absurd H (by simp)
     ·rw[if_neg c19] at H;exact absurd H (by simp)

/-- THE ONE PURE STATEMENT of papermilllaw60_StatsBounds: yours. -/
def papermilllaw60_StatsBounds.Pure:Prop:=∀ (l0:List Int) (a1:Int) (a2:Int),l0.length≤maxLen→l0.length * 8≤140737488351232→(∀ x ∈ l0,(Lit.int .i64 x).wf=true)→(Lit.int .i64 a1).wf=true→(Lit.int .i64 a2).wf=true→∃ k,papermilllaw60_StatsBounds.f k l0 a1 a2=some true
theorem papermilllaw60_StatsBounds.walk (P:papermilllaw60_StatsBounds.Pure) (a0:Option Addr) (len0 cap0:Nat) (z0:List Int) (a1:Int) (a2:Int) (w:World) (w0:(a0=none∧len0=0∧cap0=0∧z0=[])∨∃ x,a0=some x∧len0≤cap0∧cap0≤maxLen∧z0.length=cap0∧(∀ i,i < z0.length→w.cell? (x.add i)=some (.int .i64 (z0.getD i 0)))∧∀ n ∈ z0,(Lit.int .i64 n).wf=true) (y0:len0 * 8≤140737488351232) (w1:(Lit.int .i64 a1).wf=true) (w2:(Lit.int .i64 a2).wf=true) :
  Calls Try.prog 5 #[.slice a0 len0 cap0,.int .i64 a1,.int .i64 a2] w fun e w'=>e=.returned (.bool true)∧Below w.heap.size w w':=by
 obtain⟨l0,rfl,hr0,hm0,hw0,hc0⟩:=ReadsInt.ofRowC w0;obtain⟨k,h⟩:=P l0 a1 a2 hm0 y0 hw0 w1 w2;refine(papermilllaw60_StatsBounds.calls k _ _ l0 a1 a2 true w (Kd.C_of_reads (d:=(0:Int)) (h1:=fun _=>rfl) hr0) hc0 h).mono ?_
 rintro e w' ⟨rfl,hd⟩;exact⟨rfl,hd⟩

end Go.Proofs.Ytokkiljkgejnhaa.Print
