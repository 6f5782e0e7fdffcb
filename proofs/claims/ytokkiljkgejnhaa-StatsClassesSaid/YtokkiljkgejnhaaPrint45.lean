import Derived.Test.YtokkiljkgejnhaaPrint0
import Derived.Test.YtokkiljkgejnhaaPrint12
import Derived.Test.YtokkiljkgejnhaaPrint14
import Derived.Test.YtokkiljkgejnhaaPrint37
namespace Go.Proofs.Ytokkiljkgejnhaa.Print
open Go.RowKit Go.Proofs.YtokkiljkgejnhaaW.PrintWords Go.Proofs.YtokkiljkgejnhaaW.PrintLast Go.Proofs.YtokkiljkgejnhaaW.PrintMore
attribute [local go_sem] max2_int min2_int max_two min_two max_three min_three max_four min_four
set_option linter.unusedVariables false
set_option maxRecDepth 100000
set_option linter.unusedSimpArgs false

mutual
def papermilllaw60_StatsClasses.j0:Nat→List Int→List Int→Int→Bool→Option (Bool)
 | 0,_,_,_,_=>none
 | k+1,x0,x1,x2,x23=>if x23=true then((Azz.f k).bind fun t841=>(some t841)) else((Azv.f k x0 x1).bind fun bt842=>(if bt842.2=0 then(if(x1.length:Int) < 2 then(papermilllaw60_StatsClasses.j1 k x0 x1 x2 bt842.1 true) else(papermilllaw60_StatsClasses.j1 k x0 x1 x2 bt842.1 ((bt842.1.length:Int) != (wrap64 ((x1.length:Int) - 1))))) else(if(bt842.1.length:Int)=0 then((Azz.f k).bind fun t846=>(some t846)) else(none))))
def papermilllaw60_StatsClasses.j1:Nat→List Int→List Int→Int→List Int→Bool→Option (Bool)
 | 0,_,_,_,_,_=>none
 | k+1,x0,x1,x2,x7,x49=>if x49=true then(none) else(papermilllaw60_StatsClasses.l0 k x0 x1 x2 x7 0 0)
def papermilllaw60_StatsClasses.l0:Nat→List Int→List Int→Int→List Int→Int→Int→Option (Bool)
 | 0,_,_,_,_,_,_=>none
 | k+1,x0,x1,x2,x7,x9,x10=>if x10 < (x7.length:Int) then(if 0≤x10 then(papermilllaw60_StatsClasses.l0 k x0 x1 x2 x7 (wrap64 (x9+(rd x7 x10))) (wrap64 (x10+1))) else(none)) else(papermilllaw60_StatsClasses.l1 k x0 x1 x2 x7 x9 0)
def papermilllaw60_StatsClasses.l1:Nat→List Int→List Int→Int→List Int→Int→Int→Option (Bool)
 | 0,_,_,_,_,_,_=>none
 | k+1,x0,x1,x2,x7,x9,x11=>if x11 < (x0.length:Int) then(if 0 < (x1.length:Int) then(if 0≤x11 then(if(rd x1 0)≤(rd x0 x11) then(if 0≤(wrap64 ((x1.length:Int) - 1)) then(if(wrap64 ((x1.length:Int) - 1)) < (x1.length:Int) then(if(rd x0 x11) < (rd x1 (wrap64 ((x1.length:Int) - 1))) then(papermilllaw60_StatsClasses.l1 k x0 x1 x2 x7 (wrap64 (x9 - 1)) (wrap64 (x11+1))) else(papermilllaw60_StatsClasses.l1 k x0 x1 x2 x7 x9 (wrap64 (x11+1)))) else(none)) else(none)) else(papermilllaw60_StatsClasses.l1 k x0 x1 x2 x7 x9 (wrap64 (x11+1)))) else(none)) else(none)) else(if x9=0 then(if(x1.length:Int) < 3 then((Azz.f k).bind fun t852=>(some t852)) else(if(wrap64 ((x1.length:Int) - 2))=0 then(none) else(if 0≤(wrap64 (1+(Int.tmod (wrap64 (x2)) (wrap64 ((x1.length:Int) - 2))))) then(if(wrap64 (1+(Int.tmod (wrap64 (x2)) (wrap64 ((x1.length:Int) - 2)))))≤(x1.length:Int) then(if([]:List Int).length+(x1.take ((wrap64 (1+(Int.tmod (wrap64 (x2)) (wrap64 ((x1.length:Int) - 2))))):Int).toNat).length < 17592186044416 then((some (([]:List Int) ++ (x1.take ((wrap64 (1+(Int.tmod (wrap64 (x2)) (wrap64 ((x1.length:Int) - 2))))):Int).toNat):List Int)).bind fun y854=>(if 0≤(wrap64 ((wrap64 (1+(Int.tmod (wrap64 (x2)) (wrap64 ((x1.length:Int) - 2)))))+1)) then(if(wrap64 ((wrap64 (1+(Int.tmod (wrap64 (x2)) (wrap64 ((x1.length:Int) - 2)))))+1))≤(x1.length:Int) then(if y854.length+(x1.drop ((wrap64 ((wrap64 (1+(Int.tmod (wrap64 (x2)) (wrap64 ((x1.length:Int) - 2)))))+1)):Int).toNat).length < 17592186044416 then((Azv.f k x0 (y854 ++ (x1.drop ((wrap64 ((wrap64 (1+(Int.tmod (wrap64 (x2)) (wrap64 ((x1.length:Int) - 2)))))+1)):Int).toNat))).bind fun bt861=>(if bt861.2=0 then(if(bt861.1.length:Int)=(wrap64 ((x7.length:Int) - 1)) then(if 0≤(wrap64 ((wrap64 (1+(Int.tmod (wrap64 (x2)) (wrap64 ((x1.length:Int) - 2))))) - 1)) then(if(wrap64 ((wrap64 (1+(Int.tmod (wrap64 (x2)) (wrap64 ((x1.length:Int) - 2))))) - 1)) < (bt861.1.length:Int) then(if(wrap64 ((wrap64 (1+(Int.tmod (wrap64 (x2)) (wrap64 ((x1.length:Int) - 2))))) - 1)) < (x7.length:Int) then(if(wrap64 (1+(Int.tmod (wrap64 (x2)) (wrap64 ((x1.length:Int) - 2))))) < (x7.length:Int) then(papermilllaw60_StatsClasses.j4 k x7 (wrap64 (1+(Int.tmod (wrap64 (x2)) (wrap64 ((x1.length:Int) - 2))))) bt861.1 ((rd bt861.1 (wrap64 ((wrap64 (1+(Int.tmod (wrap64 (x2)) (wrap64 ((x1.length:Int) - 2))))) - 1))) != (wrap64 ((rd x7 (wrap64 ((wrap64 (1+(Int.tmod (wrap64 (x2)) (wrap64 ((x1.length:Int) - 2))))) - 1)))+(rd x7 (wrap64 (1+(Int.tmod (wrap64 (x2)) (wrap64 ((x1.length:Int) - 2)))))))))) else(none)) else(none)) else(none)) else(none)) else(papermilllaw60_StatsClasses.j4 k x7 (wrap64 (1+(Int.tmod (wrap64 (x2)) (wrap64 ((x1.length:Int) - 2))))) bt861.1 true)) else(papermilllaw60_StatsClasses.j4 k x7 (wrap64 (1+(Int.tmod (wrap64 (x2)) (wrap64 ((x1.length:Int) - 2))))) bt861.1 true))) else(none)) else(none)) else(none))) else(none)) else(none)) else(none)))) else(none))
def papermilllaw60_StatsClasses.j4:Nat→List Int→Int→List Int→Bool→Option (Bool)
 | 0,_,_,_,_=>none
 | k+1,x7,x12,x14,x148=>if x148=true then(none) else(if 0≤(wrap64 (x12 - 1)) then(if(wrap64 (x12 - 1))≤(x14.length:Int) then(if(wrap64 (x12 - 1))≤(x7.length:Int) then((Azy.f k (x14.take ((wrap64 (x12 - 1)):Int).toNat) (x7.take ((wrap64 (x12 - 1)):Int).toNat)).bind fun t876=>(if t876=true then(if 0≤x12 then(if x12≤(x14.length:Int) then(if 0≤(wrap64 (x12+1)) then(if(wrap64 (x12+1))≤(x7.length:Int) then((Azy.f k (x14.drop (x12:Int).toNat) (x7.drop ((wrap64 (x12+1)):Int).toNat)).bind fun t885=>(if t885=true then((Azz.f k).bind fun t886=>(some t886)) else(none))) else(none)) else(none)) else(none)) else(none)) else(none))) else(none)) else(none)) else(none))
end
def papermilllaw60_StatsClasses.f (k:Nat) (l0:List Int) (l1:List Int) (a2:Int):Option (Bool):=if(l0.length:Int) > 520 then(papermilllaw60_StatsClasses.j0 k l0 l1 a2 true) else(papermilllaw60_StatsClasses.j0 k l0 l1 a2 (decide ((l1.length:Int) > 64)))
theorem papermilllaw60_StatsClasses.mono_l:∀ k,(∀ y0 y1 y2 y3,LeO (papermilllaw60_StatsClasses.j0 k y0 y1 y2 y3) (papermilllaw60_StatsClasses.j0 (k+1) y0 y1 y2 y3))∧(∀ y0 y1 y2 y3 y4,LeO (papermilllaw60_StatsClasses.j1 k y0 y1 y2 y3 y4) (papermilllaw60_StatsClasses.j1 (k+1) y0 y1 y2 y3 y4))∧(∀ y0 y1 y2 y3 y4 y5,LeO (papermilllaw60_StatsClasses.l0 k y0 y1 y2 y3 y4 y5) (papermilllaw60_StatsClasses.l0 (k+1) y0 y1 y2 y3 y4 y5))∧(∀ y0 y1 y2 y3 y4 y5,LeO (papermilllaw60_StatsClasses.l1 k y0 y1 y2 y3 y4 y5) (papermilllaw60_StatsClasses.l1 (k+1) y0 y1 y2 y3 y4 y5))∧(∀ y0 y1 y2 y3,LeO (papermilllaw60_StatsClasses.j4 k y0 y1 y2 y3) (papermilllaw60_StatsClasses.j4 (k+1) y0 y1 y2 y3))
 | 0=>⟨fun _ _ _ _ r h=>by simp [papermilllaw60_StatsClasses.j0] at h,fun _ _ _ _ _ r h=>by simp [papermilllaw60_StatsClasses.j1] at h,fun _ _ _ _ _ _ r h=>by simp [papermilllaw60_StatsClasses.l0] at h,fun _ _ _ _ _ _ r h=>by simp [papermilllaw60_StatsClasses.l1] at h,fun _ _ _ _ r h=>by simp [papermilllaw60_StatsClasses.j4] at h⟩
 | k+1=>by
  obtain⟨ih0,ih1,ih2,ih3,ih4⟩:=papermilllaw60_StatsClasses.mono_l k;refine⟨?_,?_,?_,?_,?_⟩
  ·intro y0 y1 y2 y3;unfold papermilllaw60_StatsClasses.j0;with_reducible repeat' first|exact ih0 _ _ _ _|exact ih1 _ _ _ _ _|exact ih2 _ _ _ _ _ _|exact ih3 _ _ _ _ _ _|exact ih4 _ _ _ _|exact Azz.mono _|exact Azy.mono _ _ _|exact Azv.mono _ _ _|exact LeO.refl _|exact LeO.none _|refine LeO.ite ?_ ?_|refine LeO.bind ?_ (fun _=>?_)
  ·intro y0 y1 y2 y3 y4;unfold papermilllaw60_StatsClasses.j1;with_reducible repeat' first|exact ih0 _ _ _ _|exact ih1 _ _ _ _ _|exact ih2 _ _ _ _ _ _|exact ih3 _ _ _ _ _ _|exact ih4 _ _ _ _|exact Azz.mono _|exact Azy.mono _ _ _|exact Azv.mono _ _ _|exact LeO.refl _|exact LeO.none _|refine LeO.ite ?_ ?_|refine LeO.bind ?_ (fun _=>?_)
  ·intro y0 y1 y2 y3 y4 y5;unfold papermilllaw60_StatsClasses.l0;with_reducible repeat' first|exact ih0 _ _ _ _|exact ih1 _ _ _ _ _|exact ih2 _ _ _ _ _ _|exact ih3 _ _ _ _ _ _|exact ih4 _ _ _ _|exact Azz.mono _|exact Azy.mono _ _ _|exact Azv.mono _ _ _|exact LeO.refl _|exact LeO.none _|refine LeO.ite ?_ ?_|refine LeO.bind ?_ (fun _=>?_)
  ·intro y0 y1 y2 y3 y4 y5;unfold papermilllaw60_StatsClasses.l1;with_reducible repeat' first|exact ih0 _ _ _ _|exact ih1 _ _ _ _ _|exact ih2 _ _ _ _ _ _|exact ih3 _ _ _ _ _ _|exact ih4 _ _ _ _|exact Azz.mono _|exact Azy.mono _ _ _|exact Azv.mono _ _ _|exact LeO.refl _|exact LeO.none _|refine LeO.ite ?_ ?_|refine LeO.bind ?_ (fun _=>?_)
  ·intro y0 y1 y2 y3;unfold papermilllaw60_StatsClasses.j4;with_reducible repeat' first|exact ih0 _ _ _ _|exact ih1 _ _ _ _ _|exact ih2 _ _ _ _ _ _|exact ih3 _ _ _ _ _ _|exact ih4 _ _ _ _|exact Azz.mono _|exact Azy.mono _ _ _|exact Azv.mono _ _ _|exact LeO.refl _|exact LeO.none _|refine LeO.ite ?_ ?_|refine LeO.bind ?_ (fun _=>?_)
theorem papermilllaw60_StatsClasses.mono:∀ a0 a1 a2 k,LeO (papermilllaw60_StatsClasses.f k a0 a1 a2) (papermilllaw60_StatsClasses.f (k+1) a0 a1 a2):=by
 intro a0 a1 a2 k;obtain⟨ih0,ih1,ih2,ih3,ih4⟩:=papermilllaw60_StatsClasses.mono_l k;unfold papermilllaw60_StatsClasses.f;with_reducible repeat' first|exact ih0 _ _ _ _|exact ih1 _ _ _ _ _|exact ih2 _ _ _ _ _ _|exact ih3 _ _ _ _ _ _|exact ih4 _ _ _ _|exact Azz.mono _|exact Azy.mono _ _ _|exact Azv.mono _ _ _|exact LeO.refl _|exact LeO.none _|refine LeO.ite ?_ ?_|refine LeO.bind ?_ (fun _=>?_)
def papermilllaw60_StatsClasses.T16:Bool × List (List Nat × List Nat):=(true,[([],[]),([0],[0]),([1],[1]),([],[]),([],[]),([3,4],[3,4]),([5],[5]),([2,6],[2,6]),([7],[7]),([8],[8]),([8],[8]),([9,10,8],[8,9,10]),([11,8],[8,11]),([8],[8]),([8],[8]),([14,8],[8,14]),([15,8],[8,15]),([13,16,8],[8,13,16]),([17,8],[8,17]),([12,18,8],[8,12,18]),([8,19],[8,19])])
def papermilllaw60_StatsClasses.B16:List Nat:=[0,1,3,0,0,24,56,127,255,511,511,2047,4095,511,511,16895,49663,123391,254463,524287,1048575]
theorem papermilllaw60_StatsClasses.tab16:rtab .any (opsOf Try.f6 16)=papermilllaw60_StatsClasses.T16:=by kernel_rfl
theorem papermilllaw60_StatsClasses.bits16:waitsOk papermilllaw60_StatsClasses.T16.2 papermilllaw60_StatsClasses.B16=true:=by kernel_rfl
def papermilllaw60_StatsClasses.T27:Bool × List (List Nat × List Nat):=(true,[([],[]),([0],[0]),([1],[1]),([2],[2]),([3,2],[2,3]),([2],[2]),([5,2],[2,5]),([6,2],[2,6]),([4,7,2],[2,4,7]),([2,8],[2,8]),([9,2],[9]),([10],[10]),([10],[10]),([12,10],[10,12]),([11,13,10],[10,11,13]),([14,10],[10,14]),([10],[10]),([10],[10]),([17,10],[10,17]),([16,18,10],[10,16,18]),([19,10],[10,19]),([10],[10]),([10],[10]),([21,22,10],[10,21,22]),([23,10],[10,23]),([20,24,10],[10,20,24]),([15,25,10],[10,15,25]),([10,26],[10,26])])
def papermilllaw60_StatsClasses.B27:List Nat:=[0,1,3,7,15,7,39,103,255,511,1023,2047,2047,6143,16383,32767,2047,2047,133119,460799,985087,2047,2047,6293503,14682111,33490943,67108863,134217727]
theorem papermilllaw60_StatsClasses.tab27:rtab .any (opsOf Try.f6 27)=papermilllaw60_StatsClasses.T27:=by kernel_rfl
theorem papermilllaw60_StatsClasses.bits27:waitsOk papermilllaw60_StatsClasses.T27.2 papermilllaw60_StatsClasses.B27=true:=by kernel_rfl
def papermilllaw60_StatsClasses.T29:Bool × List (List Nat × List Nat):=(true,[([],[]),([],[]),([1],[1]),([0,2],[0,2]),([],[]),([],[]),([5],[5]),([4,6],[4,6]),([3,7],[3,7]),([8,8],[8]),([9],[9]),([9],[9]),([10,11,9],[9,10,11]),([9],[9]),([9],[9]),([14,9],[9,14]),([13,15,9],[9,13,15]),([12,16,9,9],[9,12,16]),([9,17],[9,17]),([18,17],[18]),([19,19],[19]),([19,20],[19,20]),([21,20,0,1,2,3,4,5,6,7,8,9,10,11,12,13,14,15,16,17,18,19,20,21],[21])])
def papermilllaw60_StatsClasses.B29:List Nat:=[0,0,2,7,0,0,32,112,255,511,1023,1023,4095,1023,1023,17407,58367,131071,262143,524287,1048575,2097151,4194303]
theorem papermilllaw60_StatsClasses.tab29:rtab .any (opsOf Try.f6 29)=papermilllaw60_StatsClasses.T29:=by kernel_rfl
theorem papermilllaw60_StatsClasses.bits29:waitsOk papermilllaw60_StatsClasses.T29.2 papermilllaw60_StatsClasses.B29=true:=by kernel_rfl
set_option maxHeartbeats 64000000 in
theorem papermilllaw60_StatsClasses.calls (k:Nat) (A0:Option Addr) (c0:Nat) (l0:List Int) (A1:Option Addr) (c1:Nat) (l1:List Int) (a2:Int) (r:Bool) (w:World) (hr0:Kd.C (Kd.int .i64) w A0 l0.length l0) (hc0:l0.length≤c0) (hr1:Kd.C (Kd.int .i64) w A1 l1.length l1) (hc1:l1.length≤c1) (h:papermilllaw60_StatsClasses.f k l0 l1 a2=some r) :
  Calls Try.prog 6 #[.slice A0 l0.length c0,.slice A1 l1.length c1,.int .u8 a2] w fun e w'=>e=.returned (.bool r)∧Below w.heap.size w w':=by
 have HR0:=aM hr0;have HC0:=aM hc0;clear hr0 hc0;have HR1:=aM hr1;have HC1:=aM hc1;clear hr1 hc1;have HB:=aM (Below.refl w.heap.size w);have H:(if(l0.length:Int) > 520 then(papermilllaw60_StatsClasses.j0 k l0 l1 a2 true) else(papermilllaw60_StatsClasses.j0 k l0 l1 a2 (decide ((l1.length:Int) > 64))))=some r:=h
 clear h;have HC4:=aM H;clear H;go_enter Try.func6,Try.ntmps6
 go_upto_region 1 with (fail)
 go_cut [23] (fun v23 wc=>∃ (kq:Nat) (x23_3:Bool),v23=.bool x23_3∧Aside0 (papermilllaw60_StatsClasses.j0 kq l0 l1 a2 x23_3=some r)∧Aside0 (kq≤k)∧Aside0 (Below w.heap.size w wc))
 case first =>
  have H:=HC4.out;clear HC4;by_cases c5:(l0.length:Int) > 520
  ·rw[if_pos c5] at H;have c5b0:decide (520 < (l0.length:Int))=true:=dE c5;have c5b1:decide (520 < l0.length)=true:=dE (by omega)
   clear c5;(first|rw[c5b0]|(simp only[i64_w,i32_w];rw[c5b0])|skip)
   have H':=aM H;clear H;go_wp2
   go_meet
   case rel=>exact⟨_,(true),sD,H',⟨by first|omega|exact Nat.le_refl _⟩,⟨pB⟩⟩
  ·rw[if_neg c5] at H;have c5b0:decide (520 < (l0.length:Int))=false:=decide_eq_false c5;have c5b1:decide (520 < l0.length)=false:=decide_eq_false (by omega)
   clear c5;(first|rw[c5b0]|(simp only[i64_w,i32_w];rw[c5b0])|skip)
   have H':=aM H;clear H;go_wp2
   go_meet
   case rel=>exact⟨_,(decide ((l1.length:Int) > 64)),sD,H',⟨by first|omega|exact Nat.le_refl _⟩,⟨pB⟩⟩
 case rest=>as_aux_lemma =>
  clear HC4;try clear c1
  try clear p2
  try clear c5
  try clear c5b0
  try clear c5b1
  obtain⟨kq,x23_3,rfl,HA,HJ3,HB⟩:=hcut;cases kq with
  | zero=>exact absurd HA.out (by simp [papermilllaw60_StatsClasses.j0])
  | succ kj3 =>
   have H:=HA.out;clear HA;simp only[papermilllaw60_StatsClasses.j0] at H;by_cases c6:x23_3=true
   ·subst c6;rw[if_pos rfl] at H;replace H:=bS H;obtain⟨t841,A70,H⟩:=H;try dsimp only at H
    have A7:=aM A70;clear A70;obtain rfl:=Option.some.inj H;go_wp2_with (first|((with_reducible refine gate_callee (f:=10) rfl ?_);refine goesL_ (some 24) rfl rfl Try.func10 (by kernel_rfl) rfl #[] rfl mA ?_;(with_reducible refine(Azz.calls kj3  t841 _ A7.out).mono ?_);rintro e w8 ⟨rfl,hb⟩;refine⟨_,rfl,?_⟩;replace HB:=aM (below_step pB hb);(try clear hb);(try clear hb2);(try clear hk);(try clear hi)))
    go_ret
    exact⟨eW,pB⟩
   ·replace c6:=Bool.eq_false_iff.mpr c6;subst c6;rw[if_neg (show ¬ (false=true) by decide)] at H
    replace H:=bS H;obtain⟨⟨t842,t843⟩,A90,H⟩:=H;try dsimp only at H
    have A9:=aM A90;clear A90;by_cases c10:t843=0
    ·rw[if_pos c10] at H;have c10b0:(t843 == 0)=true:=beq_iff_eq.mpr c10;have c10b1:(t843 != 0)=false:=bne_eq_false_iff_eq.mpr c10;clear c10;have HC11:=aM H;clear H;go_upto_region 6 with (first|((with_reducible refine gate_callee (f:=15) rfl ?_);refine goesL_ (some 28) rfl rfl Try.func15 (by kernel_rfl) rfl #[.slice A0 l0.length c0,.slice A1 l1.length c1] rfl mA ?_;(with_reducible refine(Azv.calls kj3 _ _ l0 _ _ l1 t842 t843 _ ?side1 ?side2 ?side3 ?side4 A9.out).mono ?_);(case side1=>exact cX (Kd.C_below HR0.out HB.out));(case side2=>exact HC0.out);(case side3=>exact cX (Kd.C_below HR1.out HB.out));(case side4=>exact HC1.out);rintro e w12 ⟨v844,rfl,ho0,hb⟩;refine⟨_,rfl,?_⟩;have HO845:=aM (Kd.R_lower ho0 (below_size pB));replace HB:=aM (below_step pB hb);(try clear hb);(try clear hb2);(try clear hk);(try clear hi);(try clear ho0)))
     (try simp only[Act.put,sA,sZ,sC])
     go_cut [49] (fun v49 wc=>∃ (kq:Nat) (x49_10:Bool),v49=.bool x49_10∧Aside0 (papermilllaw60_StatsClasses.j1 kq l0 l1 a2 t842 x49_10=some r)∧Aside0 (kq≤kj3)∧Aside0 (Kd.R (Kd.int .i64) 3 wc w.heap.size (fun _=>True) v844 t842)∧Aside0 (Below w.heap.size w wc))
     case first =>
      have H:=HC11.out;clear HC11;by_cases c13:(l1.length:Int) < 2
      ·rw[if_pos c13] at H;have c13b0:decide ((l1.length:Int) < 2)=true:=dE c13;have c13b1:decide (l1.length < 2)=true:=dE (by omega)
       clear c13;(first|rw[c13b0]|(simp only[i64_w,i32_w];rw[c13b0])|skip)
       have H':=aM H;clear H;go_wp2
       go_meet
       case rel=>exact⟨_,(true),sD,H',⟨by have:=HJ3.out;first|omega|exact Nat.le_refl _⟩,⟨rX HO845.out⟩,⟨pB⟩⟩
      ·rw[if_neg c13] at H;have c13b0:decide ((l1.length:Int) < 2)=false:=decide_eq_false c13;have c13b1:decide (l1.length < 2)=false:=decide_eq_false (by omega)
       clear c13;(first|rw[c13b0]|(simp only[i64_w,i32_w];rw[c13b0])|skip)
       have H':=aM H;clear H;obtain⟨Ao14,co14,eo14⟩:=Kd.R_slice HO845.out;subst eo14;go_wp2
       go_meet
       case rel=>exact⟨_,(((t842.length:Int) != (wrap64 ((l1.length:Int) - 1)))),sD,H',⟨by have:=HJ3.out;first|omega|exact Nat.le_refl _⟩,⟨rX HO845.out⟩,⟨pB⟩⟩
     case rest=>as_aux_lemma =>
      clear HC11;try clear c1
      try clear p2
      try clear c5
      try clear c5b0
      try clear c5b1
      try clear c6
      try clear p6
      try clear c10
      try clear c10b0
      try clear c10b1
      try clear c13
      try clear c13b0
      try clear c13b1
      try clear p2
      obtain⟨kq,x49_10,rfl,HA,HJ10,HO_7,HB⟩:=hcut;cases kq with
      | zero=>exact absurd HA.out (by simp [papermilllaw60_StatsClasses.j1])
      | succ kj10 =>
       have H:=HA.out;clear HA;simp only[papermilllaw60_StatsClasses.j1] at H;by_cases c15:x49_10=true
       ·subst c15;rw[if_pos rfl] at H;exact absurd H (by simp)
       ·replace c15:=Bool.eq_false_iff.mpr c15;subst c15;rw[if_neg (show ¬ (false=true) by decide)] at H
        have H':=aM H;clear H;go_wp2
        go_loopg [9,10] kj10 (fun kq v9 v10 w'=>∃ (x9_3:Int) (x10_3:Int),v9=.int .i64 x9_3∧v10=.int .i64 x10_3∧Aside0 (papermilllaw60_StatsClasses.l0 kq l0 l1 a2 t842 x9_3 x10_3=some r)∧Aside0 (kq≤kj10)∧Aside0 (Kd.R (Kd.int .i64) 3 w' w.heap.size (fun _=>True) v844 t842)∧Aside0 (Below w.heap.size w w'))
        case atStart=>exact⟨(0),(0),sD,sD,H',⟨Nat.le_refl _⟩,⟨rX HO_7.out⟩,⟨pB⟩⟩
        case round =>
         clear H';try clear c1
         try clear p2
         try clear c5
         try clear c5b0
         try clear c5b1
         try clear c6
         try clear p6
         try clear c10
         try clear c10b0
         try clear c10b1
         try clear c13
         try clear c13b0
         try clear c13b1
         try clear c15
         try clear p2
         try clear p6
         obtain⟨x9_3,x10_3,rfl,rfl,HA,HK3,HO_7,HB⟩:=hrel;cases gk with
         | zero=>exact absurd HA.out (by simp [papermilllaw60_StatsClasses.l0])
         | succ k3 =>
          have H:=HA.out;clear HA;simp only[papermilllaw60_StatsClasses.l0] at H;by_cases c16:x10_3 < (t842.length:Int)
          ·rw[if_pos c16] at H;have c16b0:decide (x10_3 < (t842.length:Int))=true:=dE c16;clear c16;by_cases c17:0≤x10_3
           ·rw[if_pos c17] at H;have c17b0:decide (0≤x10_3)=true:=dE c17;clear c17;have H':=aM H;clear H;obtain⟨Ao18,co18,eo18⟩:=Kd.R_slice HO_7.out;subst eo18;have p847:0≤(x10_3:Int):=oE aS
            have q847:x10_3 < (t842.length:Int):=oE aS
            obtain⟨ad847,e847,hx847_0⟩:=Kd.at_int (Kd.R_reads' HO_7.out).2.2 x10_3 p847 q847;cases e847
            replace p847:=eq_true p847;replace q847:=eq_true q847;go_wp2
            go_roundg k3
            case measure=>have:=HJ3.out;have:=HJ10.out;have:=HK3.out;omega
            case rel=>exact⟨(wrap64 (x9_3+(rd t842 x10_3))),(wrap64 (x10_3+1)),sD,sD,H',⟨by have:=HJ3.out;have:=HJ10.out;have:=HK3.out;omega⟩,⟨rX HO_7.out⟩,⟨pB⟩⟩
           ·rw[if_neg c17] at H;exact absurd H (by simp)
          ·rw[if_neg c16] at H;have c16b0:decide (x10_3 < (t842.length:Int))=false:=decide_eq_false c16;clear c16;have H':=aM H;clear H;obtain⟨Ao19,co19,eo19⟩:=Kd.R_slice HO_7.out;subst eo19;go_wp2
           go_loopg [9,11] k3 (fun kq v9 v11 w'=>∃ (x9_4:Int) (x11_4:Int),v9=.int .i64 x9_4∧v11=.int .i64 x11_4∧Aside0 (papermilllaw60_StatsClasses.l1 kq l0 l1 a2 t842 x9_4 x11_4=some r)∧Aside0 (kq≤k3)∧Aside0 (Kd.R (Kd.int .i64) 3 w' w.heap.size (fun _=>True) (.slice Ao19 t842.length co19) t842)∧Aside0 (Below w.heap.size w w'))
           case atStart=>exact⟨(x9_3),(0),sD,sD,H',⟨Nat.le_refl _⟩,⟨rX HO_7.out⟩,⟨pB⟩⟩
           case round =>
            clear H';try clear c1
            try clear p2
            try clear c5
            try clear c5b0
            try clear c5b1
            try clear c6
            try clear p6
            try clear p8
            try clear q8
            try clear hx8
            try clear c10
            try clear c10b0
            try clear c10b1
            try clear c13
            try clear c13b0
            try clear c13b1
            try clear c15
            try clear c16
            try clear c16b0
            try clear c17
            try clear c17b0
            try clear hx847_0
            try clear p2
            try clear p6
            try clear p847
            try clear q847
            obtain⟨x9_4,x11_4,rfl,rfl,HA,HK4,HO_7,HB⟩:=hrel;cases gk with
            | zero=>exact absurd HA.out (by simp [papermilllaw60_StatsClasses.l1])
            | succ k4 =>
             have H:=HA.out;clear HA;simp only[papermilllaw60_StatsClasses.l1] at H;by_cases c20:x11_4 < (l0.length:Int)
             ·rw[if_pos c20] at H;have c20b0:decide (x11_4 < (l0.length:Int))=true:=dE c20;clear c20;by_cases c21:0 < (l1.length:Int)
              ·rw[if_pos c21] at H;have c21b0:decide (0 < (l1.length:Int))=true:=dE c21;have c21b1:decide (0 < l1.length)=true:=dE (by omega)
               clear c21;by_cases c22:0≤x11_4
               ·rw[if_pos c22] at H;have c22b0:decide (0≤x11_4)=true:=dE c22;clear c22;by_cases c23:(rd l1 0)≤(rd l0 x11_4)
                ·rw[if_pos c23] at H;have c23b0:decide ((rd l1 0)≤(rd l0 x11_4))=true:=dE c23;clear c23;obtain⟨ji24,hji24⟩:∃ j_:Int,(wrap64 ((l1.length:Int) - 1))=j_:=⟨_,rfl⟩;replace H:(if 0≤(ji24) then(if(ji24) < (l1.length:Int) then(if(rd l0 x11_4) < (rd l1 (ji24)) then(papermilllaw60_StatsClasses.l1 k4 l0 l1 a2 t842 (wrap64 (x9_4 - 1)) (wrap64 (x11_4+1))) else(papermilllaw60_StatsClasses.l1 k4 l0 l1 a2 t842 x9_4 (wrap64 (x11_4+1)))) else(none)) else(none))=some r:=by first|(rw[hji24] at H;exact H)|(simp only[hji24] at H ⊢;exact H)
                 have hji24w:(IntKind.i64.wrap ((l1.length:Int) - 1))=ji24:=(i64_w _).trans hji24;by_cases c25:0≤(ji24)
                 ·rw[if_pos c25] at H;have c25b0:decide (0≤(ji24))=true:=dE c25;clear c25;by_cases c26:(ji24) < (l1.length:Int)
                  ·rw[if_pos c26] at H;have c26b0:decide ((ji24) < (l1.length:Int))=true:=dE c26;clear c26;by_cases c27:(rd l0 x11_4) < (rd l1 (ji24))
                   ·rw[if_pos c27] at H;have c27b0:decide ((rd l0 x11_4) < (rd l1 (ji24)))=true:=dE c27;clear c27;have H':=aM H;clear H;try go_wp2
                    have n0_:=aM (Kd.R_drew HO_7.out);have n1_:=aM (below_drew1 HB.out);clear HO_7;clear HB;have HO_7:=n0_;have HB:=n1_;clear n0_ n1_;have p848:0≤(0:Int):=(by omega)
                    have q848:0 < (l1.length:Int):=oE aS
                    obtain⟨ad848,e848,hx848_0⟩:=Kd.at_int HR1.out 0 p848 q848;have hw848_0:=hx848_0;(try rw[show((0:Int)).toNat=0 from rfl] at hw848_0)
                    (try rw[show 0 * 1=0 from rfl] at hw848_0)
                    (try rw[Addr.add_zero'] at hw848_0)
                    cases e848
                    have qi848:(0 < l1.length)=True:=eq_true (by omega)
                    (try rw[show((0:Int)).toNat=0 from rfl] at hx848_0)
                    (try rw[Addr.add_zero'] at hx848_0)
                    replace hx848_0:=(HB.out.cell (World.block_lt_of_cell? w _ hx848_0)).trans hx848_0;replace p848:=eq_true p848;replace q848:=eq_true q848;have p849:0≤(x11_4:Int):=oE aS
                    have q849:x11_4 < (l0.length:Int):=oE aS
                    obtain⟨ad849,e849,hx849_0⟩:=Kd.at_int HR0.out x11_4 p849 q849;have hw849_0:=hx849_0;cases e849
                    replace hx849_0:=(HB.out.cell (World.block_lt_of_cell? w _ hx849_0)).trans hx849_0;replace p849:=eq_true p849;replace q849:=eq_true q849;have p850:0≤(x11_4:Int):=oE aS
                    have q850:x11_4 < (l0.length:Int):=oE aS
                    obtain⟨ad850,e850,hx850_0⟩:=Kd.at_int HR0.out x11_4 p850 q850;have hw850_0:=hx850_0;obtain rfl:ad849=ad850:=(by injection e850)
                    replace hx850_0:=(HB.out.cell (World.block_lt_of_cell? w _ hx850_0)).trans hx850_0;replace p850:=eq_true p850;replace q850:=eq_true q850;have p851:0≤((ji24):Int):=oE aS
                    have q851:(ji24) < (l1.length:Int):=oE aS
                    obtain⟨ad851,e851,hx851_0⟩:=Kd.at_int HR1.out (ji24) p851 q851;have hw851_0:=hx851_0;obtain rfl:ad848=ad851:=(by injection e851)
                    replace hx851_0:=(HB.out.cell (World.block_lt_of_cell? w _ hx851_0)).trans hx851_0;replace p851:=eq_true p851;replace q851:=eq_true q851;refine start_ (n:=21) (S:=fun w'=>w'.cell? ad848=some (.int .i64 (rd l1 0))∧w'.cell? (ad849.add (x11_4).toNat)=some (.int .i64 (rd l0 x11_4))∧w'.cell? (ad849.add (x11_4).toNat)=some (.int .i64 (rd l0 x11_4))∧w'.cell? (ad848.add ((ji24)).toNat)=some (.int .i64 (rd l1 (ji24)))) (ds:=[]) #[false,false,false,false,false,false,false,false,false,false,false,false,false,false,false,false,false,false,false,false,false] (by kernel_rfl) rfl rfl ⟨((HB.out.cell (World.block_lt_of_cell? w _ hw848_0)).trans hw848_0),((HB.out.cell (World.block_lt_of_cell? w _ hw849_0)).trans hw849_0),((HB.out.cell (World.block_lt_of_cell? w _ hw850_0)).trans hw850_0),((HB.out.cell (World.block_lt_of_cell? w _ hw851_0)).trans hw851_0)⟩ (fun hHeld=>?_);refine with_tabW papermilllaw60_StatsClasses.tab16 papermilllaw60_StatsClasses.bits16 (fun HT_ HW_=>?_)
                    generalize wr.drew=w28 at HO_7 HB hx848_0 hx849_0 hx850_0 hx851_0 hHeld ⊢;refine pU (i:=0) (N:=some 68) HT_ #[true,false,false,false,false,false,false,false,false,false,false,false,false,false,false,false,false,false,false,false,false] ?_;refine pU (i:=1) (N:=some 69) HT_ #[true,true,false,false,false,false,false,false,false,false,false,false,false,false,false,false,false,false,false,false,false] ?_;refine pU (i:=3) (N:=some 71) HT_ #[true,true,false,true,false,false,false,false,false,false,false,false,false,false,false,false,false,false,false,false,false] ?_;refine pU (i:=4) (N:=some 72) HT_ #[true,true,false,true,true,false,false,false,false,false,false,false,false,false,false,false,false,false,false,false,false] ?_;refine pU (i:=5) (N:=some 73) HT_ #[true,true,false,true,true,true,false,false,false,false,false,false,false,false,false,false,false,false,false,false,false] ?_;refine take_ (i:=2) (N:=some 70) (v:=?_) (a':=?_) #[true,true,true,true,true,true,false,false,false,false,false,false,false,false,false,false,false,false,false,false,false] rfl rfl (take_ofW HT_.out HW_.out (by kernel_rfl)) (fun _ _ _ h=>h) (Or.inl ⟨by rfl,?_⟩) hHeld ?_ ?_
                    rotate_left
                    ·rintro w' ⟨s0,s1,s2,s3⟩;go_simp
                     with_reducible rfl
                    rotate_left
                    ·simp only[Act.put,sA,sZ,sC,i64_w,i32_w];rfl
                    refine take_ (i:=6) (N:=some 74) (v:=?_) (a':=?_) #[true,true,true,true,true,true,true,false,false,false,false,false,false,false,false,false,false,false,false,false,false] rfl rfl (take_ofW HT_.out HW_.out (by kernel_rfl)) (fun _ _ _ h=>h) (Or.inl ⟨by rfl,?_⟩) hHeld ?_ ?_
                    rotate_left
                    ·rintro w' ⟨s0,s1,s2,s3⟩;go_simp
                     with_reducible rfl
                    rotate_left
                    ·simp only[Act.put,sA,sZ,sC,i64_w,i32_w];rfl
                    refine pU (i:=7) (N:=some 75) HT_ #[true,true,true,true,true,true,true,true,false,false,false,false,false,false,false,false,false,false,false,false,false] ?_;refine pU (i:=8) (N:=some 76) HT_ #[true,true,true,true,true,true,true,true,true,false,false,false,false,false,false,false,false,false,false,false,false] ?_;refine pU (i:=9) (N:=some 77) HT_ #[true,true,true,true,true,true,true,true,true,true,false,false,false,false,false,false,false,false,false,false,false] ?_;refine pU (i:=10) (N:=some 78) HT_ #[true,true,true,true,true,true,true,true,true,true,true,false,false,false,false,false,false,false,false,false,false] ?_;refine pU (i:=11) (N:=some 79) HT_ #[true,true,true,true,true,true,true,true,true,true,true,true,false,false,false,false,false,false,false,false,false] ?_;refine pU (i:=13) (N:=some 81) HT_ #[true,true,true,true,true,true,true,true,true,true,true,true,false,true,false,false,false,false,false,false,false] ?_;refine pU (i:=14) (N:=some 82) HT_ #[true,true,true,true,true,true,true,true,true,true,true,true,false,true,true,false,false,false,false,false,false] ?_;refine pU (i:=15) (N:=some 83) HT_ #[true,true,true,true,true,true,true,true,true,true,true,true,false,true,true,true,false,false,false,false,false] ?_;refine pU (i:=16) (N:=some 84) HT_ #[true,true,true,true,true,true,true,true,true,true,true,true,false,true,true,true,true,false,false,false,false] ?_;refine pU (i:=17) (N:=some 85) HT_ #[true,true,true,true,true,true,true,true,true,true,true,true,false,true,true,true,true,true,false,false,false] ?_;refine take_ (i:=12) (N:=some 80) (v:=?_) (a':=?_) #[true,true,true,true,true,true,true,true,true,true,true,true,true,true,true,true,true,true,false,false,false] rfl rfl (take_ofW HT_.out HW_.out (by kernel_rfl)) (fun _ _ _ h=>h) (Or.inl ⟨by rfl,?_⟩) hHeld ?_ ?_
                    rotate_left
                    ·rintro w' ⟨s0,s1,s2,s3⟩;go_simp
                     with_reducible rfl
                    rotate_left
                    ·simp only[Act.put,sA,sZ,sC,i64_w,i32_w];rfl
                    refine take_ (i:=18) (N:=some 86) (v:=?_) (a':=?_) #[true,true,true,true,true,true,true,true,true,true,true,true,true,true,true,true,true,true,true,false,false] rfl rfl (take_ofW HT_.out HW_.out (by kernel_rfl)) (fun _ _ _ h=>h) (Or.inl ⟨by rfl,?_⟩) hHeld ?_ ?_
                    rotate_left
                    ·rintro w' ⟨s0,s1,s2,s3⟩;go_simp
                     with_reducible rfl
                    rotate_left
                    ·simp only[Act.put,sA,sZ,sC,i64_w,i32_w];rfl
                    refine pU (i:=19) (N:=some 87) HT_ #[true,true,true,true,true,true,true,true,true,true,true,true,true,true,true,true,true,true,true,true,false] ?_;refine pU (i:=20) (N:=some 88) HT_ #[true,true,true,true,true,true,true,true,true,true,true,true,true,true,true,true,true,true,true,true,true] ?_;refine done_ (done_of HT_.out (by kernel_rfl)) ?_
                    try go_wp2
                    go_roundg k4
                    case measure=>have:=HJ3.out;have:=HJ10.out;have:=HK3.out;have:=HK4.out;omega
                    case rel=>exact⟨(wrap64 (x9_4 - 1)),(wrap64 (x11_4+1)),sD,sD,H',⟨by have:=HJ3.out;have:=HJ10.out;have:=HK3.out;have:=HK4.out;omega⟩,⟨rX HO_7.out⟩,⟨pB⟩⟩
                   ·rw[if_neg c27] at H;have c27b0:decide ((rd l0 x11_4) < (rd l1 (ji24)))=false:=decide_eq_false c27;clear c27;have H':=aM H;clear H;try go_wp2
                    have n0_:=aM (Kd.R_drew HO_7.out);have n1_:=aM (below_drew1 HB.out);clear HO_7;clear HB;have HO_7:=n0_;have HB:=n1_;clear n0_ n1_;have p848:0≤(0:Int):=(by omega)
                    have q848:0 < (l1.length:Int):=oE aS
                    obtain⟨ad848,e848,hx848_0⟩:=Kd.at_int HR1.out 0 p848 q848;have hw848_0:=hx848_0;(try rw[show((0:Int)).toNat=0 from rfl] at hw848_0)
                    (try rw[show 0 * 1=0 from rfl] at hw848_0)
                    (try rw[Addr.add_zero'] at hw848_0)
                    cases e848
                    have qi848:(0 < l1.length)=True:=eq_true (by omega)
                    (try rw[show((0:Int)).toNat=0 from rfl] at hx848_0)
                    (try rw[Addr.add_zero'] at hx848_0)
                    replace hx848_0:=(HB.out.cell (World.block_lt_of_cell? w _ hx848_0)).trans hx848_0;replace p848:=eq_true p848;replace q848:=eq_true q848;have p849:0≤(x11_4:Int):=oE aS
                    have q849:x11_4 < (l0.length:Int):=oE aS
                    obtain⟨ad849,e849,hx849_0⟩:=Kd.at_int HR0.out x11_4 p849 q849;have hw849_0:=hx849_0;cases e849
                    replace hx849_0:=(HB.out.cell (World.block_lt_of_cell? w _ hx849_0)).trans hx849_0;replace p849:=eq_true p849;replace q849:=eq_true q849;have p850:0≤(x11_4:Int):=oE aS
                    have q850:x11_4 < (l0.length:Int):=oE aS
                    obtain⟨ad850,e850,hx850_0⟩:=Kd.at_int HR0.out x11_4 p850 q850;have hw850_0:=hx850_0;obtain rfl:ad849=ad850:=(by injection e850)
                    replace hx850_0:=(HB.out.cell (World.block_lt_of_cell? w _ hx850_0)).trans hx850_0;replace p850:=eq_true p850;replace q850:=eq_true q850;have p851:0≤((ji24):Int):=oE aS
                    have q851:(ji24) < (l1.length:Int):=oE aS
                    obtain⟨ad851,e851,hx851_0⟩:=Kd.at_int HR1.out (ji24) p851 q851;have hw851_0:=hx851_0;obtain rfl:ad848=ad851:=(by injection e851)
                    replace hx851_0:=(HB.out.cell (World.block_lt_of_cell? w _ hx851_0)).trans hx851_0;replace p851:=eq_true p851;replace q851:=eq_true q851;refine start_ (n:=21) (S:=fun w'=>w'.cell? ad848=some (.int .i64 (rd l1 0))∧w'.cell? (ad849.add (x11_4).toNat)=some (.int .i64 (rd l0 x11_4))∧w'.cell? (ad849.add (x11_4).toNat)=some (.int .i64 (rd l0 x11_4))∧w'.cell? (ad848.add ((ji24)).toNat)=some (.int .i64 (rd l1 (ji24)))) (ds:=[]) #[false,false,false,false,false,false,false,false,false,false,false,false,false,false,false,false,false,false,false,false,false] (by kernel_rfl) rfl rfl ⟨((HB.out.cell (World.block_lt_of_cell? w _ hw848_0)).trans hw848_0),((HB.out.cell (World.block_lt_of_cell? w _ hw849_0)).trans hw849_0),((HB.out.cell (World.block_lt_of_cell? w _ hw850_0)).trans hw850_0),((HB.out.cell (World.block_lt_of_cell? w _ hw851_0)).trans hw851_0)⟩ (fun hHeld=>?_);refine with_tabW papermilllaw60_StatsClasses.tab16 papermilllaw60_StatsClasses.bits16 (fun HT_ HW_=>?_)
                    generalize wr.drew=w29 at HO_7 HB hx848_0 hx849_0 hx850_0 hx851_0 hHeld ⊢;refine pU (i:=0) (N:=some 68) HT_ #[true,false,false,false,false,false,false,false,false,false,false,false,false,false,false,false,false,false,false,false,false] ?_;refine pU (i:=1) (N:=some 69) HT_ #[true,true,false,false,false,false,false,false,false,false,false,false,false,false,false,false,false,false,false,false,false] ?_;refine pU (i:=3) (N:=some 71) HT_ #[true,true,false,true,false,false,false,false,false,false,false,false,false,false,false,false,false,false,false,false,false] ?_;refine pU (i:=4) (N:=some 72) HT_ #[true,true,false,true,true,false,false,false,false,false,false,false,false,false,false,false,false,false,false,false,false] ?_;refine pU (i:=5) (N:=some 73) HT_ #[true,true,false,true,true,true,false,false,false,false,false,false,false,false,false,false,false,false,false,false,false] ?_;refine take_ (i:=2) (N:=some 70) (v:=?_) (a':=?_) #[true,true,true,true,true,true,false,false,false,false,false,false,false,false,false,false,false,false,false,false,false] rfl rfl (take_ofW HT_.out HW_.out (by kernel_rfl)) (fun _ _ _ h=>h) (Or.inl ⟨by rfl,?_⟩) hHeld ?_ ?_
                    rotate_left
                    ·rintro w' ⟨s0,s1,s2,s3⟩;go_simp
                     with_reducible rfl
                    rotate_left
                    ·simp only[Act.put,sA,sZ,sC,i64_w,i32_w];rfl
                    refine take_ (i:=6) (N:=some 74) (v:=?_) (a':=?_) #[true,true,true,true,true,true,true,false,false,false,false,false,false,false,false,false,false,false,false,false,false] rfl rfl (take_ofW HT_.out HW_.out (by kernel_rfl)) (fun _ _ _ h=>h) (Or.inl ⟨by rfl,?_⟩) hHeld ?_ ?_
                    rotate_left
                    ·rintro w' ⟨s0,s1,s2,s3⟩;go_simp
                     with_reducible rfl
                    rotate_left
                    ·simp only[Act.put,sA,sZ,sC,i64_w,i32_w];rfl
                    refine pU (i:=7) (N:=some 75) HT_ #[true,true,true,true,true,true,true,true,false,false,false,false,false,false,false,false,false,false,false,false,false] ?_;refine pU (i:=8) (N:=some 76) HT_ #[true,true,true,true,true,true,true,true,true,false,false,false,false,false,false,false,false,false,false,false,false] ?_;refine pU (i:=9) (N:=some 77) HT_ #[true,true,true,true,true,true,true,true,true,true,false,false,false,false,false,false,false,false,false,false,false] ?_;refine pU (i:=10) (N:=some 78) HT_ #[true,true,true,true,true,true,true,true,true,true,true,false,false,false,false,false,false,false,false,false,false] ?_;refine pU (i:=11) (N:=some 79) HT_ #[true,true,true,true,true,true,true,true,true,true,true,true,false,false,false,false,false,false,false,false,false] ?_;refine pU (i:=13) (N:=some 81) HT_ #[true,true,true,true,true,true,true,true,true,true,true,true,false,true,false,false,false,false,false,false,false] ?_;refine pU (i:=14) (N:=some 82) HT_ #[true,true,true,true,true,true,true,true,true,true,true,true,false,true,true,false,false,false,false,false,false] ?_;refine pU (i:=15) (N:=some 83) HT_ #[true,true,true,true,true,true,true,true,true,true,true,true,false,true,true,true,false,false,false,false,false] ?_;refine pU (i:=16) (N:=some 84) HT_ #[true,true,true,true,true,true,true,true,true,true,true,true,false,true,true,true,true,false,false,false,false] ?_;refine pU (i:=17) (N:=some 85) HT_ #[true,true,true,true,true,true,true,true,true,true,true,true,false,true,true,true,true,true,false,false,false] ?_;refine take_ (i:=12) (N:=some 80) (v:=?_) (a':=?_) #[true,true,true,true,true,true,true,true,true,true,true,true,true,true,true,true,true,true,false,false,false] rfl rfl (take_ofW HT_.out HW_.out (by kernel_rfl)) (fun _ _ _ h=>h) (Or.inl ⟨by rfl,?_⟩) hHeld ?_ ?_
                    rotate_left
                    ·rintro w' ⟨s0,s1,s2,s3⟩;go_simp
                     with_reducible rfl
                    rotate_left
                    ·simp only[Act.put,sA,sZ,sC,i64_w,i32_w];rfl
                    refine take_ (i:=18) (N:=some 86) (v:=?_) (a':=?_) #[true,true,true,true,true,true,true,true,true,true,true,true,true,true,true,true,true,true,true,false,false] rfl rfl (take_ofW HT_.out HW_.out (by kernel_rfl)) (fun _ _ _ h=>h) (Or.inl ⟨by rfl,?_⟩) hHeld ?_ ?_
                    rotate_left
                    ·rintro w' ⟨s0,s1,s2,s3⟩;go_simp
                     with_reducible rfl
                    rotate_left
                    ·simp only[Act.put,sA,sZ,sC,i64_w,i32_w];rfl
                    refine pU (i:=19) (N:=some 87) HT_ #[true,true,true,true,true,true,true,true,true,true,true,true,true,true,true,true,true,true,true,true,false] ?_;refine pU (i:=20) (N:=some 88) HT_ #[true,true,true,true,true,true,true,true,true,true,true,true,true,true,true,true,true,true,true,true,true] ?_;refine done_ (done_of HT_.out (by kernel_rfl)) ?_
                    try go_wp2
                    go_roundg k4
                    case measure=>have:=HJ3.out;have:=HJ10.out;have:=HK3.out;have:=HK4.out;omega
                    case rel=>exact⟨(x9_4),(wrap64 (x11_4+1)),sD,sD,H',⟨by have:=HJ3.out;have:=HJ10.out;have:=HK3.out;have:=HK4.out;omega⟩,⟨rX HO_7.out⟩,⟨pB⟩⟩
                  ·rw[if_neg c26] at H;exact absurd H (by simp)
                 ·rw[if_neg c25] at H;exact absurd H (by simp)
                ·rw[if_neg c23] at H;have c23b0:decide ((rd l1 0)≤(rd l0 x11_4))=false:=decide_eq_false c23;clear c23;have H':=aM H;clear H;try go_wp2
                 have n0_:=aM (Kd.R_drew HO_7.out);have n1_:=aM (below_drew1 HB.out);clear HO_7;clear HB;have HO_7:=n0_;have HB:=n1_;clear n0_ n1_;have p848:0≤(0:Int):=(by omega)
                 have q848:0 < (l1.length:Int):=oE aS
                 obtain⟨ad848,e848,hx848_0⟩:=Kd.at_int HR1.out 0 p848 q848;have hw848_0:=hx848_0;(try rw[show((0:Int)).toNat=0 from rfl] at hw848_0)
                 (try rw[show 0 * 1=0 from rfl] at hw848_0)
                 (try rw[Addr.add_zero'] at hw848_0)
                 cases e848
                 have qi848:(0 < l1.length)=True:=eq_true (by omega)
                 (try rw[show((0:Int)).toNat=0 from rfl] at hx848_0)
                 (try rw[Addr.add_zero'] at hx848_0)
                 replace hx848_0:=(HB.out.cell (World.block_lt_of_cell? w _ hx848_0)).trans hx848_0;replace p848:=eq_true p848;replace q848:=eq_true q848;have p849:0≤(x11_4:Int):=oE aS
                 have q849:x11_4 < (l0.length:Int):=oE aS
                 obtain⟨ad849,e849,hx849_0⟩:=Kd.at_int HR0.out x11_4 p849 q849;have hw849_0:=hx849_0;cases e849
                 replace hx849_0:=(HB.out.cell (World.block_lt_of_cell? w _ hx849_0)).trans hx849_0;replace p849:=eq_true p849;replace q849:=eq_true q849;refine start_ (n:=21) (S:=fun w'=>w'.cell? ad848=some (.int .i64 (rd l1 0))∧w'.cell? (ad849.add (x11_4).toNat)=some (.int .i64 (rd l0 x11_4))) (ds:=[]) #[false,false,false,false,false,false,false,false,false,false,false,false,false,false,false,false,false,false,false,false,false] (by kernel_rfl) rfl rfl ⟨((HB.out.cell (World.block_lt_of_cell? w _ hw848_0)).trans hw848_0),((HB.out.cell (World.block_lt_of_cell? w _ hw849_0)).trans hw849_0)⟩ (fun hHeld=>?_);refine with_tabW papermilllaw60_StatsClasses.tab16 papermilllaw60_StatsClasses.bits16 (fun HT_ HW_=>?_)
                 generalize wr.drew=w30 at HO_7 HB hx848_0 hx849_0 hHeld ⊢;refine pU (i:=0) (N:=some 68) HT_ #[true,false,false,false,false,false,false,false,false,false,false,false,false,false,false,false,false,false,false,false,false] ?_;refine pU (i:=1) (N:=some 69) HT_ #[true,true,false,false,false,false,false,false,false,false,false,false,false,false,false,false,false,false,false,false,false] ?_;refine pU (i:=3) (N:=some 71) HT_ #[true,true,false,true,false,false,false,false,false,false,false,false,false,false,false,false,false,false,false,false,false] ?_;refine pU (i:=4) (N:=some 72) HT_ #[true,true,false,true,true,false,false,false,false,false,false,false,false,false,false,false,false,false,false,false,false] ?_;refine pU (i:=5) (N:=some 73) HT_ #[true,true,false,true,true,true,false,false,false,false,false,false,false,false,false,false,false,false,false,false,false] ?_;refine take_ (i:=2) (N:=some 70) (v:=?_) (a':=?_) #[true,true,true,true,true,true,false,false,false,false,false,false,false,false,false,false,false,false,false,false,false] rfl rfl (take_ofW HT_.out HW_.out (by kernel_rfl)) (fun _ _ _ h=>h) (Or.inl ⟨by rfl,?_⟩) hHeld ?_ ?_
                 rotate_left
                 ·rintro w' ⟨s0,s1⟩;go_simp
                  with_reducible rfl
                 rotate_left
                 ·simp only[Act.put,sA,sZ,sC,i64_w,i32_w];rfl
                 refine take_ (i:=6) (N:=some 74) (v:=?_) (a':=?_) #[true,true,true,true,true,true,true,false,false,false,false,false,false,false,false,false,false,false,false,false,false] rfl rfl (take_ofW HT_.out HW_.out (by kernel_rfl)) (fun _ _ _ h=>h) (Or.inl ⟨by rfl,?_⟩) hHeld ?_ ?_
                 rotate_left
                 ·rintro w' ⟨s0,s1⟩;go_simp
                  with_reducible rfl
                 rotate_left
                 ·simp only[Act.put,sA,sZ,sC,i64_w,i32_w];rfl
                 refine pU (i:=7) (N:=some 75) HT_ #[true,true,true,true,true,true,true,true,false,false,false,false,false,false,false,false,false,false,false,false,false] ?_;refine pU (i:=8) (N:=some 76) HT_ #[true,true,true,true,true,true,true,true,true,false,false,false,false,false,false,false,false,false,false,false,false] ?_;refine pure_ (i:=9) (N:=some 77) (v:=undef) (a':=?_) #[true,true,true,true,true,true,true,true,true,true,false,false,false,false,false,false,false,false,false,false,false] rfl rfl (any_of HT_.out (by kernel_rfl)) (fun _ _ _ h=>h) (Or.inr ⟨by rfl,rfl⟩) ?_ ?_
                 rotate_left
                 ·simp only[Act.put,sA,sZ,sC,i64_w,i32_w];rfl
                 refine pure_ (i:=10) (N:=some 78) (v:=undef) (a':=?_) #[true,true,true,true,true,true,true,true,true,true,true,false,false,false,false,false,false,false,false,false,false] rfl rfl (any_of HT_.out (by kernel_rfl)) (fun _ _ _ h=>h) (Or.inr ⟨by rfl,rfl⟩) ?_ ?_
                 rotate_left
                 ·simp only[Act.put,sA,sZ,sC,i64_w,i32_w];rfl
                 refine pure_ (i:=11) (N:=some 79) (v:=undef) (a':=?_) #[true,true,true,true,true,true,true,true,true,true,true,true,false,false,false,false,false,false,false,false,false] rfl rfl (any_of HT_.out (by kernel_rfl)) (fun _ _ _ h=>h) (Or.inr ⟨by rfl,rfl⟩) ?_ ?_
                 rotate_left
                 ·simp only[Act.put,sA,sZ,sC,i64_w,i32_w];rfl
                 refine pure_ (i:=12) (N:=some 80) (v:=undef) (a':=?_) #[true,true,true,true,true,true,true,true,true,true,true,true,true,false,false,false,false,false,false,false,false] rfl rfl (any_of HT_.out (by kernel_rfl)) (fun _ _ _ h=>h) (Or.inr ⟨by rfl,rfl⟩) ?_ ?_
                 rotate_left
                 ·simp only[Act.put,sA,sZ,sC,i64_w,i32_w];rfl
                 refine pure_ (i:=13) (N:=some 81) (v:=undef) (a':=?_) #[true,true,true,true,true,true,true,true,true,true,true,true,true,true,false,false,false,false,false,false,false] rfl rfl (any_of HT_.out (by kernel_rfl)) (fun _ _ _ h=>h) (Or.inr ⟨by rfl,rfl⟩) ?_ ?_
                 rotate_left
                 ·simp only[Act.put,sA,sZ,sC,i64_w,i32_w];rfl
                 refine pure_ (i:=14) (N:=some 82) (v:=undef) (a':=?_) #[true,true,true,true,true,true,true,true,true,true,true,true,true,true,true,false,false,false,false,false,false] rfl rfl (any_of HT_.out (by kernel_rfl)) (fun _ _ _ h=>h) (Or.inr ⟨by rfl,rfl⟩) ?_ ?_
                 rotate_left
                 ·simp only[Act.put,sA,sZ,sC,i64_w,i32_w];rfl
                 refine pure_ (i:=15) (N:=some 83) (v:=undef) (a':=?_) #[true,true,true,true,true,true,true,true,true,true,true,true,true,true,true,true,false,false,false,false,false] rfl rfl (any_of HT_.out (by kernel_rfl)) (fun _ _ _ h=>h) (Or.inr ⟨by rfl,rfl⟩) ?_ ?_
                 rotate_left
                 ·simp only[Act.put,sA,sZ,sC,i64_w,i32_w];rfl
                 refine pure_ (i:=16) (N:=some 84) (v:=undef) (a':=?_) #[true,true,true,true,true,true,true,true,true,true,true,true,true,true,true,true,true,false,false,false,false] rfl rfl (any_of HT_.out (by kernel_rfl)) (fun _ _ _ h=>h) (Or.inr ⟨by rfl,rfl⟩) ?_ ?_
                 rotate_left
                 ·simp only[Act.put,sA,sZ,sC,i64_w,i32_w];rfl
                 refine pure_ (i:=17) (N:=some 85) (v:=undef) (a':=?_) #[true,true,true,true,true,true,true,true,true,true,true,true,true,true,true,true,true,true,false,false,false] rfl rfl (any_of HT_.out (by kernel_rfl)) (fun _ _ _ h=>h) (Or.inr ⟨by rfl,rfl⟩) ?_ ?_
                 rotate_left
                 ·simp only[Act.put,sA,sZ,sC,i64_w,i32_w];rfl
                 refine pure_ (i:=18) (N:=some 86) (v:=undef) (a':=?_) #[true,true,true,true,true,true,true,true,true,true,true,true,true,true,true,true,true,true,true,false,false] rfl rfl (any_of HT_.out (by kernel_rfl)) (fun _ _ _ h=>h) (Or.inr ⟨by rfl,rfl⟩) ?_ ?_
                 rotate_left
                 ·simp only[Act.put,sA,sZ,sC,i64_w,i32_w];rfl
                 refine pure_ (i:=19) (N:=some 87) (v:=undef) (a':=?_) #[true,true,true,true,true,true,true,true,true,true,true,true,true,true,true,true,true,true,true,true,false] rfl rfl (any_of HT_.out (by kernel_rfl)) (fun _ _ _ h=>h) (Or.inr ⟨by rfl,rfl⟩) ?_ ?_
                 rotate_left
                 ·simp only[Act.put,sA,sZ,sC,i64_w,i32_w];rfl
                 refine pU (i:=20) (N:=some 88) HT_ #[true,true,true,true,true,true,true,true,true,true,true,true,true,true,true,true,true,true,true,true,true] ?_;refine done_ (done_of HT_.out (by kernel_rfl)) ?_
                 try go_wp2
                 go_roundg k4
                 case measure=>have:=HJ3.out;have:=HJ10.out;have:=HK3.out;have:=HK4.out;omega
                 case rel=>exact⟨(x9_4),(wrap64 (x11_4+1)),sD,sD,H',⟨by have:=HJ3.out;have:=HJ10.out;have:=HK3.out;have:=HK4.out;omega⟩,⟨rX HO_7.out⟩,⟨pB⟩⟩
               ·rw[if_neg c22] at H;exact absurd H (by simp)
              ·rw[if_neg c21] at H;exact absurd H (by simp)
             ·rw[if_neg c20] at H;have c20b0:decide (x11_4 < (l0.length:Int))=false:=decide_eq_false c20;clear c20;by_cases c31:x9_4=0
              ·rw[if_pos c31] at H;have c31b0:(x9_4 == 0)=true:=beq_iff_eq.mpr c31;have c31b1:(x9_4 != 0)=false:=bne_eq_false_iff_eq.mpr c31;clear c31;by_cases c32:(l1.length:Int) < 3
               ·rw[if_pos c32] at H;have c32b0:decide ((l1.length:Int) < 3)=true:=dE c32;have c32b1:decide (l1.length < 3)=true:=dE (by omega)
                clear c32;replace H:=bS H;obtain⟨t852,A330,H⟩:=H;try dsimp only at H
                have A33:=aM A330;clear A330;obtain rfl:=Option.some.inj H;go_wp2_with (first|((with_reducible refine gate_callee (f:=10) rfl ?_);refine goesL_ (some 96) rfl rfl Try.func10 (by kernel_rfl) rfl #[] rfl mA ?_;(with_reducible refine(Azz.calls k4  t852 _ A33.out).mono ?_);rintro e w34 ⟨rfl,hb⟩;refine⟨_,rfl,?_⟩;replace HO_7:=aM (Kd.R_below (rX HO_7.out) hb);replace HB:=aM (below_step pB hb);(try clear hb);(try clear hb2);(try clear hk);(try clear hi)))
                go_ret
                exact⟨eW,pB⟩
               ·rw[if_neg c32] at H;have c32b0:decide ((l1.length:Int) < 3)=false:=decide_eq_false c32;have c32b1:decide (l1.length < 3)=false:=decide_eq_false (by omega)
                clear c32;by_cases c35:(wrap64 ((l1.length:Int) - 2))=0
                ·rw[if_pos c35] at H;exact absurd H (by simp)
                ·rw[if_neg c35] at H;have c35b0:((wrap64 ((l1.length:Int) - 2)) == 0)=false:=beq_eq_false_iff_ne.mpr c35;have c35b1:((wrap64 ((l1.length:Int) - 2)) != 0)=true:=bne_iff_ne.mpr c35;obtain⟨ji36,hji36⟩:∃ j_:Int,(wrap64 (1+(Int.tmod (wrap64 (a2)) (wrap64 ((l1.length:Int) - 2)))))=j_:=⟨_,rfl⟩;replace H:(if 0≤(ji36) then(if(ji36)≤(l1.length:Int) then(if([]:List Int).length+(l1.take ((ji36):Int).toNat).length < 17592186044416 then((some (([]:List Int) ++ (l1.take ((ji36):Int).toNat):List Int)).bind fun y854=>(if 0≤(wrap64 ((ji36)+1)) then(if(wrap64 ((ji36)+1))≤(l1.length:Int) then(if y854.length+(l1.drop ((wrap64 ((ji36)+1)):Int).toNat).length < 17592186044416 then((Azv.f k4 l0 (y854 ++ (l1.drop ((wrap64 ((ji36)+1)):Int).toNat))).bind fun bt861=>(if bt861.2=0 then(if(bt861.1.length:Int)=(wrap64 ((t842.length:Int) - 1)) then(if 0≤(wrap64 ((ji36) - 1)) then(if(wrap64 ((ji36) - 1)) < (bt861.1.length:Int) then(if(wrap64 ((ji36) - 1)) < (t842.length:Int) then(if(ji36) < (t842.length:Int) then(papermilllaw60_StatsClasses.j4 k4 t842 ji36 bt861.1 ((rd bt861.1 (wrap64 ((ji36) - 1))) != (wrap64 ((rd t842 (wrap64 ((ji36) - 1)))+(rd t842 (ji36)))))) else(none)) else(none)) else(none)) else(none)) else(papermilllaw60_StatsClasses.j4 k4 t842 ji36 bt861.1 true)) else(papermilllaw60_StatsClasses.j4 k4 t842 ji36 bt861.1 true))) else(none)) else(none)) else(none))) else(none)) else(none)) else(none))=some r:=by first|(rw[hji36] at H;exact H)|(simp only[hji36] at H ⊢;exact H)
                 have hji36w:(IntKind.i64.wrap (1+(Int.tmod (wrap64 (a2)) (wrap64 ((l1.length:Int) - 2)))))=ji36:=(i64_w _).trans hji36;by_cases c37:0≤(ji36)
                 ·rw[if_pos c37] at H;have c37b0:=eq_true c37;have c37b1:decide (0≤(ji36))=true:=dE c37;clear c37;by_cases c38:(ji36)≤(l1.length:Int)
                  ·rw[if_pos c38] at H;have c38b0:=eq_true c38;have c38b1:decide ((ji36)≤(l1.length:Int))=true:=dE c38;clear c38;by_cases c39:([]:List Int).length+(l1.take ((ji36):Int).toNat).length < 17592186044416
                   ·rw[if_pos c39] at H;have LMc39:=aM c39;clear c39;obtain⟨y854,hy854⟩:∃ y_:List Int,y_=(([]:List Int) ++ (l1.take ((ji36):Int).toNat)):=⟨_,rfl⟩;replace H:(if 0≤(wrap64 ((ji36)+1)) then(if(wrap64 ((ji36)+1))≤(l1.length:Int) then(if y854.length+(l1.drop ((wrap64 ((ji36)+1)):Int).toNat).length < 17592186044416 then((Azv.f k4 l0 (y854 ++ (l1.drop ((wrap64 ((ji36)+1)):Int).toNat))).bind fun bt861=>(if bt861.2=0 then(if(bt861.1.length:Int)=(wrap64 ((t842.length:Int) - 1)) then(if 0≤(wrap64 ((ji36) - 1)) then(if(wrap64 ((ji36) - 1)) < (bt861.1.length:Int) then(if(wrap64 ((ji36) - 1)) < (t842.length:Int) then(if(ji36) < (t842.length:Int) then(papermilllaw60_StatsClasses.j4 k4 t842 ji36 bt861.1 ((rd bt861.1 (wrap64 ((ji36) - 1))) != (wrap64 ((rd t842 (wrap64 ((ji36) - 1)))+(rd t842 (ji36)))))) else(none)) else(none)) else(none)) else(none)) else(papermilllaw60_StatsClasses.j4 k4 t842 ji36 bt861.1 true)) else(papermilllaw60_StatsClasses.j4 k4 t842 ji36 bt861.1 true))) else(none)) else(none)) else(none))=some r:=by first|(rw[hy854];with_reducible exact H)|(have H2_:=(Option.bind_some _ _).symm.trans H;rw[hy854];with_reducible exact H2_)|(have H2_:=(Option.bind_some _ _).symm.trans H;with_reducible exact H2_)|with_reducible exact H|(rw[hy854];exact H)|exact H
                    have Ny854:=aM hy854;clear hy854;obtain⟨ji40,hji40⟩:∃ j_:Int,(wrap64 ((ji36)+1))=j_:=⟨_,rfl⟩;replace H:(if 0≤(ji40) then(if(ji40)≤(l1.length:Int) then(if y854.length+(l1.drop ((ji40):Int).toNat).length < 17592186044416 then((Azv.f k4 l0 (y854 ++ (l1.drop ((ji40):Int).toNat))).bind fun bt861=>(if bt861.2=0 then(if(bt861.1.length:Int)=(wrap64 ((t842.length:Int) - 1)) then(if 0≤(wrap64 ((ji36) - 1)) then(if(wrap64 ((ji36) - 1)) < (bt861.1.length:Int) then(if(wrap64 ((ji36) - 1)) < (t842.length:Int) then(if(ji36) < (t842.length:Int) then(papermilllaw60_StatsClasses.j4 k4 t842 ji36 bt861.1 ((rd bt861.1 (wrap64 ((ji36) - 1))) != (wrap64 ((rd t842 (wrap64 ((ji36) - 1)))+(rd t842 (ji36)))))) else(none)) else(none)) else(none)) else(none)) else(papermilllaw60_StatsClasses.j4 k4 t842 ji36 bt861.1 true)) else(papermilllaw60_StatsClasses.j4 k4 t842 ji36 bt861.1 true))) else(none)) else(none)) else(none))=some r:=by first|(rw[hji40] at H;exact H)|(simp only[hji40] at H ⊢;exact H)
                    have hji40w:(IntKind.i64.wrap ((ji36)+1))=ji40:=(i64_w _).trans hji40;by_cases c41:0≤(ji40)
                    ·rw[if_pos c41] at H;have c41b0:=eq_true c41;have c41b1:decide (0≤(ji40))=true:=dE c41;clear c41;by_cases c42:(ji40)≤(l1.length:Int)
                     ·rw[if_pos c42] at H;have c42b0:=eq_true c42;have c42b1:decide ((ji40)≤(l1.length:Int))=true:=dE c42;clear c42;by_cases c43:y854.length+(l1.drop ((ji40):Int).toNat).length < 17592186044416
                      ·rw[if_pos c43] at H;have LMc43:=aM c43;clear c43;obtain⟨y858,hy858⟩:∃ y_:List Int,y_=(y854 ++ (l1.drop ((ji40):Int).toNat)):=⟨_,rfl⟩;replace H:((Azv.f k4 l0 y858).bind fun bt861=>(if bt861.2=0 then(if(bt861.1.length:Int)=(wrap64 ((t842.length:Int) - 1)) then(if 0≤(wrap64 ((ji36) - 1)) then(if(wrap64 ((ji36) - 1)) < (bt861.1.length:Int) then(if(wrap64 ((ji36) - 1)) < (t842.length:Int) then(if(ji36) < (t842.length:Int) then(papermilllaw60_StatsClasses.j4 k4 t842 ji36 bt861.1 ((rd bt861.1 (wrap64 ((ji36) - 1))) != (wrap64 ((rd t842 (wrap64 ((ji36) - 1)))+(rd t842 (ji36)))))) else(none)) else(none)) else(none)) else(none)) else(papermilllaw60_StatsClasses.j4 k4 t842 ji36 bt861.1 true)) else(papermilllaw60_StatsClasses.j4 k4 t842 ji36 bt861.1 true)))=some r:=by first|(rw[hy858];with_reducible exact H)|(have H2_:=(Option.bind_some _ _).symm.trans H;rw[hy858];with_reducible exact H2_)|(have H2_:=(Option.bind_some _ _).symm.trans H;with_reducible exact H2_)|with_reducible exact H|(rw[hy858];exact H)|exact H
                       have Ny858:=aM hy858;clear hy858;replace H:=bS H;obtain⟨⟨t861,t862⟩,A440,H⟩:=H;try dsimp only at H
                       have A44:=aM A440;clear A440;have HC45:=aM H;clear H;obtain⟨i046,hi046,_,hsz46,_⟩:=info_parts info3;obtain⟨hcut46,hA46,hC46⟩:=print_take_of (P:=Try.prog) (Value.int .i64) 0 22 3 .i64 Try.underlying22 hi046 hsz46 A1 c1 l1 (ji36) (oE aS) (oE aS) HC1.out
                       have HR853:=aM (Kd.C_of_reads (h1:=fun _=>rfl) (hA46 _ (Kd.reads_of_C HR1.out)))
                       have HC853:=aM hC46;clear hA46 hC46 hi046 hsz46;go_upto_region 27 with (first|((with_reducible refine gate_builtin (b:=.append) (xs:=#[.tmp 104,.tmp 107]) rfl ?_);(try(refine gate_guard (by rfl) ?_;dsimp only));at_builtin;refine Kd.R_append_rows (Kd.int .i64) (w0:=w) w.heap.size rfl (.tmp 104) (.tmp 107) 22 3 (.int .i64 0) 8 rfl Try.underlying22 info3 rfl (by decide) (by omega) (.slice none 0 0) ([]:List Int) (l1.take ((ji36):Int).toNat) _ _ _ (fun k_=>some k_≠(.slice Ao19 t842.length co19:Value).ownBlock) (fun _=>False) rfl rfl ?aO ?aR (fun _ _ h=>h) (fun _ h=>h.elim) ?aF ?aB ?aS ?aL ?_;(case aR=>first|(rw[← show(l1.take ((ji36):Int).toNat).length=(ji36).toNat from(by rw[List.length_take];have h_:((ji36):Int)≤(l1.length:Int):=oE aS;omega)];(exact cX (Kd.C_below HR853.out HB.out));done)|(have hq_:=HR853.out;rw[show(l1.take ((ji36):Int).toNat).length=(ji36).toNat from(by rw[List.length_take];have h_:((ji36):Int)≤(l1.length:Int):=oE aS;omega)] at hq_;(exact cX (Kd.C_below hq_ HB.out));done)|(exact cX (Kd.C_below HR853.out HB.out)));(case aB=>exact pB);(case aF=>exact(fun k_ hk=>Kd.fresh' (Kd.R_lt (rX HO_7.out)) k_ hk));(case aO=>exact((Kd.R_nil _ _ _ _ (fun k_=>some k_≠(.slice Ao19 t842.length co19:Value).ownBlock))));(case aS=>exact(below_size pB));(case aL=>have:=LMc39.out;have hlx_:=(show(l1.take ((ji36):Int).toNat).length=(ji36).toNat from(by rw[List.length_take];have h_:((ji36):Int)≤(l1.length:Int):=oE aS;omega));omega);intro v855 w47 ho hb hg hat;rw[← Ny854.out] at ho;have HO856:=aM (ho);replace HO_7:=aM (Kd.R_after (Kd.R_apart_nil (rX HO_7.out)) hg hat);replace HB:=aM (hb);clear ho hb hg hat;obtain⟨i048,hi048,_,hsz48,_⟩:=info_parts info3;obtain⟨A48,hcut48,hA48,hC48⟩:=print_drop_of (P:=Try.prog) (Value.int .i64) 0 22 3 .i64 Try.underlying22 hi048 hsz48 A1 c1 l1 (ji40) (oE aS) (oE aS) HC1.out;have HR857:=aM (Kd.C_of_reads (h1:=fun _=>rfl) (hA48 _ (Kd.reads_of_C HR1.out)));have HC857:=aM hC48;clear hA48 hC48 hi048 hsz48)|((with_reducible refine gate_builtin (b:=.append) (xs:=#[.tmp 109,.tmp 113]) rfl ?_);(try(refine gate_guard (by rfl) ?_;dsimp only));at_builtin;refine Kd.R_append_rows (Kd.int .i64) (w0:=w) w.heap.size rfl (.tmp 109) (.tmp 113) 22 3 (.int .i64 0) 8 rfl Try.underlying22 info3 rfl (by decide) (by omega) v855 y854 (l1.drop ((ji40):Int).toNat) _ _ _ (fun k_=>some k_≠(.slice Ao19 t842.length co19:Value).ownBlock) (fun _=>False) rfl rfl ?aO ?aR (fun _ _ h=>h) (fun _ h=>h.elim) ?aF ?aB ?aS ?aL ?_;(case aR=>first|(rw[← show(l1.drop ((ji40):Int).toNat).length=(l1.length - (ji40).toNat) from List.length_drop];(exact cX (Kd.C_below HR857.out HB.out));done)|(have hq_:=HR857.out;rw[show(l1.drop ((ji40):Int).toNat).length=(l1.length - (ji40).toNat) from List.length_drop] at hq_;(exact cX (Kd.C_below hq_ HB.out));done)|(exact cX (Kd.C_below HR857.out HB.out)));(case aB=>exact pB);(case aF=>exact(fun k_ hk=>Kd.fresh' (Kd.R_lt (rX HO_7.out)) k_ hk));(case aO=>exact(rX HO856.out));(case aS=>exact(below_size pB));(case aL=>have:=LMc43.out;have hlx_:=(show(l1.drop ((ji40):Int).toNat).length=(l1.length - (ji40).toNat) from List.length_drop);omega);intro v859 w49 ho hb hg hat;rw[← Ny858.out] at ho;have HO860:=aM (ho);replace HO_7:=aM (Kd.R_after (ok:=(fun _=>True)) (rX HO_7.out) hg hat);replace HB:=aM (hb);clear HO856;clear ho hb hg hat;obtain⟨Ao50,co50,eo50⟩:=Kd.R_slice HO860.out;subst eo50)|((with_reducible refine gate_callee (f:=15) rfl ?_);refine goesL_ (some 118) rfl rfl Try.func15 (by kernel_rfl) rfl #[.slice A0 l0.length c0,.slice Ao50 y858.length co50] rfl mA ?_;(with_reducible refine(Azv.calls k4 _ _ l0 _ _ y858 t861 t862 _ ?side1 ?side2 ?side3 ?side4 A44.out).mono ?_);(case side1=>exact cX (Kd.C_below HR0.out HB.out));(case side2=>exact HC0.out);(case side3=>repeat(first|exact(Kd.R_reads' HO860.out).2.2|(with_reducible refine Kd.C_alloc ?_ _)|(with_reducible refine Kd.C_drewN ?_ _)|(with_reducible refine Kd.C_drew ?_)));(case side4=>exact(Kd.R_reads' HO860.out).2.1);rintro e w51 ⟨v863,rfl,ho0,hb⟩;refine⟨_,rfl,?_⟩;have HO864:=aM (Kd.R_lower (Kd.R_new' (Kd.R_new' ho0 (Kd.R_lt (rX HO_7.out))) (Kd.R_lt (rX HO860.out))) (below_size pB));replace HO_7:=aM (Kd.R_elder' (rX HO_7.out) (Kd.R_base ho0) hb);replace HO860:=aM (Kd.R_elder' (rX HO860.out) (Kd.R_base ho0) hb);replace HB:=aM (below_step pB hb);(try clear hb);(try clear hb2);(try clear hk);(try clear hi);(try clear ho0)))
                       (try simp only[Act.put,sA,sZ,sC])
                       go_cut [148] (fun v148 wc=>∃ (kq:Nat) (x148_44:Bool),v148=.bool x148_44∧Aside0 (papermilllaw60_StatsClasses.j4 kq t842 ji36 t861 x148_44=some r)∧Aside0 (kq≤k4)∧Aside0 (Kd.R (Kd.int .i64) 3 wc w.heap.size (fun k_=>some k_≠(v863:Value).ownBlock) (.slice Ao19 t842.length co19) t842)∧Aside0 (Kd.R (Kd.int .i64) 3 wc w.heap.size (fun k_=>some k_≠((.slice Ao19 t842.length co19):Value).ownBlock) v863 t861)∧Aside0 (Below w.heap.size w wc))
                       case first =>
                        have H:=HC45.out;clear HC45;by_cases c52:t862=0
                        ·rw[if_pos c52] at H;have c52b0:(t862 == 0)=true:=beq_iff_eq.mpr c52;have c52b1:(t862 != 0)=false:=bne_eq_false_iff_eq.mpr c52;clear c52;(first|rw[c52b0]|(simp only[i64_w,i32_w];rw[c52b0])|skip)
                         by_cases c53:(t861.length:Int)=(wrap64 ((t842.length:Int) - 1))
                         ·rw[if_pos c53] at H;have c53b0:((t861.length:Int) == (wrap64 ((t842.length:Int) - 1)))=true:=beq_iff_eq.mpr c53;have c53b1:((t861.length:Int) != (wrap64 ((t842.length:Int) - 1)))=false:=bne_eq_false_iff_eq.mpr c53;clear c53;obtain⟨ji54,hji54⟩:∃ j_:Int,(wrap64 ((ji36) - 1))=j_:=⟨_,rfl⟩;replace H:(if 0≤(ji54) then(if(ji54) < (t861.length:Int) then(if(ji54) < (t842.length:Int) then(if(ji36) < (t842.length:Int) then(papermilllaw60_StatsClasses.j4 k4 t842 ji36 t861 ((rd t861 (ji54)) != (wrap64 ((rd t842 (ji54))+(rd t842 (ji36)))))) else(none)) else(none)) else(none)) else(none))=some r:=by first|(rw[hji54] at H;exact H)|(simp only[hji54] at H ⊢;exact H)
                          have hji54w:(IntKind.i64.wrap ((ji36) - 1))=ji54:=(i64_w _).trans hji54;by_cases c55:0≤(ji54)
                          ·rw[if_pos c55] at H;have c55b0:decide (0≤(ji54))=true:=dE c55;clear c55;by_cases c56:(ji54) < (t861.length:Int)
                           ·rw[if_pos c56] at H;have c56b0:decide ((ji54) < (t861.length:Int))=true:=dE c56;clear c56;by_cases c57:(ji54) < (t842.length:Int)
                            ·rw[if_pos c57] at H;have c57b0:decide ((ji54) < (t842.length:Int))=true:=dE c57;clear c57;by_cases c58:(ji36) < (t842.length:Int)
                             ·rw[if_pos c58] at H;have c58b0:decide ((ji36) < (t842.length:Int))=true:=dE c58;clear c58;have H':=aM H;clear H;try go_wp2
                              have n0_:=aM (Kd.R_drew HO_7.out);have n1_:=aM (Kd.R_drew HO860.out);have n2_:=aM (Kd.R_drew HO864.out);have n3_:=aM (below_drew1 HB.out);clear HO_7;clear HO860;clear HO864;clear HB;have HO_7:=n0_;have HO860:=n1_;have HO864:=n2_;have HB:=n3_;clear n0_ n1_ n2_ n3_;obtain⟨Ao60,co60,eo60⟩:=Kd.R_slice HO864.out;(first|subst eo60|(injection eo60 with f1_ f2_ f3_;have f4_:=f1_.symm;have f5_:=f3_.symm;clear f1_ f2_ f3_;subst f4_;subst f5_))
                              have p865:0≤((ji54):Int):=oE aS
                              have q865:(ji54) < (t861.length:Int):=oE aS
                              obtain⟨ad865,e865,hx865_0⟩:=Kd.at_int (Kd.R_reads' HO864.out).2.2 (ji54) p865 q865;cases e865
                              replace p865:=eq_true p865;replace q865:=eq_true q865;have p866:0≤((ji54):Int):=oE aS
                              have q866:(ji54) < (t842.length:Int):=oE aS
                              obtain⟨ad866,e866,hx866_0⟩:=Kd.at_int (Kd.R_reads' HO_7.out).2.2 (ji54) p866 q866;cases e866
                              replace p866:=eq_true p866;replace q866:=eq_true q866;have p867:0≤((ji36):Int):=oE aS
                              have q867:(ji36) < (t842.length:Int):=oE aS
                              obtain⟨ad867,e867,hx867_0⟩:=Kd.at_int (Kd.R_reads' HO_7.out).2.2 (ji36) p867 q867;obtain rfl:ad866=ad867:=(by injection e867)
                              replace p867:=eq_true p867;replace q867:=eq_true q867;refine start_ (n:=28) (S:=fun w'=>w'.cell? (ad865.add ((ji54)).toNat)=some (.int .i64 (rd t861 (ji54)))∧w'.cell? (ad866.add ((ji54)).toNat)=some (.int .i64 (rd t842 (ji54)))∧w'.cell? (ad866.add ((ji36)).toNat)=some (.int .i64 (rd t842 (ji36)))) (ds:=[]) #[false,false,false,false,false,false,false,false,false,false,false,false,false,false,false,false,false,false,false,false,false,false,false,false,false,false,false,false] (by kernel_rfl) rfl rfl ⟨hx865_0,hx866_0,hx867_0⟩ (fun hHeld=>?_);refine with_tabW papermilllaw60_StatsClasses.tab27 papermilllaw60_StatsClasses.bits27 (fun HT_ HW_=>?_)
                              generalize w51.drew=w59 at HO_7 HO860 HO864 HB hx865_0 hx866_0 hx867_0 hHeld ⊢;refine pU (i:=0) (N:=some 121) HT_ #[true,false,false,false,false,false,false,false,false,false,false,false,false,false,false,false,false,false,false,false,false,false,false,false,false,false,false,false] ?_;refine pU (i:=1) (N:=some 122) HT_ #[true,true,false,false,false,false,false,false,false,false,false,false,false,false,false,false,false,false,false,false,false,false,false,false,false,false,false,false] ?_;refine pU (i:=2) (N:=some 123) HT_ #[true,true,true,false,false,false,false,false,false,false,false,false,false,false,false,false,false,false,false,false,false,false,false,false,false,false,false,false] ?_;refine pU (i:=3) (N:=some 124) HT_ #[true,true,true,true,false,false,false,false,false,false,false,false,false,false,false,false,false,false,false,false,false,false,false,false,false,false,false,false] ?_;refine pU (i:=4) (N:=some 125) HT_ #[true,true,true,true,true,false,false,false,false,false,false,false,false,false,false,false,false,false,false,false,false,false,false,false,false,false,false,false] ?_;refine pU (i:=5) (N:=some 126) HT_ #[true,true,true,true,true,true,false,false,false,false,false,false,false,false,false,false,false,false,false,false,false,false,false,false,false,false,false,false] ?_;refine pU (i:=6) (N:=some 127) HT_ #[true,true,true,true,true,true,true,false,false,false,false,false,false,false,false,false,false,false,false,false,false,false,false,false,false,false,false,false] ?_;refine pU (i:=7) (N:=some 128) HT_ #[true,true,true,true,true,true,true,true,false,false,false,false,false,false,false,false,false,false,false,false,false,false,false,false,false,false,false,false] ?_;refine pU (i:=8) (N:=some 129) HT_ #[true,true,true,true,true,true,true,true,true,false,false,false,false,false,false,false,false,false,false,false,false,false,false,false,false,false,false,false] ?_;refine pU (i:=9) (N:=some 130) HT_ #[true,true,true,true,true,true,true,true,true,true,false,false,false,false,false,false,false,false,false,false,false,false,false,false,false,false,false,false] ?_;refine pU (i:=10) (N:=some 131) HT_ #[true,true,true,true,true,true,true,true,true,true,true,false,false,false,false,false,false,false,false,false,false,false,false,false,false,false,false,false] ?_;refine pU (i:=11) (N:=some 132) HT_ #[true,true,true,true,true,true,true,true,true,true,true,true,false,false,false,false,false,false,false,false,false,false,false,false,false,false,false,false] ?_;refine pU (i:=12) (N:=some 133) HT_ #[true,true,true,true,true,true,true,true,true,true,true,true,true,false,false,false,false,false,false,false,false,false,false,false,false,false,false,false] ?_;refine pU (i:=13) (N:=some 134) HT_ #[true,true,true,true,true,true,true,true,true,true,true,true,true,true,false,false,false,false,false,false,false,false,false,false,false,false,false,false] ?_;refine pU (i:=14) (N:=some 135) HT_ #[true,true,true,true,true,true,true,true,true,true,true,true,true,true,true,false,false,false,false,false,false,false,false,false,false,false,false,false] ?_;refine pU (i:=16) (N:=some 137) HT_ #[true,true,true,true,true,true,true,true,true,true,true,true,true,true,true,false,true,false,false,false,false,false,false,false,false,false,false,false] ?_;refine pU (i:=17) (N:=some 138) HT_ #[true,true,true,true,true,true,true,true,true,true,true,true,true,true,true,false,true,true,false,false,false,false,false,false,false,false,false,false] ?_;refine pU (i:=18) (N:=some 139) HT_ #[true,true,true,true,true,true,true,true,true,true,true,true,true,true,true,false,true,true,true,false,false,false,false,false,false,false,false,false] ?_;refine pU (i:=19) (N:=some 140) HT_ #[true,true,true,true,true,true,true,true,true,true,true,true,true,true,true,false,true,true,true,true,false,false,false,false,false,false,false,false] ?_;refine pU (i:=21) (N:=some 142) HT_ #[true,true,true,true,true,true,true,true,true,true,true,true,true,true,true,false,true,true,true,true,false,true,false,false,false,false,false,false] ?_;refine pU (i:=22) (N:=some 143) HT_ #[true,true,true,true,true,true,true,true,true,true,true,true,true,true,true,false,true,true,true,true,false,true,true,false,false,false,false,false] ?_;refine pU (i:=23) (N:=some 144) HT_ #[true,true,true,true,true,true,true,true,true,true,true,true,true,true,true,false,true,true,true,true,false,true,true,true,false,false,false,false] ?_;refine take_ (i:=15) (N:=some 136) (v:=?_) (a':=?_) #[true,true,true,true,true,true,true,true,true,true,true,true,true,true,true,true,true,true,true,true,false,true,true,true,false,false,false,false] rfl rfl (take_ofW HT_.out HW_.out (by kernel_rfl)) (fun _ _ _ h=>h) (Or.inl ⟨by rfl,?_⟩) hHeld ?_ ?_
                              rotate_left
                              ·rintro w' ⟨s0,s1,s2⟩;go_simp
                               with_reducible rfl
                              rotate_left
                              ·simp only[Act.put,sA,sZ,sC,i64_w,i32_w];rfl
                              refine take_ (i:=20) (N:=some 141) (v:=?_) (a':=?_) #[true,true,true,true,true,true,true,true,true,true,true,true,true,true,true,true,true,true,true,true,true,true,true,true,false,false,false,false] rfl rfl (take_ofW HT_.out HW_.out (by kernel_rfl)) (fun _ _ _ h=>h) (Or.inl ⟨by rfl,?_⟩) hHeld ?_ ?_
                              rotate_left
                              ·rintro w' ⟨s0,s1,s2⟩;go_simp
                               with_reducible rfl
                              rotate_left
                              ·simp only[Act.put,sA,sZ,sC,i64_w,i32_w];rfl
                              refine take_ (i:=24) (N:=some 145) (v:=?_) (a':=?_) #[true,true,true,true,true,true,true,true,true,true,true,true,true,true,true,true,true,true,true,true,true,true,true,true,true,false,false,false] rfl rfl (take_ofW HT_.out HW_.out (by kernel_rfl)) (fun _ _ _ h=>h) (Or.inl ⟨by rfl,?_⟩) hHeld ?_ ?_
                              rotate_left
                              ·rintro w' ⟨s0,s1,s2⟩;go_simp
                               with_reducible rfl
                              rotate_left
                              ·simp only[Act.put,sA,sZ,sC,i64_w,i32_w];rfl
                              refine pU (i:=25) (N:=some 146) HT_ #[true,true,true,true,true,true,true,true,true,true,true,true,true,true,true,true,true,true,true,true,true,true,true,true,true,true,false,false] ?_;refine pU (i:=26) (N:=some 147) HT_ #[true,true,true,true,true,true,true,true,true,true,true,true,true,true,true,true,true,true,true,true,true,true,true,true,true,true,true,false] ?_;refine pU (i:=27) (N:=some 148) HT_ #[true,true,true,true,true,true,true,true,true,true,true,true,true,true,true,true,true,true,true,true,true,true,true,true,true,true,true,true] ?_;refine done_ (done_of HT_.out (by kernel_rfl)) ?_
                              try go_wp2
                              go_meet
                              case rel=>exact⟨_,(((rd t861 (ji54)) != (wrap64 ((rd t842 (ji54))+(rd t842 (ji36)))))),(by first|rfl|(simp;done)|(simp only[← hji36,← hji54] <;> (first|rfl|simp))|(simp [*];done)),H',⟨by have:=HJ3.out;have:=HJ10.out;have:=HK3.out;have:=HK4.out;first|omega|exact Nat.le_refl _⟩,⟨by(with_reducible repeat(first|apply Kd.R_alloc|apply Kd.R_drewN|apply Kd.R_drew));exact Kd.R_mono HO_7.out (fun _ hk=>hk.2)⟩,⟨by(with_reducible repeat(first|apply Kd.R_alloc|apply Kd.R_drewN|apply Kd.R_drew));exact Kd.R_mono HO864.out (fun _ hk=>hk.1.2)⟩,⟨pB⟩⟩
                             ·rw[if_neg c58] at H;exact absurd H (by simp)
                            ·rw[if_neg c57] at H;exact absurd H (by simp)
                           ·rw[if_neg c56] at H;exact absurd H (by simp)
                          ·rw[if_neg c55] at H;exact absurd H (by simp)
                         ·rw[if_neg c53] at H;have c53b0:((t861.length:Int) == (wrap64 ((t842.length:Int) - 1)))=false:=beq_eq_false_iff_ne.mpr c53;have c53b1:((t861.length:Int) != (wrap64 ((t842.length:Int) - 1)))=true:=bne_iff_ne.mpr c53;have H':=aM H;clear H;try go_wp2
                          have n0_:=aM (Kd.R_drew HO_7.out);have n1_:=aM (Kd.R_drew HO860.out);have n2_:=aM (Kd.R_drew HO864.out);have n3_:=aM (below_drew1 HB.out);clear HO_7;clear HO860;clear HO864;clear HB;have HO_7:=n0_;have HO860:=n1_;have HO864:=n2_;have HB:=n3_;clear n0_ n1_ n2_ n3_;obtain⟨Ao62,co62,eo62⟩:=Kd.R_slice HO864.out;(first|subst eo62|(injection eo62 with f1_ f2_ f3_;have f4_:=f1_.symm;have f5_:=f3_.symm;clear f1_ f2_ f3_;subst f4_;subst f5_))
                          refine start_ (n:=28) (S:=fun w'=>True) (ds:=[]) #[false,false,false,false,false,false,false,false,false,false,false,false,false,false,false,false,false,false,false,false,false,false,false,false,false,false,false,false] (by kernel_rfl) rfl rfl trivial (fun hHeld=>?_);refine with_tabW papermilllaw60_StatsClasses.tab27 papermilllaw60_StatsClasses.bits27 (fun HT_ HW_=>?_)
                          generalize w51.drew=w61 at HO_7 HO860 HO864 HB hHeld ⊢;refine pU (i:=0) (N:=some 121) HT_ #[true,false,false,false,false,false,false,false,false,false,false,false,false,false,false,false,false,false,false,false,false,false,false,false,false,false,false,false] ?_;refine pU (i:=1) (N:=some 122) HT_ #[true,true,false,false,false,false,false,false,false,false,false,false,false,false,false,false,false,false,false,false,false,false,false,false,false,false,false,false] ?_;refine pU (i:=2) (N:=some 123) HT_ #[true,true,true,false,false,false,false,false,false,false,false,false,false,false,false,false,false,false,false,false,false,false,false,false,false,false,false,false] ?_;refine pU (i:=3) (N:=some 124) HT_ #[true,true,true,true,false,false,false,false,false,false,false,false,false,false,false,false,false,false,false,false,false,false,false,false,false,false,false,false] ?_;refine pU (i:=4) (N:=some 125) HT_ #[true,true,true,true,true,false,false,false,false,false,false,false,false,false,false,false,false,false,false,false,false,false,false,false,false,false,false,false] ?_;refine pU (i:=5) (N:=some 126) HT_ #[true,true,true,true,true,true,false,false,false,false,false,false,false,false,false,false,false,false,false,false,false,false,false,false,false,false,false,false] ?_;refine pU (i:=6) (N:=some 127) HT_ #[true,true,true,true,true,true,true,false,false,false,false,false,false,false,false,false,false,false,false,false,false,false,false,false,false,false,false,false] ?_;refine pU (i:=7) (N:=some 128) HT_ #[true,true,true,true,true,true,true,true,false,false,false,false,false,false,false,false,false,false,false,false,false,false,false,false,false,false,false,false] ?_;refine pU (i:=8) (N:=some 129) HT_ #[true,true,true,true,true,true,true,true,true,false,false,false,false,false,false,false,false,false,false,false,false,false,false,false,false,false,false,false] ?_;refine pU (i:=9) (N:=some 130) HT_ #[true,true,true,true,true,true,true,true,true,true,false,false,false,false,false,false,false,false,false,false,false,false,false,false,false,false,false,false] ?_;refine pU (i:=10) (N:=some 131) HT_ #[true,true,true,true,true,true,true,true,true,true,true,false,false,false,false,false,false,false,false,false,false,false,false,false,false,false,false,false] ?_;refine pure_ (i:=11) (N:=some 132) (v:=undef) (a':=?_) #[true,true,true,true,true,true,true,true,true,true,true,true,false,false,false,false,false,false,false,false,false,false,false,false,false,false,false,false] rfl rfl (any_of HT_.out (by kernel_rfl)) (fun _ _ _ h=>h) (Or.inr ⟨by rfl,rfl⟩) ?_ ?_
                          rotate_left
                          ·simp only[Act.put,sA,sZ,sC,i64_w,i32_w];rfl
                          refine pure_ (i:=12) (N:=some 133) (v:=undef) (a':=?_) #[true,true,true,true,true,true,true,true,true,true,true,true,true,false,false,false,false,false,false,false,false,false,false,false,false,false,false,false] rfl rfl (any_of HT_.out (by kernel_rfl)) (fun _ _ _ h=>h) (Or.inr ⟨by rfl,rfl⟩) ?_ ?_
                          rotate_left
                          ·simp only[Act.put,sA,sZ,sC,i64_w,i32_w];rfl
                          refine pure_ (i:=13) (N:=some 134) (v:=undef) (a':=?_) #[true,true,true,true,true,true,true,true,true,true,true,true,true,true,false,false,false,false,false,false,false,false,false,false,false,false,false,false] rfl rfl (any_of HT_.out (by kernel_rfl)) (fun _ _ _ h=>h) (Or.inr ⟨by rfl,rfl⟩) ?_ ?_
                          rotate_left
                          ·simp only[Act.put,sA,sZ,sC,i64_w,i32_w];rfl
                          refine pure_ (i:=14) (N:=some 135) (v:=undef) (a':=?_) #[true,true,true,true,true,true,true,true,true,true,true,true,true,true,true,false,false,false,false,false,false,false,false,false,false,false,false,false] rfl rfl (any_of HT_.out (by kernel_rfl)) (fun _ _ _ h=>h) (Or.inr ⟨by rfl,rfl⟩) ?_ ?_
                          rotate_left
                          ·simp only[Act.put,sA,sZ,sC,i64_w,i32_w];rfl
                          refine pure_ (i:=15) (N:=some 136) (v:=undef) (a':=?_) #[true,true,true,true,true,true,true,true,true,true,true,true,true,true,true,true,false,false,false,false,false,false,false,false,false,false,false,false] rfl rfl (any_of HT_.out (by kernel_rfl)) (fun _ _ _ h=>h) (Or.inr ⟨by rfl,rfl⟩) ?_ ?_
                          rotate_left
                          ·simp only[Act.put,sA,sZ,sC,i64_w,i32_w];rfl
                          refine pure_ (i:=16) (N:=some 137) (v:=undef) (a':=?_) #[true,true,true,true,true,true,true,true,true,true,true,true,true,true,true,true,true,false,false,false,false,false,false,false,false,false,false,false] rfl rfl (any_of HT_.out (by kernel_rfl)) (fun _ _ _ h=>h) (Or.inr ⟨by rfl,rfl⟩) ?_ ?_
                          rotate_left
                          ·simp only[Act.put,sA,sZ,sC,i64_w,i32_w];rfl
                          refine pure_ (i:=17) (N:=some 138) (v:=undef) (a':=?_) #[true,true,true,true,true,true,true,true,true,true,true,true,true,true,true,true,true,true,false,false,false,false,false,false,false,false,false,false] rfl rfl (any_of HT_.out (by kernel_rfl)) (fun _ _ _ h=>h) (Or.inr ⟨by rfl,rfl⟩) ?_ ?_
                          rotate_left
                          ·simp only[Act.put,sA,sZ,sC,i64_w,i32_w];rfl
                          refine pure_ (i:=18) (N:=some 139) (v:=undef) (a':=?_) #[true,true,true,true,true,true,true,true,true,true,true,true,true,true,true,true,true,true,true,false,false,false,false,false,false,false,false,false] rfl rfl (any_of HT_.out (by kernel_rfl)) (fun _ _ _ h=>h) (Or.inr ⟨by rfl,rfl⟩) ?_ ?_
                          rotate_left
                          ·simp only[Act.put,sA,sZ,sC,i64_w,i32_w];rfl
                          refine pure_ (i:=19) (N:=some 140) (v:=undef) (a':=?_) #[true,true,true,true,true,true,true,true,true,true,true,true,true,true,true,true,true,true,true,true,false,false,false,false,false,false,false,false] rfl rfl (any_of HT_.out (by kernel_rfl)) (fun _ _ _ h=>h) (Or.inr ⟨by rfl,rfl⟩) ?_ ?_
                          rotate_left
                          ·simp only[Act.put,sA,sZ,sC,i64_w,i32_w];rfl
                          refine pure_ (i:=20) (N:=some 141) (v:=undef) (a':=?_) #[true,true,true,true,true,true,true,true,true,true,true,true,true,true,true,true,true,true,true,true,true,false,false,false,false,false,false,false] rfl rfl (any_of HT_.out (by kernel_rfl)) (fun _ _ _ h=>h) (Or.inr ⟨by rfl,rfl⟩) ?_ ?_
                          rotate_left
                          ·simp only[Act.put,sA,sZ,sC,i64_w,i32_w];rfl
                          refine pure_ (i:=21) (N:=some 142) (v:=undef) (a':=?_) #[true,true,true,true,true,true,true,true,true,true,true,true,true,true,true,true,true,true,true,true,true,true,false,false,false,false,false,false] rfl rfl (any_of HT_.out (by kernel_rfl)) (fun _ _ _ h=>h) (Or.inr ⟨by rfl,rfl⟩) ?_ ?_
                          rotate_left
                          ·simp only[Act.put,sA,sZ,sC,i64_w,i32_w];rfl
                          refine pure_ (i:=22) (N:=some 143) (v:=undef) (a':=?_) #[true,true,true,true,true,true,true,true,true,true,true,true,true,true,true,true,true,true,true,true,true,true,true,false,false,false,false,false] rfl rfl (any_of HT_.out (by kernel_rfl)) (fun _ _ _ h=>h) (Or.inr ⟨by rfl,rfl⟩) ?_ ?_
                          rotate_left
                          ·simp only[Act.put,sA,sZ,sC,i64_w,i32_w];rfl
                          refine pure_ (i:=23) (N:=some 144) (v:=undef) (a':=?_) #[true,true,true,true,true,true,true,true,true,true,true,true,true,true,true,true,true,true,true,true,true,true,true,true,false,false,false,false] rfl rfl (any_of HT_.out (by kernel_rfl)) (fun _ _ _ h=>h) (Or.inr ⟨by rfl,rfl⟩) ?_ ?_
                          rotate_left
                          ·simp only[Act.put,sA,sZ,sC,i64_w,i32_w];rfl
                          refine pure_ (i:=24) (N:=some 145) (v:=undef) (a':=?_) #[true,true,true,true,true,true,true,true,true,true,true,true,true,true,true,true,true,true,true,true,true,true,true,true,true,false,false,false] rfl rfl (any_of HT_.out (by kernel_rfl)) (fun _ _ _ h=>h) (Or.inr ⟨by rfl,rfl⟩) ?_ ?_
                          rotate_left
                          ·simp only[Act.put,sA,sZ,sC,i64_w,i32_w];rfl
                          refine pure_ (i:=25) (N:=some 146) (v:=undef) (a':=?_) #[true,true,true,true,true,true,true,true,true,true,true,true,true,true,true,true,true,true,true,true,true,true,true,true,true,true,false,false] rfl rfl (any_of HT_.out (by kernel_rfl)) (fun _ _ _ h=>h) (Or.inr ⟨by rfl,rfl⟩) ?_ ?_
                          rotate_left
                          ·simp only[Act.put,sA,sZ,sC,i64_w,i32_w];rfl
                          refine pure_ (i:=26) (N:=some 147) (v:=undef) (a':=?_) #[true,true,true,true,true,true,true,true,true,true,true,true,true,true,true,true,true,true,true,true,true,true,true,true,true,true,true,false] rfl rfl (any_of HT_.out (by kernel_rfl)) (fun _ _ _ h=>h) (Or.inr ⟨by rfl,rfl⟩) ?_ ?_
                          rotate_left
                          ·simp only[Act.put,sA,sZ,sC,i64_w,i32_w];rfl
                          refine pU (i:=27) (N:=some 148) HT_ #[true,true,true,true,true,true,true,true,true,true,true,true,true,true,true,true,true,true,true,true,true,true,true,true,true,true,true,true] ?_;refine done_ (done_of HT_.out (by kernel_rfl)) ?_
                          try go_wp2
                          go_meet
                          case rel=>exact⟨_,(true),sD,H',⟨by have:=HJ3.out;have:=HJ10.out;have:=HK3.out;have:=HK4.out;first|omega|exact Nat.le_refl _⟩,⟨by(with_reducible repeat(first|apply Kd.R_alloc|apply Kd.R_drewN|apply Kd.R_drew));exact Kd.R_mono HO_7.out (fun _ hk=>hk.2)⟩,⟨by(with_reducible repeat(first|apply Kd.R_alloc|apply Kd.R_drewN|apply Kd.R_drew));exact Kd.R_mono HO864.out (fun _ hk=>hk.1.2)⟩,⟨pB⟩⟩
                        ·rw[if_neg c52] at H;have c52b0:(t862 == 0)=false:=beq_eq_false_iff_ne.mpr c52;have c52b1:(t862 != 0)=true:=bne_iff_ne.mpr c52;(first|rw[c52b0]|(simp only[i64_w,i32_w];rw[c52b0])|skip)
                         have H':=aM H;clear H;try go_wp2
                         have n0_:=aM (Kd.R_drew HO_7.out);have n1_:=aM (Kd.R_drew HO860.out);have n2_:=aM (Kd.R_drew HO864.out);have n3_:=aM (below_drew1 HB.out);clear HO_7;clear HO860;clear HO864;clear HB;have HO_7:=n0_;have HO860:=n1_;have HO864:=n2_;have HB:=n3_;clear n0_ n1_ n2_ n3_;refine start_ (n:=28) (S:=fun w'=>True) (ds:=[]) #[false,false,false,false,false,false,false,false,false,false,false,false,false,false,false,false,false,false,false,false,false,false,false,false,false,false,false,false] (by kernel_rfl) rfl rfl trivial (fun hHeld=>?_);refine with_tabW papermilllaw60_StatsClasses.tab27 papermilllaw60_StatsClasses.bits27 (fun HT_ HW_=>?_)
                         generalize w51.drew=w63 at HO_7 HO860 HO864 HB hHeld ⊢;refine pU (i:=0) (N:=some 121) HT_ #[true,false,false,false,false,false,false,false,false,false,false,false,false,false,false,false,false,false,false,false,false,false,false,false,false,false,false,false] ?_;refine pU (i:=1) (N:=some 122) HT_ #[true,true,false,false,false,false,false,false,false,false,false,false,false,false,false,false,false,false,false,false,false,false,false,false,false,false,false,false] ?_;refine pU (i:=2) (N:=some 123) HT_ #[true,true,true,false,false,false,false,false,false,false,false,false,false,false,false,false,false,false,false,false,false,false,false,false,false,false,false,false] ?_;refine pure_ (i:=3) (N:=some 124) (v:=undef) (a':=?_) #[true,true,true,true,false,false,false,false,false,false,false,false,false,false,false,false,false,false,false,false,false,false,false,false,false,false,false,false] rfl rfl (any_of HT_.out (by kernel_rfl)) (fun _ _ _ h=>h) (Or.inr ⟨by rfl,rfl⟩) ?_ ?_
                         rotate_left
                         ·simp only[Act.put,sA,sZ,sC,i64_w,i32_w];rfl
                         refine pure_ (i:=4) (N:=some 125) (v:=undef) (a':=?_) #[true,true,true,true,true,false,false,false,false,false,false,false,false,false,false,false,false,false,false,false,false,false,false,false,false,false,false,false] rfl rfl (any_of HT_.out (by kernel_rfl)) (fun _ _ _ h=>h) (Or.inr ⟨by rfl,rfl⟩) ?_ ?_
                         rotate_left
                         ·simp only[Act.put,sA,sZ,sC,i64_w,i32_w];rfl
                         refine pure_ (i:=5) (N:=some 126) (v:=undef) (a':=?_) #[true,true,true,true,true,true,false,false,false,false,false,false,false,false,false,false,false,false,false,false,false,false,false,false,false,false,false,false] rfl rfl (any_of HT_.out (by kernel_rfl)) (fun _ _ _ h=>h) (Or.inr ⟨by rfl,rfl⟩) ?_ ?_
                         rotate_left
                         ·simp only[Act.put,sA,sZ,sC,i64_w,i32_w];rfl
                         refine pure_ (i:=6) (N:=some 127) (v:=undef) (a':=?_) #[true,true,true,true,true,true,true,false,false,false,false,false,false,false,false,false,false,false,false,false,false,false,false,false,false,false,false,false] rfl rfl (any_of HT_.out (by kernel_rfl)) (fun _ _ _ h=>h) (Or.inr ⟨by rfl,rfl⟩) ?_ ?_
                         rotate_left
                         ·simp only[Act.put,sA,sZ,sC,i64_w,i32_w];rfl
                         refine pure_ (i:=7) (N:=some 128) (v:=undef) (a':=?_) #[true,true,true,true,true,true,true,true,false,false,false,false,false,false,false,false,false,false,false,false,false,false,false,false,false,false,false,false] rfl rfl (any_of HT_.out (by kernel_rfl)) (fun _ _ _ h=>h) (Or.inr ⟨by rfl,rfl⟩) ?_ ?_
                         rotate_left
                         ·simp only[Act.put,sA,sZ,sC,i64_w,i32_w];rfl
                         refine pure_ (i:=8) (N:=some 129) (v:=undef) (a':=?_) #[true,true,true,true,true,true,true,true,true,false,false,false,false,false,false,false,false,false,false,false,false,false,false,false,false,false,false,false] rfl rfl (any_of HT_.out (by kernel_rfl)) (fun _ _ _ h=>h) (Or.inr ⟨by rfl,rfl⟩) ?_ ?_
                         rotate_left
                         ·simp only[Act.put,sA,sZ,sC,i64_w,i32_w];rfl
                         refine pU (i:=9) (N:=some 130) HT_ #[true,true,true,true,true,true,true,true,true,true,false,false,false,false,false,false,false,false,false,false,false,false,false,false,false,false,false,false] ?_;refine pU (i:=10) (N:=some 131) HT_ #[true,true,true,true,true,true,true,true,true,true,true,false,false,false,false,false,false,false,false,false,false,false,false,false,false,false,false,false] ?_;refine pure_ (i:=11) (N:=some 132) (v:=undef) (a':=?_) #[true,true,true,true,true,true,true,true,true,true,true,true,false,false,false,false,false,false,false,false,false,false,false,false,false,false,false,false] rfl rfl (any_of HT_.out (by kernel_rfl)) (fun _ _ _ h=>h) (Or.inr ⟨by rfl,rfl⟩) ?_ ?_
                         rotate_left
                         ·simp only[Act.put,sA,sZ,sC,i64_w,i32_w];rfl
                         refine pure_ (i:=12) (N:=some 133) (v:=undef) (a':=?_) #[true,true,true,true,true,true,true,true,true,true,true,true,true,false,false,false,false,false,false,false,false,false,false,false,false,false,false,false] rfl rfl (any_of HT_.out (by kernel_rfl)) (fun _ _ _ h=>h) (Or.inr ⟨by rfl,rfl⟩) ?_ ?_
                         rotate_left
                         ·simp only[Act.put,sA,sZ,sC,i64_w,i32_w];rfl
                         refine pure_ (i:=13) (N:=some 134) (v:=undef) (a':=?_) #[true,true,true,true,true,true,true,true,true,true,true,true,true,true,false,false,false,false,false,false,false,false,false,false,false,false,false,false] rfl rfl (any_of HT_.out (by kernel_rfl)) (fun _ _ _ h=>h) (Or.inr ⟨by rfl,rfl⟩) ?_ ?_
                         rotate_left
                         ·simp only[Act.put,sA,sZ,sC,i64_w,i32_w];rfl
                         refine pure_ (i:=14) (N:=some 135) (v:=undef) (a':=?_) #[true,true,true,true,true,true,true,true,true,true,true,true,true,true,true,false,false,false,false,false,false,false,false,false,false,false,false,false] rfl rfl (any_of HT_.out (by kernel_rfl)) (fun _ _ _ h=>h) (Or.inr ⟨by rfl,rfl⟩) ?_ ?_
                         rotate_left
                         ·simp only[Act.put,sA,sZ,sC,i64_w,i32_w];rfl
                         refine pure_ (i:=15) (N:=some 136) (v:=undef) (a':=?_) #[true,true,true,true,true,true,true,true,true,true,true,true,true,true,true,true,false,false,false,false,false,false,false,false,false,false,false,false] rfl rfl (any_of HT_.out (by kernel_rfl)) (fun _ _ _ h=>h) (Or.inr ⟨by rfl,rfl⟩) ?_ ?_
                         rotate_left
                         ·simp only[Act.put,sA,sZ,sC,i64_w,i32_w];rfl
                         refine pure_ (i:=16) (N:=some 137) (v:=undef) (a':=?_) #[true,true,true,true,true,true,true,true,true,true,true,true,true,true,true,true,true,false,false,false,false,false,false,false,false,false,false,false] rfl rfl (any_of HT_.out (by kernel_rfl)) (fun _ _ _ h=>h) (Or.inr ⟨by rfl,rfl⟩) ?_ ?_
                         rotate_left
                         ·simp only[Act.put,sA,sZ,sC,i64_w,i32_w];rfl
                         refine pure_ (i:=17) (N:=some 138) (v:=undef) (a':=?_) #[true,true,true,true,true,true,true,true,true,true,true,true,true,true,true,true,true,true,false,false,false,false,false,false,false,false,false,false] rfl rfl (any_of HT_.out (by kernel_rfl)) (fun _ _ _ h=>h) (Or.inr ⟨by rfl,rfl⟩) ?_ ?_
                         rotate_left
                         ·simp only[Act.put,sA,sZ,sC,i64_w,i32_w];rfl
                         refine pure_ (i:=18) (N:=some 139) (v:=undef) (a':=?_) #[true,true,true,true,true,true,true,true,true,true,true,true,true,true,true,true,true,true,true,false,false,false,false,false,false,false,false,false] rfl rfl (any_of HT_.out (by kernel_rfl)) (fun _ _ _ h=>h) (Or.inr ⟨by rfl,rfl⟩) ?_ ?_
                         rotate_left
                         ·simp only[Act.put,sA,sZ,sC,i64_w,i32_w];rfl
                         refine pure_ (i:=19) (N:=some 140) (v:=undef) (a':=?_) #[true,true,true,true,true,true,true,true,true,true,true,true,true,true,true,true,true,true,true,true,false,false,false,false,false,false,false,false] rfl rfl (any_of HT_.out (by kernel_rfl)) (fun _ _ _ h=>h) (Or.inr ⟨by rfl,rfl⟩) ?_ ?_
                         rotate_left
                         ·simp only[Act.put,sA,sZ,sC,i64_w,i32_w];rfl
                         refine pure_ (i:=20) (N:=some 141) (v:=undef) (a':=?_) #[true,true,true,true,true,true,true,true,true,true,true,true,true,true,true,true,true,true,true,true,true,false,false,false,false,false,false,false] rfl rfl (any_of HT_.out (by kernel_rfl)) (fun _ _ _ h=>h) (Or.inr ⟨by rfl,rfl⟩) ?_ ?_
                         rotate_left
                         ·simp only[Act.put,sA,sZ,sC,i64_w,i32_w];rfl
                         refine pure_ (i:=21) (N:=some 142) (v:=undef) (a':=?_) #[true,true,true,true,true,true,true,true,true,true,true,true,true,true,true,true,true,true,true,true,true,true,false,false,false,false,false,false] rfl rfl (any_of HT_.out (by kernel_rfl)) (fun _ _ _ h=>h) (Or.inr ⟨by rfl,rfl⟩) ?_ ?_
                         rotate_left
                         ·simp only[Act.put,sA,sZ,sC,i64_w,i32_w];rfl
                         refine pure_ (i:=22) (N:=some 143) (v:=undef) (a':=?_) #[true,true,true,true,true,true,true,true,true,true,true,true,true,true,true,true,true,true,true,true,true,true,true,false,false,false,false,false] rfl rfl (any_of HT_.out (by kernel_rfl)) (fun _ _ _ h=>h) (Or.inr ⟨by rfl,rfl⟩) ?_ ?_
                         rotate_left
                         ·simp only[Act.put,sA,sZ,sC,i64_w,i32_w];rfl
                         refine pure_ (i:=23) (N:=some 144) (v:=undef) (a':=?_) #[true,true,true,true,true,true,true,true,true,true,true,true,true,true,true,true,true,true,true,true,true,true,true,true,false,false,false,false] rfl rfl (any_of HT_.out (by kernel_rfl)) (fun _ _ _ h=>h) (Or.inr ⟨by rfl,rfl⟩) ?_ ?_
                         rotate_left
                         ·simp only[Act.put,sA,sZ,sC,i64_w,i32_w];rfl
                         refine pure_ (i:=24) (N:=some 145) (v:=undef) (a':=?_) #[true,true,true,true,true,true,true,true,true,true,true,true,true,true,true,true,true,true,true,true,true,true,true,true,true,false,false,false] rfl rfl (any_of HT_.out (by kernel_rfl)) (fun _ _ _ h=>h) (Or.inr ⟨by rfl,rfl⟩) ?_ ?_
                         rotate_left
                         ·simp only[Act.put,sA,sZ,sC,i64_w,i32_w];rfl
                         refine pure_ (i:=25) (N:=some 146) (v:=undef) (a':=?_) #[true,true,true,true,true,true,true,true,true,true,true,true,true,true,true,true,true,true,true,true,true,true,true,true,true,true,false,false] rfl rfl (any_of HT_.out (by kernel_rfl)) (fun _ _ _ h=>h) (Or.inr ⟨by rfl,rfl⟩) ?_ ?_
                         rotate_left
                         ·simp only[Act.put,sA,sZ,sC,i64_w,i32_w];rfl
                         refine pure_ (i:=26) (N:=some 147) (v:=undef) (a':=?_) #[true,true,true,true,true,true,true,true,true,true,true,true,true,true,true,true,true,true,true,true,true,true,true,true,true,true,true,false] rfl rfl (any_of HT_.out (by kernel_rfl)) (fun _ _ _ h=>h) (Or.inr ⟨by rfl,rfl⟩) ?_ ?_
                         rotate_left
                         ·simp only[Act.put,sA,sZ,sC,i64_w,i32_w];rfl
                         refine pU (i:=27) (N:=some 148) HT_ #[true,true,true,true,true,true,true,true,true,true,true,true,true,true,true,true,true,true,true,true,true,true,true,true,true,true,true,true] ?_;refine done_ (done_of HT_.out (by kernel_rfl)) ?_
                         try go_wp2
                         go_meet
                         case rel=>exact⟨_,(true),sD,H',⟨by have:=HJ3.out;have:=HJ10.out;have:=HK3.out;have:=HK4.out;first|omega|exact Nat.le_refl _⟩,⟨by(with_reducible repeat(first|apply Kd.R_alloc|apply Kd.R_drewN|apply Kd.R_drew));exact Kd.R_mono HO_7.out (fun _ hk=>hk.2)⟩,⟨by(with_reducible repeat(first|apply Kd.R_alloc|apply Kd.R_drewN|apply Kd.R_drew));exact Kd.R_mono HO864.out (fun _ hk=>hk.1.2)⟩,⟨pB⟩⟩
                       case rest=>as_aux_lemma =>
                        clear HC45;try clear p2
                        try clear c5
                        try clear p6
                        try clear p8
                        try clear q8
                        try clear hx8
                        try clear c52
                        try clear c52b0
                        try clear c52b1
                        try clear c53
                        try clear c53b0
                        try clear c53b1
                        try clear c55
                        try clear c56
                        try clear c57
                        try clear c58
                        try clear hx865_0
                        try clear hx866_0
                        try clear hx867_0
                        try clear p866
                        try clear p867
                        try clear q866
                        try clear q867
                        obtain⟨kq,x148_44,rfl,HA,HJ44,HO_7,HO_14,HB⟩:=hcut;cases kq with
                        | zero=>exact absurd HA.out (by simp [papermilllaw60_StatsClasses.j4])
                        | succ kj44 =>
                         have H:=HA.out;clear HA;simp only[papermilllaw60_StatsClasses.j4] at H;by_cases c64:x148_44=true
                         ·subst c64;rw[if_pos rfl] at H;exact absurd H (by simp)
                         ·replace c64:=Bool.eq_false_iff.mpr c64;subst c64;rw[if_neg (show ¬ (false=true) by decide)] at H
                          obtain⟨ji65,hji65⟩:∃ j_:Int,(wrap64 (ji36 - 1))=j_:=⟨_,rfl⟩;replace H:(if 0≤(ji65) then(if(ji65)≤(t861.length:Int) then(if(ji65)≤(t842.length:Int) then((Azy.f kj44 (t861.take ((ji65):Int).toNat) (t842.take ((ji65):Int).toNat)).bind fun t876=>(if t876=true then(if 0≤ji36 then(if ji36≤(t861.length:Int) then(if 0≤(wrap64 (ji36+1)) then(if(wrap64 (ji36+1))≤(t842.length:Int) then((Azy.f kj44 (t861.drop (ji36:Int).toNat) (t842.drop ((wrap64 (ji36+1)):Int).toNat)).bind fun t885=>(if t885=true then((Azz.f kj44).bind fun t886=>(some t886)) else(none))) else(none)) else(none)) else(none)) else(none)) else(none))) else(none)) else(none)) else(none))=some r:=by first|(rw[hji65] at H;exact H)|(simp only[hji65] at H ⊢;exact H)
                          have hji65w:(IntKind.i64.wrap (ji36 - 1))=ji65:=(i64_w _).trans hji65;by_cases c66:0≤(ji65)
                          ·rw[if_pos c66] at H;have c66b0:=eq_true c66;have c66b1:decide (0≤(ji65))=true:=dE c66;clear c66;by_cases c67:(ji65)≤(t861.length:Int)
                           ·rw[if_pos c67] at H;have c67b0:=eq_true c67;have c67b1:decide ((ji65)≤(t861.length:Int))=true:=dE c67;clear c67;obtain⟨y868,hy868⟩:∃ y_:List Int,y_=(t861.take ((ji65):Int).toNat):=⟨_,rfl⟩;replace H:(if(ji65)≤(t842.length:Int) then((Azy.f kj44 y868 (t842.take ((ji65):Int).toNat)).bind fun t876=>(if t876=true then(if 0≤ji36 then(if ji36≤(t861.length:Int) then(if 0≤(wrap64 (ji36+1)) then(if(wrap64 (ji36+1))≤(t842.length:Int) then((Azy.f kj44 (t861.drop (ji36:Int).toNat) (t842.drop ((wrap64 (ji36+1)):Int).toNat)).bind fun t885=>(if t885=true then((Azz.f kj44).bind fun t886=>(some t886)) else(none))) else(none)) else(none)) else(none)) else(none)) else(none))) else(none))=some r:=by first|(rw[hy868];with_reducible exact H)|(have H2_:=(Option.bind_some _ _).symm.trans H;rw[hy868];with_reducible exact H2_)|(have H2_:=(Option.bind_some _ _).symm.trans H;with_reducible exact H2_)|with_reducible exact H|(rw[hy868];exact H)|exact H
                            have Ny868:=aM hy868;clear hy868;have c68b0:=eq_true (oE aS:0≤(ji65))
                            by_cases c69:(ji65)≤(t842.length:Int)
                            ·rw[if_pos c69] at H;have c69b0:=eq_true c69;have c69b1:decide ((ji65)≤(t842.length:Int))=true:=dE c69;clear c69;obtain⟨y872,hy872⟩:∃ y_:List Int,y_=(t842.take ((ji65):Int).toNat):=⟨_,rfl⟩;replace H:((Azy.f kj44 y868 y872).bind fun t876=>(if t876=true then(if 0≤ji36 then(if ji36≤(t861.length:Int) then(if 0≤(wrap64 (ji36+1)) then(if(wrap64 (ji36+1))≤(t842.length:Int) then((Azy.f kj44 (t861.drop (ji36:Int).toNat) (t842.drop ((wrap64 (ji36+1)):Int).toNat)).bind fun t885=>(if t885=true then((Azz.f kj44).bind fun t886=>(some t886)) else(none))) else(none)) else(none)) else(none)) else(none)) else(none)))=some r:=by first|(rw[hy872];with_reducible exact H)|(have H2_:=(Option.bind_some _ _).symm.trans H;rw[hy872];with_reducible exact H2_)|(have H2_:=(Option.bind_some _ _).symm.trans H;with_reducible exact H2_)|with_reducible exact H|(rw[hy872];exact H)|exact H
                             have Ny872:=aM hy872;clear hy872;replace H:=bS H;obtain⟨t876,A700,H⟩:=H;try dsimp only at H
                             have A70:=aM A700;clear A700;by_cases c71:t876=true
                             ·subst c71;rw[if_pos rfl] at H;by_cases c72:0≤ji36
                              ·rw[if_pos c72] at H;have c72b0:=eq_true c72;have c72b1:decide (0≤ji36)=true:=dE c72;clear c72;by_cases c73:ji36≤(t861.length:Int)
                               ·rw[if_pos c73] at H;have c73b0:=eq_true c73;have c73b1:decide (ji36≤(t861.length:Int))=true:=dE c73;clear c73;obtain⟨y877,hy877⟩:∃ y_:List Int,y_=(t861.drop (ji36:Int).toNat):=⟨_,rfl⟩;replace H:(if 0≤(wrap64 (ji36+1)) then(if(wrap64 (ji36+1))≤(t842.length:Int) then((Azy.f kj44 y877 (t842.drop ((wrap64 (ji36+1)):Int).toNat)).bind fun t885=>(if t885=true then((Azz.f kj44).bind fun t886=>(some t886)) else(none))) else(none)) else(none))=some r:=by first|(rw[hy877];with_reducible exact H)|(have H2_:=(Option.bind_some _ _).symm.trans H;rw[hy877];with_reducible exact H2_)|(have H2_:=(Option.bind_some _ _).symm.trans H;with_reducible exact H2_)|with_reducible exact H|(rw[hy877];exact H)|exact H
                                have Ny877:=aM hy877;clear hy877;obtain⟨ji74,hji74⟩:∃ j_:Int,(wrap64 (ji36+1))=j_:=⟨_,rfl⟩;replace H:(if 0≤(ji74) then(if(ji74)≤(t842.length:Int) then((Azy.f kj44 y877 (t842.drop ((ji74):Int).toNat)).bind fun t885=>(if t885=true then((Azz.f kj44).bind fun t886=>(some t886)) else(none))) else(none)) else(none))=some r:=by first|(rw[hji74] at H;exact H)|(simp only[hji74] at H ⊢;exact H)
                                obtain rfl:ji74=ji40:=hji74.symm.trans hji40
                                (try rw[hji74] at A70)
                                have hji74w:(IntKind.i64.wrap (ji36+1))=ji74:=(i64_w _).trans hji74;by_cases c75:0≤(ji74)
                                ·rw[if_pos c75] at H;have c75b0:=eq_true c75;have c75b1:decide (0≤(ji74))=true:=dE c75;clear c75;by_cases c76:(ji74)≤(t842.length:Int)
                                 ·rw[if_pos c76] at H;have c76b0:=eq_true c76;have c76b1:decide ((ji74)≤(t842.length:Int))=true:=dE c76;clear c76;obtain⟨y881,hy881⟩:∃ y_:List Int,y_=(t842.drop ((ji74):Int).toNat):=⟨_,rfl⟩;replace H:((Azy.f kj44 y877 y881).bind fun t885=>(if t885=true then((Azz.f kj44).bind fun t886=>(some t886)) else(none)))=some r:=by first|(rw[hy881];with_reducible exact H)|(have H2_:=(Option.bind_some _ _).symm.trans H;rw[hy881];with_reducible exact H2_)|(have H2_:=(Option.bind_some _ _).symm.trans H;with_reducible exact H2_)|with_reducible exact H|(rw[hy881];exact H)|exact H
                                  have Ny881:=aM hy881;clear hy881;replace H:=bS H;obtain⟨t885,A770,H⟩:=H;try dsimp only at H
                                  have A77:=aM A770;clear A770;by_cases c78:t885=true
                                  ·subst c78;rw[if_pos rfl] at H;replace H:=bS H;obtain⟨t886,A790,H⟩:=H;try dsimp only at H
                                   have A79:=aM A790;clear A790;obtain rfl:=Option.some.inj H;try go_wp2
                                   have n0_:=aM (Kd.R_drew HO_7.out);have n1_:=aM (Kd.R_drew HO_14.out);have n2_:=aM (below_drew1 HB.out);clear HO_7;clear HO_14;clear HB;have HO_7:=n0_;have HO_14:=n1_;have HB:=n2_;clear n0_ n1_ n2_;obtain⟨Ao82,co82,eo82⟩:=Kd.R_slice HO_14.out;(first|subst eo82|(injection eo82 with f1_ f2_ f3_;have f4_:=f1_.symm;have f5_:=f3_.symm;clear f1_ f2_ f3_;subst f4_;subst f5_))
                                   have q81:((ji65):Int)≤((t861.length:Int):Int):=oE aS
                                   obtain⟨i081,hi081,_,hsz81,_⟩:=info_parts info3;have hroom81:t861.length≤co82:=(Kd.R_reads' HO_14.out).2.1;have hC81:Kd.C (Kd.int .i64) _ Ao82 t861.length t861:=(Kd.R_reads' HO_14.out).2.2;have hcut81:=cut_to (P:=Try.prog) 22 3 .i64 Try.underlying22 hi081 Ao82 t861.length co82 (ji65) (oE aS) q81 hroom81
                                   have hr81:=Kd.C_take (m:=((ji65):Int).toNat) hC81 (by omega)
                                   have hy81:y868.length=((ji65):Int).toNat:=(by rw[Ny868.out,List.length_take];omega)
                                   rw[← Ny868.out] at hr81;rw[← hy81] at hcut81;have HR871:=aM hr81;have HC871:=aM (show y868.length≤co82 from by omega)
                                   clear hr81 hC81 hroom81 hi081 hsz81;have KY81:=aM hy81;clear hy81;have KL81:=aM (show((ji65):Int).toNat≤t861.length from by omega)
                                   replace q81:=eq_true q81;have q83:((ji65):Int)≤((t842.length:Int):Int):=oE aS
                                   obtain⟨i083,hi083,_,hsz83,_⟩:=info_parts info3;have hroom83:t842.length≤co19:=(Kd.R_reads' HO_7.out).2.1;have hC83:Kd.C (Kd.int .i64) _ Ao19 t842.length t842:=(Kd.R_reads' HO_7.out).2.2;have hcut83:=cut_to (P:=Try.prog) 22 3 .i64 Try.underlying22 hi083 Ao19 t842.length co19 (ji65) (oE aS) q83 hroom83
                                   have hr83:=Kd.C_take (m:=((ji65):Int).toNat) hC83 (by omega)
                                   have hy83:y872.length=((ji65):Int).toNat:=(by rw[Ny872.out,List.length_take];omega)
                                   rw[← Ny872.out] at hr83;rw[← hy83] at hcut83;have HR875:=aM hr83;have HC875:=aM (show y872.length≤co19 from by omega)
                                   clear hr83 hC83 hroom83 hi083 hsz83;have KY83:=aM hy83;clear hy83;have KL83:=aM (show((ji65):Int).toNat≤t842.length from by omega)
                                   replace q83:=eq_true q83;refine start_ (n:=23) (S:=fun w'=>True) (ds:=[]) #[false,false,false,false,false,false,false,false,false,false,false,false,false,false,false,false,false,false,false,false,false,false,false] (by kernel_rfl) rfl rfl trivial (fun hHeld=>?_);refine with_tabW papermilllaw60_StatsClasses.tab29 papermilllaw60_StatsClasses.bits29 (fun HT_ HW_=>?_)
                                   generalize wc.drew=w80 at HO_7 HO_14 HB HR871 HR875 hHeld ⊢;refine pU (i:=0) (N:=some 149) HT_ #[true,false,false,false,false,false,false,false,false,false,false,false,false,false,false,false,false,false,false,false,false,false,false] ?_;refine pU (i:=1) (N:=some 150) HT_ #[true,true,false,false,false,false,false,false,false,false,false,false,false,false,false,false,false,false,false,false,false,false,false] ?_;refine pU (i:=2) (N:=some 151) HT_ #[true,true,true,false,false,false,false,false,false,false,false,false,false,false,false,false,false,false,false,false,false,false,false] ?_;refine pU (i:=3) (N:=some 152) HT_ #[true,true,true,true,false,false,false,false,false,false,false,false,false,false,false,false,false,false,false,false,false,false,false] ?_;refine pU (i:=4) (N:=some 153) HT_ #[true,true,true,true,true,false,false,false,false,false,false,false,false,false,false,false,false,false,false,false,false,false,false] ?_;refine pU (i:=5) (N:=some 154) HT_ #[true,true,true,true,true,true,false,false,false,false,false,false,false,false,false,false,false,false,false,false,false,false,false] ?_;refine pU (i:=6) (N:=some 155) HT_ #[true,true,true,true,true,true,true,false,false,false,false,false,false,false,false,false,false,false,false,false,false,false,false] ?_;refine pU (i:=7) (N:=some 156) HT_ #[true,true,true,true,true,true,true,true,false,false,false,false,false,false,false,false,false,false,false,false,false,false,false] ?_;refine one_ (i:=8) (N:=some 157) #[true,true,true,true,true,true,true,true,true,false,false,false,false,false,false,false,false,false,false,false,false,false,false] rfl rfl (one_of HT_.out (by kernel_rfl)) (by decide) (fun K hK=>?_)
                                   refine goes_ Try.func19 (by kernel_rfl) rfl #[.slice Ao82 y868.length co82,.slice Ao19 y872.length co19] (by rfl) rfl rfl mA ?_
                                   with_reducible refine(Azy.calls kj44 _ _ y868 _ _ y872 true _ ?side1 ?side2 ?side3 ?side4 A70.out).mono ?_
                                   (case side1=>repeat(first|exact(by repeat(first|(with_reducible exact HR871.out)|(with_reducible refine Kd.C_alloc ?_ _)|(with_reducible refine Kd.C_drewN ?_ _)|(with_reducible refine Kd.C_drew ?_)|exact HR871.out))|(with_reducible refine Kd.C_alloc ?_ _)|(with_reducible refine Kd.C_drewN ?_ _)|(with_reducible refine Kd.C_drew ?_)))
                                   (case side2=>exact HC871.out)
                                   (case side3=>repeat(first|exact(by repeat(first|(with_reducible exact HR875.out)|(with_reducible refine Kd.C_alloc ?_ _)|(with_reducible refine Kd.C_drewN ?_ _)|(with_reducible refine Kd.C_drew ?_)|exact HR875.out))|(with_reducible refine Kd.C_alloc ?_ _)|(with_reducible refine Kd.C_drewN ?_ _)|(with_reducible refine Kd.C_drew ?_)))
                                   (case side4=>exact HC875.out)
                                   rintro e w' ⟨rfl,⟨nd,rfl⟩⟩;refine⟨_,rfl,?_⟩;have q84:(ji36:Int)≤((t861.length:Int):Int):=oE aS
                                   obtain⟨i084,hi084,_,hsz84,_⟩:=info_parts info3;have hroom84:t861.length≤co82:=(Kd.R_reads' HO_14.out).2.1;have hC84:Kd.C (Kd.int .i64) _ Ao82 t861.length t861:=(Kd.R_reads' HO_14.out).2.2;have q084:(0:Int)≤(ji36:Int):=oE aS
                                   have hcut84:=cut_from (P:=Try.prog) 22 3 .i64 Try.underlying22 hi084 1 hsz84 Ao82 t861.length co82 ji36 q084 q84;have hr84:=Kd.C_drop (m:=(ji36:Int).toNat) (c:=co82) hC84 (by omega) hroom84
                                   obtain⟨A84,hA84⟩:∃ A1,A1=(if co82=(ji36:Int).toNat then Ao82 else(Ao82:Option Addr).map (·.add ((ji36:Int).toNat * 1))):=⟨_,rfl⟩
                                   obtain⟨c84,hc84⟩:∃ c1,c1=co82 - (ji36:Int).toNat:=⟨_,rfl⟩;have hy84:y877.length=t861.length - (ji36:Int).toNat:=(by rw[Ny877.out,List.length_drop] <;> omega)
                                   rw[show(t861).drop (ji36:Int).toNat=y877 from Ny877.out.symm] at hr84
                                   replace hr84:Kd.C (Kd.int .i64) _ A84 y877.length y877:=(by rw[hA84];exact hr84)
                                   rw[← hy84,← hA84,← hc84] at hcut84;have HR880:=aM hr84;have HC880:=aM (show y877.length≤c84 from by rw[hy84,hc84];exact Nat.sub_le_sub_right hroom84 _)
                                   clear hr84 hC84 hroom84 hi084 hsz84 hc84;have KY84:=aM hy84;have KA84:=aM hA84;clear hy84 hA84;have KL84:=aM (show(ji36:Int).toNat≤t861.length from by omega)
                                   replace q84:=eq_true q84;have q85:((ji74):Int)≤((t842.length:Int):Int):=oE aS
                                   obtain⟨i085,hi085,_,hsz85,_⟩:=info_parts info3;have hroom85:t842.length≤co19:=(Kd.R_reads' HO_7.out).2.1;have hC85:Kd.C (Kd.int .i64) _ Ao19 t842.length t842:=(Kd.R_reads' HO_7.out).2.2;have q085:(0:Int)≤((ji74):Int):=oE aS
                                   have hcut85:=cut_from (P:=Try.prog) 22 3 .i64 Try.underlying22 hi085 1 hsz85 Ao19 t842.length co19 (ji74) q085 q85;have hr85:=Kd.C_drop (m:=((ji74):Int).toNat) (c:=co19) hC85 (by omega) hroom85
                                   obtain⟨A85,hA85⟩:∃ A1,A1=(if co19=((ji74):Int).toNat then Ao19 else(Ao19:Option Addr).map (·.add (((ji74):Int).toNat * 1))):=⟨_,rfl⟩
                                   obtain⟨c85,hc85⟩:∃ c1,c1=co19 - ((ji74):Int).toNat:=⟨_,rfl⟩;have hy85:y881.length=t842.length - ((ji74):Int).toNat:=(by rw[Ny881.out,List.length_drop] <;> omega)
                                   rw[show(t842).drop ((ji74):Int).toNat=y881 from Ny881.out.symm] at hr85
                                   replace hr85:Kd.C (Kd.int .i64) _ A85 y881.length y881:=(by rw[hA85];exact hr85)
                                   rw[← hy85,← hA85,← hc85] at hcut85;have HR884:=aM hr85;have HC884:=aM (show y881.length≤c85 from by rw[hy85,hc85];exact Nat.sub_le_sub_right hroom85 _)
                                   clear hr85 hC85 hroom85 hi085 hsz85 hc85;have KY85:=aM hy85;have KA85:=aM hA85;clear hy85 hA85;have KL85:=aM (show((ji74):Int).toNat≤t842.length from by omega)
                                   replace q85:=eq_true q85;refine hK.out _ _ trivial (fun hHeld=>?_)
                                   clear hK K;refine norm_ (a':=?_) ?_ ?_;rotate_left
                                   ·show Act.put _ (some 157) _=_
                                    simp only[Act.put,sA,sZ,sC,i64_w,i32_w];rfl
                                   refine pU (i:=9) (N:=some 158) HT_ #[true,true,true,true,true,true,true,true,true,true,false,false,false,false,false,false,false,false,false,false,false,false,false] ?_;refine pU (i:=10) (N:=some 159) HT_ #[true,true,true,true,true,true,true,true,true,true,true,false,false,false,false,false,false,false,false,false,false,false,false] ?_;refine pU (i:=11) (N:=some 160) HT_ #[true,true,true,true,true,true,true,true,true,true,true,true,false,false,false,false,false,false,false,false,false,false,false] ?_;refine pU (i:=12) (N:=some 161) HT_ #[true,true,true,true,true,true,true,true,true,true,true,true,true,false,false,false,false,false,false,false,false,false,false] ?_;refine pU (i:=13) (N:=some 162) HT_ #[true,true,true,true,true,true,true,true,true,true,true,true,true,true,false,false,false,false,false,false,false,false,false] ?_;refine pU (i:=14) (N:=some 163) HT_ #[true,true,true,true,true,true,true,true,true,true,true,true,true,true,true,false,false,false,false,false,false,false,false] ?_;refine pU (i:=15) (N:=some 164) HT_ #[true,true,true,true,true,true,true,true,true,true,true,true,true,true,true,true,false,false,false,false,false,false,false] ?_;refine pU (i:=16) (N:=some 165) HT_ #[true,true,true,true,true,true,true,true,true,true,true,true,true,true,true,true,true,false,false,false,false,false,false] ?_;refine one_ (i:=17) (N:=some 166) #[true,true,true,true,true,true,true,true,true,true,true,true,true,true,true,true,true,true,false,false,false,false,false] rfl rfl (one_of HT_.out (by kernel_rfl)) (by decide) (fun K hK=>?_)
                                   refine goes_ Try.func19 (by kernel_rfl) rfl #[.slice A84 y877.length c84,.slice A85 y881.length c85] (by rfl) rfl rfl mA ?_
                                   with_reducible refine(Azy.calls kj44 _ _ y877 _ _ y881 true _ ?side1 ?side2 ?side3 ?side4 A77.out).mono ?_
                                   (case side1=>repeat(first|exact(by repeat(first|(with_reducible exact HR880.out)|(with_reducible refine Kd.C_alloc ?_ _)|(with_reducible refine Kd.C_drewN ?_ _)|(with_reducible refine Kd.C_drew ?_)|exact HR880.out))|(with_reducible refine Kd.C_alloc ?_ _)|(with_reducible refine Kd.C_drewN ?_ _)|(with_reducible refine Kd.C_drew ?_)))
                                   (case side2=>exact HC880.out)
                                   (case side3=>repeat(first|exact(by repeat(first|(with_reducible exact HR884.out)|(with_reducible refine Kd.C_alloc ?_ _)|(with_reducible refine Kd.C_drewN ?_ _)|(with_reducible refine Kd.C_drew ?_)|exact HR884.out))|(with_reducible refine Kd.C_alloc ?_ _)|(with_reducible refine Kd.C_drewN ?_ _)|(with_reducible refine Kd.C_drew ?_)))
                                   (case side4=>exact HC884.out)
                                   rintro e w' ⟨rfl,⟨nd,rfl⟩⟩;refine⟨_,rfl,?_⟩;refine hK.out _ _ trivial (fun hHeld=>?_)
                                   clear hK K;refine norm_ (a':=?_) ?_ ?_;rotate_left
                                   ·show Act.put _ (some 166) _=_
                                    simp only[Act.put,sA,sZ,sC,i64_w,i32_w];rfl
                                   refine pU (i:=18) (N:=some 167) HT_ #[true,true,true,true,true,true,true,true,true,true,true,true,true,true,true,true,true,true,true,false,false,false,false] ?_;refine pU (i:=19) (N:=some 168) HT_ #[true,true,true,true,true,true,true,true,true,true,true,true,true,true,true,true,true,true,true,true,false,false,false] ?_;refine one_ (i:=20) (N:=some 169) #[true,true,true,true,true,true,true,true,true,true,true,true,true,true,true,true,true,true,true,true,true,false,false] rfl rfl (one_of HT_.out (by kernel_rfl)) (by decide) (fun K hK=>?_)
                                   refine goes_ Try.func10 (by kernel_rfl) rfl #[] (by rfl) rfl rfl mA ?_
                                   with_reducible refine(Azz.calls kj44  t886 _ A79.out).mono ?_
                                   rintro e w86 ⟨rfl,hb⟩;refine⟨_,rfl,?_⟩;have n0_:=aM (Kd.R_below (rX HO_7.out) hb);have n1_:=aM (Kd.R_below (rX HO_14.out) hb);have n2_:=aM (Kd.C_below (by repeat(first|(with_reducible exact HR871.out)|(with_reducible refine Kd.C_alloc ?_ _)|(with_reducible refine Kd.C_drewN ?_ _)|(with_reducible refine Kd.C_drew ?_)|exact HR871.out)) hb)
                                   have n3_:=aM (Kd.C_below (by repeat(first|(with_reducible exact HR875.out)|(with_reducible refine Kd.C_alloc ?_ _)|(with_reducible refine Kd.C_drewN ?_ _)|(with_reducible refine Kd.C_drew ?_)|exact HR875.out)) hb)
                                   have n4_:=aM (Kd.C_below (by repeat(first|(with_reducible exact HR880.out)|(with_reducible refine Kd.C_alloc ?_ _)|(with_reducible refine Kd.C_drewN ?_ _)|(with_reducible refine Kd.C_drew ?_)|exact HR880.out)) hb)
                                   have n5_:=aM (Kd.C_below (by repeat(first|(with_reducible exact HR884.out)|(with_reducible refine Kd.C_alloc ?_ _)|(with_reducible refine Kd.C_drewN ?_ _)|(with_reducible refine Kd.C_drew ?_)|exact HR884.out)) hb)
                                   have n6_:=aM (below_step pB hb);clear HO_7;clear HO_14;clear HR871;clear HR875;clear HR880;clear HR884;clear HB;have HO_7:=n0_;have HO_14:=n1_;have HR871:=n2_;have HR875:=n3_;have HR880:=n4_;have HR884:=n5_;have HB:=n6_;clear n0_ n1_ n2_ n3_ n4_ n5_ n6_;(try clear hb)
                                   (try clear hb2)
                                   (try clear hk)
                                   (try clear hi)
                                   refine hK.out _ _ trivial (fun hHeld=>?_)
                                   clear hK K;refine norm_ (a':=?_) ?_ ?_;rotate_left
                                   ·show Act.put _ (some 169) _=_
                                    simp only[Act.put,sA,sZ,sC,i64_w,i32_w];rfl
                                   refine pU (i:=21) (N:=some 170) HT_ #[true,true,true,true,true,true,true,true,true,true,true,true,true,true,true,true,true,true,true,true,true,true,false] ?_;refine pU (i:=22) (N:=some 6) HT_ #[true,true,true,true,true,true,true,true,true,true,true,true,true,true,true,true,true,true,true,true,true,true,true] ?_;refine done_ (done_of HT_.out (by kernel_rfl)) ?_
                                   try go_wp2
                                   go_ret
                                   exact⟨by first|rfl|(simp [errW_none,errW_some] <;> rfl)|(simp only[← hji36,← hji40,← hji65,← hji74];first|rfl|(simp [errW_none,errW_some] <;> rfl))|(simp [*,errW_none,errW_some] <;> rfl),pB⟩
                                  ·replace c78:=Bool.eq_false_iff.mpr c78;subst c78;rw[if_neg (show ¬ (false=true) by decide)] at H
                                   exact absurd H (by simp)
                                 ·rw[if_neg c76] at H;exact absurd H (by simp)
                                ·rw[if_neg c75] at H;exact absurd H (by simp)
                               ·rw[if_neg c73] at H;exact absurd H (by simp)
                              ·rw[if_neg c72] at H;exact absurd H (by simp)
                             ·replace c71:=Bool.eq_false_iff.mpr c71;subst c71;rw[if_neg (show ¬ (false=true) by decide)] at H
                              exact absurd H (by simp)
                            ·rw[if_neg c69] at H;exact absurd H (by simp)
                           ·rw[if_neg c67] at H;exact absurd H (by simp)
                          ·rw[if_neg c66] at H;exact absurd H (by simp)
                      ·rw[if_neg c43] at H;exact absurd H (by simp)
                     ·rw[if_neg c42] at H;exact absurd H (by simp)
                    ·rw[if_neg c41] at H;exact absurd H (by simp)
                   ·rw[if_neg c39] at H;exact absurd H (by simp)
                  ·rw[if_neg c38] at H;exact absurd H (by simp)
                 ·rw[if_neg c37] at H;exact absurd H (by simp)
              ·rw[if_neg c31] at H;exact absurd H (by simp)
    ·rw[if_neg c10] at H;have c10b0:(t843 == 0)=false:=beq_eq_false_iff_ne.mpr c10;have c10b1:(t843 != 0)=true:=bne_iff_ne.mpr c10;by_cases c87:(t842.length:Int)=0
     ·rw[if_pos c87] at H;have c87b0:((t842.length:Int) == 0)=true:=beq_iff_eq.mpr c87;have c87b1:((t842.length:Int) != 0)=false:=bne_eq_false_iff_eq.mpr c87;clear c87;replace H:=bS H;obtain⟨t846,A880,H⟩:=H;try dsimp only at H
      have A88:=aM A880;clear A880;obtain rfl:=Option.some.inj H;go_wp2_with (first|((with_reducible refine gate_callee (f:=15) rfl ?_);refine goesL_ (some 28) rfl rfl Try.func15 (by kernel_rfl) rfl #[.slice A0 l0.length c0,.slice A1 l1.length c1] rfl mA ?_;(with_reducible refine(Azv.calls kj3 _ _ l0 _ _ l1 t842 t843 _ ?side1 ?side2 ?side3 ?side4 A9.out).mono ?_);(case side1=>exact cX (Kd.C_below HR0.out HB.out));(case side2=>exact HC0.out);(case side3=>exact cX (Kd.C_below HR1.out HB.out));(case side4=>exact HC1.out);rintro e w89 ⟨v844,rfl,ho0,hb⟩;refine⟨_,rfl,?_⟩;have HO845:=aM (Kd.R_lower ho0 (below_size pB));replace HB:=aM (below_step pB hb);(try clear hb);(try clear hb2);(try clear hk);(try clear hi);(try clear ho0);obtain⟨Ao90,co90,eo90⟩:=Kd.R_slice HO845.out;subst eo90)|(go_at_call 10;(with_reducible refine(Azz.calls kj3  t846 _ A88.out).mono ?_);rintro e w91 ⟨rfl,hb⟩;replace HO845:=aM (Kd.R_below (rX HO845.out) hb);replace HB:=aM (below_step pB hb);(try clear hb);(try clear hb2);(try clear hk);(try clear hi)))
      go_ret
      exact⟨eW,pB⟩
     ·rw[if_neg c87] at H;exact absurd H (by simp)

/-- THE ONE PURE STATEMENT of papermilllaw60_StatsClasses: yours. -/
def papermilllaw60_StatsClasses.Pure:Prop:=∀ (l0:List Int) (l1:List Int) (a2:Int),l0.length≤maxLen→l0.length * 8≤140737488351232→(∀ x ∈ l0,(Lit.int .i64 x).wf=true)→l1.length≤maxLen→l1.length * 8≤140737488351232→(∀ x ∈ l1,(Lit.int .i64 x).wf=true)→(Lit.int .u8 a2).wf=true→∃ k,papermilllaw60_StatsClasses.f k l0 l1 a2=some true
theorem papermilllaw60_StatsClasses.walk (P:papermilllaw60_StatsClasses.Pure) (a0:Option Addr) (len0 cap0:Nat) (z0:List Int) (a1:Option Addr) (len1 cap1:Nat) (z1:List Int) (a2:Int) (w:World) (w0:(a0=none∧len0=0∧cap0=0∧z0=[])∨∃ x,a0=some x∧len0≤cap0∧cap0≤maxLen∧z0.length=cap0∧(∀ i,i < z0.length→w.cell? (x.add i)=some (.int .i64 (z0.getD i 0)))∧∀ n ∈ z0,(Lit.int .i64 n).wf=true) (y0:len0 * 8≤140737488351232) (w1:(a1=none∧len1=0∧cap1=0∧z1=[])∨∃ x,a1=some x∧len1≤cap1∧cap1≤maxLen∧z1.length=cap1∧(∀ i,i < z1.length→w.cell? (x.add i)=some (.int .i64 (z1.getD i 0)))∧∀ n ∈ z1,(Lit.int .i64 n).wf=true) (y1:len1 * 8≤140737488351232) (w2:(Lit.int .u8 a2).wf=true) :
  Calls Try.prog 6 #[.slice a0 len0 cap0,.slice a1 len1 cap1,.int .u8 a2] w fun e w'=>e=.returned (.bool true)∧Below w.heap.size w w':=by
 obtain⟨l0,rfl,hr0,hm0,hw0,hc0⟩:=ReadsInt.ofRowC w0;obtain⟨l1,rfl,hr1,hm1,hw1,hc1⟩:=ReadsInt.ofRowC w1;obtain⟨k,h⟩:=P l0 l1 a2 hm0 y0 hw0 hm1 y1 hw1 w2;refine(papermilllaw60_StatsClasses.calls k _ _ l0 _ _ l1 a2 true w (Kd.C_of_reads (d:=(0:Int)) (h1:=fun _=>rfl) hr0) hc0 (Kd.C_of_reads (d:=(0:Int)) (h1:=fun _=>rfl) hr1) hc1 h).mono ?_
 rintro e w' ⟨rfl,hd⟩;exact⟨rfl,hd⟩

end Go.Proofs.Ytokkiljkgejnhaa.Print
