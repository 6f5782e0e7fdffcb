import Derived.Test.YtokkiljkgejnhaaPrint0
import Derived.Test.YtokkiljkgejnhaaPrint10
import Derived.Test.YtokkiljkgejnhaaPrint37
import Derived.Test.YtokkiljkgejnhaaPrint46
namespace Go.Proofs.Ytokkiljkgejnhaa.Print
open Go.RowKit Go.Proofs.YtokkiljkgejnhaaW.PrintWords Go.Proofs.YtokkiljkgejnhaaW.PrintLast Go.Proofs.YtokkiljkgejnhaaW.PrintMore
attribute [local go_sem] max2_int min2_int max_two min_two max_three min_three max_four min_four
set_option linter.unusedVariables false
set_option maxRecDepth 100000
set_option maxHeartbeats 8000000
set_option linter.unusedSimpArgs false

mutual
def papermilllaw60_StatsRuns.l0:Nat→List Int→Int→Int→Int→Bool→Bool→Bool→Int→Option (Bool)
 | 0,_,_,_,_,_,_,_,_=>none
 | k+1,x0,x1,x5,x6,x8,x9,x10,x11=>if x11 < (x0.length:Int) then(papermilllaw60_StatsRuns.l1 k x0 x1 x5 x6 x8 x9 x10 x11 0) else(if x8=true then(if x9=true then(papermilllaw60_StatsRuns.j2 k x0 x1 x5 x6 true) else(if x5 < 0 then(papermilllaw60_StatsRuns.j2 k x0 x1 x5 x6 true) else(if x6 < 0 then(papermilllaw60_StatsRuns.j2 k x0 x1 x5 x6 true) else(if x5 > (x0.length:Int) then(papermilllaw60_StatsRuns.j2 k x0 x1 x5 x6 true) else(if x6 > (x0.length:Int) then(papermilllaw60_StatsRuns.j2 k x0 x1 x5 x6 true) else(if x5=0 then(papermilllaw60_StatsRuns.j2 k x0 x1 x5 x6 ((x6 == 0) != x10)) else(papermilllaw60_StatsRuns.j2 k x0 x1 x5 x6 (false != x10)))))))) else(papermilllaw60_StatsRuns.j2 k x0 x1 x5 x6 true))
def papermilllaw60_StatsRuns.l1:Nat→List Int→Int→Int→Int→Bool→Bool→Bool→Int→Int→Option (Bool)
 | 0,_,_,_,_,_,_,_,_,_=>none
 | k+1,x0,x1,x5,x6,x8,x9,x10,x11,x12=>if(wrap64 (x11+x12)) < (x0.length:Int) then(if 0≤(wrap64 (x11+x12)) then(if(rd x0 (wrap64 (x11+x12))) > x1 then(papermilllaw60_StatsRuns.l1 k x0 x1 x5 x6 x8 x9 x10 x11 (wrap64 (x12+1))) else(if x8=true then(if x9=true then(if x10=true then(if 0≤x11 then(if x11 < (x0.length:Int) then(papermilllaw60_StatsRuns.l0 k x0 x1 x5 x6 true true ((rd x0 x11) == x1) (wrap64 (x11+1))) else(none)) else(none)) else(papermilllaw60_StatsRuns.l0 k x0 x1 x5 x6 true true false (wrap64 (x11+1)))) else(if x10=true then(if 0≤x11 then(if x11 < (x0.length:Int) then(papermilllaw60_StatsRuns.l0 k x0 x1 x5 x6 true (decide (x12 > x5)) ((rd x0 x11) == x1) (wrap64 (x11+1))) else(none)) else(none)) else(papermilllaw60_StatsRuns.l0 k x0 x1 x5 x6 true (decide (x12 > x5)) false (wrap64 (x11+1))))) else(if x9=true then(if x10=true then(if 0≤x11 then(if x11 < (x0.length:Int) then(papermilllaw60_StatsRuns.l0 k x0 x1 x5 x6 (x12 == x5) true ((rd x0 x11) == x1) (wrap64 (x11+1))) else(none)) else(none)) else(papermilllaw60_StatsRuns.l0 k x0 x1 x5 x6 (x12 == x5) true false (wrap64 (x11+1)))) else(if x10=true then(if 0≤x11 then(if x11 < (x0.length:Int) then(papermilllaw60_StatsRuns.l0 k x0 x1 x5 x6 (x12 == x5) (decide (x12 > x5)) ((rd x0 x11) == x1) (wrap64 (x11+1))) else(none)) else(none)) else(papermilllaw60_StatsRuns.l0 k x0 x1 x5 x6 (x12 == x5) (decide (x12 > x5)) false (wrap64 (x11+1))))))) else(none)) else(if x8=true then(if x9=true then(if x10=true then(if 0≤x11 then(if x11 < (x0.length:Int) then(papermilllaw60_StatsRuns.l0 k x0 x1 x5 x6 true true ((rd x0 x11) == x1) (wrap64 (x11+1))) else(none)) else(none)) else(papermilllaw60_StatsRuns.l0 k x0 x1 x5 x6 true true false (wrap64 (x11+1)))) else(if x10=true then(if 0≤x11 then(if x11 < (x0.length:Int) then(papermilllaw60_StatsRuns.l0 k x0 x1 x5 x6 true (decide (x12 > x5)) ((rd x0 x11) == x1) (wrap64 (x11+1))) else(none)) else(none)) else(papermilllaw60_StatsRuns.l0 k x0 x1 x5 x6 true (decide (x12 > x5)) false (wrap64 (x11+1))))) else(if x9=true then(if x10=true then(if 0≤x11 then(if x11 < (x0.length:Int) then(papermilllaw60_StatsRuns.l0 k x0 x1 x5 x6 (x12 == x5) true ((rd x0 x11) == x1) (wrap64 (x11+1))) else(none)) else(none)) else(papermilllaw60_StatsRuns.l0 k x0 x1 x5 x6 (x12 == x5) true false (wrap64 (x11+1)))) else(if x10=true then(if 0≤x11 then(if x11 < (x0.length:Int) then(papermilllaw60_StatsRuns.l0 k x0 x1 x5 x6 (x12 == x5) (decide (x12 > x5)) ((rd x0 x11) == x1) (wrap64 (x11+1))) else(none)) else(none)) else(papermilllaw60_StatsRuns.l0 k x0 x1 x5 x6 (x12 == x5) (decide (x12 > x5)) false (wrap64 (x11+1))))))
def papermilllaw60_StatsRuns.j2:Nat→List Int→Int→Int→Int→Bool→Option (Bool)
 | 0,_,_,_,_,_=>none
 | k+1,x0,x1,x5,x6,x122=>if x122=true then(none) else(if x1 < (-1125899906842624) then(papermilllaw60_StatsRuns.j3 k x0 x1 x5 x6 true) else(papermilllaw60_StatsRuns.j3 k x0 x1 x5 x6 (decide (x1 > 1125899906842624))))
def papermilllaw60_StatsRuns.j3:Nat→List Int→Int→Int→Int→Bool→Option (Bool)
 | 0,_,_,_,_,_=>none
 | k+1,x0,x1,x5,x6,x128=>if x128=true then((Azz.f k).bind fun t909=>(some t909)) else((Bzq.f k x0 0).bind fun t910=>((Czz.f k t910 (wrap64 (-x1))).bind fun bt913=>((Czz.f k x0 (wrap64 (x1 - 1))).bind fun bt916=>(if bt913.2.2=0 then(if bt916.2.2=0 then(if bt913.1=x6 then(if bt913.2.1=x5 then(if bt916.1≥x5 then(if bt916.2.1≤x6 then((Azz.f k).bind fun t919=>(some t919)) else(none)) else(none)) else(none)) else(none)) else(none)) else(none)))))
end
def papermilllaw60_StatsRuns.f (k:Nat) (l0:List Int) (a1:Int):Option (Bool):=if(l0.length:Int) > 100 then((Azz.f k).bind fun t895=>(some t895)) else((Czz.f k l0 a1).bind fun bt896=>(if bt896.2.2=0 then(papermilllaw60_StatsRuns.l0 k l0 a1 bt896.1 bt896.2.1 (bt896.1 == 0) false true 0) else(if bt896.1=0 then(if bt896.2.1=0 then((Azz.f k).bind fun t899=>(some t899)) else(none)) else(none))))
theorem papermilllaw60_StatsRuns.mono_l:∀ k,(∀ y0 y1 y2 y3 y4 y5 y6 y7,LeO (papermilllaw60_StatsRuns.l0 k y0 y1 y2 y3 y4 y5 y6 y7) (papermilllaw60_StatsRuns.l0 (k+1) y0 y1 y2 y3 y4 y5 y6 y7))∧(∀ y0 y1 y2 y3 y4 y5 y6 y7 y8,LeO (papermilllaw60_StatsRuns.l1 k y0 y1 y2 y3 y4 y5 y6 y7 y8) (papermilllaw60_StatsRuns.l1 (k+1) y0 y1 y2 y3 y4 y5 y6 y7 y8))∧(∀ y0 y1 y2 y3 y4,LeO (papermilllaw60_StatsRuns.j2 k y0 y1 y2 y3 y4) (papermilllaw60_StatsRuns.j2 (k+1) y0 y1 y2 y3 y4))∧(∀ y0 y1 y2 y3 y4,LeO (papermilllaw60_StatsRuns.j3 k y0 y1 y2 y3 y4) (papermilllaw60_StatsRuns.j3 (k+1) y0 y1 y2 y3 y4))
 | 0=>⟨fun _ _ _ _ _ _ _ _ r h=>by simp [papermilllaw60_StatsRuns.l0] at h,fun _ _ _ _ _ _ _ _ _ r h=>by simp [papermilllaw60_StatsRuns.l1] at h,fun _ _ _ _ _ r h=>by simp [papermilllaw60_StatsRuns.j2] at h,fun _ _ _ _ _ r h=>by simp [papermilllaw60_StatsRuns.j3] at h⟩
 | k+1=>by
  obtain⟨ih0,ih1,ih2,ih3⟩:=papermilllaw60_StatsRuns.mono_l k;refine⟨?_,?_,?_,?_⟩
  ·intro y0 y1 y2 y3 y4 y5 y6 y7;unfold papermilllaw60_StatsRuns.l0;with_reducible repeat' first|exact ih0 _ _ _ _ _ _ _ _|exact ih1 _ _ _ _ _ _ _ _ _|exact ih2 _ _ _ _ _|exact ih3 _ _ _ _ _|exact Azz.mono _|exact Bzq.mono _ _ _|exact Czz.mono _ _ _|exact LeO.refl _|exact LeO.none _|refine LeO.ite ?_ ?_|refine LeO.bind ?_ (fun _=>?_)
  ·intro y0 y1 y2 y3 y4 y5 y6 y7 y8;unfold papermilllaw60_StatsRuns.l1;with_reducible repeat' first|exact ih0 _ _ _ _ _ _ _ _|exact ih1 _ _ _ _ _ _ _ _ _|exact ih2 _ _ _ _ _|exact ih3 _ _ _ _ _|exact Azz.mono _|exact Bzq.mono _ _ _|exact Czz.mono _ _ _|exact LeO.refl _|exact LeO.none _|refine LeO.ite ?_ ?_|refine LeO.bind ?_ (fun _=>?_)
  ·intro y0 y1 y2 y3 y4;unfold papermilllaw60_StatsRuns.j2;with_reducible repeat' first|exact ih0 _ _ _ _ _ _ _ _|exact ih1 _ _ _ _ _ _ _ _ _|exact ih2 _ _ _ _ _|exact ih3 _ _ _ _ _|exact Azz.mono _|exact Bzq.mono _ _ _|exact Czz.mono _ _ _|exact LeO.refl _|exact LeO.none _|refine LeO.ite ?_ ?_|refine LeO.bind ?_ (fun _=>?_)
  ·intro y0 y1 y2 y3 y4;unfold papermilllaw60_StatsRuns.j3;with_reducible repeat' first|exact ih0 _ _ _ _ _ _ _ _|exact ih1 _ _ _ _ _ _ _ _ _|exact ih2 _ _ _ _ _|exact ih3 _ _ _ _ _|exact Azz.mono _|exact Bzq.mono _ _ _|exact Czz.mono _ _ _|exact LeO.refl _|exact LeO.none _|refine LeO.ite ?_ ?_|refine LeO.bind ?_ (fun _=>?_)
theorem papermilllaw60_StatsRuns.mono:∀ a0 a1 k,LeO (papermilllaw60_StatsRuns.f k a0 a1) (papermilllaw60_StatsRuns.f (k+1) a0 a1):=by
 intro a0 a1 k;obtain⟨ih0,ih1,ih2,ih3⟩:=papermilllaw60_StatsRuns.mono_l k;unfold papermilllaw60_StatsRuns.f;with_reducible repeat' first|exact ih0 _ _ _ _ _ _ _ _|exact ih1 _ _ _ _ _ _ _ _ _|exact ih2 _ _ _ _ _|exact ih3 _ _ _ _ _|exact Azz.mono _|exact Bzq.mono _ _ _|exact Czz.mono _ _ _|exact LeO.refl _|exact LeO.none _|refine LeO.ite ?_ ?_|refine LeO.bind ?_ (fun _=>?_)
theorem papermilllaw60_StatsRuns.calls (k:Nat) (A0:Option Addr) (c0:Nat) (l0:List Int) (a1:Int) (r:Bool) (w:World) (hr0:Kd.C (Kd.int .i64) w A0 l0.length l0) (hc0:l0.length≤c0) (h:papermilllaw60_StatsRuns.f k l0 a1=some r) :
  Calls Try.prog 8 #[.slice A0 l0.length c0,.int .i64 a1] w fun e w'=>e=.returned (.bool r)∧Below w.heap.size w w':=by
 have HR0:=aM hr0;have HC0:=aM hc0;clear hr0 hc0;have HB:=aM (Below.refl w.heap.size w);have H:(if(l0.length:Int) > 100 then((Azz.f k).bind fun t895=>(some t895)) else((Czz.f k l0 a1).bind fun bt896=>(if bt896.2.2=0 then(papermilllaw60_StatsRuns.l0 k l0 a1 bt896.1 bt896.2.1 (bt896.1 == 0) false true 0) else(if bt896.1=0 then(if bt896.2.1=0 then((Azz.f k).bind fun t899=>(some t899)) else(none)) else(none)))))=some r:=h
 clear h;by_cases c3:(l0.length:Int) > 100
 ·rw[if_pos c3] at H;have c3b0:decide (100 < (l0.length:Int))=true:=dE c3;have c3b1:decide (100 < l0.length)=true:=dE (by omega)
  clear c3;replace H:=bS H;obtain⟨t895,A40,H⟩:=H;replace H:(some t895)=some r:=H;have A4:=aM A40;clear A40;obtain rfl:=Option.some.inj H;go_enter Try.func8,Try.ntmps8
  go_wp2_with (first|(go_at_call 10;(with_reducible refine(Azz.calls k  t895 _ A4.out).mono ?_);rintro e w5 ⟨rfl,hb⟩;replace HB:=aM (below_step pB hb);(try clear hb);(try clear hb2);(try clear hk);(try clear hi)))
  repeat(go_quiet (first|(go_at_call 10;(with_reducible refine(Azz.calls k  t895 _ A4.out).mono ?_);rintro e w5 ⟨rfl,hb⟩;replace HB:=aM (below_step pB hb);(try clear hb);(try clear hb2);(try clear hk);(try clear hi)));try go_wp2_with (first|(go_at_call 10;(with_reducible refine(Azz.calls k  t895 _ A4.out).mono ?_);rintro e w5 ⟨rfl,hb⟩;replace HB:=aM (below_step pB hb);(try clear hb);(try clear hb2);(try clear hk);(try clear hi))))
  go_ret
  exact⟨eW,pB⟩
 ·rw[if_neg c3] at H;have c3b0:decide (100 < (l0.length:Int))=false:=decide_eq_false c3;have c3b1:decide (100 < l0.length)=false:=decide_eq_false (by omega)
  clear c3;replace H:=bS H;obtain⟨⟨t896,t897,t898⟩,A60,H⟩:=H;(try dsimp only at H);have A6:=aM A60;clear A60;by_cases c7:t898=0
  ·rw[if_pos c7] at H;have c7b0:(t898 == 0)=true:=beq_iff_eq.mpr c7;have c7b1:(t898 != 0)=false:=bne_eq_false_iff_eq.mpr c7;clear c7;have H':=aM H;clear H;go_enter Try.func8,Try.ntmps8
   have fl_:True:=trivial;repeat((first|clear fl_|go_quiet (first|(go_at_call 13;(with_reducible refine(Czz.calls k _ _ l0 a1 t896 t897 t898 _ ?side1 ?side2 A6.out).mono ?_);(case side1=>exact cX HR0.out);(case side2=>exact HC0.out);rintro e w8 ⟨rfl,hb⟩;replace HB:=aM (below_step pB hb);(try clear hb);(try clear hb2);(try clear hk);(try clear hi))));go_wp2_with (first|(go_at_call 13;(with_reducible refine(Czz.calls k _ _ l0 a1 t896 t897 t898 _ ?side1 ?side2 A6.out).mono ?_);(case side1=>exact cX HR0.out);(case side2=>exact HC0.out);rintro e w8 ⟨rfl,hb⟩;replace HB:=aM (below_step pB hb);(try clear hb);(try clear hb2);(try clear hk);(try clear hi))))
   try simp only[Act.put,sA,sZ,sC]
   go_loopg [8,9,10,11] k (fun kq v8 v9 v10 v11 w'=>∃ (x8_1:Bool) (x9_1:Bool) (x10_1:Bool) (x11_1:Int),v8=.bool x8_1∧v9=.bool x9_1∧v10=.bool x10_1∧v11=.int .i64 x11_1∧Aside0 (papermilllaw60_StatsRuns.l0 kq l0 a1 t896 t897 x8_1 x9_1 x10_1 x11_1=some r)∧Aside0 (kq≤k)∧Aside0 (Below w.heap.size w w'))
   case atStart=>exact⟨((t896 == 0)),(false),(true),(0),sD,sD,sD,sD,H',⟨Nat.le_refl _⟩,⟨pB⟩⟩
   case round =>
    clear H';try clear p2
    try clear c3
    try clear c3b0
    try clear c3b1
    try clear c7
    try clear c7b0
    try clear c7b1
    try clear c8
    obtain⟨x8_1,x9_1,x10_1,x11_1,rfl,rfl,rfl,rfl,HA,HK1,HB⟩:=hrel;cases gk with
    | zero=>exact absurd HA.out (by simp [papermilllaw60_StatsRuns.l0])
    | succ k1 =>
     have H:=HA.out;clear HA;simp only[papermilllaw60_StatsRuns.l0] at H;by_cases c9:x11_1 < (l0.length:Int)
     ·rw[if_pos c9] at H;have c9b0:decide (x11_1 < (l0.length:Int))=true:=dE c9;clear c9;have H':=aM H;clear H;go_wp2
      repeat(go_quiet (fail);try go_wp2)
      go_loopg [12] k1 (fun kq v12 w'=>∃ (x12_2:Int),v12=.int .i64 x12_2∧Aside0 (papermilllaw60_StatsRuns.l1 kq l0 a1 t896 t897 x8_1 x9_1 x10_1 x11_1 x12_2=some r)∧Aside0 (kq≤k1)∧Aside0 (Below w.heap.size w w'))
      case atStart=>exact⟨(0),sD,H',⟨Nat.le_refl _⟩,⟨pB⟩⟩
      case round =>
       clear H';try clear p2
       try clear c3
       try clear c3b0
       try clear c3b1
       try clear c7
       try clear c7b0
       try clear c7b1
       try clear c8
       try clear c9
       try clear c9b0
       try clear p2
       obtain⟨x12_2,rfl,HA,HK2,HB⟩:=hrel;cases gk with
       | zero=>exact absurd HA.out (by simp [papermilllaw60_StatsRuns.l1])
       | succ k2 =>
        have H:=HA.out;clear HA;simp only[papermilllaw60_StatsRuns.l1] at H;by_cases c10:(wrap64 (x11_1+x12_2)) < (l0.length:Int)
        ·rw[if_pos c10] at H;have c10b0:decide ((wrap64 (x11_1+x12_2)) < (l0.length:Int))=true:=dE c10;have c10b0w:decide ((IntKind.i64.wrap (x11_1+x12_2)) < (l0.length:Int))=true:=by have h_:=c10b0;first|exact h_|(simp only[i64_w];exact h_)
         clear c10;obtain⟨ji11,hji11⟩:∃ j_:Int,(wrap64 (x11_1+x12_2))=j_:=⟨_,rfl⟩;replace H:(if 0≤(ji11) then(if(rd l0 (ji11)) > a1 then(papermilllaw60_StatsRuns.l1 k2 l0 a1 t896 t897 x8_1 x9_1 x10_1 x11_1 (wrap64 (x12_2+1))) else(if x8_1=true then(if x9_1=true then(if x10_1=true then(if 0≤x11_1 then(if x11_1 < (l0.length:Int) then(papermilllaw60_StatsRuns.l0 k2 l0 a1 t896 t897 true true ((rd l0 x11_1) == a1) (wrap64 (x11_1+1))) else(none)) else(none)) else(papermilllaw60_StatsRuns.l0 k2 l0 a1 t896 t897 true true false (wrap64 (x11_1+1)))) else(if x10_1=true then(if 0≤x11_1 then(if x11_1 < (l0.length:Int) then(papermilllaw60_StatsRuns.l0 k2 l0 a1 t896 t897 true (decide (x12_2 > t896)) ((rd l0 x11_1) == a1) (wrap64 (x11_1+1))) else(none)) else(none)) else(papermilllaw60_StatsRuns.l0 k2 l0 a1 t896 t897 true (decide (x12_2 > t896)) false (wrap64 (x11_1+1))))) else(if x9_1=true then(if x10_1=true then(if 0≤x11_1 then(if x11_1 < (l0.length:Int) then(papermilllaw60_StatsRuns.l0 k2 l0 a1 t896 t897 (x12_2 == t896) true ((rd l0 x11_1) == a1) (wrap64 (x11_1+1))) else(none)) else(none)) else(papermilllaw60_StatsRuns.l0 k2 l0 a1 t896 t897 (x12_2 == t896) true false (wrap64 (x11_1+1)))) else(if x10_1=true then(if 0≤x11_1 then(if x11_1 < (l0.length:Int) then(papermilllaw60_StatsRuns.l0 k2 l0 a1 t896 t897 (x12_2 == t896) (decide (x12_2 > t896)) ((rd l0 x11_1) == a1) (wrap64 (x11_1+1))) else(none)) else(none)) else(papermilllaw60_StatsRuns.l0 k2 l0 a1 t896 t897 (x12_2 == t896) (decide (x12_2 > t896)) false (wrap64 (x11_1+1))))))) else(none))=some r:=by first|(rw[hji11] at H;exact H)|(simp only[hji11] at H ⊢;exact H)
         (try rw[hji11] at c10b0)
         have hji11w:(IntKind.i64.wrap (x11_1+x12_2))=ji11:=(i64_w _).trans hji11;by_cases c12:0≤(ji11)
         ·rw[if_pos c12] at H;have c12b0:decide (0≤(ji11))=true:=dE c12;clear c12;by_cases c13:(rd l0 (ji11)) > a1
          ·rw[if_pos c13] at H;have c13b0:decide (a1 < (rd l0 (ji11)))=true:=dE c13;clear c13;have H':=aM H;clear H;have p900:0≤((ji11):Int):=oE aS
           have q900:(ji11) < (l0.length:Int):=oE aS
           obtain⟨ad900,e900,hx900_0⟩:=Kd.at_int HR0.out (ji11) p900 q900;cases e900
           replace hx900_0:=(HB.out.cell (World.block_lt_of_cell? w _ hx900_0)).trans hx900_0;replace p900:=eq_true p900;replace q900:=eq_true q900;go_wp2
           repeat(go_quiet (fail);try go_wp2)
           go_roundg k2
           case measure=>have:=HK1.out;have:=HK2.out;omega
           case rel=>exact⟨(wrap64 (x12_2+1)),sD,H',⟨by have:=HK1.out;have:=HK2.out;omega⟩,⟨pB⟩⟩
          ·rw[if_neg c13] at H;have c13b0:decide (a1 < (rd l0 (ji11)))=false:=decide_eq_false c13;clear c13;by_cases c14:x8_1=true
           ·subst c14;rw[if_pos rfl] at H;by_cases c15:x9_1=true
            ·subst c15;rw[if_pos rfl] at H;by_cases c16:x10_1=true
             ·subst c16;rw[if_pos rfl] at H;by_cases c17:0≤x11_1
              ·rw[if_pos c17] at H;have c17b0:decide (0≤x11_1)=true:=dE c17;clear c17;by_cases c18:x11_1 < (l0.length:Int)
               ·rw[if_pos c18] at H;have c18b0:decide (x11_1 < (l0.length:Int))=true:=dE c18;clear c18;have H':=aM H;clear H;have p900:0≤((ji11):Int):=oE aS
                have q900:(ji11) < (l0.length:Int):=oE aS
                obtain⟨ad900,e900,hx900_0⟩:=Kd.at_int HR0.out (ji11) p900 q900;cases e900
                replace hx900_0:=(HB.out.cell (World.block_lt_of_cell? w _ hx900_0)).trans hx900_0;replace p900:=eq_true p900;replace q900:=eq_true q900;have p901:0≤(x11_1:Int):=oE aS
                have q901:x11_1 < (l0.length:Int):=oE aS
                obtain⟨ad901,e901,hx901_0⟩:=Kd.at_int HR0.out x11_1 p901 q901;obtain rfl:ad900=ad901:=(by injection e901)
                replace hx901_0:=(HB.out.cell (World.block_lt_of_cell? w _ hx901_0)).trans hx901_0;replace p901:=eq_true p901;replace q901:=eq_true q901;go_wp2
                repeat(go_quiet (fail);try go_wp2)
                go_roundg k2
                case measure=>have:=HK1.out;have:=HK2.out;omega
                case rel=>exact⟨(true),(true),(((rd l0 x11_1) == a1)),(wrap64 (x11_1+1)),sD,sD,sD,sD,H',⟨by have:=HK1.out;have:=HK2.out;omega⟩,⟨pB⟩⟩
               ·rw[if_neg c18] at H;exact absurd H (by simp)
              ·rw[if_neg c17] at H;exact absurd H (by simp)
             ·replace c16:=Bool.eq_false_iff.mpr c16;subst c16;rw[if_neg (show ¬ (false=true) by decide)] at H
              have H':=aM H;clear H;have p900:0≤((ji11):Int):=oE aS
              have q900:(ji11) < (l0.length:Int):=oE aS
              obtain⟨ad900,e900,hx900_0⟩:=Kd.at_int HR0.out (ji11) p900 q900;cases e900
              replace hx900_0:=(HB.out.cell (World.block_lt_of_cell? w _ hx900_0)).trans hx900_0;replace p900:=eq_true p900;replace q900:=eq_true q900;go_wp2
              repeat(go_quiet (fail);try go_wp2)
              go_roundg k2
              case measure=>have:=HK1.out;have:=HK2.out;omega
              case rel=>exact⟨(true),(true),(false),(wrap64 (x11_1+1)),sD,sD,sD,sD,H',⟨by have:=HK1.out;have:=HK2.out;omega⟩,⟨pB⟩⟩
            ·replace c15:=Bool.eq_false_iff.mpr c15;subst c15;rw[if_neg (show ¬ (false=true) by decide)] at H
             by_cases c19:x10_1=true
             ·subst c19;rw[if_pos rfl] at H;by_cases c20:0≤x11_1
              ·rw[if_pos c20] at H;have c20b0:decide (0≤x11_1)=true:=dE c20;clear c20;by_cases c21:x11_1 < (l0.length:Int)
               ·rw[if_pos c21] at H;have c21b0:decide (x11_1 < (l0.length:Int))=true:=dE c21;clear c21;have H':=aM H;clear H;have p900:0≤((ji11):Int):=oE aS
                have q900:(ji11) < (l0.length:Int):=oE aS
                obtain⟨ad900,e900,hx900_0⟩:=Kd.at_int HR0.out (ji11) p900 q900;cases e900
                replace hx900_0:=(HB.out.cell (World.block_lt_of_cell? w _ hx900_0)).trans hx900_0;replace p900:=eq_true p900;replace q900:=eq_true q900;have p902:0≤(x11_1:Int):=oE aS
                have q902:x11_1 < (l0.length:Int):=oE aS
                obtain⟨ad902,e902,hx902_0⟩:=Kd.at_int HR0.out x11_1 p902 q902;obtain rfl:ad900=ad902:=(by injection e902)
                replace hx902_0:=(HB.out.cell (World.block_lt_of_cell? w _ hx902_0)).trans hx902_0;replace p902:=eq_true p902;replace q902:=eq_true q902;go_wp2
                repeat(go_quiet (fail);try go_wp2)
                go_roundg k2
                case measure=>have:=HK1.out;have:=HK2.out;omega
                case rel=>exact⟨(true),(decide (x12_2 > t896)),(((rd l0 x11_1) == a1)),(wrap64 (x11_1+1)),sD,sD,sD,sD,H',⟨by have:=HK1.out;have:=HK2.out;omega⟩,⟨pB⟩⟩
               ·rw[if_neg c21] at H;exact absurd H (by simp)
              ·rw[if_neg c20] at H;exact absurd H (by simp)
             ·replace c19:=Bool.eq_false_iff.mpr c19;subst c19;rw[if_neg (show ¬ (false=true) by decide)] at H
              have H':=aM H;clear H;have p900:0≤((ji11):Int):=oE aS
              have q900:(ji11) < (l0.length:Int):=oE aS
              obtain⟨ad900,e900,hx900_0⟩:=Kd.at_int HR0.out (ji11) p900 q900;cases e900
              replace hx900_0:=(HB.out.cell (World.block_lt_of_cell? w _ hx900_0)).trans hx900_0;replace p900:=eq_true p900;replace q900:=eq_true q900;go_wp2
              repeat(go_quiet (fail);try go_wp2)
              go_roundg k2
              case measure=>have:=HK1.out;have:=HK2.out;omega
              case rel=>exact⟨(true),(decide (x12_2 > t896)),(false),(wrap64 (x11_1+1)),sD,sD,sD,sD,H',⟨by have:=HK1.out;have:=HK2.out;omega⟩,⟨pB⟩⟩
           ·replace c14:=Bool.eq_false_iff.mpr c14;subst c14;rw[if_neg (show ¬ (false=true) by decide)] at H
            by_cases c22:x9_1=true
            ·subst c22;rw[if_pos rfl] at H;by_cases c23:x10_1=true
             ·subst c23;rw[if_pos rfl] at H;by_cases c24:0≤x11_1
              ·rw[if_pos c24] at H;have c24b0:decide (0≤x11_1)=true:=dE c24;clear c24;by_cases c25:x11_1 < (l0.length:Int)
               ·rw[if_pos c25] at H;have c25b0:decide (x11_1 < (l0.length:Int))=true:=dE c25;clear c25;have H':=aM H;clear H;have p900:0≤((ji11):Int):=oE aS
                have q900:(ji11) < (l0.length:Int):=oE aS
                obtain⟨ad900,e900,hx900_0⟩:=Kd.at_int HR0.out (ji11) p900 q900;cases e900
                replace hx900_0:=(HB.out.cell (World.block_lt_of_cell? w _ hx900_0)).trans hx900_0;replace p900:=eq_true p900;replace q900:=eq_true q900;have p903:0≤(x11_1:Int):=oE aS
                have q903:x11_1 < (l0.length:Int):=oE aS
                obtain⟨ad903,e903,hx903_0⟩:=Kd.at_int HR0.out x11_1 p903 q903;obtain rfl:ad900=ad903:=(by injection e903)
                replace hx903_0:=(HB.out.cell (World.block_lt_of_cell? w _ hx903_0)).trans hx903_0;replace p903:=eq_true p903;replace q903:=eq_true q903;go_wp2
                repeat(go_quiet (fail);try go_wp2)
                go_roundg k2
                case measure=>have:=HK1.out;have:=HK2.out;omega
                case rel=>exact⟨((x12_2 == t896)),(true),(((rd l0 x11_1) == a1)),(wrap64 (x11_1+1)),sD,sD,sD,sD,H',⟨by have:=HK1.out;have:=HK2.out;omega⟩,⟨pB⟩⟩
               ·rw[if_neg c25] at H;exact absurd H (by simp)
              ·rw[if_neg c24] at H;exact absurd H (by simp)
             ·replace c23:=Bool.eq_false_iff.mpr c23;subst c23;rw[if_neg (show ¬ (false=true) by decide)] at H
              have H':=aM H;clear H;have p900:0≤((ji11):Int):=oE aS
              have q900:(ji11) < (l0.length:Int):=oE aS
              obtain⟨ad900,e900,hx900_0⟩:=Kd.at_int HR0.out (ji11) p900 q900;cases e900
              replace hx900_0:=(HB.out.cell (World.block_lt_of_cell? w _ hx900_0)).trans hx900_0;replace p900:=eq_true p900;replace q900:=eq_true q900;go_wp2
              repeat(go_quiet (fail);try go_wp2)
              go_roundg k2
              case measure=>have:=HK1.out;have:=HK2.out;omega
              case rel=>exact⟨((x12_2 == t896)),(true),(false),(wrap64 (x11_1+1)),sD,sD,sD,sD,H',⟨by have:=HK1.out;have:=HK2.out;omega⟩,⟨pB⟩⟩
            ·replace c22:=Bool.eq_false_iff.mpr c22;subst c22;rw[if_neg (show ¬ (false=true) by decide)] at H
             by_cases c26:x10_1=true
             ·subst c26;rw[if_pos rfl] at H;by_cases c27:0≤x11_1
              ·rw[if_pos c27] at H;have c27b0:decide (0≤x11_1)=true:=dE c27;clear c27;by_cases c28:x11_1 < (l0.length:Int)
               ·rw[if_pos c28] at H;have c28b0:decide (x11_1 < (l0.length:Int))=true:=dE c28;clear c28;have H':=aM H;clear H;have p900:0≤((ji11):Int):=oE aS
                have q900:(ji11) < (l0.length:Int):=oE aS
                obtain⟨ad900,e900,hx900_0⟩:=Kd.at_int HR0.out (ji11) p900 q900;cases e900
                replace hx900_0:=(HB.out.cell (World.block_lt_of_cell? w _ hx900_0)).trans hx900_0;replace p900:=eq_true p900;replace q900:=eq_true q900;have p904:0≤(x11_1:Int):=oE aS
                have q904:x11_1 < (l0.length:Int):=oE aS
                obtain⟨ad904,e904,hx904_0⟩:=Kd.at_int HR0.out x11_1 p904 q904;obtain rfl:ad900=ad904:=(by injection e904)
                replace hx904_0:=(HB.out.cell (World.block_lt_of_cell? w _ hx904_0)).trans hx904_0;replace p904:=eq_true p904;replace q904:=eq_true q904;go_wp2
                repeat(go_quiet (fail);try go_wp2)
                go_roundg k2
                case measure=>have:=HK1.out;have:=HK2.out;omega
                case rel=>exact⟨((x12_2 == t896)),(decide (x12_2 > t896)),(((rd l0 x11_1) == a1)),(wrap64 (x11_1+1)),sD,sD,sD,sD,H',⟨by have:=HK1.out;have:=HK2.out;omega⟩,⟨pB⟩⟩
               ·rw[if_neg c28] at H;exact absurd H (by simp)
              ·rw[if_neg c27] at H;exact absurd H (by simp)
             ·replace c26:=Bool.eq_false_iff.mpr c26;subst c26;rw[if_neg (show ¬ (false=true) by decide)] at H
              have H':=aM H;clear H;have p900:0≤((ji11):Int):=oE aS
              have q900:(ji11) < (l0.length:Int):=oE aS
              obtain⟨ad900,e900,hx900_0⟩:=Kd.at_int HR0.out (ji11) p900 q900;cases e900
              replace hx900_0:=(HB.out.cell (World.block_lt_of_cell? w _ hx900_0)).trans hx900_0;replace p900:=eq_true p900;replace q900:=eq_true q900;go_wp2
              repeat(go_quiet (fail);try go_wp2)
              go_roundg k2
              case measure=>have:=HK1.out;have:=HK2.out;omega
              case rel=>exact⟨((x12_2 == t896)),(decide (x12_2 > t896)),(false),(wrap64 (x11_1+1)),sD,sD,sD,sD,H',⟨by have:=HK1.out;have:=HK2.out;omega⟩,⟨pB⟩⟩
         ·rw[if_neg c12] at H;exact absurd H (by simp)
        ·rw[if_neg c10] at H;have c10b0:decide ((wrap64 (x11_1+x12_2)) < (l0.length:Int))=false:=decide_eq_false c10;have c10b0w:decide ((IntKind.i64.wrap (x11_1+x12_2)) < (l0.length:Int))=false:=by have h_:=c10b0;first|exact h_|(simp only[i64_w];exact h_)
         clear c10;by_cases c29:x8_1=true
         ·subst c29;rw[if_pos rfl] at H;by_cases c30:x9_1=true
          ·subst c30;rw[if_pos rfl] at H;by_cases c31:x10_1=true
           ·subst c31;rw[if_pos rfl] at H;by_cases c32:0≤x11_1
            ·rw[if_pos c32] at H;have c32b0:decide (0≤x11_1)=true:=dE c32;clear c32;by_cases c33:x11_1 < (l0.length:Int)
             ·rw[if_pos c33] at H;have c33b0:decide (x11_1 < (l0.length:Int))=true:=dE c33;clear c33;have H':=aM H;clear H;have p905:0≤(x11_1:Int):=oE aS
              have q905:x11_1 < (l0.length:Int):=oE aS
              obtain⟨ad905,e905,hx905_0⟩:=Kd.at_int HR0.out x11_1 p905 q905;cases e905
              replace hx905_0:=(HB.out.cell (World.block_lt_of_cell? w _ hx905_0)).trans hx905_0;replace p905:=eq_true p905;replace q905:=eq_true q905;go_wp2
              repeat(go_quiet (fail);try go_wp2)
              go_roundg k2
              case measure=>have:=HK1.out;have:=HK2.out;omega
              case rel=>exact⟨(true),(true),(((rd l0 x11_1) == a1)),(wrap64 (x11_1+1)),sD,sD,sD,sD,H',⟨by have:=HK1.out;have:=HK2.out;omega⟩,⟨pB⟩⟩
             ·rw[if_neg c33] at H;exact absurd H (by simp)
            ·rw[if_neg c32] at H;exact absurd H (by simp)
           ·replace c31:=Bool.eq_false_iff.mpr c31;subst c31;rw[if_neg (show ¬ (false=true) by decide)] at H
            have H':=aM H;clear H;go_wp2
            repeat(go_quiet (fail);try go_wp2)
            go_roundg k2
            case measure=>have:=HK1.out;have:=HK2.out;omega
            case rel=>exact⟨(true),(true),(false),(wrap64 (x11_1+1)),sD,sD,sD,sD,H',⟨by have:=HK1.out;have:=HK2.out;omega⟩,⟨pB⟩⟩
          ·replace c30:=Bool.eq_false_iff.mpr c30;subst c30;rw[if_neg (show ¬ (false=true) by decide)] at H
           by_cases c34:x10_1=true
           ·subst c34;rw[if_pos rfl] at H;by_cases c35:0≤x11_1
            ·rw[if_pos c35] at H;have c35b0:decide (0≤x11_1)=true:=dE c35;clear c35;by_cases c36:x11_1 < (l0.length:Int)
             ·rw[if_pos c36] at H;have c36b0:decide (x11_1 < (l0.length:Int))=true:=dE c36;clear c36;have H':=aM H;clear H;have p906:0≤(x11_1:Int):=oE aS
              have q906:x11_1 < (l0.length:Int):=oE aS
              obtain⟨ad906,e906,hx906_0⟩:=Kd.at_int HR0.out x11_1 p906 q906;cases e906
              replace hx906_0:=(HB.out.cell (World.block_lt_of_cell? w _ hx906_0)).trans hx906_0;replace p906:=eq_true p906;replace q906:=eq_true q906;go_wp2
              repeat(go_quiet (fail);try go_wp2)
              go_roundg k2
              case measure=>have:=HK1.out;have:=HK2.out;omega
              case rel=>exact⟨(true),(decide (x12_2 > t896)),(((rd l0 x11_1) == a1)),(wrap64 (x11_1+1)),sD,sD,sD,sD,H',⟨by have:=HK1.out;have:=HK2.out;omega⟩,⟨pB⟩⟩
             ·rw[if_neg c36] at H;exact absurd H (by simp)
            ·rw[if_neg c35] at H;exact absurd H (by simp)
           ·replace c34:=Bool.eq_false_iff.mpr c34;subst c34;rw[if_neg (show ¬ (false=true) by decide)] at H
            have H':=aM H;clear H;go_wp2
            repeat(go_quiet (fail);try go_wp2)
            go_roundg k2
            case measure=>have:=HK1.out;have:=HK2.out;omega
            case rel=>exact⟨(true),(decide (x12_2 > t896)),(false),(wrap64 (x11_1+1)),sD,sD,sD,sD,H',⟨by have:=HK1.out;have:=HK2.out;omega⟩,⟨pB⟩⟩
         ·replace c29:=Bool.eq_false_iff.mpr c29;subst c29;rw[if_neg (show ¬ (false=true) by decide)] at H
          by_cases c37:x9_1=true
          ·subst c37;rw[if_pos rfl] at H;by_cases c38:x10_1=true
           ·subst c38;rw[if_pos rfl] at H;by_cases c39:0≤x11_1
            ·rw[if_pos c39] at H;have c39b0:decide (0≤x11_1)=true:=dE c39;clear c39;by_cases c40:x11_1 < (l0.length:Int)
             ·rw[if_pos c40] at H;have c40b0:decide (x11_1 < (l0.length:Int))=true:=dE c40;clear c40;have H':=aM H;clear H;have p907:0≤(x11_1:Int):=oE aS
              have q907:x11_1 < (l0.length:Int):=oE aS
              obtain⟨ad907,e907,hx907_0⟩:=Kd.at_int HR0.out x11_1 p907 q907;cases e907
              replace hx907_0:=(HB.out.cell (World.block_lt_of_cell? w _ hx907_0)).trans hx907_0;replace p907:=eq_true p907;replace q907:=eq_true q907;go_wp2
              repeat(go_quiet (fail);try go_wp2)
              go_roundg k2
              case measure=>have:=HK1.out;have:=HK2.out;omega
              case rel=>exact⟨((x12_2 == t896)),(true),(((rd l0 x11_1) == a1)),(wrap64 (x11_1+1)),sD,sD,sD,sD,H',⟨by have:=HK1.out;have:=HK2.out;omega⟩,⟨pB⟩⟩
             ·rw[if_neg c40] at H;exact absurd H (by simp)
            ·rw[if_neg c39] at H;exact absurd H (by simp)
           ·replace c38:=Bool.eq_false_iff.mpr c38;subst c38;rw[if_neg (show ¬ (false=true) by decide)] at H
            have H':=aM H;clear H;go_wp2
            repeat(go_quiet (fail);try go_wp2)
            go_roundg k2
            case measure=>have:=HK1.out;have:=HK2.out;omega
            case rel=>exact⟨((x12_2 == t896)),(true),(false),(wrap64 (x11_1+1)),sD,sD,sD,sD,H',⟨by have:=HK1.out;have:=HK2.out;omega⟩,⟨pB⟩⟩
          ·replace c37:=Bool.eq_false_iff.mpr c37;subst c37;rw[if_neg (show ¬ (false=true) by decide)] at H
           by_cases c41:x10_1=true
           ·subst c41;rw[if_pos rfl] at H;by_cases c42:0≤x11_1
            ·rw[if_pos c42] at H;have c42b0:decide (0≤x11_1)=true:=dE c42;clear c42;by_cases c43:x11_1 < (l0.length:Int)
             ·rw[if_pos c43] at H;have c43b0:decide (x11_1 < (l0.length:Int))=true:=dE c43;clear c43;have H':=aM H;clear H;have p908:0≤(x11_1:Int):=oE aS
              have q908:x11_1 < (l0.length:Int):=oE aS
              obtain⟨ad908,e908,hx908_0⟩:=Kd.at_int HR0.out x11_1 p908 q908;cases e908
              replace hx908_0:=(HB.out.cell (World.block_lt_of_cell? w _ hx908_0)).trans hx908_0;replace p908:=eq_true p908;replace q908:=eq_true q908;go_wp2
              repeat(go_quiet (fail);try go_wp2)
              go_roundg k2
              case measure=>have:=HK1.out;have:=HK2.out;omega
              case rel=>exact⟨((x12_2 == t896)),(decide (x12_2 > t896)),(((rd l0 x11_1) == a1)),(wrap64 (x11_1+1)),sD,sD,sD,sD,H',⟨by have:=HK1.out;have:=HK2.out;omega⟩,⟨pB⟩⟩
             ·rw[if_neg c43] at H;exact absurd H (by simp)
            ·rw[if_neg c42] at H;exact absurd H (by simp)
           ·replace c41:=Bool.eq_false_iff.mpr c41;subst c41;rw[if_neg (show ¬ (false=true) by decide)] at H
            have H':=aM H;clear H;go_wp2
            repeat(go_quiet (fail);try go_wp2)
            go_roundg k2
            case measure=>have:=HK1.out;have:=HK2.out;omega
            case rel=>exact⟨((x12_2 == t896)),(decide (x12_2 > t896)),(false),(wrap64 (x11_1+1)),sD,sD,sD,sD,H',⟨by have:=HK1.out;have:=HK2.out;omega⟩,⟨pB⟩⟩
     ·rw[if_neg c9] at H;have c9b0:decide (x11_1 < (l0.length:Int))=false:=decide_eq_false c9;clear c9;have HC44:=aM H;clear H;go_upto_region 14 with (fail)
      repeat(go_quiet (fail);go_upto_region 14 with (fail))
      go_cut [122] (fun v122 wc=>∃ (kq:Nat) (x122_43:Bool),v122=.bool x122_43∧Aside0 (papermilllaw60_StatsRuns.j2 kq l0 a1 t896 t897 x122_43=some r)∧Aside0 (kq≤k1)∧Aside0 (Below w.heap.size w wc))
      case first =>
       have H:=HC44.out;clear HC44;by_cases c45:x8_1=true
       ·subst c45;rw[if_pos rfl] at H;by_cases c46:x9_1=true
        ·subst c46;rw[if_pos rfl] at H;have H':=aM H;clear H;go_wp2
         repeat(go_quiet (fail);try go_wp2)
         go_meet
         case rel=>exact⟨_,(true),sD,H',⟨by have:=HK1.out;first|omega|exact Nat.le_refl _⟩,⟨pB⟩⟩
        ·replace c46:=Bool.eq_false_iff.mpr c46;subst c46;rw[if_neg (show ¬ (false=true) by decide)] at H
         by_cases c47:t896 < 0
         ·rw[if_pos c47] at H;have c47b0:decide (t896 < 0)=true:=dE c47;clear c47;(first|rw[c47b0]|(simp only[i64_w,i32_w];rw[c47b0])|skip)
          have H':=aM H;clear H;go_wp2
          repeat(go_quiet (fail);try go_wp2)
          go_meet
          case rel=>exact⟨_,(true),sD,H',⟨by have:=HK1.out;first|omega|exact Nat.le_refl _⟩,⟨pB⟩⟩
         ·rw[if_neg c47] at H;have c47b0:decide (t896 < 0)=false:=decide_eq_false c47;clear c47;(first|rw[c47b0]|(simp only[i64_w,i32_w];rw[c47b0])|skip)
          by_cases c48:t897 < 0
          ·rw[if_pos c48] at H;have c48b0:decide (t897 < 0)=true:=dE c48;clear c48;have H':=aM H;clear H;go_wp2
           repeat(go_quiet (fail);try go_wp2)
           go_meet
           case rel=>exact⟨_,(true),sD,H',⟨by have:=HK1.out;first|omega|exact Nat.le_refl _⟩,⟨pB⟩⟩
          ·rw[if_neg c48] at H;have c48b0:decide (t897 < 0)=false:=decide_eq_false c48;clear c48;by_cases c49:t896 > (l0.length:Int)
           ·rw[if_pos c49] at H;have c49b0:decide ((l0.length:Int) < t896)=true:=dE c49;clear c49;have H':=aM H;clear H;go_wp2
            repeat(go_quiet (fail);try go_wp2)
            go_meet
            case rel=>exact⟨_,(true),sD,H',⟨by have:=HK1.out;first|omega|exact Nat.le_refl _⟩,⟨pB⟩⟩
           ·rw[if_neg c49] at H;have c49b0:decide ((l0.length:Int) < t896)=false:=decide_eq_false c49;clear c49;by_cases c50:t897 > (l0.length:Int)
            ·rw[if_pos c50] at H;have c50b0:decide ((l0.length:Int) < t897)=true:=dE c50;clear c50;have H':=aM H;clear H;go_wp2
             repeat(go_quiet (fail);try go_wp2)
             go_meet
             case rel=>exact⟨_,(true),sD,H',⟨by have:=HK1.out;first|omega|exact Nat.le_refl _⟩,⟨pB⟩⟩
            ·rw[if_neg c50] at H;have c50b0:decide ((l0.length:Int) < t897)=false:=decide_eq_false c50;clear c50;by_cases c51:t896=0
             ·rw[if_pos c51] at H;have c51b0:(t896 == 0)=true:=beq_iff_eq.mpr c51;have c51b1:(t896 != 0)=false:=bne_eq_false_iff_eq.mpr c51;clear c51;have H':=aM H;clear H;go_wp2
              repeat(go_quiet (fail);try go_wp2)
              go_meet
              case rel=>exact⟨_,(((t897 == 0) != x10_1)),sD,H',⟨by have:=HK1.out;first|omega|exact Nat.le_refl _⟩,⟨pB⟩⟩
             ·rw[if_neg c51] at H;have c51b0:(t896 == 0)=false:=beq_eq_false_iff_ne.mpr c51;have c51b1:(t896 != 0)=true:=bne_iff_ne.mpr c51;have H':=aM H;clear H;go_wp2
              repeat(go_quiet (fail);try go_wp2)
              go_meet
              case rel=>exact⟨_,((false != x10_1)),sD,H',⟨by have:=HK1.out;first|omega|exact Nat.le_refl _⟩,⟨pB⟩⟩
       ·replace c45:=Bool.eq_false_iff.mpr c45;subst c45;rw[if_neg (show ¬ (false=true) by decide)] at H
        have H':=aM H;clear H;go_wp2
        repeat(go_quiet (fail);try go_wp2)
        go_meet
        case rel=>exact⟨_,(true),sD,H',⟨by have:=HK1.out;first|omega|exact Nat.le_refl _⟩,⟨pB⟩⟩
      case rest =>
       clear HC44;try clear c1
       try clear c2
       try clear p2
       try clear c3
       try clear c4
       try clear c5
       try clear p6
       try clear c9
       try clear c9b0
       try clear p9
       try clear q9
       try clear hx9
       try clear c10
       try clear c10b0
       try clear c12
       try clear c14
       try clear c15
       try clear c16
       try clear c17
       try clear c17b0
       try clear c18
       try clear c18b0
       try clear c19
       try clear c20
       try clear c20b0
       try clear c21
       try clear c21b0
       try clear c22
       try clear c23
       try clear c24
       try clear c24b0
       try clear c25
       try clear c25b0
       try clear c26
       try clear c27
       try clear c27b0
       try clear c28
       try clear c28b0
       try clear c29
       try clear c30
       try clear c31
       try clear c32
       try clear c32b0
       try clear c33
       try clear c33b0
       try clear c34
       try clear c35
       try clear c35b0
       try clear c36
       try clear c36b0
       try clear c37
       try clear c38
       try clear c39
       try clear c39b0
       try clear c40
       try clear c40b0
       try clear c41
       try clear c42
       try clear c42b0
       try clear c43
       try clear c43b0
       try clear c45
       try clear c46
       try clear c47
       try clear c47b0
       try clear c48
       try clear c48b0
       try clear c49
       try clear c49b0
       try clear c50
       try clear c50b0
       try clear c51
       try clear c51b0
       try clear c51b1
       try clear hx900_0
       try clear hx901_0
       try clear hx902_0
       try clear hx903_0
       try clear hx904_0
       try clear hx905_0
       try clear hx906_0
       try clear hx907_0
       try clear hx908_0
       try clear p900
       try clear p901
       try clear p902
       try clear p903
       try clear p904
       try clear p905
       try clear p906
       try clear p907
       try clear p908
       try clear q900
       try clear q901
       try clear q902
       try clear q903
       try clear q904
       try clear q905
       try clear q906
       try clear q907
       try clear q908
       obtain⟨kq,x122_43,rfl,HA,HJ43,HB⟩:=hcut;cases kq with
       | zero=>exact absurd HA.out (by simp [papermilllaw60_StatsRuns.j2])
       | succ kj43 =>
        have H:=HA.out;clear HA;simp only[papermilllaw60_StatsRuns.j2] at H;by_cases c52:x122_43=true
        ·subst c52;rw[if_pos rfl] at H;exact absurd H (by simp)
        ·replace c52:=Bool.eq_false_iff.mpr c52;subst c52;rw[if_neg (show ¬ (false=true) by decide)] at H
         have HC53:=aM H;clear H;go_upto_region 16 with (fail)
         repeat(go_quiet (fail);go_upto_region 16 with (fail))
         go_cut [128] (fun v128 wc=>∃ (kq:Nat) (x128_52:Bool),v128=.bool x128_52∧Aside0 (papermilllaw60_StatsRuns.j3 kq l0 a1 t896 t897 x128_52=some r)∧Aside0 (kq≤kj43)∧Aside0 (Below w.heap.size w wc))
         case first =>
          have H:=HC53.out;clear HC53;by_cases c54:a1 < (-1125899906842624)
          ·rw[if_pos c54] at H;have c54b0:decide (a1 < (-1125899906842624))=true:=dE c54;clear c54;(first|rw[c54b0]|(simp only[i64_w,i32_w];rw[c54b0])|skip)
           have H':=aM H;clear H;go_wp2
           repeat(go_quiet (fail);try go_wp2)
           go_meet
           case rel=>exact⟨_,(true),sD,H',⟨by have:=HK1.out;have:=HJ43.out;first|omega|exact Nat.le_refl _⟩,⟨pB⟩⟩
          ·rw[if_neg c54] at H;have c54b0:decide (a1 < (-1125899906842624))=false:=decide_eq_false c54;clear c54;(first|rw[c54b0]|(simp only[i64_w,i32_w];rw[c54b0])|skip)
           have H':=aM H;clear H;go_wp2
           repeat(go_quiet (fail);try go_wp2)
           go_meet
           case rel=>exact⟨_,(decide (a1 > 1125899906842624)),sD,H',⟨by have:=HK1.out;have:=HJ43.out;first|omega|exact Nat.le_refl _⟩,⟨pB⟩⟩
         case rest =>
          clear HC53;try clear c1
          try clear c2
          try clear p2
          try clear c3
          try clear c4
          try clear c5
          try clear p6
          try clear c9
          try clear c9b0
          try clear p9
          try clear q9
          try clear hx9
          try clear c10
          try clear c10b0
          try clear c12
          try clear c14
          try clear c15
          try clear c16
          try clear c17
          try clear c17b0
          try clear c18
          try clear c18b0
          try clear c19
          try clear c20
          try clear c20b0
          try clear c21
          try clear c21b0
          try clear c22
          try clear c23
          try clear c24
          try clear c24b0
          try clear c25
          try clear c25b0
          try clear c26
          try clear c27
          try clear c27b0
          try clear c28
          try clear c28b0
          try clear c29
          try clear c30
          try clear c31
          try clear c32
          try clear c32b0
          try clear c33
          try clear c33b0
          try clear c34
          try clear c35
          try clear c35b0
          try clear c36
          try clear c36b0
          try clear c37
          try clear c38
          try clear c39
          try clear c39b0
          try clear c40
          try clear c40b0
          try clear c41
          try clear c42
          try clear c42b0
          try clear c43
          try clear c43b0
          try clear c45
          try clear c46
          try clear c47
          try clear c47b0
          try clear c48
          try clear c48b0
          try clear c49
          try clear c49b0
          try clear c50
          try clear c50b0
          try clear c51
          try clear c51b0
          try clear c51b1
          try clear c52
          try clear c54
          try clear c54b0
          try clear hx900_0
          try clear hx901_0
          try clear hx902_0
          try clear hx903_0
          try clear hx904_0
          try clear hx905_0
          try clear hx906_0
          try clear hx907_0
          try clear hx908_0
          try clear p2
          try clear p6
          try clear p9
          try clear p900
          try clear p901
          try clear p902
          try clear p903
          try clear p904
          try clear p905
          try clear p906
          try clear p907
          try clear p908
          try clear q9
          try clear q900
          try clear q901
          try clear q902
          try clear q903
          try clear q904
          try clear q905
          try clear q906
          try clear q907
          try clear q908
          obtain⟨kq,x128_52,rfl,HA,HJ52,HB⟩:=hcut;cases kq with
          | zero=>exact absurd HA.out (by simp [papermilllaw60_StatsRuns.j3])
          | succ kj52 =>
           have H:=HA.out;clear HA;simp only[papermilllaw60_StatsRuns.j3] at H;by_cases c55:x128_52=true
           ·subst c55;rw[if_pos rfl] at H;replace H:=bS H;obtain⟨t909,A560,H⟩:=H;replace H:(some t909)=some r:=H;have A56:=aM A560;clear A560;obtain rfl:=Option.some.inj H;go_wp2_with (first|(go_at_call 10;(with_reducible refine(Azz.calls kj52  t909 _ A56.out).mono ?_);rintro e w57 ⟨rfl,hb⟩;replace HB:=aM (below_step pB hb);(try clear hb);(try clear hb2);(try clear hk);(try clear hi)))
            repeat(go_quiet (first|(go_at_call 10;(with_reducible refine(Azz.calls kj52  t909 _ A56.out).mono ?_);rintro e w57 ⟨rfl,hb⟩;replace HB:=aM (below_step pB hb);(try clear hb);(try clear hb2);(try clear hk);(try clear hi)));try go_wp2_with (first|(go_at_call 10;(with_reducible refine(Azz.calls kj52  t909 _ A56.out).mono ?_);rintro e w57 ⟨rfl,hb⟩;replace HB:=aM (below_step pB hb);(try clear hb);(try clear hb2);(try clear hk);(try clear hi))))
            go_ret
            exact⟨eW,pB⟩
           ·replace c55:=Bool.eq_false_iff.mpr c55;subst c55;rw[if_neg (show ¬ (false=true) by decide)] at H
            replace H:=bS H;obtain⟨t910,A580,H⟩:=H;(try dsimp only at H);have A58:=aM A580;clear A580;replace H:=bS H;obtain⟨⟨t913,t914,t915⟩,A590,H⟩:=H;(try dsimp only at H);have A59:=aM A590;clear A590;replace H:=bS H;obtain⟨⟨t916,t917,t918⟩,A600,H⟩:=H;(try dsimp only at H);have A60:=aM A600;clear A600;by_cases c61:t915=0
            ·rw[if_pos c61] at H;have c61b0:(t915 == 0)=true:=beq_iff_eq.mpr c61;have c61b1:(t915 != 0)=false:=bne_eq_false_iff_eq.mpr c61;clear c61;by_cases c62:t918=0
             ·rw[if_pos c62] at H;have c62b0:(t918 == 0)=true:=beq_iff_eq.mpr c62;have c62b1:(t918 != 0)=false:=bne_eq_false_iff_eq.mpr c62;clear c62;by_cases c63:t913=t897
              ·rw[if_pos c63] at H;have c63b0:(t913 == t897)=true:=beq_iff_eq.mpr c63;have c63b1:(t913 != t897)=false:=bne_eq_false_iff_eq.mpr c63;clear c63;by_cases c64:t914=t896
               ·rw[if_pos c64] at H;have c64b0:(t914 == t896)=true:=beq_iff_eq.mpr c64;have c64b1:(t914 != t896)=false:=bne_eq_false_iff_eq.mpr c64;clear c64;by_cases c65:t916≥t896
                ·rw[if_pos c65] at H;have c65b0:decide (t896≤t916)=true:=dE c65;clear c65;by_cases c66:t917≤t897
                 ·rw[if_pos c66] at H;have c66b0:decide (t917≤t897)=true:=dE c66;clear c66;replace H:=bS H;obtain⟨t919,A670,H⟩:=H;replace H:(some t919)=some r:=H;have A67:=aM A670;clear A670;obtain rfl:=Option.some.inj H;have fl_:True:=trivial;repeat((first|clear fl_|go_quiet (first|(go_at_call 22;(with_reducible refine(Bzq.calls kj52 _ _ l0 0 t910 _ ?side1 ?side2 A58.out).mono ?_);(case side1=>exact cX (Kd.C_below HR0.out HB.out));(case side2=>exact HC0.out);rintro e w68 ⟨v911,rfl,ho0,hb⟩;have HO912:=aM (Kd.R_lower ho0 (below_size pB));replace HB:=aM (below_step pB hb);(try clear hb);(try clear hb2);(try clear hk);(try clear hi);(try clear ho0);obtain⟨Ao69,co69,eo69⟩:=Kd.R_slice HO912.out;subst eo69)|(go_at_call 13;(with_reducible refine(Czz.calls kj52 _ _ t910 (wrap64 (-a1)) t913 t914 t915 _ ?side1 ?side2 A59.out).mono ?_);(case side1=>repeat(first|exact(Kd.R_reads' HO912.out).2.2|(with_reducible refine Kd.C_alloc ?_ _)|(with_reducible refine Kd.C_drewN ?_ _)|(with_reducible refine Kd.C_drew ?_)));(case side2=>exact(Kd.R_reads' HO912.out).2.1);rintro e w70 ⟨rfl,hb⟩;replace HO912:=aM (Kd.R_below (rX HO912.out) hb);replace HB:=aM (below_step pB hb);(try clear hb);(try clear hb2);(try clear hk);(try clear hi))|(go_at_call 13;(with_reducible refine(Czz.calls kj52 _ _ l0 (wrap64 (a1 - 1)) t916 t917 t918 _ ?side1 ?side2 A60.out).mono ?_);(case side1=>exact cX (Kd.C_below HR0.out HB.out));(case side2=>exact HC0.out);rintro e w71 ⟨rfl,hb⟩;replace HO912:=aM (Kd.R_below (rX HO912.out) hb);replace HB:=aM (below_step pB hb);(try clear hb);(try clear hb2);(try clear hk);(try clear hi))|(go_at_call 10;(with_reducible refine(Azz.calls kj52  t919 _ A67.out).mono ?_);rintro e w72 ⟨rfl,hb⟩;replace HO912:=aM (Kd.R_below (rX HO912.out) hb);replace HB:=aM (below_step pB hb);(try clear hb);(try clear hb2);(try clear hk);(try clear hi))));go_wp2_with (first|(go_at_call 22;(with_reducible refine(Bzq.calls kj52 _ _ l0 0 t910 _ ?side1 ?side2 A58.out).mono ?_);(case side1=>exact cX (Kd.C_below HR0.out HB.out));(case side2=>exact HC0.out);rintro e w68 ⟨v911,rfl,ho0,hb⟩;have HO912:=aM (Kd.R_lower ho0 (below_size pB));replace HB:=aM (below_step pB hb);(try clear hb);(try clear hb2);(try clear hk);(try clear hi);(try clear ho0);obtain⟨Ao69,co69,eo69⟩:=Kd.R_slice HO912.out;subst eo69)|(go_at_call 13;(with_reducible refine(Czz.calls kj52 _ _ t910 (wrap64 (-a1)) t913 t914 t915 _ ?side1 ?side2 A59.out).mono ?_);(case side1=>repeat(first|exact(Kd.R_reads' HO912.out).2.2|(with_reducible refine Kd.C_alloc ?_ _)|(with_reducible refine Kd.C_drewN ?_ _)|(with_reducible refine Kd.C_drew ?_)));(case side2=>exact(Kd.R_reads' HO912.out).2.1);rintro e w70 ⟨rfl,hb⟩;replace HO912:=aM (Kd.R_below (rX HO912.out) hb);replace HB:=aM (below_step pB hb);(try clear hb);(try clear hb2);(try clear hk);(try clear hi))|(go_at_call 13;(with_reducible refine(Czz.calls kj52 _ _ l0 (wrap64 (a1 - 1)) t916 t917 t918 _ ?side1 ?side2 A60.out).mono ?_);(case side1=>exact cX (Kd.C_below HR0.out HB.out));(case side2=>exact HC0.out);rintro e w71 ⟨rfl,hb⟩;replace HO912:=aM (Kd.R_below (rX HO912.out) hb);replace HB:=aM (below_step pB hb);(try clear hb);(try clear hb2);(try clear hk);(try clear hi))|(go_at_call 10;(with_reducible refine(Azz.calls kj52  t919 _ A67.out).mono ?_);rintro e w72 ⟨rfl,hb⟩;replace HO912:=aM (Kd.R_below (rX HO912.out) hb);replace HB:=aM (below_step pB hb);(try clear hb);(try clear hb2);(try clear hk);(try clear hi))))
                  go_ret
                  exact⟨eW,pB⟩
                 ·rw[if_neg c66] at H;exact absurd H (by simp)
                ·rw[if_neg c65] at H;exact absurd H (by simp)
               ·rw[if_neg c64] at H;exact absurd H (by simp)
              ·rw[if_neg c63] at H;exact absurd H (by simp)
             ·rw[if_neg c62] at H;exact absurd H (by simp)
            ·rw[if_neg c61] at H;exact absurd H (by simp)
  ·rw[if_neg c7] at H;have c7b0:(t898 == 0)=false:=beq_eq_false_iff_ne.mpr c7;have c7b1:(t898 != 0)=true:=bne_iff_ne.mpr c7;by_cases c73:t896=0
   ·rw[if_pos c73] at H;have c73b0:(t896 == 0)=true:=beq_iff_eq.mpr c73;have c73b1:(t896 != 0)=false:=bne_eq_false_iff_eq.mpr c73;clear c73;by_cases c74:t897=0
    ·rw[if_pos c74] at H;have c74b0:(t897 == 0)=true:=beq_iff_eq.mpr c74;have c74b1:(t897 != 0)=false:=bne_eq_false_iff_eq.mpr c74;clear c74;replace H:=bS H;obtain⟨t899,A750,H⟩:=H;replace H:(some t899)=some r:=H;have A75:=aM A750;clear A750;obtain rfl:=Option.some.inj H;go_enter Try.func8,Try.ntmps8
     have fl_:True:=trivial;repeat((first|clear fl_|go_quiet (first|(go_at_call 13;(with_reducible refine(Czz.calls k _ _ l0 a1 t896 t897 t898 _ ?side1 ?side2 A6.out).mono ?_);(case side1=>exact cX HR0.out);(case side2=>exact HC0.out);rintro e w76 ⟨rfl,hb⟩;replace HB:=aM (below_step pB hb);(try clear hb);(try clear hb2);(try clear hk);(try clear hi))|(go_at_call 10;(with_reducible refine(Azz.calls k  t899 _ A75.out).mono ?_);rintro e w77 ⟨rfl,hb⟩;replace HB:=aM (below_step pB hb);(try clear hb);(try clear hb2);(try clear hk);(try clear hi))));go_wp2_with (first|(go_at_call 13;(with_reducible refine(Czz.calls k _ _ l0 a1 t896 t897 t898 _ ?side1 ?side2 A6.out).mono ?_);(case side1=>exact cX HR0.out);(case side2=>exact HC0.out);rintro e w76 ⟨rfl,hb⟩;replace HB:=aM (below_step pB hb);(try clear hb);(try clear hb2);(try clear hk);(try clear hi))|(go_at_call 10;(with_reducible refine(Azz.calls k  t899 _ A75.out).mono ?_);rintro e w77 ⟨rfl,hb⟩;replace HB:=aM (below_step pB hb);(try clear hb);(try clear hb2);(try clear hk);(try clear hi))))
     go_ret
     exact⟨eW,pB⟩
    ·rw[if_neg c74] at H;exact absurd H (by simp)
   ·rw[if_neg c73] at H;exact absurd H (by simp)

/-- THE ONE PURE STATEMENT of papermilllaw60_StatsRuns: yours. -/
def papermilllaw60_StatsRuns.Pure:Prop:=∀ (l0:List Int) (a1:Int),l0.length≤maxLen→l0.length * 8≤140737488351232→(∀ x ∈ l0,(Lit.int .i64 x).wf=true)→(Lit.int .i64 a1).wf=true→∃ k,papermilllaw60_StatsRuns.f k l0 a1=some true
theorem papermilllaw60_StatsRuns.walk (P:papermilllaw60_StatsRuns.Pure) (a0:Option Addr) (len0 cap0:Nat) (z0:List Int) (a1:Int) (w:World) (w0:(a0=none∧len0=0∧cap0=0∧z0=[])∨∃ x,a0=some x∧len0≤cap0∧cap0≤maxLen∧z0.length=cap0∧(∀ i,i < z0.length→w.cell? (x.add i)=some (.int .i64 (z0.getD i 0)))∧∀ n ∈ z0,(Lit.int .i64 n).wf=true) (y0:len0 * 8≤140737488351232) (w1:(Lit.int .i64 a1).wf=true) :
  Calls Try.prog 8 #[.slice a0 len0 cap0,.int .i64 a1] w fun e w'=>e=.returned (.bool true)∧Below w.heap.size w w':=by
 obtain⟨l0,rfl,hr0,hm0,hw0,hc0⟩:=ReadsInt.ofRowC w0;obtain⟨k,h⟩:=P l0 a1 hm0 y0 hw0 w1;refine(papermilllaw60_StatsRuns.calls k _ _ l0 a1 true w (Kd.C_of_reads (d:=(0:Int)) (h1:=fun _=>rfl) hr0) hc0 h).mono ?_
 rintro e w' ⟨rfl,hd⟩;exact⟨rfl,hd⟩

end Go.Proofs.Ytokkiljkgejnhaa.Print
