import Derived.Test.YtloihkecfommbaaPrint0
import Derived.Test.YtloihkecfommbaaPrint11
import Derived.Test.YtloihkecfommbaaPrint15
import Derived.Test.YtloihkecfommbaaPrint33
import Derived.Test.YtloihkecfommbaaPrint34
namespace Go.Proofs.Ytloihkecfommbaa.Print
open Go.RowKit Go.Proofs.YtloihkecfommbaaW.PrintWords Go.Proofs.YtloihkecfommbaaW.PrintLast Go.Proofs.YtloihkecfommbaaW.PrintMore
attribute [local go_sem] max2_int min2_int max_two min_two max_three min_three max_four min_four
set_option linter.unusedVariables false
set_option maxRecDepth 100000
set_option maxHeartbeats 8000000
set_option linter.unusedSimpArgs false

mutual
def papermilllaw12_ShareFair.l0:Nat→Int→List Int→List Int→Int→Int→Int→Option (Bool)
 | 0,_,_,_,_,_,_=>none
 | k+1,x0,x1,x5,x7,x8,x9=>if x9 < (x5.length:Int) then(if 0≤x9 then(if x9 < (x1.length:Int) then(papermilllaw12_ShareFair.l0 k x0 x1 x5 (wrap64 (x7+(rd x1 x9))) (wrap64 (x8+(rd x5 x9))) (wrap64 (x9+1))) else(none)) else(none)) else(if x8=x0 then(papermilllaw12_ShareFair.l1 k x0 x1 x5 x7 0) else(none))
def papermilllaw12_ShareFair.l1:Nat→Int→List Int→List Int→Int→Int→Option (Bool)
 | 0,_,_,_,_,_=>none
 | k+1,x0,x1,x5,x7,x10=>if x10 < (x5.length:Int) then(papermilllaw12_ShareFair.j2 k x0 x1 x5 x7 x10 (decide (x7 > 0))) else(papermilllaw12_ShareFair.j2 k x0 x1 x5 x7 x10 false)
def papermilllaw12_ShareFair.j2:Nat→Int→List Int→List Int→Int→Int→Bool→Option (Bool)
 | 0,_,_,_,_,_,_=>none
 | k+1,x0,x1,x5,x7,x10,x68=>if x68=true then(if 0≤x10 then(if x10 < (x1.length:Int) then((Czf.f k x0 (rd x1 x10) x7).bind fun bt573=>((Ezj.f k bt573.1 bt573.2.1 bt573.2.2.1).bind fun bt582=>((Ezy.f k bt573.1 bt573.2.1 bt573.2.2.1).bind fun bt584=>(if bt573.2.2.2=true then(if bt582.2=0 then(if bt584.2=0 then(if x10 < (x5.length:Int) then(if(rd x5 x10) < bt582.1 then(none) else(if(rd x5 x10) > bt584.1 then(none) else(papermilllaw12_ShareFair.l1 k x0 x1 x5 x7 (wrap64 (x10+1))))) else(none)) else(none)) else(none)) else(none))))) else(none)) else(none)) else((Azx.f k).bind fun t571=>(some t571))
end
def papermilllaw12_ShareFair.f (k:Nat) (a0:Int) (l1:List Int):Option (Bool):=if(l1.length:Int) > 40 then((Azx.f k).bind fun t563=>(some t563)) else((Azb.f k a0 l1).bind fun bt564=>(if bt564.2=0 then(if(bt564.1.length:Int)=(l1.length:Int) then(papermilllaw12_ShareFair.l0 k a0 l1 bt564.1 0 0 0) else(none)) else(if(bt564.1.length:Int)=0 then((Azx.f k).bind fun t568=>(some t568)) else(none))))
theorem papermilllaw12_ShareFair.mono_l:∀ k,(∀ y0 y1 y2 y3 y4 y5,LeO (papermilllaw12_ShareFair.l0 k y0 y1 y2 y3 y4 y5) (papermilllaw12_ShareFair.l0 (k+1) y0 y1 y2 y3 y4 y5))∧(∀ y0 y1 y2 y3 y4,LeO (papermilllaw12_ShareFair.l1 k y0 y1 y2 y3 y4) (papermilllaw12_ShareFair.l1 (k+1) y0 y1 y2 y3 y4))∧(∀ y0 y1 y2 y3 y4 y5,LeO (papermilllaw12_ShareFair.j2 k y0 y1 y2 y3 y4 y5) (papermilllaw12_ShareFair.j2 (k+1) y0 y1 y2 y3 y4 y5))
 | 0=>⟨fun _ _ _ _ _ _ r h=>by simp [papermilllaw12_ShareFair.l0] at h,fun _ _ _ _ _ r h=>by simp [papermilllaw12_ShareFair.l1] at h,fun _ _ _ _ _ _ r h=>by simp [papermilllaw12_ShareFair.j2] at h⟩
 | k+1=>by
  obtain⟨ih0,ih1,ih2⟩:=papermilllaw12_ShareFair.mono_l k;refine⟨?_,?_,?_⟩
  ·intro y0 y1 y2 y3 y4 y5;unfold papermilllaw12_ShareFair.l0;with_reducible repeat' first|exact ih0 _ _ _ _ _ _|exact ih1 _ _ _ _ _|exact ih2 _ _ _ _ _ _|exact Azx.mono _|exact Czf.mono _ _ _ _|exact Ezy.mono _ _ _ _|exact Ezj.mono _ _ _ _|exact Azb.mono _ _ _|exact LeO.refl _|exact LeO.none _|refine LeO.ite ?_ ?_|refine LeO.bind ?_ (fun _=>?_)
  ·intro y0 y1 y2 y3 y4;unfold papermilllaw12_ShareFair.l1;with_reducible repeat' first|exact ih0 _ _ _ _ _ _|exact ih1 _ _ _ _ _|exact ih2 _ _ _ _ _ _|exact Azx.mono _|exact Czf.mono _ _ _ _|exact Ezy.mono _ _ _ _|exact Ezj.mono _ _ _ _|exact Azb.mono _ _ _|exact LeO.refl _|exact LeO.none _|refine LeO.ite ?_ ?_|refine LeO.bind ?_ (fun _=>?_)
  ·intro y0 y1 y2 y3 y4 y5;unfold papermilllaw12_ShareFair.j2;with_reducible repeat' first|exact ih0 _ _ _ _ _ _|exact ih1 _ _ _ _ _|exact ih2 _ _ _ _ _ _|exact Azx.mono _|exact Czf.mono _ _ _ _|exact Ezy.mono _ _ _ _|exact Ezj.mono _ _ _ _|exact Azb.mono _ _ _|exact LeO.refl _|exact LeO.none _|refine LeO.ite ?_ ?_|refine LeO.bind ?_ (fun _=>?_)
theorem papermilllaw12_ShareFair.mono:∀ a0 a1 k,LeO (papermilllaw12_ShareFair.f k a0 a1) (papermilllaw12_ShareFair.f (k+1) a0 a1):=by
 intro a0 a1 k;obtain⟨ih0,ih1,ih2⟩:=papermilllaw12_ShareFair.mono_l k;unfold papermilllaw12_ShareFair.f;with_reducible repeat' first|exact ih0 _ _ _ _ _ _|exact ih1 _ _ _ _ _|exact ih2 _ _ _ _ _ _|exact Azx.mono _|exact Czf.mono _ _ _ _|exact Ezy.mono _ _ _ _|exact Ezj.mono _ _ _ _|exact Azb.mono _ _ _|exact LeO.refl _|exact LeO.none _|refine LeO.ite ?_ ?_|refine LeO.bind ?_ (fun _=>?_)
theorem papermilllaw12_ShareFair.calls (k:Nat) (a0:Int) (A1:Option Addr) (c1:Nat) (l1:List Int) (r:Bool) (w:World) (hr1:Kd.C (Kd.int .i64) w A1 l1.length l1) (hc1:l1.length≤c1) (h:papermilllaw12_ShareFair.f k a0 l1=some r) :
  Calls Try.prog 8 #[.int .i64 a0,.slice A1 l1.length c1] w fun e w'=>e=.returned (.bool r)∧Below w.heap.size w w':=by
 have hu36:=Try.underlying36;have HR1:=aM hr1;have HC1:=aM hc1;clear hr1 hc1;have HB:=aM (Below.refl w.heap.size w);have H:(if(l1.length:Int) > 40 then((Azx.f k).bind fun t563=>(some t563)) else((Azb.f k a0 l1).bind fun bt564=>(if bt564.2=0 then(if(bt564.1.length:Int)=(l1.length:Int) then(papermilllaw12_ShareFair.l0 k a0 l1 bt564.1 0 0 0) else(none)) else(if(bt564.1.length:Int)=0 then((Azx.f k).bind fun t568=>(some t568)) else(none)))))=some r:=h
 clear h;by_cases c3:(l1.length:Int) > 40
 ·rw[if_pos c3] at H;have c3b0:decide (40 < (l1.length:Int))=true:=dE c3;have c3b1:decide (40 < l1.length)=true:=dE (by omega)
  clear c3;replace H:=bS H;obtain⟨t563,A40,H⟩:=H;replace H:(some t563)=some r:=H;have A4:=aM A40;clear A40;obtain rfl:=Option.some.inj H;go_enter Try.func8,Try.ntmps8
  go_wp2_with (first|(go_at_call 9;(with_reducible refine(Azx.calls k  t563 _ A4.out).mono ?_);rintro e w5 ⟨rfl,hb⟩;replace HB:=aM (below_step pB hb);(try clear hb);(try clear hb2);(try clear hk);(try clear hi)))
  repeat(go_quiet (first|(go_at_call 9;(with_reducible refine(Azx.calls k  t563 _ A4.out).mono ?_);rintro e w5 ⟨rfl,hb⟩;replace HB:=aM (below_step pB hb);(try clear hb);(try clear hb2);(try clear hk);(try clear hi)));try go_wp2_with (first|(go_at_call 9;(with_reducible refine(Azx.calls k  t563 _ A4.out).mono ?_);rintro e w5 ⟨rfl,hb⟩;replace HB:=aM (below_step pB hb);(try clear hb);(try clear hb2);(try clear hk);(try clear hi))))
  go_ret
  exact⟨eW,pB⟩
 ·rw[if_neg c3] at H;have c3b0:decide (40 < (l1.length:Int))=false:=decide_eq_false c3;have c3b1:decide (40 < l1.length)=false:=decide_eq_false (by omega)
  clear c3;replace H:=bS H;obtain⟨⟨t564,t565⟩,A60,H⟩:=H;(try dsimp only at H);have A6:=aM A60;clear A60;by_cases c7:t565=0
  ·rw[if_pos c7] at H;have c7b0:(t565 == 0)=true:=beq_iff_eq.mpr c7;have c7b1:(t565 != 0)=false:=bne_eq_false_iff_eq.mpr c7;clear c7;by_cases c8:(t564.length:Int)=(l1.length:Int)
   ·rw[if_pos c8] at H;have c8b0:((t564.length:Int) == (l1.length:Int))=true:=beq_iff_eq.mpr c8;have c8b1:((t564.length:Int) != (l1.length:Int))=false:=bne_eq_false_iff_eq.mpr c8;have c8b2:(t564.length == l1.length)=true:=by first|simpa using c8|(simp at c8 ⊢;omega)
    clear c8;have H':=aM H;clear H;go_enter Try.func8,Try.ntmps8
    have fl_:True:=trivial;repeat((first|clear fl_|go_quiet (first|(go_at_call 11;(with_reducible refine(Azb.calls k a0 _ _ l1 t564 t565 _ ?side1 ?side2 A6.out).mono ?_);(case side1=>exact cX HR1.out);(case side2=>exact HC1.out);rintro e w9 ⟨v566,rfl,ho0,hb⟩;have HO567:=aM (Kd.R_lower ho0 (below_size pB));replace HB:=aM (below_step pB hb);(try clear hb);(try clear hb2);(try clear hk);(try clear hi);(try clear ho0);obtain⟨Ao10,co10,eo10⟩:=Kd.R_slice HO567.out;subst eo10)));go_wp2_with (first|(go_at_call 11;(with_reducible refine(Azb.calls k a0 _ _ l1 t564 t565 _ ?side1 ?side2 A6.out).mono ?_);(case side1=>exact cX HR1.out);(case side2=>exact HC1.out);rintro e w9 ⟨v566,rfl,ho0,hb⟩;have HO567:=aM (Kd.R_lower ho0 (below_size pB));replace HB:=aM (below_step pB hb);(try clear hb);(try clear hb2);(try clear hk);(try clear hi);(try clear ho0);obtain⟨Ao10,co10,eo10⟩:=Kd.R_slice HO567.out;subst eo10)))
    go_loopg [7,8,9] k (fun kq v7 v8 v9 w'=>∃ (x7_1:Int) (x8_1:Int) (x9_1:Int),v7=.int .i64 x7_1∧v8=.int .i64 x8_1∧v9=.int .i64 x9_1∧Aside0 (papermilllaw12_ShareFair.l0 kq a0 l1 t564 x7_1 x8_1 x9_1=some r)∧Aside0 (kq≤k)∧Aside0 (Kd.R (Kd.int .i64) 3 w' w.heap.size (fun _=>True) (.slice Ao10 t564.length co10) t564)∧Aside0 (Below w.heap.size w w'))
    case atStart=>exact⟨(0),(0),(0),sD,sD,sD,H',⟨Nat.le_refl _⟩,⟨rX HO567.out⟩,⟨pB⟩⟩
    case round =>
     clear H';try clear c1
     try clear p2
     try clear c3
     try clear c3b0
     try clear c3b1
     try clear c7
     try clear c7b0
     try clear c7b1
     try clear c8
     try clear c8b0
     try clear c8b1
     try clear c8b2
     obtain⟨x7_1,x8_1,x9_1,rfl,rfl,rfl,HA,HK1,HO_5,HB⟩:=hrel;cases gk with
     | zero=>exact absurd HA.out (by simp [papermilllaw12_ShareFair.l0])
     | succ k1 =>
      have H:=HA.out;clear HA;simp only[papermilllaw12_ShareFair.l0] at H;by_cases c11:x9_1 < (t564.length:Int)
      ·rw[if_pos c11] at H;have c11b0:decide (x9_1 < (t564.length:Int))=true:=dE c11;clear c11;by_cases c12:0≤x9_1
       ·rw[if_pos c12] at H;have c12b0:decide (0≤x9_1)=true:=dE c12;clear c12;by_cases c13:x9_1 < (l1.length:Int)
        ·rw[if_pos c13] at H;have c13b0:decide (x9_1 < (l1.length:Int))=true:=dE c13;clear c13;have H':=aM H;clear H;have p569:0≤(x9_1:Int):=oE aS
         have q569:x9_1 < (l1.length:Int):=oE aS
         obtain⟨ad569,e569,hx569_0⟩:=Kd.at_int HR1.out x9_1 p569 q569;cases e569
         replace hx569_0:=(HB.out.cell (World.block_lt_of_cell? w _ hx569_0)).trans hx569_0;replace p569:=eq_true p569;replace q569:=eq_true q569;have p570:0≤(x9_1:Int):=oE aS
         have q570:x9_1 < (t564.length:Int):=oE aS
         obtain⟨ad570,e570,hx570_0⟩:=Kd.at_int (Kd.R_reads' HO_5.out).2.2 x9_1 p570 q570;cases e570
         replace p570:=eq_true p570;replace q570:=eq_true q570;go_wp2
         repeat(go_quiet (fail);try go_wp2)
         go_roundg k1
         case measure=>have:=HK1.out;omega
         case rel=>exact⟨(wrap64 (x7_1+(rd l1 x9_1))),(wrap64 (x8_1+(rd t564 x9_1))),(wrap64 (x9_1+1)),sD,sD,sD,H',⟨by have:=HK1.out;omega⟩,⟨rX HO_5.out⟩,⟨pB⟩⟩
        ·rw[if_neg c13] at H;exact absurd H (by simp)
       ·rw[if_neg c12] at H;exact absurd H (by simp)
      ·rw[if_neg c11] at H;have c11b0:decide (x9_1 < (t564.length:Int))=false:=decide_eq_false c11;clear c11;by_cases c14:x8_1=a0
       ·rw[if_pos c14] at H;have c14b0:(x8_1 == a0)=true:=beq_iff_eq.mpr c14;have c14b1:(x8_1 != a0)=false:=bne_eq_false_iff_eq.mpr c14;clear c14;have H':=aM H;clear H;go_wp2
        repeat(go_quiet (fail);try go_wp2)
        go_loopg [10] k1 (fun kq v10 w'=>∃ (x10_2:Int),v10=.int .i64 x10_2∧Aside0 (papermilllaw12_ShareFair.l1 kq a0 l1 t564 x7_1 x10_2=some r)∧Aside0 (kq≤k1)∧Aside0 (Kd.R (Kd.int .i64) 3 w' w.heap.size (fun _=>True) (.slice Ao10 t564.length co10) t564)∧Aside0 (Below w.heap.size w w'))
        case atStart=>exact⟨(0),sD,H',⟨Nat.le_refl _⟩,⟨rX HO_5.out⟩,⟨pB⟩⟩
        case round =>
         clear H';try clear c1
         try clear p2
         try clear c3
         try clear c3b0
         try clear c3b1
         try clear p5
         try clear q5
         try clear hx5
         try clear p6
         try clear c7
         try clear c7b0
         try clear c7b1
         try clear c8
         try clear c8b0
         try clear c8b1
         try clear c8b2
         try clear c11
         try clear c11b0
         try clear c12
         try clear c12b0
         try clear c13
         try clear c13b0
         try clear c14
         try clear c14b0
         try clear c14b1
         try clear hx569_0
         try clear hx570_0
         try clear p2
         try clear p569
         try clear p570
         try clear q569
         try clear q570
         obtain⟨x10_2,rfl,HA,HK2,HO_5,HB⟩:=hrel;cases gk with
         | zero=>exact absurd HA.out (by simp [papermilllaw12_ShareFair.l1])
         | succ k2 =>
          have H:=HA.out;clear HA;simp only[papermilllaw12_ShareFair.l1] at H;have HC15:=aM H;clear H;go_upto_region 16 with (fail)
          repeat(go_quiet (fail);go_upto_region 16 with (fail))
          go_cut [68] (fun v68 wc=>∃ (kq:Nat) (x68_14:Bool),v68=.bool x68_14∧Aside0 (papermilllaw12_ShareFair.j2 kq a0 l1 t564 x7_1 x10_2 x68_14=some r)∧Aside0 (kq≤k2)∧Aside0 (Kd.R (Kd.int .i64) 3 wc w.heap.size (fun _=>True) (.slice Ao10 t564.length co10) t564)∧Aside0 (Below w.heap.size w wc))
          case first =>
           have H:=HC15.out;clear HC15;by_cases c16:x10_2 < (t564.length:Int)
           ·rw[if_pos c16] at H;have c16b0:decide (x10_2 < (t564.length:Int))=true:=dE c16;clear c16;(first|rw[c16b0]|(simp only[i64_w,i32_w];rw[c16b0])|skip)
            have H':=aM H;clear H;go_wp2
            repeat(go_quiet (fail);try go_wp2)
            go_meet
            case rel=>exact⟨_,(decide (x7_1 > 0)),sD,H',⟨by have:=HK1.out;have:=HK2.out;first|omega|exact Nat.le_refl _⟩,⟨rX HO_5.out⟩,⟨pB⟩⟩
           ·rw[if_neg c16] at H;have c16b0:decide (x10_2 < (t564.length:Int))=false:=decide_eq_false c16;clear c16;(first|rw[c16b0]|(simp only[i64_w,i32_w];rw[c16b0])|skip)
            have H':=aM H;clear H;go_wp2
            repeat(go_quiet (fail);try go_wp2)
            go_meet
            case rel=>exact⟨_,(false),sD,H',⟨by have:=HK1.out;have:=HK2.out;first|omega|exact Nat.le_refl _⟩,⟨rX HO_5.out⟩,⟨pB⟩⟩
          case rest =>
           clear HC15;try clear c1
           try clear p2
           try clear c3
           try clear c3b0
           try clear c3b1
           try clear p5
           try clear q5
           try clear hx5
           try clear p6
           try clear c7
           try clear c7b0
           try clear c7b1
           try clear c8
           try clear c8b0
           try clear c8b1
           try clear c8b2
           try clear c11
           try clear c11b0
           try clear c12
           try clear c12b0
           try clear c13
           try clear c13b0
           try clear c14
           try clear c14b0
           try clear c14b1
           try clear c16
           try clear c16b0
           try clear hx569_0
           try clear hx570_0
           try clear p2
           try clear p5
           try clear p569
           try clear p570
           try clear p6
           try clear q5
           try clear q569
           try clear q570
           obtain⟨kq,x68_14,rfl,HA,HJ14,HO_5,HB⟩:=hcut;cases kq with
           | zero=>exact absurd HA.out (by simp [papermilllaw12_ShareFair.j2])
           | succ kj14 =>
            have H:=HA.out;clear HA;simp only[papermilllaw12_ShareFair.j2] at H;by_cases c17:x68_14=true
            ·subst c17;rw[if_pos rfl] at H;by_cases c18:0≤x10_2
             ·rw[if_pos c18] at H;have c18b0:decide (0≤x10_2)=true:=dE c18;clear c18;by_cases c19:x10_2 < (l1.length:Int)
              ·rw[if_pos c19] at H;have c19b0:decide (x10_2 < (l1.length:Int))=true:=dE c19;clear c19;replace H:=bS H;obtain⟨⟨t573,t574,t577,t580⟩,A200,H⟩:=H;(try dsimp only at H);have A20:=aM A200;clear A200;replace H:=bS H;obtain⟨⟨t582,t583⟩,A210,H⟩:=H;(try dsimp only at H);have A21:=aM A210;clear A210;replace H:=bS H;obtain⟨⟨t584,t585⟩,A220,H⟩:=H;(try dsimp only at H);have A22:=aM A220;clear A220;by_cases c23:t580=true
               ·subst c23;rw[if_pos rfl] at H;by_cases c24:t583=0
                ·rw[if_pos c24] at H;have c24b0:(t583 == 0)=true:=beq_iff_eq.mpr c24;have c24b1:(t583 != 0)=false:=bne_eq_false_iff_eq.mpr c24;clear c24;by_cases c25:t585=0
                 ·rw[if_pos c25] at H;have c25b0:(t585 == 0)=true:=beq_iff_eq.mpr c25;have c25b1:(t585 != 0)=false:=bne_eq_false_iff_eq.mpr c25;clear c25;by_cases c26:x10_2 < (t564.length:Int)
                  ·rw[if_pos c26] at H;have c26b0:decide (x10_2 < (t564.length:Int))=true:=dE c26;clear c26;by_cases c27:(rd t564 x10_2) < t582
                   ·rw[if_pos c27] at H;exact absurd H (by simp)
                   ·rw[if_neg c27] at H;have c27b0:decide ((rd t564 x10_2) < t582)=false:=decide_eq_false c27;clear c27;by_cases c28:(rd t564 x10_2) > t584
                    ·rw[if_pos c28] at H;exact absurd H (by simp)
                    ·rw[if_neg c28] at H;have c28b0:decide (t584 < (rd t564 x10_2))=false:=decide_eq_false c28;clear c28;have H':=aM H;clear H;have p572:0≤(x10_2:Int):=oE aS
                     have q572:x10_2 < (l1.length:Int):=oE aS
                     obtain⟨ad572,e572,hx572_0⟩:=Kd.at_int HR1.out x10_2 p572 q572;cases e572
                     replace hx572_0:=(HB.out.cell (World.block_lt_of_cell? w _ hx572_0)).trans hx572_0;replace p572:=eq_true p572;replace q572:=eq_true q572;have fl_:True:=trivial;repeat((first|clear fl_|go_quiet (first|(go_at_call 20;(with_reducible refine(Czf.calls kj14 a0 (rd l1 x10_2) x7_1 t573 t574 t577 true _ A20.out).mono ?_);rintro e w29 ⟨v575,v578,rfl,ho0,ho1,hb⟩;have HO576:=aM (Kd.R_lower (Kd.R_new' ho0 (Kd.R_lt (rX HO_5.out))) (below_size pB));have HO579:=aM (Kd.R_lower (Kd.R_new' ho1 (Kd.R_lt (rX HO_5.out))) (below_size pB));replace HO_5:=aM (Kd.R_mono (Kd.R_told (Kd.R_told (Kd.R_old (rX HO_5.out) hb) (Kd.R_base ho0)) (Kd.R_base ho1)) (fun _ h_=>h_.1));replace HB:=aM (below_step pB hb);(try clear hb);(try clear hb2);(try clear hk);(try clear hi);(try clear ho0);(try clear ho1))|((with_reducible refine gate_dst (N:=11) rfl ?_);refine box_event ?hg (N:=11) ?hd (cs:=#[.bool false,.slice none 0 0,.slice none 0 0]) (t:=36) ?hr ?_;(case hd=>rfl);(case hg=>rfl);(case hr=>first|(go_simp;done)|(go_simp;rfl));intro gb581 hg w30 hbox hb;have BK581:=aM (hbox);have GW581:=aM (gW hg:w.heap.size≤gb581);have GE581:=aM (gW hg:w.heap.size≤gb581);replace HO_5:=aM (Kd.R_below (rX HO_5.out) hb);replace HO576:=aM (Kd.R_below (rX HO576.out) hb);replace HO579:=aM (Kd.R_below (rX HO579.out) hb);replace HB:=aM (below_step pB hb);clear hb hbox hg;obtain⟨hcz31_0,hcz31_1,hcz31_2,hfz31_0,hfz31_1,hfz31_2⟩:=bk3 BK581;obtain⟨Ao32,co32,eo32⟩:=Kd.R_slice HO576.out;subst eo32;obtain⟨Ao33,co33,eo33⟩:=Kd.R_slice HO579.out;subst eo33)|(go_at_call 21;(with_reducible refine(Ezj.calls kj14 t573 _ _ t574 _ _ t577 t582 t583 _ ?side1 ?side2 ?side3 ?side4 A21.out).mono ?_);(case side1=>refine(Kd.R_reads' (e:=3) (base:=w.heap.size) (ok:=fun k_=>(some k_≠(.slice Ao33 t577.length co33:Value).ownBlock∧some k_≠(.slice Ao10 t564.length co10:Value).ownBlock)) (n:=t574.length) (c:=co32) ?_).2.2;exact(rX (Kd.R_mono (Kd.R_far (p:=⟨gb581,2,none⟩) (Kd.R_far (p:=⟨gb581,1,none⟩) (Kd.R_far (p:=⟨gb581,0,none⟩) (Kd.R_types HO576.out BK581.out (by decide)) (fun _ hk=>hk.2) (.bool t573)) (fun _ hk=>hk.2) (.slice Ao32 t574.length co32)) (fun _ hk=>hk.2) (.slice Ao33 t577.length co33)) (fun _ h_=>h_.1))));(case side2=>exact(Kd.R_reads' HO576.out).2.1);(case side3=>refine(Kd.R_reads' (e:=3) (base:=w.heap.size) (ok:=fun k_=>(some k_≠(.slice Ao32 t574.length co32:Value).ownBlock∧some k_≠(.slice Ao10 t564.length co10:Value).ownBlock)) (n:=t577.length) (c:=co33) ?_).2.2;exact(rX (Kd.R_mono (Kd.R_far (p:=⟨gb581,2,none⟩) (Kd.R_far (p:=⟨gb581,1,none⟩) (Kd.R_far (p:=⟨gb581,0,none⟩) (Kd.R_types HO579.out BK581.out (by decide)) (fun _ hk=>hk.2) (.bool t573)) (fun _ hk=>hk.2) (.slice Ao32 t574.length co32)) (fun _ hk=>hk.2) (.slice Ao33 t577.length co33)) (fun _ h_=>h_.1))));(case side4=>exact(Kd.R_reads' HO579.out).2.1);rintro e w34 ⟨rfl,hb⟩;replace HO_5:=aM (Kd.R_below (rX (Kd.R_mono (Kd.R_far (p:=⟨gb581,2,none⟩) (Kd.R_far (p:=⟨gb581,1,none⟩) (Kd.R_far (p:=⟨gb581,0,none⟩) (Kd.R_types HO_5.out BK581.out (by decide)) (fun _ hk=>hk.2) (.bool t573)) (fun _ hk=>hk.2) (.slice Ao32 t574.length co32)) (fun _ hk=>hk.2) (.slice Ao33 t577.length co33)) (fun _ h_=>h_.1))) hb);replace HO576:=aM (Kd.R_below (rX (Kd.R_mono (Kd.R_far (p:=⟨gb581,2,none⟩) (Kd.R_far (p:=⟨gb581,1,none⟩) (Kd.R_far (p:=⟨gb581,0,none⟩) (Kd.R_types HO576.out BK581.out (by decide)) (fun _ hk=>hk.2) (.bool t573)) (fun _ hk=>hk.2) (.slice Ao32 t574.length co32)) (fun _ hk=>hk.2) (.slice Ao33 t577.length co33)) (fun _ h_=>h_.1))) hb);replace HO579:=aM (Kd.R_below (rX (Kd.R_mono (Kd.R_far (p:=⟨gb581,2,none⟩) (Kd.R_far (p:=⟨gb581,1,none⟩) (Kd.R_far (p:=⟨gb581,0,none⟩) (Kd.R_types HO579.out BK581.out (by decide)) (fun _ hk=>hk.2) (.bool t573)) (fun _ hk=>hk.2) (.slice Ao32 t574.length co32)) (fun _ hk=>hk.2) (.slice Ao33 t577.length co33)) (fun _ h_=>h_.1))) hb);replace BK581:=aM (blk_below (g:=gb581) (o:=.cells #[.bool t573,.slice Ao32 t574.length co32,.slice Ao33 t577.length co33] 36 (0,0)) (by refine bD ?_;refine blk_put (cs:=#[.bool t573,.slice Ao32 t574.length co32,.slice none 0 0]) ?_ 2 _ rfl;refine bD ?_;refine blk_put (cs:=#[.bool t573,.slice none 0 0,.slice none 0 0]) ?_ 1 _ rfl;refine bD ?_;refine blk_put (cs:=#[.bool false,.slice none 0 0,.slice none 0 0]) ?_ 0 _ rfl;(with_reducible repeat(first|refine blk_drewN ?_ _|refine blk_drew ?_|refine blk_alloc ?_ _));exact BK581.out) hb);replace HB:=aM (below_step pB hb);(try clear hb);(try clear hb2);(try clear hk);(try clear hi);obtain⟨hcz35_0,hcz35_1,hcz35_2,hfz35_0,hfz35_1,hfz35_2⟩:=bk3 BK581)|(go_at_call 22;(with_reducible refine(Ezy.calls kj14 t573 _ _ t574 _ _ t577 t584 t585 _ ?side1 ?side2 ?side3 ?side4 A22.out).mono ?_);(case side1=>repeat(first|exact(Kd.R_reads' HO576.out).2.2|(with_reducible refine Kd.C_alloc ?_ _)|(with_reducible refine Kd.C_drewN ?_ _)|(with_reducible refine Kd.C_drew ?_)));(case side2=>exact(Kd.R_reads' HO576.out).2.1);(case side3=>repeat(first|exact(Kd.R_reads' HO579.out).2.2|(with_reducible refine Kd.C_alloc ?_ _)|(with_reducible refine Kd.C_drewN ?_ _)|(with_reducible refine Kd.C_drew ?_)));(case side4=>exact(Kd.R_reads' HO579.out).2.1);rintro e w36 ⟨rfl,hb⟩;replace HO_5:=aM (Kd.R_below (rX HO_5.out) hb);replace HO576:=aM (Kd.R_below (rX HO576.out) hb);replace HO579:=aM (Kd.R_below (rX HO579.out) hb);replace BK581:=aM (kB BK581 hb);replace HB:=aM (below_step pB hb);(try clear hb);(try clear hb2);(try clear hk);(try clear hi);have p586:0≤(x10_2:Int):=oE aS;have q586:x10_2 < (t564.length:Int):=oE aS;obtain⟨ad586,e586,hx586_0⟩:=Kd.at_int (Kd.R_reads' HO_5.out).2.2 x10_2 p586 q586;cases e586;replace p586:=eq_true p586;replace q586:=eq_true q586;have p587:0≤(x10_2:Int):=oE aS;have q587:x10_2 < (t564.length:Int):=oE aS;obtain⟨ad587,e587,hx587_0⟩:=Kd.at_int (Kd.R_reads' HO_5.out).2.2 x10_2 p587 q587;obtain rfl:ad586=ad587:=(by injection e587);replace p587:=eq_true p587;replace q587:=eq_true q587)));go_wp2_with (first|(go_at_call 20;(with_reducible refine(Czf.calls kj14 a0 (rd l1 x10_2) x7_1 t573 t574 t577 true _ A20.out).mono ?_);rintro e w29 ⟨v575,v578,rfl,ho0,ho1,hb⟩;have HO576:=aM (Kd.R_lower (Kd.R_new' ho0 (Kd.R_lt (rX HO_5.out))) (below_size pB));have HO579:=aM (Kd.R_lower (Kd.R_new' ho1 (Kd.R_lt (rX HO_5.out))) (below_size pB));replace HO_5:=aM (Kd.R_mono (Kd.R_told (Kd.R_told (Kd.R_old (rX HO_5.out) hb) (Kd.R_base ho0)) (Kd.R_base ho1)) (fun _ h_=>h_.1));replace HB:=aM (below_step pB hb);(try clear hb);(try clear hb2);(try clear hk);(try clear hi);(try clear ho0);(try clear ho1))|((with_reducible refine gate_dst (N:=11) rfl ?_);refine box_event ?hg (N:=11) ?hd (cs:=#[.bool false,.slice none 0 0,.slice none 0 0]) (t:=36) ?hr ?_;(case hd=>rfl);(case hg=>rfl);(case hr=>first|(go_simp;done)|(go_simp;rfl));intro gb581 hg w30 hbox hb;have BK581:=aM (hbox);have GW581:=aM (gW hg:w.heap.size≤gb581);have GE581:=aM (gW hg:w.heap.size≤gb581);replace HO_5:=aM (Kd.R_below (rX HO_5.out) hb);replace HO576:=aM (Kd.R_below (rX HO576.out) hb);replace HO579:=aM (Kd.R_below (rX HO579.out) hb);replace HB:=aM (below_step pB hb);clear hb hbox hg;obtain⟨hcz31_0,hcz31_1,hcz31_2,hfz31_0,hfz31_1,hfz31_2⟩:=bk3 BK581;obtain⟨Ao32,co32,eo32⟩:=Kd.R_slice HO576.out;subst eo32;obtain⟨Ao33,co33,eo33⟩:=Kd.R_slice HO579.out;subst eo33)|(go_at_call 21;(with_reducible refine(Ezj.calls kj14 t573 _ _ t574 _ _ t577 t582 t583 _ ?side1 ?side2 ?side3 ?side4 A21.out).mono ?_);(case side1=>refine(Kd.R_reads' (e:=3) (base:=w.heap.size) (ok:=fun k_=>(some k_≠(.slice Ao33 t577.length co33:Value).ownBlock∧some k_≠(.slice Ao10 t564.length co10:Value).ownBlock)) (n:=t574.length) (c:=co32) ?_).2.2;exact(rX (Kd.R_mono (Kd.R_far (p:=⟨gb581,2,none⟩) (Kd.R_far (p:=⟨gb581,1,none⟩) (Kd.R_far (p:=⟨gb581,0,none⟩) (Kd.R_types HO576.out BK581.out (by decide)) (fun _ hk=>hk.2) (.bool t573)) (fun _ hk=>hk.2) (.slice Ao32 t574.length co32)) (fun _ hk=>hk.2) (.slice Ao33 t577.length co33)) (fun _ h_=>h_.1))));(case side2=>exact(Kd.R_reads' HO576.out).2.1);(case side3=>refine(Kd.R_reads' (e:=3) (base:=w.heap.size) (ok:=fun k_=>(some k_≠(.slice Ao32 t574.length co32:Value).ownBlock∧some k_≠(.slice Ao10 t564.length co10:Value).ownBlock)) (n:=t577.length) (c:=co33) ?_).2.2;exact(rX (Kd.R_mono (Kd.R_far (p:=⟨gb581,2,none⟩) (Kd.R_far (p:=⟨gb581,1,none⟩) (Kd.R_far (p:=⟨gb581,0,none⟩) (Kd.R_types HO579.out BK581.out (by decide)) (fun _ hk=>hk.2) (.bool t573)) (fun _ hk=>hk.2) (.slice Ao32 t574.length co32)) (fun _ hk=>hk.2) (.slice Ao33 t577.length co33)) (fun _ h_=>h_.1))));(case side4=>exact(Kd.R_reads' HO579.out).2.1);rintro e w34 ⟨rfl,hb⟩;replace HO_5:=aM (Kd.R_below (rX (Kd.R_mono (Kd.R_far (p:=⟨gb581,2,none⟩) (Kd.R_far (p:=⟨gb581,1,none⟩) (Kd.R_far (p:=⟨gb581,0,none⟩) (Kd.R_types HO_5.out BK581.out (by decide)) (fun _ hk=>hk.2) (.bool t573)) (fun _ hk=>hk.2) (.slice Ao32 t574.length co32)) (fun _ hk=>hk.2) (.slice Ao33 t577.length co33)) (fun _ h_=>h_.1))) hb);replace HO576:=aM (Kd.R_below (rX (Kd.R_mono (Kd.R_far (p:=⟨gb581,2,none⟩) (Kd.R_far (p:=⟨gb581,1,none⟩) (Kd.R_far (p:=⟨gb581,0,none⟩) (Kd.R_types HO576.out BK581.out (by decide)) (fun _ hk=>hk.2) (.bool t573)) (fun _ hk=>hk.2) (.slice Ao32 t574.length co32)) (fun _ hk=>hk.2) (.slice Ao33 t577.length co33)) (fun _ h_=>h_.1))) hb);replace HO579:=aM (Kd.R_below (rX (Kd.R_mono (Kd.R_far (p:=⟨gb581,2,none⟩) (Kd.R_far (p:=⟨gb581,1,none⟩) (Kd.R_far (p:=⟨gb581,0,none⟩) (Kd.R_types HO579.out BK581.out (by decide)) (fun _ hk=>hk.2) (.bool t573)) (fun _ hk=>hk.2) (.slice Ao32 t574.length co32)) (fun _ hk=>hk.2) (.slice Ao33 t577.length co33)) (fun _ h_=>h_.1))) hb);replace BK581:=aM (blk_below (g:=gb581) (o:=.cells #[.bool t573,.slice Ao32 t574.length co32,.slice Ao33 t577.length co33] 36 (0,0)) (by refine bD ?_;refine blk_put (cs:=#[.bool t573,.slice Ao32 t574.length co32,.slice none 0 0]) ?_ 2 _ rfl;refine bD ?_;refine blk_put (cs:=#[.bool t573,.slice none 0 0,.slice none 0 0]) ?_ 1 _ rfl;refine bD ?_;refine blk_put (cs:=#[.bool false,.slice none 0 0,.slice none 0 0]) ?_ 0 _ rfl;(with_reducible repeat(first|refine blk_drewN ?_ _|refine blk_drew ?_|refine blk_alloc ?_ _));exact BK581.out) hb);replace HB:=aM (below_step pB hb);(try clear hb);(try clear hb2);(try clear hk);(try clear hi);obtain⟨hcz35_0,hcz35_1,hcz35_2,hfz35_0,hfz35_1,hfz35_2⟩:=bk3 BK581)|(go_at_call 22;(with_reducible refine(Ezy.calls kj14 t573 _ _ t574 _ _ t577 t584 t585 _ ?side1 ?side2 ?side3 ?side4 A22.out).mono ?_);(case side1=>repeat(first|exact(Kd.R_reads' HO576.out).2.2|(with_reducible refine Kd.C_alloc ?_ _)|(with_reducible refine Kd.C_drewN ?_ _)|(with_reducible refine Kd.C_drew ?_)));(case side2=>exact(Kd.R_reads' HO576.out).2.1);(case side3=>repeat(first|exact(Kd.R_reads' HO579.out).2.2|(with_reducible refine Kd.C_alloc ?_ _)|(with_reducible refine Kd.C_drewN ?_ _)|(with_reducible refine Kd.C_drew ?_)));(case side4=>exact(Kd.R_reads' HO579.out).2.1);rintro e w36 ⟨rfl,hb⟩;replace HO_5:=aM (Kd.R_below (rX HO_5.out) hb);replace HO576:=aM (Kd.R_below (rX HO576.out) hb);replace HO579:=aM (Kd.R_below (rX HO579.out) hb);replace BK581:=aM (kB BK581 hb);replace HB:=aM (below_step pB hb);(try clear hb);(try clear hb2);(try clear hk);(try clear hi);have p586:0≤(x10_2:Int):=oE aS;have q586:x10_2 < (t564.length:Int):=oE aS;obtain⟨ad586,e586,hx586_0⟩:=Kd.at_int (Kd.R_reads' HO_5.out).2.2 x10_2 p586 q586;cases e586;replace p586:=eq_true p586;replace q586:=eq_true q586;have p587:0≤(x10_2:Int):=oE aS;have q587:x10_2 < (t564.length:Int):=oE aS;obtain⟨ad587,e587,hx587_0⟩:=Kd.at_int (Kd.R_reads' HO_5.out).2.2 x10_2 p587 q587;obtain rfl:ad586=ad587:=(by injection e587);replace p587:=eq_true p587;replace q587:=eq_true q587)))
                     go_roundg kj14
                     case measure=>have:=HK1.out;have:=HK2.out;have:=HJ14.out;omega
                     case rel=>exact⟨(wrap64 (x10_2+1)),sD,H',⟨by have:=HK1.out;have:=HK2.out;have:=HJ14.out;omega⟩,⟨by(with_reducible repeat(first|apply Kd.R_alloc|apply Kd.R_drewN|apply Kd.R_drew));exact Kd.R_mono HO_5.out (fun _ hk=>trivial)⟩,⟨pB⟩⟩
                  ·rw[if_neg c26] at H;exact absurd H (by simp)
                 ·rw[if_neg c25] at H;exact absurd H (by simp)
                ·rw[if_neg c24] at H;exact absurd H (by simp)
               ·replace c23:=Bool.eq_false_iff.mpr c23;subst c23;rw[if_neg (show ¬ (false=true) by decide)] at H
                exact absurd H (by simp)
              ·rw[if_neg c19] at H;exact absurd H (by simp)
             ·rw[if_neg c18] at H;exact absurd H (by simp)
            ·replace c17:=Bool.eq_false_iff.mpr c17;subst c17;rw[if_neg (show ¬ (false=true) by decide)] at H
             replace H:=bS H;obtain⟨t571,A370,H⟩:=H;replace H:(some t571)=some r:=H;have A37:=aM A370;clear A370;obtain rfl:=Option.some.inj H;go_wp2_with (first|(go_at_call 9;(with_reducible refine(Azx.calls kj14  t571 _ A37.out).mono ?_);rintro e w38 ⟨rfl,hb⟩;replace HO_5:=aM (Kd.R_below (rX HO_5.out) hb);replace HB:=aM (below_step pB hb);(try clear hb);(try clear hb2);(try clear hk);(try clear hi)))
             repeat(go_quiet (first|(go_at_call 9;(with_reducible refine(Azx.calls kj14  t571 _ A37.out).mono ?_);rintro e w38 ⟨rfl,hb⟩;replace HO_5:=aM (Kd.R_below (rX HO_5.out) hb);replace HB:=aM (below_step pB hb);(try clear hb);(try clear hb2);(try clear hk);(try clear hi)));try go_wp2_with (first|(go_at_call 9;(with_reducible refine(Azx.calls kj14  t571 _ A37.out).mono ?_);rintro e w38 ⟨rfl,hb⟩;replace HO_5:=aM (Kd.R_below (rX HO_5.out) hb);replace HB:=aM (below_step pB hb);(try clear hb);(try clear hb2);(try clear hk);(try clear hi))))
             go_ret
             exact⟨eW,pB⟩
       ·rw[if_neg c14] at H;exact absurd H (by simp)
   ·rw[if_neg c8] at H;exact absurd H (by simp)
  ·rw[if_neg c7] at H;have c7b0:(t565 == 0)=false:=beq_eq_false_iff_ne.mpr c7;have c7b1:(t565 != 0)=true:=bne_iff_ne.mpr c7;by_cases c39:(t564.length:Int)=0
   ·rw[if_pos c39] at H;have c39b0:((t564.length:Int) == 0)=true:=beq_iff_eq.mpr c39;have c39b1:((t564.length:Int) != 0)=false:=bne_eq_false_iff_eq.mpr c39;clear c39;replace H:=bS H;obtain⟨t568,A400,H⟩:=H;replace H:(some t568)=some r:=H;have A40:=aM A400;clear A400;obtain rfl:=Option.some.inj H;go_enter Try.func8,Try.ntmps8
    have fl_:True:=trivial;repeat((first|clear fl_|go_quiet (first|(go_at_call 11;(with_reducible refine(Azb.calls k a0 _ _ l1 t564 t565 _ ?side1 ?side2 A6.out).mono ?_);(case side1=>exact cX HR1.out);(case side2=>exact HC1.out);rintro e w41 ⟨v566,rfl,ho0,hb⟩;have HO567:=aM (Kd.R_lower ho0 (below_size pB));replace HB:=aM (below_step pB hb);(try clear hb);(try clear hb2);(try clear hk);(try clear hi);(try clear ho0);obtain⟨Ao42,co42,eo42⟩:=Kd.R_slice HO567.out;subst eo42)|(go_at_call 9;(with_reducible refine(Azx.calls k  t568 _ A40.out).mono ?_);rintro e w43 ⟨rfl,hb⟩;replace HO567:=aM (Kd.R_below (rX HO567.out) hb);replace HB:=aM (below_step pB hb);(try clear hb);(try clear hb2);(try clear hk);(try clear hi))));go_wp2_with (first|(go_at_call 11;(with_reducible refine(Azb.calls k a0 _ _ l1 t564 t565 _ ?side1 ?side2 A6.out).mono ?_);(case side1=>exact cX HR1.out);(case side2=>exact HC1.out);rintro e w41 ⟨v566,rfl,ho0,hb⟩;have HO567:=aM (Kd.R_lower ho0 (below_size pB));replace HB:=aM (below_step pB hb);(try clear hb);(try clear hb2);(try clear hk);(try clear hi);(try clear ho0);obtain⟨Ao42,co42,eo42⟩:=Kd.R_slice HO567.out;subst eo42)|(go_at_call 9;(with_reducible refine(Azx.calls k  t568 _ A40.out).mono ?_);rintro e w43 ⟨rfl,hb⟩;replace HO567:=aM (Kd.R_below (rX HO567.out) hb);replace HB:=aM (below_step pB hb);(try clear hb);(try clear hb2);(try clear hk);(try clear hi))))
    go_ret
    exact⟨eW,pB⟩
   ·rw[if_neg c39] at H;exact absurd H (by simp)

/-- THE ONE PURE STATEMENT of papermilllaw12_ShareFair: yours. -/
def papermilllaw12_ShareFair.Pure:Prop:=∀ (a0:Int) (l1:List Int),(Lit.int .i64 a0).wf=true→l1.length≤maxLen→l1.length * 8≤140737488351232→(∀ x ∈ l1,(Lit.int .i64 x).wf=true)→∃ k,papermilllaw12_ShareFair.f k a0 l1=some true
theorem papermilllaw12_ShareFair.walk (P:papermilllaw12_ShareFair.Pure) (a0:Int) (a1:Option Addr) (len1 cap1:Nat) (z1:List Int) (w:World) (w0:(Lit.int .i64 a0).wf=true) (w1:(a1=none∧len1=0∧cap1=0∧z1=[])∨∃ x,a1=some x∧len1≤cap1∧cap1≤maxLen∧z1.length=cap1∧(∀ i,i < z1.length→w.cell? (x.add i)=some (.int .i64 (z1.getD i 0)))∧∀ n ∈ z1,(Lit.int .i64 n).wf=true) (y1:len1 * 8≤140737488351232) :
  Calls Try.prog 8 #[.int .i64 a0,.slice a1 len1 cap1] w fun e w'=>e=.returned (.bool true)∧Below w.heap.size w w':=by
 obtain⟨l1,rfl,hr1,hm1,hw1,hc1⟩:=ReadsInt.ofRowC w1;obtain⟨k,h⟩:=P a0 l1 w0 hm1 y1 hw1;refine(papermilllaw12_ShareFair.calls k a0 _ _ l1 true w (Kd.C_of_reads (d:=(0:Int)) (h1:=fun _=>rfl) hr1) hc1 h).mono ?_
 rintro e w' ⟨rfl,hd⟩;exact⟨rfl,hd⟩

end Go.Proofs.Ytloihkecfommbaa.Print
