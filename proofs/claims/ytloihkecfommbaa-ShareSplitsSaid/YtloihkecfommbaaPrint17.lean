import Derived.Test.YtloihkecfommbaaPrint0
namespace Go.Proofs.Ytloihkecfommbaa.Print
open Go.RowKit Go.Proofs.YtloihkecfommbaaW.PrintWords Go.Proofs.YtloihkecfommbaaW.PrintLast Go.Proofs.YtloihkecfommbaaW.PrintMore
attribute [local go_sem] max2_int min2_int max_two min_two max_three min_three max_four min_four
set_option linter.unusedVariables false
set_option maxRecDepth 100000
set_option maxHeartbeats 8000000
set_option linter.unusedSimpArgs false

mutual
def Azx.j0:Nat→Int→List Int→Bool→Option (Int × Int)
 | 0,_,_,_=>none
 | k+1,x0,x1,x14=>if x14=true then(some (0,1)) else(if(x1.length:Int)=0 then(some (0,10)) else(if(x1.length:Int) > 512 then(some (0,8)) else(Azx.l0 k x0 x1 0)))
def Azx.l0:Nat→Int→List Int→Int→Option (Int × Int)
 | 0,_,_,_=>none
 | k+1,x0,x1,x6=>if x6 < (x1.length:Int) then(if 0≤x6 then(if(rd x1 x6) < 0 then(some (0,1)) else(if(rd x1 x6) > 1125899906842624 then(some (0,1)) else(Azx.l0 k x0 x1 (wrap64 (x6+1))))) else(none)) else(Azx.l1 k x0 x1 0 0)
def Azx.l1:Nat→Int→List Int→Int→Int→Option (Int × Int)
 | 0,_,_,_,_=>none
 | k+1,x0,x1,x7,x8=>if x8 < (x1.length:Int) then(if 0≤x8 then(Azx.l1 k x0 x1 (wrap64 (x7+(rd x1 x8))) (wrap64 (x8+1))) else(none)) else(if x7 > 1125899906842624 then(some (0,2)) else(if x7=0 then(if x0=0 then(some (x7,0)) else(some (0,16))) else(some (x7,0))))
end
def Azx.f (k:Nat) (a0:Int) (l1:List Int):Option (Int × Int):=if a0 < 0 then(Azx.j0 k a0 l1 true) else(Azx.j0 k a0 l1 (decide (a0 > 1125899906842624)))
theorem Azx.mono_l:∀ k,(∀ y0 y1 y2,LeO (Azx.j0 k y0 y1 y2) (Azx.j0 (k+1) y0 y1 y2))∧(∀ y0 y1 y2,LeO (Azx.l0 k y0 y1 y2) (Azx.l0 (k+1) y0 y1 y2))∧(∀ y0 y1 y2 y3,LeO (Azx.l1 k y0 y1 y2 y3) (Azx.l1 (k+1) y0 y1 y2 y3))
 | 0=>⟨fun _ _ _ r h=>by simp [Azx.j0] at h,fun _ _ _ r h=>by simp [Azx.l0] at h,fun _ _ _ _ r h=>by simp [Azx.l1] at h⟩
 | k+1=>by
  obtain⟨ih0,ih1,ih2⟩:=Azx.mono_l k;refine⟨?_,?_,?_⟩
  ·intro y0 y1 y2;unfold Azx.j0;with_reducible repeat' first|exact ih0 _ _ _|exact ih1 _ _ _|exact ih2 _ _ _ _|exact LeO.refl _|exact LeO.none _|refine LeO.ite ?_ ?_|refine LeO.bind ?_ (fun _=>?_)
  ·intro y0 y1 y2;unfold Azx.l0;with_reducible repeat' first|exact ih0 _ _ _|exact ih1 _ _ _|exact ih2 _ _ _ _|exact LeO.refl _|exact LeO.none _|refine LeO.ite ?_ ?_|refine LeO.bind ?_ (fun _=>?_)
  ·intro y0 y1 y2 y3;unfold Azx.l1;with_reducible repeat' first|exact ih0 _ _ _|exact ih1 _ _ _|exact ih2 _ _ _ _|exact LeO.refl _|exact LeO.none _|refine LeO.ite ?_ ?_|refine LeO.bind ?_ (fun _=>?_)
theorem Azx.mono:∀ a0 a1 k,LeO (Azx.f k a0 a1) (Azx.f (k+1) a0 a1):=by
 intro a0 a1 k;obtain⟨ih0,ih1,ih2⟩:=Azx.mono_l k;unfold Azx.f;with_reducible repeat' first|exact ih0 _ _ _|exact ih1 _ _ _|exact ih2 _ _ _ _|exact LeO.refl _|exact LeO.none _|refine LeO.ite ?_ ?_|refine LeO.bind ?_ (fun _=>?_)
theorem Azx.calls (k:Nat) (a0:Int) (A1:Option Addr) (c1:Nat) (l1:List Int) (r1:Int) (r2:Int) (w:World) (hr1:Kd.C (Kd.int .i64) w A1 l1.length l1) (hc1:l1.length≤c1) (h:Azx.f k a0 l1=some (r1,r2)) :
  Calls Try.prog 27 #[.int .i64 a0,.slice A1 l1.length c1] w fun e w'=>e=.returned (.tuple #[.int .i64 r1,.int .i64 r2])∧Drawn0 w w':=by
 have HR1:=aM hr1;have HC1:=aM hc1;clear hr1 hc1;have H:(if a0 < 0 then(Azx.j0 k a0 l1 true) else(Azx.j0 k a0 l1 (decide (a0 > 1125899906842624))))=some (r1,r2):=h
 clear h;have HC3:=aM H;clear H;go_enter Try.func27,Try.ntmps27
 go_upto_region 1 with (fail)
 go_cut [14] (fun v14 wc=>∃ (kq:Nat) (x14_2:Bool),v14=.bool x14_2∧Aside0 (Azx.j0 kq a0 l1 x14_2=some (r1,r2))∧Aside0 (kq≤k)∧Drawn0 w wc)
 case first =>
  have H:=HC3.out;clear HC3;by_cases c4:a0 < 0
  ·rw[if_pos c4] at H;have c4b0:decide (a0 < 0)=true:=dE c4;clear c4;(first|rw[c4b0]|(simp only[i64_w,i32_w];rw[c4b0])|skip)
   have H':=aM H;clear H;go_wp2
   go_meet
   case rel=>exact⟨_,(true),sD,H',⟨by first|omega|exact Nat.le_refl _⟩,by repeat(first|exact Drawn0.refl _|apply Drawn0.step)⟩
  ·rw[if_neg c4] at H;have c4b0:decide (a0 < 0)=false:=decide_eq_false c4;clear c4;(first|rw[c4b0]|(simp only[i64_w,i32_w];rw[c4b0])|skip)
   have H':=aM H;clear H;go_wp2
   go_meet
   case rel=>exact⟨_,(decide (a0 > 1125899906842624)),sD,H',⟨by first|omega|exact Nat.le_refl _⟩,by repeat(first|exact Drawn0.refl _|apply Drawn0.step)⟩
 case rest =>
  clear HC3;try clear c1
  try clear c2
  try clear p2
  try clear c4
  try clear c4b0
  obtain⟨kq,x14_2,rfl,HA,HJ2,⟨mc2,rfl⟩⟩:=hcut;cases kq with
  | zero=>exact absurd HA.out (by simp [Azx.j0])
  | succ kj2 =>
   have H:=HA.out;clear HA;simp only[Azx.j0] at H;by_cases c5:x14_2=true
   ·subst c5;rw[if_pos rfl] at H;simp only[Option.some.injEq,Prod.mk.injEq] at H;obtain⟨rfl,rfl⟩:=H;go_wp2
    go_ret2
    exact⟨by first|rfl|(simp;done)|(simp [*];done),by repeat(first|exact Drawn0.refl _|apply Drawn0.step)⟩
   ·replace c5:=Bool.eq_false_iff.mpr c5;subst c5;rw[if_neg (show ¬ (false=true) by decide)] at H
    by_cases c6:(l1.length:Int)=0
    ·rw[if_pos c6] at H;have c6b0:((l1.length:Int) == 0)=true:=beq_iff_eq.mpr c6;have c6b1:((l1.length:Int) != 0)=false:=bne_eq_false_iff_eq.mpr c6;clear c6;simp only[Option.some.injEq,Prod.mk.injEq] at H;obtain⟨rfl,rfl⟩:=H;go_wp2
     go_ret2
     exact⟨by first|rfl|(simp;done)|(simp [*];done),by repeat(first|exact Drawn0.refl _|apply Drawn0.step)⟩
    ·rw[if_neg c6] at H;have c6b0:((l1.length:Int) == 0)=false:=beq_eq_false_iff_ne.mpr c6;have c6b1:((l1.length:Int) != 0)=true:=bne_iff_ne.mpr c6;have c6b2:¬ (l1=[]):=fun h_=>c6 (by rw[h_];rfl)
     by_cases c7:(l1.length:Int) > 512
     ·rw[if_pos c7] at H;have c7b0:decide (512 < (l1.length:Int))=true:=dE c7;have c7b1:decide (512 < l1.length)=true:=dE (by omega)
      clear c7;simp only[Option.some.injEq,Prod.mk.injEq] at H;obtain⟨rfl,rfl⟩:=H;go_wp2
      go_ret2
      exact⟨by first|rfl|(simp;done)|(simp [*];done),by repeat(first|exact Drawn0.refl _|apply Drawn0.step)⟩
     ·rw[if_neg c7] at H;have c7b0:decide (512 < (l1.length:Int))=false:=decide_eq_false c7;have c7b1:decide (512 < l1.length)=false:=decide_eq_false (by omega)
      clear c7;have H':=aM H;clear H;go_wp2
      go_loopg [6] kj2 (fun kq v6 w'=>∃ (x6_2:Int),v6=.int .i64 x6_2∧Aside0 (Azx.l0 kq a0 l1 x6_2=some (r1,r2))∧Aside0 (kq≤kj2)∧Drawn0 w w')
      case atStart=>exact⟨(0),sD,H',⟨Nat.le_refl _⟩,by repeat(first|exact Drawn0.refl _|apply Drawn0.step)⟩
      case round =>
       clear H';try clear c1
       try clear c2
       try clear p2
       try clear c4
       try clear c4b0
       try clear c5
       try clear c6
       try clear c6b0
       try clear c6b1
       try clear c6b2
       try clear c7
       try clear c7b0
       try clear c7b1
       try clear p2
       obtain⟨x6_2,rfl,HA,HK2,⟨m2,rfl⟩⟩:=hrel;cases gk with
       | zero=>exact absurd HA.out (by simp [Azx.l0])
       | succ k2 =>
        have H:=HA.out;clear HA;simp only[Azx.l0] at H;by_cases c8:x6_2 < (l1.length:Int)
        ·rw[if_pos c8] at H;have c8b0:decide (x6_2 < (l1.length:Int))=true:=dE c8;clear c8;by_cases c9:0≤x6_2
         ·rw[if_pos c9] at H;have c9b0:decide (0≤x6_2)=true:=dE c9;clear c9;by_cases c10:(rd l1 x6_2) < 0
          ·rw[if_pos c10] at H;have c10b0:decide ((rd l1 x6_2) < 0)=true:=dE c10;clear c10;simp only[Option.some.injEq,Prod.mk.injEq] at H;obtain⟨rfl,rfl⟩:=H;have p318:0≤(x6_2:Int):=oE aS
           have q318:x6_2 < (l1.length:Int):=oE aS
           obtain⟨ad318,e318,hx318_0⟩:=Kd.at_int HR1.out x6_2 p318 q318;cases e318
           replace p318:=eq_true p318;replace q318:=eq_true q318;go_wp2
           go_ret2
           exact⟨by first|rfl|(simp;done)|(simp [*];done),by repeat(first|exact Drawn0.refl _|apply Drawn0.step)⟩
          ·rw[if_neg c10] at H;have c10b0:decide ((rd l1 x6_2) < 0)=false:=decide_eq_false c10;clear c10;by_cases c11:(rd l1 x6_2) > 1125899906842624
           ·rw[if_pos c11] at H;have c11b0:decide (1125899906842624 < (rd l1 x6_2))=true:=dE c11;clear c11;simp only[Option.some.injEq,Prod.mk.injEq] at H;obtain⟨rfl,rfl⟩:=H;have p318:0≤(x6_2:Int):=oE aS
            have q318:x6_2 < (l1.length:Int):=oE aS
            obtain⟨ad318,e318,hx318_0⟩:=Kd.at_int HR1.out x6_2 p318 q318;cases e318
            replace p318:=eq_true p318;replace q318:=eq_true q318;have p319:0≤(x6_2:Int):=oE aS
            have q319:x6_2 < (l1.length:Int):=oE aS
            obtain⟨ad319,e319,hx319_0⟩:=Kd.at_int HR1.out x6_2 p319 q319;obtain rfl:ad318=ad319:=(by injection e319)
            replace p319:=eq_true p319;replace q319:=eq_true q319;go_wp2
            go_ret2
            exact⟨by first|rfl|(simp;done)|(simp [*];done),by repeat(first|exact Drawn0.refl _|apply Drawn0.step)⟩
           ·rw[if_neg c11] at H;have c11b0:decide (1125899906842624 < (rd l1 x6_2))=false:=decide_eq_false c11;clear c11;have H':=aM H;clear H;have p318:0≤(x6_2:Int):=oE aS
            have q318:x6_2 < (l1.length:Int):=oE aS
            obtain⟨ad318,e318,hx318_0⟩:=Kd.at_int HR1.out x6_2 p318 q318;cases e318
            replace p318:=eq_true p318;replace q318:=eq_true q318;have p319:0≤(x6_2:Int):=oE aS
            have q319:x6_2 < (l1.length:Int):=oE aS
            obtain⟨ad319,e319,hx319_0⟩:=Kd.at_int HR1.out x6_2 p319 q319;obtain rfl:ad318=ad319:=(by injection e319)
            replace p319:=eq_true p319;replace q319:=eq_true q319;go_wp2
            go_roundg k2
            case measure=>have:=HJ2.out;have:=HK2.out;omega
            case rel=>exact⟨(wrap64 (x6_2+1)),sD,H',⟨by have:=HJ2.out;have:=HK2.out;omega⟩,by repeat(first|exact Drawn0.refl _|apply Drawn0.step)⟩
         ·rw[if_neg c9] at H;exact absurd H (by simp)
        ·rw[if_neg c8] at H;have c8b0:decide (x6_2 < (l1.length:Int))=false:=decide_eq_false c8;clear c8;have H':=aM H;clear H;go_wp2
         go_loopg [7,8] k2 (fun kq v7 v8 w'=>∃ (x7_3:Int) (x8_3:Int),v7=.int .i64 x7_3∧v8=.int .i64 x8_3∧Aside0 (Azx.l1 kq a0 l1 x7_3 x8_3=some (r1,r2))∧Aside0 (kq≤k2)∧Drawn0 w w')
         case atStart=>exact⟨(0),(0),sD,sD,H',⟨Nat.le_refl _⟩,by repeat(first|exact Drawn0.refl _|apply Drawn0.step)⟩
         case round =>
          clear H';try clear c1
          try clear c2
          try clear p2
          try clear p3
          try clear q3
          try clear hx3
          try clear c4
          try clear c4b0
          try clear c5
          try clear c6
          try clear c6b0
          try clear c6b1
          try clear c6b2
          try clear p6
          try clear c7
          try clear c7b0
          try clear c7b1
          try clear c8
          try clear c8b0
          try clear c9
          try clear c9b0
          try clear c10
          try clear c10b0
          try clear c11
          try clear c11b0
          try clear hx318_0
          try clear hx319_0
          try clear p2
          try clear p318
          try clear p319
          try clear q318
          try clear q319
          obtain⟨x7_3,x8_3,rfl,rfl,HA,HK3,⟨m3,rfl⟩⟩:=hrel;cases gk with
          | zero=>exact absurd HA.out (by simp [Azx.l1])
          | succ k3 =>
           have H:=HA.out;clear HA;simp only[Azx.l1] at H;by_cases c12:x8_3 < (l1.length:Int)
           ·rw[if_pos c12] at H;have c12b0:decide (x8_3 < (l1.length:Int))=true:=dE c12;clear c12;by_cases c13:0≤x8_3
            ·rw[if_pos c13] at H;have c13b0:decide (0≤x8_3)=true:=dE c13;clear c13;have H':=aM H;clear H;have p320:0≤(x8_3:Int):=oE aS
             have q320:x8_3 < (l1.length:Int):=oE aS
             obtain⟨ad320,e320,hx320_0⟩:=Kd.at_int HR1.out x8_3 p320 q320;cases e320
             replace p320:=eq_true p320;replace q320:=eq_true q320;go_wp2
             go_roundg k3
             case measure=>have:=HJ2.out;have:=HK2.out;have:=HK3.out;omega
             case rel=>exact⟨(wrap64 (x7_3+(rd l1 x8_3))),(wrap64 (x8_3+1)),sD,sD,H',⟨by have:=HJ2.out;have:=HK2.out;have:=HK3.out;omega⟩,by repeat(first|exact Drawn0.refl _|apply Drawn0.step)⟩
            ·rw[if_neg c13] at H;exact absurd H (by simp)
           ·rw[if_neg c12] at H;have c12b0:decide (x8_3 < (l1.length:Int))=false:=decide_eq_false c12;clear c12;by_cases c14:x7_3 > 1125899906842624
            ·rw[if_pos c14] at H;have c14b0:decide (1125899906842624 < x7_3)=true:=dE c14;clear c14;simp only[Option.some.injEq,Prod.mk.injEq] at H;obtain⟨rfl,rfl⟩:=H;go_wp2
             go_ret2
             exact⟨by first|rfl|(simp;done)|(simp [*];done),by repeat(first|exact Drawn0.refl _|apply Drawn0.step)⟩
            ·rw[if_neg c14] at H;have c14b0:decide (1125899906842624 < x7_3)=false:=decide_eq_false c14;clear c14;by_cases c15:x7_3=0
             ·rw[if_pos c15] at H;have c15b0:(x7_3 == 0)=true:=beq_iff_eq.mpr c15;have c15b1:(x7_3 != 0)=false:=bne_eq_false_iff_eq.mpr c15;clear c15;by_cases c16:a0=0
              ·rw[if_pos c16] at H;have c16b0:(a0 == 0)=true:=beq_iff_eq.mpr c16;have c16b1:(a0 != 0)=false:=bne_eq_false_iff_eq.mpr c16;clear c16;simp only[Option.some.injEq,Prod.mk.injEq] at H;obtain⟨rfl,rfl⟩:=H;go_wp2
               go_ret2
               exact⟨by first|rfl|(simp;done)|(simp [*];done),by repeat(first|exact Drawn0.refl _|apply Drawn0.step)⟩
              ·rw[if_neg c16] at H;have c16b0:(a0 == 0)=false:=beq_eq_false_iff_ne.mpr c16;have c16b1:(a0 != 0)=true:=bne_iff_ne.mpr c16;simp only[Option.some.injEq,Prod.mk.injEq] at H;obtain⟨rfl,rfl⟩:=H;go_wp2
               go_ret2
               exact⟨by first|rfl|(simp;done)|(simp [*];done),by repeat(first|exact Drawn0.refl _|apply Drawn0.step)⟩
             ·rw[if_neg c15] at H;have c15b0:(x7_3 == 0)=false:=beq_eq_false_iff_ne.mpr c15;have c15b1:(x7_3 != 0)=true:=bne_iff_ne.mpr c15;simp only[Option.some.injEq,Prod.mk.injEq] at H;obtain⟨rfl,rfl⟩:=H;go_wp2
              go_ret2
              exact⟨by first|rfl|(simp;done)|(simp [*];done),by repeat(first|exact Drawn0.refl _|apply Drawn0.step)⟩


mutual
def Azb.l0:Nat→Int→Int→Int→Int→Int→Int→Option (Int × Int)
 | 0,_,_,_,_,_,_=>none
 | k+1,x0,x1,x2,x8,x9,x10=>if x10≥0 then(if 0≤x10 then(if(Go.bits .and .i64 (shr .i64 x1 x10) 1)=1 then(Azb.j1 k x0 x1 x2 (wrap64 (2 * x8)) (wrap64 ((wrap64 (2 * x9))+x0)) x10) else(Azb.j1 k x0 x1 x2 (wrap64 (2 * x8)) (wrap64 (2 * x9)) x10)) else(none)) else(some (x8,x9))
def Azb.j1:Nat→Int→Int→Int→Int→Int→Int→Option (Int × Int)
 | 0,_,_,_,_,_,_=>none
 | k+1,x0,x1,x2,x8,x9,x10=>Azb.l1 k x0 x1 x2 x8 x9 x10
def Azb.l1:Nat→Int→Int→Int→Int→Int→Int→Option (Int × Int)
 | 0,_,_,_,_,_,_=>none
 | k+1,x0,x1,x2,x8,x9,x10=>if x9≥x2 then(Azb.l1 k x0 x1 x2 (wrap64 (x8+1)) (wrap64 (x9 - x2)) x10) else(Azb.l0 k x0 x1 x2 x8 x9 (wrap64 (x10 - 1)))
end
def Azb.f (k:Nat) (a0:Int) (a1:Int) (a2:Int):Option (Int × Int):=Azb.l0 k a0 a1 a2 0 0 50
theorem Azb.mono_l:∀ k,(∀ y0 y1 y2 y3 y4 y5,LeO (Azb.l0 k y0 y1 y2 y3 y4 y5) (Azb.l0 (k+1) y0 y1 y2 y3 y4 y5))∧(∀ y0 y1 y2 y3 y4 y5,LeO (Azb.j1 k y0 y1 y2 y3 y4 y5) (Azb.j1 (k+1) y0 y1 y2 y3 y4 y5))∧(∀ y0 y1 y2 y3 y4 y5,LeO (Azb.l1 k y0 y1 y2 y3 y4 y5) (Azb.l1 (k+1) y0 y1 y2 y3 y4 y5))
 | 0=>⟨fun _ _ _ _ _ _ r h=>by simp [Azb.l0] at h,fun _ _ _ _ _ _ r h=>by simp [Azb.j1] at h,fun _ _ _ _ _ _ r h=>by simp [Azb.l1] at h⟩
 | k+1=>by
  obtain⟨ih0,ih1,ih2⟩:=Azb.mono_l k;refine⟨?_,?_,?_⟩
  ·intro y0 y1 y2 y3 y4 y5;unfold Azb.l0;with_reducible repeat' first|exact ih0 _ _ _ _ _ _|exact ih1 _ _ _ _ _ _|exact ih2 _ _ _ _ _ _|exact LeO.refl _|exact LeO.none _|refine LeO.ite ?_ ?_|refine LeO.bind ?_ (fun _=>?_)
  ·intro y0 y1 y2 y3 y4 y5;unfold Azb.j1;with_reducible repeat' first|exact ih0 _ _ _ _ _ _|exact ih1 _ _ _ _ _ _|exact ih2 _ _ _ _ _ _|exact LeO.refl _|exact LeO.none _|refine LeO.ite ?_ ?_|refine LeO.bind ?_ (fun _=>?_)
  ·intro y0 y1 y2 y3 y4 y5;unfold Azb.l1;with_reducible repeat' first|exact ih0 _ _ _ _ _ _|exact ih1 _ _ _ _ _ _|exact ih2 _ _ _ _ _ _|exact LeO.refl _|exact LeO.none _|refine LeO.ite ?_ ?_|refine LeO.bind ?_ (fun _=>?_)
theorem Azb.mono:∀ a0 a1 a2 k,LeO (Azb.f k a0 a1 a2) (Azb.f (k+1) a0 a1 a2):=by
 intro a0 a1 a2 k;obtain⟨ih0,ih1,ih2⟩:=Azb.mono_l k;unfold Azb.f;with_reducible repeat' first|exact ih0 _ _ _ _ _ _|exact ih1 _ _ _ _ _ _|exact ih2 _ _ _ _ _ _|exact LeO.refl _|exact LeO.none _|refine LeO.ite ?_ ?_|refine LeO.bind ?_ (fun _=>?_)
theorem Azb.calls (k:Nat) (a0:Int) (a1:Int) (a2:Int) (r1:Int) (r2:Int) (w:World) (h:Azb.f k a0 a1 a2=some (r1,r2)) :
  Calls Try.prog 28 #[.int .i64 a0,.int .i64 a1,.int .i64 a2] w fun e w'=>e=.returned (.tuple #[.int .i64 r1,.int .i64 r2])∧Drawn0 w w':=by
 have H:(Azb.l0 k a0 a1 a2 0 0 50)=some (r1,r2):=h;clear h;have H':=aM H;clear H;go_enter Try.func28,Try.ntmps28
 go_wp2
 go_loopg [8,9,10] k (fun kq v8 v9 v10 w'=>∃ (x8_1:Int) (x9_1:Int) (x10_1:Int),v8=.int .i64 x8_1∧v9=.int .i64 x9_1∧v10=.int .i64 x10_1∧Aside0 (Azb.l0 kq a0 a1 a2 x8_1 x9_1 x10_1=some (r1,r2))∧Aside0 (kq≤k)∧Drawn0 w w')
 case atStart=>exact⟨(0),(0),(50),sD,sD,sD,H',⟨Nat.le_refl _⟩,by repeat(first|exact Drawn0.refl _|apply Drawn0.step)⟩
 case round =>
  clear H';try clear c2
  try clear p2
  obtain⟨x8_1,x9_1,x10_1,rfl,rfl,rfl,HA,HK1,⟨m1,rfl⟩⟩:=hrel;cases gk with
  | zero=>exact absurd HA.out (by simp [Azb.l0])
  | succ k1 =>
   have H:=HA.out;clear HA;simp only[Azb.l0] at H;by_cases c4:x10_1≥0
   ·rw[if_pos c4] at H;have c4b0:decide (0≤x10_1)=true:=dE c4;clear c4;by_cases c5:0≤x10_1
    ·rw[if_pos c5] at H;have c5b0:=eq_true c5;have c5b1:decide (0≤x10_1)=true:=dE c5;clear c5;obtain⟨ji6,hji6⟩:∃ j_:Int,(shr .i64 a1 x10_1)=j_:=⟨_,rfl⟩;replace H:(if(Go.bits .and .i64 (ji6) 1)=1 then(Azb.j1 k1 a0 a1 a2 (wrap64 (2 * x8_1)) (wrap64 ((wrap64 (2 * x9_1))+a0)) x10_1) else(Azb.j1 k1 a0 a1 a2 (wrap64 (2 * x8_1)) (wrap64 (2 * x9_1)) x10_1))=some (r1,r2):=by first|(rw[hji6] at H;exact H)|(simp only[hji6] at H ⊢;exact H)
     have hji6_:(a1 / 2 ^ min x10_1.toNat 64)=ji6:=hji6;have hji6z:x10_1≤64→(a1 / 2 ^ x10_1.toNat)=ji6:=shr_small hji6;have HC7:=aM H;clear H;go_upto_if 23 with (fail)
     go_cut [9] (fun v9 wc=>∃ (kq:Nat) (x9_6:Int),v9=.int .i64 x9_6∧Aside0 (Azb.j1 kq a0 a1 a2 (wrap64 (2 * x8_1)) x9_6 x10_1=some (r1,r2))∧Aside0 (kq≤k1)∧Drawn0 w wc)
     case first =>
      have H:=HC7.out;clear HC7;by_cases c8:(Go.bits .and .i64 (ji6) 1)=1
      ·rw[if_pos c8] at H;have c8b0:((Go.bits .and .i64 (ji6) 1) == 1)=true:=beq_iff_eq.mpr c8;have c8b1:((Go.bits .and .i64 (ji6) 1) != 1)=false:=bne_eq_false_iff_eq.mpr c8;clear c8;(first|rw[c8b0]|(simp only[i64_w,i32_w];rw[c8b0])|skip)
       have H':=aM H;clear H;go_wp2
       go_meet
       case rel=>exact⟨_,(wrap64 ((wrap64 (2 * x9_1))+a0)),sD,H',⟨by have:=HK1.out;first|omega|exact Nat.le_refl _⟩,by repeat(first|exact Drawn0.refl _|apply Drawn0.step)⟩
      ·rw[if_neg c8] at H;have c8b0:((Go.bits .and .i64 (ji6) 1) == 1)=false:=beq_eq_false_iff_ne.mpr c8;have c8b1:((Go.bits .and .i64 (ji6) 1) != 1)=true:=bne_iff_ne.mpr c8;(first|rw[c8b0]|(simp only[i64_w,i32_w];rw[c8b0])|skip)
       have H':=aM H;clear H;go_wp2
       go_meet
       case rel=>exact⟨_,(wrap64 (2 * x9_1)),sD,H',⟨by have:=HK1.out;first|omega|exact Nat.le_refl _⟩,by repeat(first|exact Drawn0.refl _|apply Drawn0.step)⟩
     case rest =>
      clear HC7;try clear c2
      try clear p2
      try clear c4
      try clear c4b0
      try clear c5
      try clear c5b0
      try clear c5b1
      try clear p6
      try clear c8
      try clear c8b0
      try clear c8b1
      try clear p2
      obtain⟨kq,x9_6,rfl,HA,HJ6,⟨mc6,rfl⟩⟩:=hcut;cases kq with
      | zero=>exact absurd HA.out (by simp [Azb.j1])
      | succ kj6 =>
       have H:=HA.out;clear HA;simp only[Azb.j1] at H;have H':=aM H;clear H;go_wp2
       go_loopg [8,9] kj6 (fun kq v8 v9 w'=>∃ (x8_3:Int) (x9_3:Int),v8=.int .i64 x8_3∧v9=.int .i64 x9_3∧Aside0 (Azb.l1 kq a0 a1 a2 x8_3 x9_3 x10_1=some (r1,r2))∧Aside0 (kq≤kj6)∧Drawn0 w w')
       case atStart=>exact⟨((wrap64 (2 * x8_1))),(x9_6),sD,sD,H',⟨Nat.le_refl _⟩,by repeat(first|exact Drawn0.refl _|apply Drawn0.step)⟩
       case round =>
        clear H';try clear c2
        try clear p2
        try clear c4
        try clear c4b0
        try clear c5
        try clear c5b0
        try clear c5b1
        try clear c6
        try clear p6
        try clear c8
        try clear c8b0
        try clear c8b1
        try clear p2
        try clear p6
        obtain⟨x8_3,x9_3,rfl,rfl,HA,HK3,⟨m3,rfl⟩⟩:=hrel;cases gk with
        | zero=>exact absurd HA.out (by simp [Azb.l1])
        | succ k3 =>
         have H:=HA.out;clear HA;simp only[Azb.l1] at H;by_cases c9:x9_3≥a2
         ·rw[if_pos c9] at H;have c9b0:decide (a2≤x9_3)=true:=dE c9;clear c9;have H':=aM H;clear H;go_wp2
          go_roundg k3
          case measure=>have:=HK1.out;have:=HJ6.out;have:=HK3.out;omega
          case rel=>exact⟨(wrap64 (x8_3+1)),(wrap64 (x9_3 - a2)),sD,sD,H',⟨by have:=HK1.out;have:=HJ6.out;have:=HK3.out;omega⟩,by repeat(first|exact Drawn0.refl _|apply Drawn0.step)⟩
         ·rw[if_neg c9] at H;have c9b0:decide (a2≤x9_3)=false:=decide_eq_false c9;clear c9;have H':=aM H;clear H;go_wp2
          go_roundg k3
          case measure=>have:=HK1.out;have:=HJ6.out;have:=HK3.out;omega
          case rel=>exact⟨(x8_3),(x9_3),(wrap64 (x10_1 - 1)),sD,sD,sD,H',⟨by have:=HK1.out;have:=HJ6.out;have:=HK3.out;omega⟩,by repeat(first|exact Drawn0.refl _|apply Drawn0.step)⟩
    ·rw[if_neg c5] at H;exact absurd H (by simp)
   ·rw[if_neg c4] at H;have c4b0:decide (0≤x10_1)=false:=decide_eq_false c4;clear c4;simp only[Option.some.injEq,Prod.mk.injEq] at H;obtain⟨rfl,rfl⟩:=H;go_wp2
    go_ret2
    exact⟨by first|rfl|(simp;done)|(simp [*];done),by repeat(first|exact Drawn0.refl _|apply Drawn0.step)⟩

end Go.Proofs.Ytloihkecfommbaa.Print
