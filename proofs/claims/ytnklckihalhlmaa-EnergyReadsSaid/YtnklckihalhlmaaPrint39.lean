import Derived.Test.YtnklckihalhlmaaPrint0
namespace Go.Proofs.Ytnklckihalhlmaa.Print
open Go.RowKit Go.Proofs.YtnklckihalhlmaaW.PrintWords Go.Proofs.YtnklckihalhlmaaW.PrintLast Go.Proofs.YtnklckihalhlmaaW.PrintMore
attribute [local go_sem] max2_int min2_int max_two min_two max_three min_three max_four min_four
set_option linter.unusedVariables false
set_option maxRecDepth 100000
set_option maxHeartbeats 8000000
set_option linter.unusedSimpArgs false

mutual
def Azp.l0:Nat→List (S46)→Int→Option (Int)
 | 0,_,_=>none
 | k+1,x0,x3=>if x3 < (x0.length:Int) then(if 0≤x3 then(if((rd_T46 x0 x3).f0) < 0 then(some 1) else(if((rd_T46 x0 x3).f0) > 2147483647 then(some 1) else(if((rd_T46 x0 x3).f1) < 0 then(some 1) else(if((rd_T46 x0 x3).f1) > 1125899906842624 then(some 1) else(Azp.l0 k x0 (wrap64 (x3+1))))))) else(none)) else(Azp.l1 k x0 1)
def Azp.l1:Nat→List (S46)→Int→Option (Int)
 | 0,_,_=>none
 | k+1,x0,x4=>if x4 < (x0.length:Int) then(if 0≤x4 then(if 0≤(wrap64 (x4 - 1)) then(if(wrap64 (x4 - 1)) < (x0.length:Int) then(if((rd_T46 x0 x4).f0)≤((rd_T46 x0 (wrap64 (x4 - 1))).f0) then(some 9) else(if((rd_T46 x0 x4).f1) < ((rd_T46 x0 (wrap64 (x4 - 1))).f1) then(some 9) else(Azp.l1 k x0 (wrap64 (x4+1))))) else(none)) else(none)) else(none)) else(some 0)
end
def Azp.f (k:Nat) (l0:List (S46)):Option (Int):=if(l0.length:Int) < 2 then(some 10) else(if(l0.length:Int) > 512 then(some 8) else(Azp.l0 k l0 0))
theorem Azp.mono_l:∀ k,(∀ y0 y1,LeO (Azp.l0 k y0 y1) (Azp.l0 (k+1) y0 y1))∧(∀ y0 y1,LeO (Azp.l1 k y0 y1) (Azp.l1 (k+1) y0 y1))
 | 0=>⟨fun _ _ r h=>by simp [Azp.l0] at h,fun _ _ r h=>by simp [Azp.l1] at h⟩
 | k+1=>by
  obtain⟨ih0,ih1⟩:=Azp.mono_l k;refine⟨?_,?_⟩
  ·intro y0 y1;unfold Azp.l0;with_reducible repeat' first|exact ih0 _ _|exact ih1 _ _|exact LeO.refl _|exact LeO.none _|refine LeO.ite ?_ ?_|refine LeO.bind ?_ (fun _=>?_)
  ·intro y0 y1;unfold Azp.l1;with_reducible repeat' first|exact ih0 _ _|exact ih1 _ _|exact LeO.refl _|exact LeO.none _|refine LeO.ite ?_ ?_|refine LeO.bind ?_ (fun _=>?_)
theorem Azp.mono:∀ a0 k,LeO (Azp.f k a0) (Azp.f (k+1) a0):=by
 intro a0 k;obtain⟨ih0,ih1⟩:=Azp.mono_l k;unfold Azp.f;with_reducible repeat' first|exact ih0 _ _|exact ih1 _ _|exact LeO.refl _|exact LeO.none _|refine LeO.ite ?_ ?_|refine LeO.bind ?_ (fun _=>?_)
theorem Azp.calls (k:Nat) (A0:Option Addr) (c0:Nat) (l0:List (S46)) (r:Int) (w:World) (hr0:Kd.C k46 w A0 l0.length l0) (hc0:l0.length≤c0) (h:Azp.f k l0=some r) :
  Calls Try.prog 15 #[.slice A0 l0.length c0] w fun e w'=>e=.returned (.int .i64 r)∧Drawn0 w w':=by
 have HR0:=aM hr0;have HC0:=aM hc0;clear hr0 hc0;have H:(if(l0.length:Int) < 2 then(some 10) else(if(l0.length:Int) > 512 then(some 8) else(Azp.l0 k l0 0)))=some r:=h
 clear h;by_cases c2:(l0.length:Int) < 2
 ·rw[if_pos c2] at H;have c2b0:decide ((l0.length:Int) < 2)=true:=dE c2;have c2b1:decide (l0.length < 2)=true:=dE (by omega)
  clear c2;obtain rfl:=Option.some.inj H;go_enter Try.func15,Try.ntmps15
  go_wp2
  repeat(go_quiet (fail);try go_wp2)
  go_ret
  exact⟨by first|rfl|(simp;done)|(simp [*];done),by repeat(first|exact Drawn0.refl _|apply Drawn0.step)⟩
 ·rw[if_neg c2] at H;have c2b0:decide ((l0.length:Int) < 2)=false:=decide_eq_false c2;have c2b1:decide (l0.length < 2)=false:=decide_eq_false (by omega)
  clear c2;by_cases c3:(l0.length:Int) > 512
  ·rw[if_pos c3] at H;have c3b0:decide (512 < (l0.length:Int))=true:=dE c3;have c3b1:decide (512 < l0.length)=true:=dE (by omega)
   clear c3;obtain rfl:=Option.some.inj H;go_enter Try.func15,Try.ntmps15
   go_wp2
   repeat(go_quiet (fail);try go_wp2)
   go_ret
   exact⟨by first|rfl|(simp;done)|(simp [*];done),by repeat(first|exact Drawn0.refl _|apply Drawn0.step)⟩
  ·rw[if_neg c3] at H;have c3b0:decide (512 < (l0.length:Int))=false:=decide_eq_false c3;have c3b1:decide (512 < l0.length)=false:=decide_eq_false (by omega)
   clear c3;have H':=aM H;clear H;go_enter Try.func15,Try.ntmps15
   go_wp2
   repeat(go_quiet (fail);try go_wp2)
   go_loopg [3] k (fun kq v3 w'=>∃ (x3_1:Int),v3=.int .i64 x3_1∧Aside0 (Azp.l0 kq l0 x3_1=some r)∧Aside0 (kq≤k)∧Drawn0 w w')
   case atStart=>exact⟨(0),sD,H',⟨Nat.le_refl _⟩,by repeat(first|exact Drawn0.refl _|apply Drawn0.step)⟩
   case round =>
    clear H';try clear c1
    try clear c2
    try clear c2b0
    try clear c2b1
    try clear p2
    try clear c3
    try clear c3b0
    try clear c3b1
    obtain⟨x3_1,rfl,HA,HK1,⟨m1,rfl⟩⟩:=hrel;cases gk with
    | zero=>exact absurd HA.out (by simp [Azp.l0])
    | succ k1 =>
     have H:=HA.out;clear HA;simp only[Azp.l0] at H;by_cases c4:x3_1 < (l0.length:Int)
     ·rw[if_pos c4] at H;have c4b0:decide (x3_1 < (l0.length:Int))=true:=dE c4;clear c4;by_cases c5:0≤x3_1
      ·rw[if_pos c5] at H;have c5b0:decide (0≤x3_1)=true:=dE c5;clear c5;by_cases c6:((rd_T46 l0 x3_1).f0) < 0
       ·rw[if_pos c6] at H;have c6b0:decide (((rd_T46 l0 x3_1).f0) < 0)=true:=dE c6;clear c6;obtain rfl:=Option.some.inj H;have p637:0≤(x3_1:Int):=oE aS
        have q637:x3_1 < (l0.length:Int):=oE aS
        obtain⟨ad637,e637,hx637_0,hx637_1⟩:=at_T46 HR0.out x3_1 p637 q637;cases e637
        replace p637:=eq_true p637;replace q637:=eq_true q637;go_wp2
        repeat(go_quiet (fail);try go_wp2)
        go_ret
        exact⟨by first|rfl|(simp;done)|(simp [*];done),by repeat(first|exact Drawn0.refl _|apply Drawn0.step)⟩
       ·rw[if_neg c6] at H;have c6b0:decide (((rd_T46 l0 x3_1).f0) < 0)=false:=decide_eq_false c6;clear c6;by_cases c7:((rd_T46 l0 x3_1).f0) > 2147483647
        ·rw[if_pos c7] at H;have c7b0:decide (2147483647 < ((rd_T46 l0 x3_1).f0))=true:=dE c7;clear c7;obtain rfl:=Option.some.inj H;have p637:0≤(x3_1:Int):=oE aS
         have q637:x3_1 < (l0.length:Int):=oE aS
         obtain⟨ad637,e637,hx637_0,hx637_1⟩:=at_T46 HR0.out x3_1 p637 q637;cases e637
         replace p637:=eq_true p637;replace q637:=eq_true q637;have p638:0≤(x3_1:Int):=oE aS
         have q638:x3_1 < (l0.length:Int):=oE aS
         obtain⟨ad638,e638,hx638_0,hx638_1⟩:=at_T46 HR0.out x3_1 p638 q638;obtain rfl:ad637=ad638:=(by injection e638)
         replace p638:=eq_true p638;replace q638:=eq_true q638;go_wp2
         repeat(go_quiet (fail);try go_wp2)
         go_ret
         exact⟨by first|rfl|(simp;done)|(simp [*];done),by repeat(first|exact Drawn0.refl _|apply Drawn0.step)⟩
        ·rw[if_neg c7] at H;have c7b0:decide (2147483647 < ((rd_T46 l0 x3_1).f0))=false:=decide_eq_false c7;clear c7;by_cases c8:((rd_T46 l0 x3_1).f1) < 0
         ·rw[if_pos c8] at H;have c8b0:decide (((rd_T46 l0 x3_1).f1) < 0)=true:=dE c8;clear c8;obtain rfl:=Option.some.inj H;have p637:0≤(x3_1:Int):=oE aS
          have q637:x3_1 < (l0.length:Int):=oE aS
          obtain⟨ad637,e637,hx637_0,hx637_1⟩:=at_T46 HR0.out x3_1 p637 q637;cases e637
          replace p637:=eq_true p637;replace q637:=eq_true q637;have p638:0≤(x3_1:Int):=oE aS
          have q638:x3_1 < (l0.length:Int):=oE aS
          obtain⟨ad638,e638,hx638_0,hx638_1⟩:=at_T46 HR0.out x3_1 p638 q638;obtain rfl:ad637=ad638:=(by injection e638)
          replace p638:=eq_true p638;replace q638:=eq_true q638;have p639:0≤(x3_1:Int):=oE aS
          have q639:x3_1 < (l0.length:Int):=oE aS
          obtain⟨ad639,e639,hx639_0,hx639_1⟩:=at_T46 HR0.out x3_1 p639 q639;obtain rfl:ad637=ad639:=(by injection e639)
          replace p639:=eq_true p639;replace q639:=eq_true q639;go_wp2
          repeat(go_quiet (fail);try go_wp2)
          go_ret
          exact⟨by first|rfl|(simp;done)|(simp [*];done),by repeat(first|exact Drawn0.refl _|apply Drawn0.step)⟩
         ·rw[if_neg c8] at H;have c8b0:decide (((rd_T46 l0 x3_1).f1) < 0)=false:=decide_eq_false c8;clear c8;by_cases c9:((rd_T46 l0 x3_1).f1) > 1125899906842624
          ·rw[if_pos c9] at H;have c9b0:decide (1125899906842624 < ((rd_T46 l0 x3_1).f1))=true:=dE c9;clear c9;obtain rfl:=Option.some.inj H;have p637:0≤(x3_1:Int):=oE aS
           have q637:x3_1 < (l0.length:Int):=oE aS
           obtain⟨ad637,e637,hx637_0,hx637_1⟩:=at_T46 HR0.out x3_1 p637 q637;cases e637
           replace p637:=eq_true p637;replace q637:=eq_true q637;have p638:0≤(x3_1:Int):=oE aS
           have q638:x3_1 < (l0.length:Int):=oE aS
           obtain⟨ad638,e638,hx638_0,hx638_1⟩:=at_T46 HR0.out x3_1 p638 q638;obtain rfl:ad637=ad638:=(by injection e638)
           replace p638:=eq_true p638;replace q638:=eq_true q638;have p639:0≤(x3_1:Int):=oE aS
           have q639:x3_1 < (l0.length:Int):=oE aS
           obtain⟨ad639,e639,hx639_0,hx639_1⟩:=at_T46 HR0.out x3_1 p639 q639;obtain rfl:ad637=ad639:=(by injection e639)
           replace p639:=eq_true p639;replace q639:=eq_true q639;have p640:0≤(x3_1:Int):=oE aS
           have q640:x3_1 < (l0.length:Int):=oE aS
           obtain⟨ad640,e640,hx640_0,hx640_1⟩:=at_T46 HR0.out x3_1 p640 q640;obtain rfl:ad637=ad640:=(by injection e640)
           replace p640:=eq_true p640;replace q640:=eq_true q640;go_wp2
           repeat(go_quiet (fail);try go_wp2)
           go_ret
           exact⟨by first|rfl|(simp;done)|(simp [*];done),by repeat(first|exact Drawn0.refl _|apply Drawn0.step)⟩
          ·rw[if_neg c9] at H;have c9b0:decide (1125899906842624 < ((rd_T46 l0 x3_1).f1))=false:=decide_eq_false c9;clear c9;have H':=aM H;clear H;have p637:0≤(x3_1:Int):=oE aS
           have q637:x3_1 < (l0.length:Int):=oE aS
           obtain⟨ad637,e637,hx637_0,hx637_1⟩:=at_T46 HR0.out x3_1 p637 q637;cases e637
           replace p637:=eq_true p637;replace q637:=eq_true q637;have p638:0≤(x3_1:Int):=oE aS
           have q638:x3_1 < (l0.length:Int):=oE aS
           obtain⟨ad638,e638,hx638_0,hx638_1⟩:=at_T46 HR0.out x3_1 p638 q638;obtain rfl:ad637=ad638:=(by injection e638)
           replace p638:=eq_true p638;replace q638:=eq_true q638;have p639:0≤(x3_1:Int):=oE aS
           have q639:x3_1 < (l0.length:Int):=oE aS
           obtain⟨ad639,e639,hx639_0,hx639_1⟩:=at_T46 HR0.out x3_1 p639 q639;obtain rfl:ad637=ad639:=(by injection e639)
           replace p639:=eq_true p639;replace q639:=eq_true q639;have p640:0≤(x3_1:Int):=oE aS
           have q640:x3_1 < (l0.length:Int):=oE aS
           obtain⟨ad640,e640,hx640_0,hx640_1⟩:=at_T46 HR0.out x3_1 p640 q640;obtain rfl:ad637=ad640:=(by injection e640)
           replace p640:=eq_true p640;replace q640:=eq_true q640;go_wp2
           repeat(go_quiet (fail);try go_wp2)
           go_roundg k1
           case measure=>have:=HK1.out;omega
           case rel=>exact⟨(wrap64 (x3_1+1)),sD,H',⟨by have:=HK1.out;omega⟩,by repeat(first|exact Drawn0.refl _|apply Drawn0.step)⟩
      ·rw[if_neg c5] at H;exact absurd H (by simp)
     ·rw[if_neg c4] at H;have c4b0:decide (x3_1 < (l0.length:Int))=false:=decide_eq_false c4;clear c4;have H':=aM H;clear H;go_wp2
      repeat(go_quiet (fail);try go_wp2)
      go_loopg [4] k1 (fun kq v4 w'=>∃ (x4_2:Int),v4=.int .i64 x4_2∧Aside0 (Azp.l1 kq l0 x4_2=some r)∧Aside0 (kq≤k1)∧Drawn0 w w')
      case atStart=>exact⟨(1),sD,H',⟨Nat.le_refl _⟩,by repeat(first|exact Drawn0.refl _|apply Drawn0.step)⟩
      case round =>
       clear H';try clear c1
       try clear c2
       try clear c2b0
       try clear c2b1
       try clear p2
       try clear c3
       try clear c3b0
       try clear c3b1
       try clear c4
       try clear c4b0
       try clear c5
       try clear c5b0
       try clear c6
       try clear c6b0
       try clear p6
       try clear q6
       try clear hx6
       try clear c7
       try clear c7b0
       try clear c8
       try clear c8b0
       try clear c9
       try clear c9b0
       try clear hx637_0
       try clear hx637_1
       try clear hx638_0
       try clear hx638_1
       try clear hx639_0
       try clear hx639_1
       try clear hx640_0
       try clear hx640_1
       try clear p2
       try clear p637
       try clear p638
       try clear p639
       try clear p640
       try clear q637
       try clear q638
       try clear q639
       try clear q640
       obtain⟨x4_2,rfl,HA,HK2,⟨m2,rfl⟩⟩:=hrel;cases gk with
       | zero=>exact absurd HA.out (by simp [Azp.l1])
       | succ k2 =>
        have H:=HA.out;clear HA;simp only[Azp.l1] at H;by_cases c10:x4_2 < (l0.length:Int)
        ·rw[if_pos c10] at H;have c10b0:decide (x4_2 < (l0.length:Int))=true:=dE c10;clear c10;by_cases c11:0≤x4_2
         ·rw[if_pos c11] at H;have c11b0:decide (0≤x4_2)=true:=dE c11;clear c11;obtain⟨ji12,hji12⟩:∃ j_:Int,(wrap64 (x4_2 - 1))=j_:=⟨_,rfl⟩;replace H:(if 0≤(ji12) then(if(ji12) < (l0.length:Int) then(if((rd_T46 l0 x4_2).f0)≤((rd_T46 l0 (ji12)).f0) then(some 9) else(if((rd_T46 l0 x4_2).f1) < ((rd_T46 l0 (ji12)).f1) then(some 9) else(Azp.l1 k2 l0 (wrap64 (x4_2+1))))) else(none)) else(none))=some r:=by first|(rw[hji12] at H;exact H)|(simp only[hji12] at H ⊢;exact H)
          have hji12w:(IntKind.i64.wrap (x4_2 - 1))=ji12:=(i64_w _).trans hji12;by_cases c13:0≤(ji12)
          ·rw[if_pos c13] at H;have c13b0:decide (0≤(ji12))=true:=dE c13;clear c13;by_cases c14:(ji12) < (l0.length:Int)
           ·rw[if_pos c14] at H;have c14b0:decide ((ji12) < (l0.length:Int))=true:=dE c14;clear c14;by_cases c15:((rd_T46 l0 x4_2).f0)≤((rd_T46 l0 (ji12)).f0)
            ·rw[if_pos c15] at H;have c15b0:decide (((rd_T46 l0 x4_2).f0)≤((rd_T46 l0 (ji12)).f0))=true:=dE c15;clear c15;obtain rfl:=Option.some.inj H;have p641:0≤(x4_2:Int):=oE aS
             have q641:x4_2 < (l0.length:Int):=oE aS
             obtain⟨ad641,e641,hx641_0,hx641_1⟩:=at_T46 HR0.out x4_2 p641 q641;cases e641
             replace p641:=eq_true p641;replace q641:=eq_true q641;have p642:0≤((ji12):Int):=oE aS
             have q642:(ji12) < (l0.length:Int):=oE aS
             obtain⟨ad642,e642,hx642_0,hx642_1⟩:=at_T46 HR0.out (ji12) p642 q642;obtain rfl:ad641=ad642:=(by injection e642)
             replace p642:=eq_true p642;replace q642:=eq_true q642;go_wp2
             repeat(go_quiet (fail);try go_wp2)
             go_ret
             exact⟨by first|rfl|(simp;done)|(simp only[← hji12] <;> (first|rfl|simp))|(simp [*];done),by repeat(first|exact Drawn0.refl _|apply Drawn0.step)⟩
            ·rw[if_neg c15] at H;have c15b0:decide (((rd_T46 l0 x4_2).f0)≤((rd_T46 l0 (ji12)).f0))=false:=decide_eq_false c15;clear c15;by_cases c16:((rd_T46 l0 x4_2).f1) < ((rd_T46 l0 (ji12)).f1)
             ·rw[if_pos c16] at H;have c16b0:decide (((rd_T46 l0 x4_2).f1) < ((rd_T46 l0 (ji12)).f1))=true:=dE c16;clear c16;obtain rfl:=Option.some.inj H;have p641:0≤(x4_2:Int):=oE aS
              have q641:x4_2 < (l0.length:Int):=oE aS
              obtain⟨ad641,e641,hx641_0,hx641_1⟩:=at_T46 HR0.out x4_2 p641 q641;cases e641
              replace p641:=eq_true p641;replace q641:=eq_true q641;have p642:0≤((ji12):Int):=oE aS
              have q642:(ji12) < (l0.length:Int):=oE aS
              obtain⟨ad642,e642,hx642_0,hx642_1⟩:=at_T46 HR0.out (ji12) p642 q642;obtain rfl:ad641=ad642:=(by injection e642)
              replace p642:=eq_true p642;replace q642:=eq_true q642;have p643:0≤(x4_2:Int):=oE aS
              have q643:x4_2 < (l0.length:Int):=oE aS
              obtain⟨ad643,e643,hx643_0,hx643_1⟩:=at_T46 HR0.out x4_2 p643 q643;obtain rfl:ad641=ad643:=(by injection e643)
              replace p643:=eq_true p643;replace q643:=eq_true q643;have p644:0≤((ji12):Int):=oE aS
              have q644:(ji12) < (l0.length:Int):=oE aS
              obtain⟨ad644,e644,hx644_0,hx644_1⟩:=at_T46 HR0.out (ji12) p644 q644;obtain rfl:ad641=ad644:=(by injection e644)
              replace p644:=eq_true p644;replace q644:=eq_true q644;go_wp2
              repeat(go_quiet (fail);try go_wp2)
              go_ret
              exact⟨by first|rfl|(simp;done)|(simp only[← hji12] <;> (first|rfl|simp))|(simp [*];done),by repeat(first|exact Drawn0.refl _|apply Drawn0.step)⟩
             ·rw[if_neg c16] at H;have c16b0:decide (((rd_T46 l0 x4_2).f1) < ((rd_T46 l0 (ji12)).f1))=false:=decide_eq_false c16;clear c16;have H':=aM H;clear H;have p641:0≤(x4_2:Int):=oE aS
              have q641:x4_2 < (l0.length:Int):=oE aS
              obtain⟨ad641,e641,hx641_0,hx641_1⟩:=at_T46 HR0.out x4_2 p641 q641;cases e641
              replace p641:=eq_true p641;replace q641:=eq_true q641;have p642:0≤((ji12):Int):=oE aS
              have q642:(ji12) < (l0.length:Int):=oE aS
              obtain⟨ad642,e642,hx642_0,hx642_1⟩:=at_T46 HR0.out (ji12) p642 q642;obtain rfl:ad641=ad642:=(by injection e642)
              replace p642:=eq_true p642;replace q642:=eq_true q642;have p643:0≤(x4_2:Int):=oE aS
              have q643:x4_2 < (l0.length:Int):=oE aS
              obtain⟨ad643,e643,hx643_0,hx643_1⟩:=at_T46 HR0.out x4_2 p643 q643;obtain rfl:ad641=ad643:=(by injection e643)
              replace p643:=eq_true p643;replace q643:=eq_true q643;have p644:0≤((ji12):Int):=oE aS
              have q644:(ji12) < (l0.length:Int):=oE aS
              obtain⟨ad644,e644,hx644_0,hx644_1⟩:=at_T46 HR0.out (ji12) p644 q644;obtain rfl:ad641=ad644:=(by injection e644)
              replace p644:=eq_true p644;replace q644:=eq_true q644;go_wp2
              repeat(go_quiet (fail);try go_wp2)
              go_roundg k2
              case measure=>have:=HK1.out;have:=HK2.out;omega
              case rel=>exact⟨(wrap64 (x4_2+1)),sD,H',⟨by have:=HK1.out;have:=HK2.out;omega⟩,by repeat(first|exact Drawn0.refl _|apply Drawn0.step)⟩
           ·rw[if_neg c14] at H;exact absurd H (by simp)
          ·rw[if_neg c13] at H;exact absurd H (by simp)
         ·rw[if_neg c11] at H;exact absurd H (by simp)
        ·rw[if_neg c10] at H;have c10b0:decide (x4_2 < (l0.length:Int))=false:=decide_eq_false c10;clear c10;obtain rfl:=Option.some.inj H;go_wp2
         repeat(go_quiet (fail);try go_wp2)
         go_ret
         exact⟨by first|rfl|(simp;done)|(simp [*];done),by repeat(first|exact Drawn0.refl _|apply Drawn0.step)⟩


def Dzb.f (l0:List (S46)) (a1:Int):Option (Bool):=if 0 < (l0.length:Int) then(if a1≥((rd_T46 l0 0).f0) then(if 0≤(wrap64 ((l0.length:Int) - 1)) then(if(wrap64 ((l0.length:Int) - 1)) < (l0.length:Int) then(some (decide (a1≤((rd_T46 l0 (wrap64 ((l0.length:Int) - 1))).f0)))) else(none)) else(none)) else(some false)) else(none)
theorem Dzb.calls (A0:Option Addr) (c0:Nat) (l0:List (S46)) (a1:Int) (r:Bool) (w:World) (hr0:Kd.C k46 w A0 l0.length l0) (hc0:l0.length≤c0) (h:Dzb.f l0 a1=some r) :
  Calls Try.prog 33 #[.slice A0 l0.length c0,.int .i64 a1] w fun e w'=>e=.returned (.bool r)∧Drawn0 w w':=by
 have HR0:=aM hr0;have HC0:=aM hc0;clear hr0 hc0;have H:(if 0 < (l0.length:Int) then(if a1≥((rd_T46 l0 0).f0) then(if 0≤(wrap64 ((l0.length:Int) - 1)) then(if(wrap64 ((l0.length:Int) - 1)) < (l0.length:Int) then(some (decide (a1≤((rd_T46 l0 (wrap64 ((l0.length:Int) - 1))).f0)))) else(none)) else(none)) else(some false)) else(none))=some r:=h
 clear h;by_cases c3:0 < (l0.length:Int)
 ·rw[if_pos c3] at H;have c3b0:decide (0 < (l0.length:Int))=true:=dE c3;have c3b1:decide (0 < l0.length)=true:=dE (by omega)
  clear c3;by_cases c4:a1≥((rd_T46 l0 0).f0)
  ·rw[if_pos c4] at H;have c4b0:decide (((rd_T46 l0 0).f0)≤a1)=true:=dE c4;clear c4;obtain⟨ji5,hji5⟩:∃ j_:Int,(wrap64 ((l0.length:Int) - 1))=j_:=⟨_,rfl⟩;replace H:(if 0≤(ji5) then(if(ji5) < (l0.length:Int) then(some (decide (a1≤((rd_T46 l0 (ji5)).f0)))) else(none)) else(none))=some r:=by first|(rw[hji5] at H;exact H)|(simp only[hji5] at H ⊢;exact H)
   have hji5w:(IntKind.i64.wrap ((l0.length:Int) - 1))=ji5:=(i64_w _).trans hji5;by_cases c6:0≤(ji5)
   ·rw[if_pos c6] at H;have c6b0:decide (0≤(ji5))=true:=dE c6;clear c6;by_cases c7:(ji5) < (l0.length:Int)
    ·rw[if_pos c7] at H;have c7b0:decide ((ji5) < (l0.length:Int))=true:=dE c7;clear c7;obtain rfl:=Option.some.inj H;have p645:0≤(0:Int):=(by omega)
     have q645:0 < (l0.length:Int):=oE aS
     obtain⟨ad645,e645,hx645_0,hx645_1⟩:=at_T46 HR0.out 0 p645 q645;cases e645
     have qi645:(0 < l0.length)=True:=eq_true (by omega)
     (try rw[show((0:Int)).toNat=0 from rfl] at hx645_0)
     (try rw[show 0 * 2=0 from rfl] at hx645_0)
     (try rw[Addr.add_zero'] at hx645_0)
     (try rw[show((0:Int)).toNat=0 from rfl] at hx645_1)
     (try rw[show 0 * 2=0 from rfl] at hx645_1)
     (try rw[Addr.add_zero'] at hx645_1)
     replace p645:=eq_true p645;replace q645:=eq_true q645;have p646:0≤((ji5):Int):=oE aS
     have q646:(ji5) < (l0.length:Int):=oE aS
     obtain⟨ad646,e646,hx646_0,hx646_1⟩:=at_T46 HR0.out (ji5) p646 q646;obtain rfl:ad645=ad646:=(by injection e646)
     replace p646:=eq_true p646;replace q646:=eq_true q646;go_enter Try.func33,Try.ntmps33
     go_wp2
     go_ret
     exact⟨by first|rfl|(simp;done)|(simp only[← hji5] <;> (first|rfl|simp))|(simp [*];done),by repeat(first|exact Drawn0.refl _|apply Drawn0.step)⟩
    ·rw[if_neg c7] at H;exact absurd H (by simp)
   ·rw[if_neg c6] at H;exact absurd H (by simp)
  ·rw[if_neg c4] at H;have c4b0:decide (((rd_T46 l0 0).f0)≤a1)=false:=decide_eq_false c4;clear c4;obtain rfl:=Option.some.inj H;have p645:0≤(0:Int):=(by omega)
   have q645:0 < (l0.length:Int):=oE aS
   obtain⟨ad645,e645,hx645_0,hx645_1⟩:=at_T46 HR0.out 0 p645 q645;cases e645
   have qi645:(0 < l0.length)=True:=eq_true (by omega)
   (try rw[show((0:Int)).toNat=0 from rfl] at hx645_0)
   (try rw[show 0 * 2=0 from rfl] at hx645_0)
   (try rw[Addr.add_zero'] at hx645_0)
   (try rw[show((0:Int)).toNat=0 from rfl] at hx645_1)
   (try rw[show 0 * 2=0 from rfl] at hx645_1)
   (try rw[Addr.add_zero'] at hx645_1)
   replace p645:=eq_true p645;replace q645:=eq_true q645;go_enter Try.func33,Try.ntmps33
   go_wp2
   go_ret
   exact⟨by first|rfl|(simp;done)|(simp [*];done),by repeat(first|exact Drawn0.refl _|apply Drawn0.step)⟩
 ·rw[if_neg c3] at H;exact absurd H (by simp)

mutual
def Bzz.l0:Nat→Int→Int→Int→Int→Int→Int→Option (Int)
 | 0,_,_,_,_,_,_=>none
 | k+1,x0,x1,x2,x7,x8,x9=>if x9 > 0 then(if x9=0 then(none) else(if(Int.tmod (wrap64 (Int.tdiv x1 x9)) 2)=1 then(Bzz.j1 k x0 x1 x2 (wrap64 (2 * x7)) (wrap64 ((wrap64 (2 * x8))+x0)) x9) else(Bzz.j1 k x0 x1 x2 (wrap64 (2 * x7)) (wrap64 (2 * x8)) x9))) else(some x7)
def Bzz.j1:Nat→Int→Int→Int→Int→Int→Int→Option (Int)
 | 0,_,_,_,_,_,_=>none
 | k+1,x0,x1,x2,x7,x8,x9=>Bzz.l1 k x0 x1 x2 x7 x8 x9
def Bzz.l1:Nat→Int→Int→Int→Int→Int→Int→Option (Int)
 | 0,_,_,_,_,_,_=>none
 | k+1,x0,x1,x2,x7,x8,x9=>if x8≥x2 then(Bzz.l1 k x0 x1 x2 (wrap64 (x7+1)) (wrap64 (x8 - x2)) x9) else(Bzz.l0 k x0 x1 x2 x7 x8 (wrap64 (Int.tdiv x9 2)))
end
def Bzz.f (k:Nat) (a0:Int) (a1:Int) (a2:Int):Option (Int):=Bzz.l0 k a0 a1 a2 0 0 1152921504606846976
theorem Bzz.mono_l:∀ k,(∀ y0 y1 y2 y3 y4 y5,LeO (Bzz.l0 k y0 y1 y2 y3 y4 y5) (Bzz.l0 (k+1) y0 y1 y2 y3 y4 y5))∧(∀ y0 y1 y2 y3 y4 y5,LeO (Bzz.j1 k y0 y1 y2 y3 y4 y5) (Bzz.j1 (k+1) y0 y1 y2 y3 y4 y5))∧(∀ y0 y1 y2 y3 y4 y5,LeO (Bzz.l1 k y0 y1 y2 y3 y4 y5) (Bzz.l1 (k+1) y0 y1 y2 y3 y4 y5))
 | 0=>⟨fun _ _ _ _ _ _ r h=>by simp [Bzz.l0] at h,fun _ _ _ _ _ _ r h=>by simp [Bzz.j1] at h,fun _ _ _ _ _ _ r h=>by simp [Bzz.l1] at h⟩
 | k+1=>by
  obtain⟨ih0,ih1,ih2⟩:=Bzz.mono_l k;refine⟨?_,?_,?_⟩
  ·intro y0 y1 y2 y3 y4 y5;unfold Bzz.l0;with_reducible repeat' first|exact ih0 _ _ _ _ _ _|exact ih1 _ _ _ _ _ _|exact ih2 _ _ _ _ _ _|exact LeO.refl _|exact LeO.none _|refine LeO.ite ?_ ?_|refine LeO.bind ?_ (fun _=>?_)
  ·intro y0 y1 y2 y3 y4 y5;unfold Bzz.j1;with_reducible repeat' first|exact ih0 _ _ _ _ _ _|exact ih1 _ _ _ _ _ _|exact ih2 _ _ _ _ _ _|exact LeO.refl _|exact LeO.none _|refine LeO.ite ?_ ?_|refine LeO.bind ?_ (fun _=>?_)
  ·intro y0 y1 y2 y3 y4 y5;unfold Bzz.l1;with_reducible repeat' first|exact ih0 _ _ _ _ _ _|exact ih1 _ _ _ _ _ _|exact ih2 _ _ _ _ _ _|exact LeO.refl _|exact LeO.none _|refine LeO.ite ?_ ?_|refine LeO.bind ?_ (fun _=>?_)
theorem Bzz.mono:∀ a0 a1 a2 k,LeO (Bzz.f k a0 a1 a2) (Bzz.f (k+1) a0 a1 a2):=by
 intro a0 a1 a2 k;obtain⟨ih0,ih1,ih2⟩:=Bzz.mono_l k;unfold Bzz.f;with_reducible repeat' first|exact ih0 _ _ _ _ _ _|exact ih1 _ _ _ _ _ _|exact ih2 _ _ _ _ _ _|exact LeO.refl _|exact LeO.none _|refine LeO.ite ?_ ?_|refine LeO.bind ?_ (fun _=>?_)
theorem Bzz.calls (k:Nat) (a0:Int) (a1:Int) (a2:Int) (r:Int) (w:World) (h:Bzz.f k a0 a1 a2=some r) :
  Calls Try.prog 51 #[.int .i64 a0,.int .i64 a1,.int .i64 a2] w fun e w'=>e=.returned (.int .i64 r)∧Drawn0 w w':=by
 have H:(Bzz.l0 k a0 a1 a2 0 0 1152921504606846976)=some r:=h;clear h;have H':=aM H;clear H;go_enter Try.func51,Try.ntmps51
 go_wp2
 go_loopg [7,8,9] k (fun kq v7 v8 v9 w'=>∃ (x7_1:Int) (x8_1:Int) (x9_1:Int),v7=.int .i64 x7_1∧v8=.int .i64 x8_1∧v9=.int .i64 x9_1∧Aside0 (Bzz.l0 kq a0 a1 a2 x7_1 x8_1 x9_1=some r)∧Aside0 (kq≤k)∧Drawn0 w w')
 case atStart=>exact⟨(0),(0),(1152921504606846976),sD,sD,sD,H',⟨Nat.le_refl _⟩,by repeat(first|exact Drawn0.refl _|apply Drawn0.step)⟩
 case round =>
  clear H';try clear p2
  obtain⟨x7_1,x8_1,x9_1,rfl,rfl,rfl,HA,HK1,⟨m1,rfl⟩⟩:=hrel;cases gk with
  | zero=>exact absurd HA.out (by simp [Bzz.l0])
  | succ k1 =>
   have H:=HA.out;clear HA;simp only[Bzz.l0] at H;by_cases c4:x9_1 > 0
   ·rw[if_pos c4] at H;have c4b0:decide (0 < x9_1)=true:=dE c4;clear c4;by_cases c5:x9_1=0
    ·rw[if_pos c5] at H;exact absurd H (by simp)
    ·rw[if_neg c5] at H;have c5b0:(x9_1 == 0)=false:=beq_eq_false_iff_ne.mpr c5;have c5b1:(x9_1 != 0)=true:=bne_iff_ne.mpr c5;have HC6:=aM H;clear H;go_upto_if 22 with (fail)
     go_cut [8] (fun v8 wc=>∃ (kq:Nat) (x8_5:Int),v8=.int .i64 x8_5∧Aside0 (Bzz.j1 kq a0 a1 a2 (wrap64 (2 * x7_1)) x8_5 x9_1=some r)∧Aside0 (kq≤k1)∧Drawn0 w wc)
     case first =>
      have H:=HC6.out;clear HC6;by_cases c7:(Int.tmod (wrap64 (Int.tdiv a1 x9_1)) 2)=1
      ·rw[if_pos c7] at H;have c7b0:((Int.tmod (wrap64 (Int.tdiv a1 x9_1)) 2) == 1)=true:=beq_iff_eq.mpr c7;have c7b1:((Int.tmod (wrap64 (Int.tdiv a1 x9_1)) 2) != 1)=false:=bne_eq_false_iff_eq.mpr c7;clear c7;(first|rw[c7b0]|(simp only[i64_w,i32_w];rw[c7b0])|skip)
       have H':=aM H;clear H;go_wp2
       go_meet
       case rel=>exact⟨_,(wrap64 ((wrap64 (2 * x8_1))+a0)),sD,H',⟨by have:=HK1.out;first|omega|exact Nat.le_refl _⟩,by repeat(first|exact Drawn0.refl _|apply Drawn0.step)⟩
      ·rw[if_neg c7] at H;have c7b0:((Int.tmod (wrap64 (Int.tdiv a1 x9_1)) 2) == 1)=false:=beq_eq_false_iff_ne.mpr c7;have c7b1:((Int.tmod (wrap64 (Int.tdiv a1 x9_1)) 2) != 1)=true:=bne_iff_ne.mpr c7;(first|rw[c7b0]|(simp only[i64_w,i32_w];rw[c7b0])|skip)
       have H':=aM H;clear H;go_wp2
       go_meet
       case rel=>exact⟨_,(wrap64 (2 * x8_1)),sD,H',⟨by have:=HK1.out;first|omega|exact Nat.le_refl _⟩,by repeat(first|exact Drawn0.refl _|apply Drawn0.step)⟩
     case rest =>
      clear HC6;try clear p2
      try clear c4
      try clear c4b0
      try clear c5
      try clear c5b0
      try clear c5b1
      try clear p6
      try clear c7
      try clear c7b0
      try clear c7b1
      try clear p2
      obtain⟨kq,x8_5,rfl,HA,HJ5,⟨mc5,rfl⟩⟩:=hcut;cases kq with
      | zero=>exact absurd HA.out (by simp [Bzz.j1])
      | succ kj5 =>
       have H:=HA.out;clear HA;simp only[Bzz.j1] at H;have H':=aM H;clear H;go_wp2
       go_loopg [7,8] kj5 (fun kq v7 v8 w'=>∃ (x7_3:Int) (x8_3:Int),v7=.int .i64 x7_3∧v8=.int .i64 x8_3∧Aside0 (Bzz.l1 kq a0 a1 a2 x7_3 x8_3 x9_1=some r)∧Aside0 (kq≤kj5)∧Drawn0 w w')
       case atStart=>exact⟨((wrap64 (2 * x7_1))),(x8_5),sD,sD,H',⟨Nat.le_refl _⟩,by repeat(first|exact Drawn0.refl _|apply Drawn0.step)⟩
       case round =>
        clear H';try clear p2
        try clear c4
        try clear c4b0
        try clear c5
        try clear c5b0
        try clear c5b1
        try clear p6
        try clear c7
        try clear c7b0
        try clear c7b1
        try clear p2
        try clear p6
        obtain⟨x7_3,x8_3,rfl,rfl,HA,HK3,⟨m3,rfl⟩⟩:=hrel;cases gk with
        | zero=>exact absurd HA.out (by simp [Bzz.l1])
        | succ k3 =>
         have H:=HA.out;clear HA;simp only[Bzz.l1] at H;by_cases c8:x8_3≥a2
         ·rw[if_pos c8] at H;have c8b0:decide (a2≤x8_3)=true:=dE c8;clear c8;have H':=aM H;clear H;go_wp2
          go_roundg k3
          case measure=>have:=HK1.out;have:=HJ5.out;have:=HK3.out;omega
          case rel=>exact⟨(wrap64 (x7_3+1)),(wrap64 (x8_3 - a2)),sD,sD,H',⟨by have:=HK1.out;have:=HJ5.out;have:=HK3.out;omega⟩,by repeat(first|exact Drawn0.refl _|apply Drawn0.step)⟩
         ·rw[if_neg c8] at H;have c8b0:decide (a2≤x8_3)=false:=decide_eq_false c8;clear c8;have H':=aM H;clear H;go_wp2
          go_roundg k3
          case measure=>have:=HK1.out;have:=HJ5.out;have:=HK3.out;omega
          case rel=>exact⟨(x7_3),(x8_3),(wrap64 (Int.tdiv x9_1 2)),sD,sD,sD,H',⟨by have:=HK1.out;have:=HJ5.out;have:=HK3.out;omega⟩,by repeat(first|exact Drawn0.refl _|apply Drawn0.step)⟩
   ·rw[if_neg c4] at H;have c4b0:decide (0 < x9_1)=false:=decide_eq_false c4;clear c4;obtain rfl:=Option.some.inj H;go_wp2
    go_ret
    exact⟨by first|rfl|(simp;done)|(simp [*];done),by repeat(first|exact Drawn0.refl _|apply Drawn0.step)⟩

end Go.Proofs.Ytnklckihalhlmaa.Print
