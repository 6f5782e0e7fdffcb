import Derived.Test.YtpjcpgobdiahpaaPrint0
namespace Go.Proofs.Ytpjcpgobdiahpaa.Print
open Go.RowKit Go.Proofs.YtpjcpgobdiahpaaW.PrintWords Go.Proofs.YtpjcpgobdiahpaaW.PrintLast Go.Proofs.YtpjcpgobdiahpaaW.PrintMore
attribute [local go_sem] max2_int min2_int max_two min_two max_three min_three max_four min_four
set_option linter.unusedVariables false
set_option maxRecDepth 100000
set_option maxHeartbeats 8000000
set_option linter.unusedSimpArgs false

mutual
def Czj.l0:Nat→List Int→List Int→Int→Int→Int→Int→Option (Int)
 | 0,_,_,_,_,_,_=>none
 | k+1,x0,x1,x5,x6,x8,x9=>if x8≥1000000000 then(Czj.j1 k x0 x1 x5 x6 x8 x9 true) else(if 0≤(wrap64 (x6 - 1)) then(if(wrap64 (x6 - 1)) < (x1.length:Int) then(if 0≤(wrap64 (x5 - 2)) then(if(wrap64 (x5 - 2)) < (x0.length:Int) then(Czj.j1 k x0 x1 x5 x6 x8 x9 (decide ((wrap64 (x8 * (rd x1 (wrap64 (x6 - 1))))) > (wrap64 ((wrap64 (x9 * 1000000000))+(rd x0 (wrap64 (x5 - 2)))))))) else(none)) else(none)) else(none)) else(none))
def Czj.j1:Nat→List Int→List Int→Int→Int→Int→Int→Bool→Option (Int)
 | 0,_,_,_,_,_,_,_=>none
 | k+1,x0,x1,x5,x6,x8,x9,x58=>if x58=true then(if 0≤x6 then(if x6 < (x1.length:Int) then(if(wrap64 (x9+(rd x1 x6)))≥1000000000 then(some (wrap64 (x8 - 1))) else(Czj.l0 k x0 x1 x5 x6 (wrap64 (x8 - 1)) (wrap64 (x9+(rd x1 x6))))) else(none)) else(none)) else(some x8)
end
def Czj.f (k:Nat) (l0:List Int) (l1:List Int):Option (Int):=if 0≤(wrap64 ((l0.length:Int) - 1)) then(if(wrap64 ((l0.length:Int) - 1)) < (l0.length:Int) then(if 0≤(wrap64 ((wrap64 ((l0.length:Int) - 1)) - 1)) then(if(wrap64 ((wrap64 ((l0.length:Int) - 1)) - 1)) < (l0.length:Int) then(if 0≤(wrap64 ((l1.length:Int) - 1)) then(if(wrap64 ((l1.length:Int) - 1)) < (l1.length:Int) then(if(rd l1 (wrap64 ((l1.length:Int) - 1)))=0 then(none) else(Czj.l0 k l0 l1 (wrap64 ((l0.length:Int) - 1)) (wrap64 ((l1.length:Int) - 1)) (wrap64 (Int.tdiv (wrap64 ((wrap64 ((rd l0 (wrap64 ((l0.length:Int) - 1))) * 1000000000))+(rd l0 (wrap64 ((wrap64 ((l0.length:Int) - 1)) - 1))))) (rd l1 (wrap64 ((l1.length:Int) - 1))))) (Int.tmod (wrap64 ((wrap64 ((rd l0 (wrap64 ((l0.length:Int) - 1))) * 1000000000))+(rd l0 (wrap64 ((wrap64 ((l0.length:Int) - 1)) - 1))))) (rd l1 (wrap64 ((l1.length:Int) - 1)))))) else(none)) else(none)) else(none)) else(none)) else(none)) else(none)
theorem Czj.mono_l:∀ k,(∀ y0 y1 y2 y3 y4 y5,LeO (Czj.l0 k y0 y1 y2 y3 y4 y5) (Czj.l0 (k+1) y0 y1 y2 y3 y4 y5))∧(∀ y0 y1 y2 y3 y4 y5 y6,LeO (Czj.j1 k y0 y1 y2 y3 y4 y5 y6) (Czj.j1 (k+1) y0 y1 y2 y3 y4 y5 y6))
 | 0=>⟨fun _ _ _ _ _ _ r h=>by simp [Czj.l0] at h,fun _ _ _ _ _ _ _ r h=>by simp [Czj.j1] at h⟩
 | k+1=>by
  obtain⟨ih0,ih1⟩:=Czj.mono_l k;refine⟨?_,?_⟩
  ·intro y0 y1 y2 y3 y4 y5;unfold Czj.l0;with_reducible repeat' first|exact ih0 _ _ _ _ _ _|exact ih1 _ _ _ _ _ _ _|exact LeO.refl _|exact LeO.none _|refine LeO.ite ?_ ?_|refine LeO.bind ?_ (fun _=>?_)
  ·intro y0 y1 y2 y3 y4 y5 y6;unfold Czj.j1;with_reducible repeat' first|exact ih0 _ _ _ _ _ _|exact ih1 _ _ _ _ _ _ _|exact LeO.refl _|exact LeO.none _|refine LeO.ite ?_ ?_|refine LeO.bind ?_ (fun _=>?_)
theorem Czj.mono:∀ a0 a1 k,LeO (Czj.f k a0 a1) (Czj.f (k+1) a0 a1):=by
 intro a0 a1 k;obtain⟨ih0,ih1⟩:=Czj.mono_l k;unfold Czj.f;with_reducible repeat' first|exact ih0 _ _ _ _ _ _|exact ih1 _ _ _ _ _ _ _|exact LeO.refl _|exact LeO.none _|refine LeO.ite ?_ ?_|refine LeO.bind ?_ (fun _=>?_)
theorem Czj.calls (k:Nat) (A0:Option Addr) (c0:Nat) (l0:List Int) (A1:Option Addr) (c1:Nat) (l1:List Int) (r:Int) (w:World) (hr0:Kd.C (Kd.int .i64) w A0 l0.length l0) (hc0:l0.length≤c0) (hr1:Kd.C (Kd.int .i64) w A1 l1.length l1) (hc1:l1.length≤c1) (h:Czj.f k l0 l1=some r) :
  Calls Try.prog 114 #[.slice A0 l0.length c0,.slice A1 l1.length c1] w fun e w'=>e=.returned (.int .i64 r)∧Drawn0 w w':=by
 have HR0:=aM hr0;have HC0:=aM hc0;clear hr0 hc0;have HR1:=aM hr1;have HC1:=aM hc1;clear hr1 hc1;have H:(if 0≤(wrap64 ((l0.length:Int) - 1)) then(if(wrap64 ((l0.length:Int) - 1)) < (l0.length:Int) then(if 0≤(wrap64 ((wrap64 ((l0.length:Int) - 1)) - 1)) then(if(wrap64 ((wrap64 ((l0.length:Int) - 1)) - 1)) < (l0.length:Int) then(if 0≤(wrap64 ((l1.length:Int) - 1)) then(if(wrap64 ((l1.length:Int) - 1)) < (l1.length:Int) then(if(rd l1 (wrap64 ((l1.length:Int) - 1)))=0 then(none) else(Czj.l0 k l0 l1 (wrap64 ((l0.length:Int) - 1)) (wrap64 ((l1.length:Int) - 1)) (wrap64 (Int.tdiv (wrap64 ((wrap64 ((rd l0 (wrap64 ((l0.length:Int) - 1))) * 1000000000))+(rd l0 (wrap64 ((wrap64 ((l0.length:Int) - 1)) - 1))))) (rd l1 (wrap64 ((l1.length:Int) - 1))))) (Int.tmod (wrap64 ((wrap64 ((rd l0 (wrap64 ((l0.length:Int) - 1))) * 1000000000))+(rd l0 (wrap64 ((wrap64 ((l0.length:Int) - 1)) - 1))))) (rd l1 (wrap64 ((l1.length:Int) - 1)))))) else(none)) else(none)) else(none)) else(none)) else(none)) else(none))=some r:=h
 clear h;obtain⟨ji3,hji3⟩:∃ j_:Int,(wrap64 ((l0.length:Int) - 1))=j_:=⟨_,rfl⟩;replace H:(if 0≤(ji3) then(if(ji3) < (l0.length:Int) then(if 0≤(wrap64 ((ji3) - 1)) then(if(wrap64 ((ji3) - 1)) < (l0.length:Int) then(if 0≤(wrap64 ((l1.length:Int) - 1)) then(if(wrap64 ((l1.length:Int) - 1)) < (l1.length:Int) then(if(rd l1 (wrap64 ((l1.length:Int) - 1)))=0 then(none) else(Czj.l0 k l0 l1 ji3 (wrap64 ((l1.length:Int) - 1)) (wrap64 (Int.tdiv (wrap64 ((wrap64 ((rd l0 (ji3)) * 1000000000))+(rd l0 (wrap64 ((ji3) - 1))))) (rd l1 (wrap64 ((l1.length:Int) - 1))))) (Int.tmod (wrap64 ((wrap64 ((rd l0 (ji3)) * 1000000000))+(rd l0 (wrap64 ((ji3) - 1))))) (rd l1 (wrap64 ((l1.length:Int) - 1)))))) else(none)) else(none)) else(none)) else(none)) else(none)) else(none))=some r:=by first|(rw[hji3] at H;exact H)|(simp only[hji3] at H ⊢;exact H)
 have hji3w:(IntKind.i64.wrap ((l0.length:Int) - 1))=ji3:=(i64_w _).trans hji3;by_cases c4:0≤(ji3)
 ·rw[if_pos c4] at H;have c4b0:decide (0≤(ji3))=true:=dE c4;clear c4;by_cases c5:(ji3) < (l0.length:Int)
  ·rw[if_pos c5] at H;have c5b0:decide ((ji3) < (l0.length:Int))=true:=dE c5;clear c5;obtain⟨ji6,hji6⟩:∃ j_:Int,(wrap64 ((ji3) - 1))=j_:=⟨_,rfl⟩;replace H:(if 0≤(ji6) then(if(ji6) < (l0.length:Int) then(if 0≤(wrap64 ((l1.length:Int) - 1)) then(if(wrap64 ((l1.length:Int) - 1)) < (l1.length:Int) then(if(rd l1 (wrap64 ((l1.length:Int) - 1)))=0 then(none) else(Czj.l0 k l0 l1 ji3 (wrap64 ((l1.length:Int) - 1)) (wrap64 (Int.tdiv (wrap64 ((wrap64 ((rd l0 (ji3)) * 1000000000))+(rd l0 (ji6)))) (rd l1 (wrap64 ((l1.length:Int) - 1))))) (Int.tmod (wrap64 ((wrap64 ((rd l0 (ji3)) * 1000000000))+(rd l0 (ji6)))) (rd l1 (wrap64 ((l1.length:Int) - 1)))))) else(none)) else(none)) else(none)) else(none))=some r:=by first|(rw[hji6] at H;exact H)|(simp only[hji6] at H ⊢;exact H)
   have hji6w:(IntKind.i64.wrap ((ji3) - 1))=ji6:=(i64_w _).trans hji6;by_cases c7:0≤(ji6)
   ·rw[if_pos c7] at H;have c7b0:decide (0≤(ji6))=true:=dE c7;clear c7;by_cases c8:(ji6) < (l0.length:Int)
    ·rw[if_pos c8] at H;have c8b0:decide ((ji6) < (l0.length:Int))=true:=dE c8;clear c8;obtain⟨ji9,hji9⟩:∃ j_:Int,(wrap64 ((l1.length:Int) - 1))=j_:=⟨_,rfl⟩;replace H:(if 0≤(ji9) then(if(ji9) < (l1.length:Int) then(if(rd l1 (ji9))=0 then(none) else(Czj.l0 k l0 l1 ji3 ji9 (wrap64 (Int.tdiv (wrap64 ((wrap64 ((rd l0 (ji3)) * 1000000000))+(rd l0 (ji6)))) (rd l1 (ji9)))) (Int.tmod (wrap64 ((wrap64 ((rd l0 (ji3)) * 1000000000))+(rd l0 (ji6)))) (rd l1 (ji9))))) else(none)) else(none))=some r:=by first|(rw[hji9] at H;exact H)|(simp only[hji9] at H ⊢;exact H)
     have hji9w:(IntKind.i64.wrap ((l1.length:Int) - 1))=ji9:=(i64_w _).trans hji9;by_cases c10:0≤(ji9)
     ·rw[if_pos c10] at H;have c10b0:decide (0≤(ji9))=true:=dE c10;clear c10;by_cases c11:(ji9) < (l1.length:Int)
      ·rw[if_pos c11] at H;have c11b0:decide ((ji9) < (l1.length:Int))=true:=dE c11;clear c11;by_cases c12:(rd l1 (ji9))=0
       ·rw[if_pos c12] at H;exact absurd H (by simp)
       ·rw[if_neg c12] at H;have c12b0:((rd l1 (ji9)) == 0)=false:=beq_eq_false_iff_ne.mpr c12;have c12b1:((rd l1 (ji9)) != 0)=true:=bne_iff_ne.mpr c12;have H':=aM H;clear H;have p346:0≤((ji3):Int):=oE aS
        have q346:(ji3) < (l0.length:Int):=oE aS
        obtain⟨ad346,e346,hx346_0⟩:=Kd.at_int HR0.out (ji3) p346 q346;cases e346
        replace p346:=eq_true p346;replace q346:=eq_true q346;have p347:0≤((ji6):Int):=oE aS
        have q347:(ji6) < (l0.length:Int):=oE aS
        obtain⟨ad347,e347,hx347_0⟩:=Kd.at_int HR0.out (ji6) p347 q347;obtain rfl:ad346=ad347:=(by injection e347)
        replace p347:=eq_true p347;replace q347:=eq_true q347;have p348:0≤((ji9):Int):=oE aS
        have q348:(ji9) < (l1.length:Int):=oE aS
        obtain⟨ad348,e348,hx348_0⟩:=Kd.at_int HR1.out (ji9) p348 q348;cases e348
        replace p348:=eq_true p348;replace q348:=eq_true q348;have p349:0≤((ji9):Int):=oE aS
        have q349:(ji9) < (l1.length:Int):=oE aS
        obtain⟨ad349,e349,hx349_0⟩:=Kd.at_int HR1.out (ji9) p349 q349;obtain rfl:ad348=ad349:=(by injection e349)
        replace p349:=eq_true p349;replace q349:=eq_true q349;go_enter Try.func114,Try.ntmps114
        go_wp2
        repeat(go_quiet (fail);try go_wp2)
        go_loopg [8,9] k (fun kq v8 v9 w'=>∃ (x8_1:Int) (x9_1:Int),v8=.int .i64 x8_1∧v9=.int .i64 x9_1∧Aside0 (Czj.l0 kq l0 l1 ji3 ji9 x8_1 x9_1=some r)∧Aside0 (kq≤k)∧Drawn0 w w')
        case atStart=>exact⟨(wrap64 (Int.tdiv (wrap64 ((wrap64 ((rd l0 (ji3)) * 1000000000))+(rd l0 (ji6)))) (rd l1 (ji9)))),(Int.tmod (wrap64 ((wrap64 ((rd l0 (ji3)) * 1000000000))+(rd l0 (ji6)))) (rd l1 (ji9))),(by first|rfl|(simp;done)|(simp only[← hji3,← hji6,← hji9] <;> (first|rfl|simp))|(simp [*];done)),(by first|rfl|(simp;done)|(simp only[← hji3,← hji6,← hji9] <;> (first|rfl|simp))|(simp [*];done)),H',⟨Nat.le_refl _⟩,by repeat(first|exact Drawn0.refl _|apply Drawn0.step)⟩
        case round =>
         clear H';try clear c1
         try clear p2
         try clear p3
         try clear q3
         try clear hx3
         try clear c4
         try clear c4b0
         try clear c5
         try clear c5b0
         try clear p6
         try clear c7
         try clear c7b0
         try clear c8
         try clear c8b0
         try clear c10
         try clear c10b0
         try clear c11
         try clear c11b0
         try clear c12
         try clear c12b0
         try clear c12b1
         try clear hx346_0
         try clear hx347_0
         try clear hx348_0
         try clear hx349_0
         try clear p346
         try clear p347
         try clear p348
         try clear p349
         try clear q346
         try clear q347
         try clear q348
         try clear q349
         obtain⟨x8_1,x9_1,rfl,rfl,HA,HK1,⟨m1,rfl⟩⟩:=hrel;cases gk with
         | zero=>exact absurd HA.out (by simp [Czj.l0])
         | succ k1 =>
          have H:=HA.out;clear HA;simp only[Czj.l0] at H;have HC13:=aM H;clear H;go_upto_region 4 with (fail)
          repeat(go_quiet (fail);go_upto_region 4 with (fail))
          go_cut [58] (fun v58 wc=>∃ (kq:Nat) (x58_12:Bool),v58=.bool x58_12∧Aside0 (Czj.j1 kq l0 l1 ji3 ji9 x8_1 x9_1 x58_12=some r)∧Aside0 (kq≤k1)∧Drawn0 w wc)
          case first =>
           have H:=HC13.out;clear HC13;by_cases c14:x8_1≥1000000000
           ·rw[if_pos c14] at H;have c14b0:decide (1000000000≤x8_1)=true:=dE c14;clear c14;(first|rw[c14b0]|(simp only[i64_w,i32_w];rw[c14b0])|skip)
            have H':=aM H;clear H;go_wp2
            repeat(go_quiet (fail);try go_wp2)
            go_meet
            case rel=>exact⟨_,(true),sD,H',⟨by have:=HK1.out;first|omega|exact Nat.le_refl _⟩,by repeat(first|exact Drawn0.refl _|apply Drawn0.step)⟩
           ·rw[if_neg c14] at H;have c14b0:decide (1000000000≤x8_1)=false:=decide_eq_false c14;clear c14;(first|rw[c14b0]|(simp only[i64_w,i32_w];rw[c14b0])|skip)
            obtain⟨ji15,hji15⟩:∃ j_:Int,(wrap64 (ji9 - 1))=j_:=⟨_,rfl⟩;replace H:(if 0≤(ji15) then(if(ji15) < (l1.length:Int) then(if 0≤(wrap64 (ji3 - 2)) then(if(wrap64 (ji3 - 2)) < (l0.length:Int) then(Czj.j1 k1 l0 l1 ji3 ji9 x8_1 x9_1 (decide ((wrap64 (x8_1 * (rd l1 (ji15)))) > (wrap64 ((wrap64 (x9_1 * 1000000000))+(rd l0 (wrap64 (ji3 - 2)))))))) else(none)) else(none)) else(none)) else(none))=some r:=by first|(rw[hji15] at H;exact H)|(simp only[hji15] at H ⊢;exact H)
            have hji15w:(IntKind.i64.wrap (ji9 - 1))=ji15:=(i64_w _).trans hji15;by_cases c16:0≤(ji15)
            ·rw[if_pos c16] at H;have c16b0:decide (0≤(ji15))=true:=dE c16;clear c16;by_cases c17:(ji15) < (l1.length:Int)
             ·rw[if_pos c17] at H;have c17b0:decide ((ji15) < (l1.length:Int))=true:=dE c17;clear c17;obtain⟨ji18,hji18⟩:∃ j_:Int,(wrap64 (ji3 - 2))=j_:=⟨_,rfl⟩;replace H:(if 0≤(ji18) then(if(ji18) < (l0.length:Int) then(Czj.j1 k1 l0 l1 ji3 ji9 x8_1 x9_1 (decide ((wrap64 (x8_1 * (rd l1 (ji15)))) > (wrap64 ((wrap64 (x9_1 * 1000000000))+(rd l0 (ji18))))))) else(none)) else(none))=some r:=by first|(rw[hji18] at H;exact H)|(simp only[hji18] at H ⊢;exact H)
              have hji18w:(IntKind.i64.wrap (ji3 - 2))=ji18:=(i64_w _).trans hji18;by_cases c19:0≤(ji18)
              ·rw[if_pos c19] at H;have c19b0:decide (0≤(ji18))=true:=dE c19;clear c19;by_cases c20:(ji18) < (l0.length:Int)
               ·rw[if_pos c20] at H;have c20b0:decide ((ji18) < (l0.length:Int))=true:=dE c20;clear c20;have H':=aM H;clear H;have p350:0≤((ji15):Int):=oE aS
                have q350:(ji15) < (l1.length:Int):=oE aS
                obtain⟨ad350,e350,hx350_0⟩:=Kd.at_int HR1.out (ji15) p350 q350;obtain rfl:ad348=ad350:=(by injection e350)
                replace p350:=eq_true p350;replace q350:=eq_true q350;have p351:0≤((ji18):Int):=oE aS
                have q351:(ji18) < (l0.length:Int):=oE aS
                obtain⟨ad351,e351,hx351_0⟩:=Kd.at_int HR0.out (ji18) p351 q351;obtain rfl:ad346=ad351:=(by injection e351)
                replace p351:=eq_true p351;replace q351:=eq_true q351;go_wp2
                repeat(go_quiet (fail);try go_wp2)
                go_meet
                case rel=>exact⟨_,(decide ((wrap64 (x8_1 * (rd l1 (ji15)))) > (wrap64 ((wrap64 (x9_1 * 1000000000))+(rd l0 (ji18)))))),(by first|rfl|(simp;done)|(simp only[← hji15,← hji18] <;> (first|rfl|simp))|(simp [*];done)),H',⟨by have:=HK1.out;first|omega|exact Nat.le_refl _⟩,by repeat(first|exact Drawn0.refl _|apply Drawn0.step)⟩
               ·rw[if_neg c20] at H;exact absurd H (by simp)
              ·rw[if_neg c19] at H;exact absurd H (by simp)
             ·rw[if_neg c17] at H;exact absurd H (by simp)
            ·rw[if_neg c16] at H;exact absurd H (by simp)
          case rest =>
           clear HC13;try clear c1
           try clear c2
           try clear p2
           try clear p3
           try clear q3
           try clear hx3
           try clear c4
           try clear c4b0
           try clear c5
           try clear c5b0
           try clear p6
           try clear c7
           try clear c7b0
           try clear c8
           try clear c8b0
           try clear c10
           try clear c10b0
           try clear c11
           try clear c11b0
           try clear c12
           try clear c12b0
           try clear c12b1
           try clear c14
           try clear c14b0
           try clear c16
           try clear c16b0
           try clear c17
           try clear c17b0
           try clear c19
           try clear c19b0
           try clear c20
           try clear c20b0
           try clear hx346_0
           try clear hx347_0
           try clear hx348_0
           try clear hx349_0
           try clear hx350_0
           try clear hx351_0
           try clear p2
           try clear p3
           try clear p346
           try clear p347
           try clear p348
           try clear p349
           try clear p350
           try clear p351
           try clear p6
           try clear q3
           try clear q346
           try clear q347
           try clear q348
           try clear q349
           try clear q350
           try clear q351
           obtain⟨kq,x58_12,rfl,HA,HJ12,⟨mc12,rfl⟩⟩:=hcut;cases kq with
           | zero=>exact absurd HA.out (by simp [Czj.j1])
           | succ kj12 =>
            have H:=HA.out;clear HA;simp only[Czj.j1] at H;by_cases c21:x58_12=true
            ·subst c21;rw[if_pos rfl] at H;by_cases c22:0≤ji9
             ·rw[if_pos c22] at H;have c22b0:decide (0≤ji9)=true:=dE c22;clear c22;by_cases c23:ji9 < (l1.length:Int)
              ·rw[if_pos c23] at H;have c23b0:decide (ji9 < (l1.length:Int))=true:=dE c23;clear c23;by_cases c24:(wrap64 (x9_1+(rd l1 ji9)))≥1000000000
               ·rw[if_pos c24] at H;have c24b0:decide (1000000000≤(wrap64 (x9_1+(rd l1 ji9))))=true:=dE c24;have c24b0w:decide (1000000000≤(IntKind.i64.wrap (x9_1+(rd l1 ji9))))=true:=by have h_:=c24b0;first|exact h_|(simp only[i64_w];exact h_)
                clear c24;obtain rfl:=Option.some.inj H;have p352:0≤(ji9:Int):=oE aS
                have q352:ji9 < (l1.length:Int):=oE aS
                obtain⟨ad352,e352,hx352_0⟩:=Kd.at_int HR1.out ji9 p352 q352;obtain rfl:ad348=ad352:=(by injection e352)
                replace p352:=eq_true p352;replace q352:=eq_true q352;go_wp2
                repeat(go_quiet (fail);try go_wp2)
                go_ret
                exact⟨by first|rfl|(simp;done)|(simp only[← hji3,← hji6,← hji9] <;> (first|rfl|simp))|(simp [*];done),by repeat(first|exact Drawn0.refl _|apply Drawn0.step)⟩
               ·rw[if_neg c24] at H;have c24b0:decide (1000000000≤(wrap64 (x9_1+(rd l1 ji9))))=false:=decide_eq_false c24;have c24b0w:decide (1000000000≤(IntKind.i64.wrap (x9_1+(rd l1 ji9))))=false:=by have h_:=c24b0;first|exact h_|(simp only[i64_w];exact h_)
                clear c24;have H':=aM H;clear H;have p352:0≤(ji9:Int):=oE aS
                have q352:ji9 < (l1.length:Int):=oE aS
                obtain⟨ad352,e352,hx352_0⟩:=Kd.at_int HR1.out ji9 p352 q352;obtain rfl:ad348=ad352:=(by injection e352)
                replace p352:=eq_true p352;replace q352:=eq_true q352;go_wp2
                repeat(go_quiet (fail);try go_wp2)
                go_roundg kj12
                case measure=>have:=HK1.out;have:=HJ12.out;omega
                case rel=>exact⟨(wrap64 (x8_1 - 1)),(wrap64 (x9_1+(rd l1 ji9))),sD,(by first|rfl|(simp;done)|(simp only[← hji9] <;> (first|rfl|simp))|(simp [*];done)),H',⟨by have:=HK1.out;have:=HJ12.out;omega⟩,by repeat(first|exact Drawn0.refl _|apply Drawn0.step)⟩
              ·rw[if_neg c23] at H;exact absurd H (by simp)
             ·rw[if_neg c22] at H;exact absurd H (by simp)
            ·replace c21:=Bool.eq_false_iff.mpr c21;subst c21;rw[if_neg (show ¬ (false=true) by decide)] at H
             obtain rfl:=Option.some.inj H;go_wp2
             repeat(go_quiet (fail);try go_wp2)
             go_ret
             exact⟨by first|rfl|(simp;done)|(simp only[← hji3,← hji6,← hji9] <;> (first|rfl|simp))|(simp [*];done),by repeat(first|exact Drawn0.refl _|apply Drawn0.step)⟩
      ·rw[if_neg c11] at H;exact absurd H (by simp)
     ·rw[if_neg c10] at H;exact absurd H (by simp)
    ·rw[if_neg c8] at H;exact absurd H (by simp)
   ·rw[if_neg c7] at H;exact absurd H (by simp)
  ·rw[if_neg c5] at H;exact absurd H (by simp)
 ·rw[if_neg c4] at H;exact absurd H (by simp)

end Go.Proofs.Ytpjcpgobdiahpaa.Print
