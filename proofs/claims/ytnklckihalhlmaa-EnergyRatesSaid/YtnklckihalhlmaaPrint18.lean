import Derived.Test.YtnklckihalhlmaaPrint0
namespace Go.Proofs.Ytnklckihalhlmaa.Print
open Go.RowKit Go.Proofs.YtnklckihalhlmaaW.PrintWords Go.Proofs.YtnklckihalhlmaaW.PrintLast Go.Proofs.YtnklckihalhlmaaW.PrintMore
attribute [local go_sem] max2_int min2_int max_two min_two max_three min_three max_four min_four
set_option linter.unusedVariables false
set_option maxRecDepth 100000
set_option maxHeartbeats 8000000
set_option linter.unusedSimpArgs false

mutual
def Dzy.l0:Nat→List Int→List Int→Int→Int→Int→Int→Option (Int)
 | 0,_,_,_,_,_,_=>none
 | k+1,x0,x1,x5,x6,x8,x9=>if x8≥1000000000 then(Dzy.j1 k x0 x1 x5 x6 x8 x9 true) else(if 0≤(wrap64 (x6 - 1)) then(if(wrap64 (x6 - 1)) < (x1.length:Int) then(if 0≤(wrap64 (x5 - 2)) then(if(wrap64 (x5 - 2)) < (x0.length:Int) then(Dzy.j1 k x0 x1 x5 x6 x8 x9 (decide ((wrap64 (x8 * (rd x1 (wrap64 (x6 - 1))))) > (wrap64 ((wrap64 (x9 * 1000000000))+(rd x0 (wrap64 (x5 - 2)))))))) else(none)) else(none)) else(none)) else(none))
def Dzy.j1:Nat→List Int→List Int→Int→Int→Int→Int→Bool→Option (Int)
 | 0,_,_,_,_,_,_,_=>none
 | k+1,x0,x1,x5,x6,x8,x9,x58=>if x58=true then(if 0≤x6 then(if x6 < (x1.length:Int) then(if(wrap64 (x9+(rd x1 x6)))≥1000000000 then(some (wrap64 (x8 - 1))) else(Dzy.l0 k x0 x1 x5 x6 (wrap64 (x8 - 1)) (wrap64 (x9+(rd x1 x6))))) else(none)) else(none)) else(some x8)
end
def Dzy.f (k:Nat) (l0:List Int) (l1:List Int):Option (Int):=if 0≤(wrap64 ((l0.length:Int) - 1)) then(if(wrap64 ((l0.length:Int) - 1)) < (l0.length:Int) then(if 0≤(wrap64 ((wrap64 ((l0.length:Int) - 1)) - 1)) then(if(wrap64 ((wrap64 ((l0.length:Int) - 1)) - 1)) < (l0.length:Int) then(if 0≤(wrap64 ((l1.length:Int) - 1)) then(if(wrap64 ((l1.length:Int) - 1)) < (l1.length:Int) then(if(rd l1 (wrap64 ((l1.length:Int) - 1)))=0 then(none) else(Dzy.l0 k l0 l1 (wrap64 ((l0.length:Int) - 1)) (wrap64 ((l1.length:Int) - 1)) (wrap64 (Int.tdiv (wrap64 ((wrap64 ((rd l0 (wrap64 ((l0.length:Int) - 1))) * 1000000000))+(rd l0 (wrap64 ((wrap64 ((l0.length:Int) - 1)) - 1))))) (rd l1 (wrap64 ((l1.length:Int) - 1))))) (Int.tmod (wrap64 ((wrap64 ((rd l0 (wrap64 ((l0.length:Int) - 1))) * 1000000000))+(rd l0 (wrap64 ((wrap64 ((l0.length:Int) - 1)) - 1))))) (rd l1 (wrap64 ((l1.length:Int) - 1)))))) else(none)) else(none)) else(none)) else(none)) else(none)) else(none)
theorem Dzy.mono_l:∀ k,(∀ y0 y1 y2 y3 y4 y5,LeO (Dzy.l0 k y0 y1 y2 y3 y4 y5) (Dzy.l0 (k+1) y0 y1 y2 y3 y4 y5))∧(∀ y0 y1 y2 y3 y4 y5 y6,LeO (Dzy.j1 k y0 y1 y2 y3 y4 y5 y6) (Dzy.j1 (k+1) y0 y1 y2 y3 y4 y5 y6))
 | 0=>⟨fun _ _ _ _ _ _ r h=>by simp [Dzy.l0] at h,fun _ _ _ _ _ _ _ r h=>by simp [Dzy.j1] at h⟩
 | k+1=>by
  obtain⟨ih0,ih1⟩:=Dzy.mono_l k;refine⟨?_,?_⟩
  ·intro y0 y1 y2 y3 y4 y5;unfold Dzy.l0;exact mM
  ·intro y0 y1 y2 y3 y4 y5 y6;unfold Dzy.j1;exact mM
theorem Dzy.mono:∀ a0 a1 k,LeO (Dzy.f k a0 a1) (Dzy.f (k+1) a0 a1):=by
 intro a0 a1 k;obtain⟨ih0,ih1⟩:=Dzy.mono_l k;unfold Dzy.f;exact mM
theorem Dzy.calls (k:Nat) (A0:Option Addr) (c0:Nat) (l0:List Int) (A1:Option Addr) (c1:Nat) (l1:List Int) (r:Int) (w:World) (hr0:Kd.C (Kd.int .i64) w A0 l0.length l0) (hc0:l0.length≤c0) (hr1:Kd.C (Kd.int .i64) w A1 l1.length l1) (hc1:l1.length≤c1) (h:Dzy.f k l0 l1=some r) :
  Calls Try.prog 103 #[.slice A0 l0.length c0,.slice A1 l1.length c1] w fun e w'=>e=.returned (.int .i64 r)∧Drawn0 w w':=by
 have HR0:=aM hr0;have HC0:=aM hc0;clear hr0 hc0;have HR1:=aM hr1;have HC1:=aM hc1;clear hr1 hc1;have H:(if 0≤(wrap64 ((l0.length:Int) - 1)) then(if(wrap64 ((l0.length:Int) - 1)) < (l0.length:Int) then(if 0≤(wrap64 ((wrap64 ((l0.length:Int) - 1)) - 1)) then(if(wrap64 ((wrap64 ((l0.length:Int) - 1)) - 1)) < (l0.length:Int) then(if 0≤(wrap64 ((l1.length:Int) - 1)) then(if(wrap64 ((l1.length:Int) - 1)) < (l1.length:Int) then(if(rd l1 (wrap64 ((l1.length:Int) - 1)))=0 then(none) else(Dzy.l0 k l0 l1 (wrap64 ((l0.length:Int) - 1)) (wrap64 ((l1.length:Int) - 1)) (wrap64 (Int.tdiv (wrap64 ((wrap64 ((rd l0 (wrap64 ((l0.length:Int) - 1))) * 1000000000))+(rd l0 (wrap64 ((wrap64 ((l0.length:Int) - 1)) - 1))))) (rd l1 (wrap64 ((l1.length:Int) - 1))))) (Int.tmod (wrap64 ((wrap64 ((rd l0 (wrap64 ((l0.length:Int) - 1))) * 1000000000))+(rd l0 (wrap64 ((wrap64 ((l0.length:Int) - 1)) - 1))))) (rd l1 (wrap64 ((l1.length:Int) - 1)))))) else(none)) else(none)) else(none)) else(none)) else(none)) else(none))=some r:=h
 clear h;obtain⟨ji3,hji3⟩:∃ j_:Int,(wrap64 ((l0.length:Int) - 1))=j_:=⟨_,rfl⟩;replace H:(if 0≤(ji3) then(if(ji3) < (l0.length:Int) then(if 0≤(wrap64 ((ji3) - 1)) then(if(wrap64 ((ji3) - 1)) < (l0.length:Int) then(if 0≤(wrap64 ((l1.length:Int) - 1)) then(if(wrap64 ((l1.length:Int) - 1)) < (l1.length:Int) then(if(rd l1 (wrap64 ((l1.length:Int) - 1)))=0 then(none) else(Dzy.l0 k l0 l1 ji3 (wrap64 ((l1.length:Int) - 1)) (wrap64 (Int.tdiv (wrap64 ((wrap64 ((rd l0 (ji3)) * 1000000000))+(rd l0 (wrap64 ((ji3) - 1))))) (rd l1 (wrap64 ((l1.length:Int) - 1))))) (Int.tmod (wrap64 ((wrap64 ((rd l0 (ji3)) * 1000000000))+(rd l0 (wrap64 ((ji3) - 1))))) (rd l1 (wrap64 ((l1.length:Int) - 1)))))) else(none)) else(none)) else(none)) else(none)) else(none)) else(none))=some r:=by first|(rw[hji3] at H;exact H)|(simp only[hji3] at H ⊢;exact H)
 have hji3w:(IntKind.i64.wrap ((l0.length:Int) - 1))=ji3:=(i64_w _).trans hji3;by_cases c4:0≤(ji3)
 ·rw[if_pos c4] at H;have c4b0:=dE c4;clear c4;obtain⟨c5b0,H⟩:=iN H;obtain⟨ji6,hji6⟩:∃ j_:Int,(wrap64 ((ji3) - 1))=j_:=⟨_,rfl⟩;replace H:(if 0≤(ji6) then(if(ji6) < (l0.length:Int) then(if 0≤(wrap64 ((l1.length:Int) - 1)) then(if(wrap64 ((l1.length:Int) - 1)) < (l1.length:Int) then(if(rd l1 (wrap64 ((l1.length:Int) - 1)))=0 then(none) else(Dzy.l0 k l0 l1 ji3 (wrap64 ((l1.length:Int) - 1)) (wrap64 (Int.tdiv (wrap64 ((wrap64 ((rd l0 (ji3)) * 1000000000))+(rd l0 (ji6)))) (rd l1 (wrap64 ((l1.length:Int) - 1))))) (Int.tmod (wrap64 ((wrap64 ((rd l0 (ji3)) * 1000000000))+(rd l0 (ji6)))) (rd l1 (wrap64 ((l1.length:Int) - 1)))))) else(none)) else(none)) else(none)) else(none))=some r:=by first|(rw[hji6] at H;exact H)|(simp only[hji6] at H ⊢;exact H)
  have hji6w:(IntKind.i64.wrap ((ji3) - 1))=ji6:=(i64_w _).trans hji6;obtain⟨c7b0,H⟩:=iN H;obtain⟨c8b0,H⟩:=iN H;obtain⟨ji9,hji9⟩:∃ j_:Int,(wrap64 ((l1.length:Int) - 1))=j_:=⟨_,rfl⟩;replace H:(if 0≤(ji9) then(if(ji9) < (l1.length:Int) then(if(rd l1 (ji9))=0 then(none) else(Dzy.l0 k l0 l1 ji3 ji9 (wrap64 (Int.tdiv (wrap64 ((wrap64 ((rd l0 (ji3)) * 1000000000))+(rd l0 (ji6)))) (rd l1 (ji9)))) (Int.tmod (wrap64 ((wrap64 ((rd l0 (ji3)) * 1000000000))+(rd l0 (ji6)))) (rd l1 (ji9))))) else(none)) else(none))=some r:=by first|(rw[hji9] at H;exact H)|(simp only[hji9] at H ⊢;exact H)
  have hji9w:(IntKind.i64.wrap ((l1.length:Int) - 1))=ji9:=(i64_w _).trans hji9;obtain⟨c10b0,H⟩:=iN H;obtain⟨c11b0,H⟩:=iN H;obtain⟨c12,H⟩:=iM H;have c12b0:((rd l1 (ji9)) == 0)=false:=beq_eq_false_iff_ne.mpr c12;have c12b1:((rd l1 (ji9)) != 0)=true:=bne_iff_ne.mpr c12;have H':=aM H;clear H;obtain⟨ad249,e249,hx249_0,p249,q249⟩:=aI HR0.out (ji3);cases e249;obtain⟨ad250,e250,hx250_0,p250,q250⟩:=aI HR0.out (ji6);obtain rfl:ad249=ad250:=(by injection e250);obtain⟨ad251,e251,hx251_0,p251,q251⟩:=aI HR1.out (ji9);cases e251;obtain⟨ad252,e252,hx252_0,p252,q252⟩:=aI HR1.out (ji9);obtain rfl:ad251=ad252:=(by injection e252);go_enter Try.func103,Try.ntmps103
  go_wp2
  repeat(go_quiet (fail);try go_wp2)
  go_loopg [8,9] k (fun kq v8 v9 w'=>∃ (x8_1:Int) (x9_1:Int),v8=.int .i64 x8_1∧v9=.int .i64 x9_1∧Aside0 (Dzy.l0 kq l0 l1 ji3 ji9 x8_1 x9_1=some r)∧Aside0 (kq≤k)∧Drawn0 w w')
  case atStart=>exact⟨(wrap64 (Int.tdiv (wrap64 ((wrap64 ((rd l0 (ji3)) * 1000000000))+(rd l0 (ji6)))) (rd l1 (ji9)))),(Int.tmod (wrap64 ((wrap64 ((rd l0 (ji3)) * 1000000000))+(rd l0 (ji6)))) (rd l1 (ji9))),(by first|rfl|(simp;done)|(simp only[← hji3,← hji6,← hji9] <;> (first|rfl|simp))|(simp [*];done)),(by first|rfl|(simp;done)|(simp only[← hji3,← hji6,← hji9] <;> (first|rfl|simp))|(simp [*];done)),H',⟨Nat.le_refl _⟩,dR⟩
  case round =>
   clear H';try clear c1
   try clear p2
   try clear q2
   try clear hx2
   try clear c4
   try clear c4b0
   try clear c5
   try clear c5b0
   try clear p6
   try clear c7
   try clear c7b0
   try clear c8
   try clear c8b0
   try clear c10
   try clear c10b0
   try clear c11
   try clear c11b0
   try clear c12
   try clear c12b0
   try clear c12b1
   try clear hx249_0
   try clear hx250_0
   try clear hx251_0
   try clear hx252_0
   try clear p249
   try clear p250
   try clear p251
   try clear p252
   try clear q249
   try clear q250
   try clear q251
   try clear q252
   obtain⟨x8_1,x9_1,rfl,rfl,HA,HK1,⟨m1,rfl⟩⟩:=hrel;cases gk with
   | zero=>exact absurd HA.out (by simp [Dzy.l0])
   | succ k1 =>
    have H:=HA.out;clear HA;simp only[Dzy.l0] at H;have HC13:=aM H;clear H;go_upto_region 4 with (fail)
    repeat(go_quiet (fail);go_upto_region 4 with (fail))
    go_cut [58] (fun v58 wc=>∃ (kq:Nat) (x58_12:Bool),v58=.bool x58_12∧Aside0 (Dzy.j1 kq l0 l1 ji3 ji9 x8_1 x9_1 x58_12=some r)∧Aside0 (kq≤k1)∧Drawn0 w wc)
    case first =>
     have H:=HC13.out;clear HC13;by_cases c14:x8_1≥1000000000
     ·rw[if_pos c14] at H;have c14b0:decide (1000000000≤x8_1)=true:=dE c14;clear c14;(first|rw[c14b0]|(simp only[i64_w,i32_w];rw[c14b0])|skip)
      have H':=aM H;clear H;go_wp2
      repeat(go_quiet (fail);try go_wp2)
      go_meet
      case rel=>exact⟨_,(true),sD,H',⟨by have:=HK1.out;first|omega|exact Nat.le_refl _⟩,dR⟩
     ·rw[if_neg c14] at H;have c14b0:decide (1000000000≤x8_1)=false:=decide_eq_false c14;clear c14;(first|rw[c14b0]|(simp only[i64_w,i32_w];rw[c14b0])|skip)
      obtain⟨ji15,hji15⟩:∃ j_:Int,(wrap64 (ji9 - 1))=j_:=⟨_,rfl⟩;replace H:(if 0≤(ji15) then(if(ji15) < (l1.length:Int) then(if 0≤(wrap64 (ji3 - 2)) then(if(wrap64 (ji3 - 2)) < (l0.length:Int) then(Dzy.j1 k1 l0 l1 ji3 ji9 x8_1 x9_1 (decide ((wrap64 (x8_1 * (rd l1 (ji15)))) > (wrap64 ((wrap64 (x9_1 * 1000000000))+(rd l0 (wrap64 (ji3 - 2)))))))) else(none)) else(none)) else(none)) else(none))=some r:=by first|(rw[hji15] at H;exact H)|(simp only[hji15] at H ⊢;exact H)
      have hji15w:(IntKind.i64.wrap (ji9 - 1))=ji15:=(i64_w _).trans hji15;obtain⟨c16b0,H⟩:=iN H;obtain⟨c17b0,H⟩:=iN H;obtain⟨ji18,hji18⟩:∃ j_:Int,(wrap64 (ji3 - 2))=j_:=⟨_,rfl⟩;replace H:(if 0≤(ji18) then(if(ji18) < (l0.length:Int) then(Dzy.j1 k1 l0 l1 ji3 ji9 x8_1 x9_1 (decide ((wrap64 (x8_1 * (rd l1 (ji15)))) > (wrap64 ((wrap64 (x9_1 * 1000000000))+(rd l0 (ji18))))))) else(none)) else(none))=some r:=by first|(rw[hji18] at H;exact H)|(simp only[hji18] at H ⊢;exact H)
      have hji18w:(IntKind.i64.wrap (ji3 - 2))=ji18:=(i64_w _).trans hji18;obtain⟨c19b0,H⟩:=iN H;obtain⟨c20b0,H⟩:=iN H;have H':=aM H;clear H;obtain⟨ad253,e253,hx253_0,p253,q253⟩:=aI HR1.out (ji15);obtain rfl:ad251=ad253:=(by injection e253);obtain⟨ad254,e254,hx254_0,p254,q254⟩:=aI HR0.out (ji18);obtain rfl:ad249=ad254:=(by injection e254);go_wp2
      repeat(go_quiet (fail);try go_wp2)
      go_meet
      case rel=>exact⟨_,(decide ((wrap64 (x8_1 * (rd l1 (ji15)))) > (wrap64 ((wrap64 (x9_1 * 1000000000))+(rd l0 (ji18)))))),(by first|rfl|(simp;done)|(simp only[← hji15,← hji18] <;> (first|rfl|simp))|(simp [*];done)),H',⟨by have:=HK1.out;first|omega|exact Nat.le_refl _⟩,dR⟩
    case rest =>
     clear HC13;try clear c1
     try clear c2
     try clear p2
     try clear q2
     try clear hx2
     try clear c4
     try clear c4b0
     try clear c5
     try clear c5b0
     try clear p6
     try clear c7
     try clear c7b0
     try clear c8
     try clear c8b0
     try clear c10
     try clear c10b0
     try clear c11
     try clear c11b0
     try clear c12
     try clear c12b0
     try clear c12b1
     try clear c14
     try clear c14b0
     try clear c16
     try clear c16b0
     try clear c17
     try clear c17b0
     try clear c19
     try clear c19b0
     try clear c20
     try clear c20b0
     try clear hx249_0
     try clear hx250_0
     try clear hx251_0
     try clear hx252_0
     try clear hx253_0
     try clear hx254_0
     try clear p2
     try clear p249
     try clear p250
     try clear p251
     try clear p252
     try clear p253
     try clear p254
     try clear p6
     try clear q2
     try clear q249
     try clear q250
     try clear q251
     try clear q252
     try clear q253
     try clear q254
     obtain⟨kq,x58_12,rfl,HA,HJ12,⟨mc12,rfl⟩⟩:=hcut;cases kq with
     | zero=>exact absurd HA.out (by simp [Dzy.j1])
     | succ kj12 =>
      have H:=HA.out;clear HA;simp only[Dzy.j1] at H;by_cases c21:x58_12=true
      ·subst c21;rw[if_pos rfl] at H;obtain⟨c22b0,H⟩:=iN H;obtain⟨c23b0,H⟩:=iN H;by_cases c24:(wrap64 (x9_1+(rd l1 ji9)))≥1000000000
       ·rw[if_pos c24] at H;have c24b0:decide (1000000000≤(wrap64 (x9_1+(rd l1 ji9))))=true:=dE c24;have c24b0w:decide (1000000000≤(IntKind.i64.wrap (x9_1+(rd l1 ji9))))=true:=by have h_:=c24b0;first|exact h_|(simp only[i64_w];exact h_)
        clear c24;obtain rfl:=Option.some.inj H;obtain⟨ad255,e255,hx255_0,p255,q255⟩:=aI HR1.out ji9;obtain rfl:ad251=ad255:=(by injection e255);go_wp2
        repeat(go_quiet (fail);try go_wp2)
        go_ret
        exact⟨by first|rfl|(simp;done)|(simp only[← hji3,← hji6,← hji9] <;> (first|rfl|simp))|(simp [*];done),dR⟩
       ·rw[if_neg c24] at H;have c24b0:decide (1000000000≤(wrap64 (x9_1+(rd l1 ji9))))=false:=decide_eq_false c24;have c24b0w:decide (1000000000≤(IntKind.i64.wrap (x9_1+(rd l1 ji9))))=false:=by have h_:=c24b0;first|exact h_|(simp only[i64_w];exact h_)
        clear c24;have H':=aM H;clear H;obtain⟨ad255,e255,hx255_0,p255,q255⟩:=aI HR1.out ji9;obtain rfl:ad251=ad255:=(by injection e255);go_wp2
        repeat(go_quiet (fail);try go_wp2)
        go_roundg kj12
        case measure=>have:=HK1.out;have:=HJ12.out;omega
        case rel=>exact⟨(wrap64 (x8_1 - 1)),(wrap64 (x9_1+(rd l1 ji9))),sD,(by first|rfl|(simp;done)|(simp only[← hji9] <;> (first|rfl|simp))|(simp [*];done)),H',⟨by have:=HK1.out;have:=HJ12.out;omega⟩,dR⟩
      ·obtain rfl:=bN c21;rw[if_neg nF] at H
       obtain rfl:=Option.some.inj H;go_wp2
       repeat(go_quiet (fail);try go_wp2)
       go_ret
       exact⟨by first|rfl|(simp;done)|(simp only[← hji3,← hji6,← hji9] <;> (first|rfl|simp))|(simp [*];done),dR⟩
 ·rw[if_neg c4] at H;exact absurd H (by simp)

end Go.Proofs.Ytnklckihalhlmaa.Print
