import Derived.Test.YtokkiljkgejnhaaPrint0
namespace Go.Proofs.Ytokkiljkgejnhaa.Print
open Go.RowKit Go.Proofs.YtokkiljkgejnhaaW.PrintWords Go.Proofs.YtokkiljkgejnhaaW.PrintLast Go.Proofs.YtokkiljkgejnhaaW.PrintMore
attribute [local go_sem] max2_int min2_int max_two min_two max_three min_three max_four min_four
set_option linter.unusedVariables false
set_option maxRecDepth 100000
set_option maxHeartbeats 8000000
set_option linter.unusedSimpArgs false

mutual
def Bzf.l0:Nat→List Int→List Int→Int→Int→Int→Int→Option (Int)
 | 0,_,_,_,_,_,_=>none
 | k+1,x0,x1,x5,x6,x8,x9=>if x8≥1000000000 then(Bzf.j1 k x0 x1 x5 x6 x8 x9 true) else(if 0≤(wrap64 (x6 - 1)) then(if(wrap64 (x6 - 1)) < (x1.length:Int) then(if 0≤(wrap64 (x5 - 2)) then(if(wrap64 (x5 - 2)) < (x0.length:Int) then(Bzf.j1 k x0 x1 x5 x6 x8 x9 (decide ((wrap64 (x8 * (rd x1 (wrap64 (x6 - 1))))) > (wrap64 ((wrap64 (x9 * 1000000000))+(rd x0 (wrap64 (x5 - 2)))))))) else(none)) else(none)) else(none)) else(none))
def Bzf.j1:Nat→List Int→List Int→Int→Int→Int→Int→Bool→Option (Int)
 | 0,_,_,_,_,_,_,_=>none
 | k+1,x0,x1,x5,x6,x8,x9,x58=>if x58=true then(if 0≤x6 then(if x6 < (x1.length:Int) then(if(wrap64 (x9+(rd x1 x6)))≥1000000000 then(some (wrap64 (x8 - 1))) else(Bzf.l0 k x0 x1 x5 x6 (wrap64 (x8 - 1)) (wrap64 (x9+(rd x1 x6))))) else(none)) else(none)) else(some x8)
end
def Bzf.f (k:Nat) (l0:List Int) (l1:List Int):Option (Int):=if 0≤(wrap64 ((l0.length:Int) - 1)) then(if(wrap64 ((l0.length:Int) - 1)) < (l0.length:Int) then(if 0≤(wrap64 ((wrap64 ((l0.length:Int) - 1)) - 1)) then(if(wrap64 ((wrap64 ((l0.length:Int) - 1)) - 1)) < (l0.length:Int) then(if 0≤(wrap64 ((l1.length:Int) - 1)) then(if(wrap64 ((l1.length:Int) - 1)) < (l1.length:Int) then(if(rd l1 (wrap64 ((l1.length:Int) - 1)))=0 then(none) else(Bzf.l0 k l0 l1 (wrap64 ((l0.length:Int) - 1)) (wrap64 ((l1.length:Int) - 1)) (wrap64 (Int.tdiv (wrap64 ((wrap64 ((rd l0 (wrap64 ((l0.length:Int) - 1))) * 1000000000))+(rd l0 (wrap64 ((wrap64 ((l0.length:Int) - 1)) - 1))))) (rd l1 (wrap64 ((l1.length:Int) - 1))))) (Int.tmod (wrap64 ((wrap64 ((rd l0 (wrap64 ((l0.length:Int) - 1))) * 1000000000))+(rd l0 (wrap64 ((wrap64 ((l0.length:Int) - 1)) - 1))))) (rd l1 (wrap64 ((l1.length:Int) - 1)))))) else(none)) else(none)) else(none)) else(none)) else(none)) else(none)
theorem Bzf.mono_l:∀ k,(∀ a6 a7 a8 b4 b5 b6,LeO (Bzf.l0 k a6 a7 a8 b4 b5 b6) (Bzf.l0 (k+1) a6 a7 a8 b4 b5 b6))∧(∀ a6 a7 a8 b4 b5 b6 b7,LeO (Bzf.j1 k a6 a7 a8 b4 b5 b6 b7) (Bzf.j1 (k+1) a6 a7 a8 b4 b5 b6 b7))
 | 0=>⟨fun _ _ _ _ _ _ r h=>by simp [Bzf.l0] at h,fun _ _ _ _ _ _ _ r h=>by simp [Bzf.j1] at h⟩
 | k+1=>by
  obtain⟨ih0,ih1⟩:=Bzf.mono_l k;refine⟨?_,?_⟩
  ·intro a6 a7 a8 b4 b5 b6;unfold Bzf.l0;exact mM
  ·intro a6 a7 a8 b4 b5 b6 b7;unfold Bzf.j1;exact mM
theorem Bzf.mono:∀ a6 a7 k,LeO (Bzf.f k a6 a7) (Bzf.f (k+1) a6 a7):=by
 intro a6 a7 k;obtain⟨ih0,ih1⟩:=Bzf.mono_l k;unfold Bzf.f;exact mM
theorem Bzf.calls (k:Nat) (a6:Option Addr) (a7:Nat) (l0:List Int) (a8:Option Addr) (b4:Nat) (l1:List Int) (r:Int) (w:World) (b5:Kd.C (Kd.int .i64) w a6 l0.length l0) (b6:l0.length≤a7) (b7:Kd.C (Kd.int .i64) w a8 l1.length l1) (b8:l1.length≤b4) (h:Bzf.f k l0 l1=some r) :
  Calls Try.prog 100 #[.slice a6 l0.length a7,.slice a8 l1.length b4] w fun e w'=>e=.returned (.int .i64 r)∧Drawn0 w w':=by
 have b9:=aM b5;have d0:=aM b6;clear b5 b6;have d6:=aM b7;have d7:=aM b8;clear b7 b8;have H:(if 0≤(wrap64 ((l0.length:Int) - 1)) then(if(wrap64 ((l0.length:Int) - 1)) < (l0.length:Int) then(if 0≤(wrap64 ((wrap64 ((l0.length:Int) - 1)) - 1)) then(if(wrap64 ((wrap64 ((l0.length:Int) - 1)) - 1)) < (l0.length:Int) then(if 0≤(wrap64 ((l1.length:Int) - 1)) then(if(wrap64 ((l1.length:Int) - 1)) < (l1.length:Int) then(if(rd l1 (wrap64 ((l1.length:Int) - 1)))=0 then(none) else(Bzf.l0 k l0 l1 (wrap64 ((l0.length:Int) - 1)) (wrap64 ((l1.length:Int) - 1)) (wrap64 (Int.tdiv (wrap64 ((wrap64 ((rd l0 (wrap64 ((l0.length:Int) - 1))) * 1000000000))+(rd l0 (wrap64 ((wrap64 ((l0.length:Int) - 1)) - 1))))) (rd l1 (wrap64 ((l1.length:Int) - 1))))) (Int.tmod (wrap64 ((wrap64 ((rd l0 (wrap64 ((l0.length:Int) - 1))) * 1000000000))+(rd l0 (wrap64 ((wrap64 ((l0.length:Int) - 1)) - 1))))) (rd l1 (wrap64 ((l1.length:Int) - 1)))))) else(none)) else(none)) else(none)) else(none)) else(none)) else(none))=some r:=h
 clear h;obtain⟨d8,d9⟩:∃ j_:Int,(wrap64 ((l0.length:Int) - 1))=j_:=⟨_,rfl⟩;replace H:(if 0≤(d8) then(if(d8) < (l0.length:Int) then(if 0≤(wrap64 ((d8) - 1)) then(if(wrap64 ((d8) - 1)) < (l0.length:Int) then(if 0≤(wrap64 ((l1.length:Int) - 1)) then(if(wrap64 ((l1.length:Int) - 1)) < (l1.length:Int) then(if(rd l1 (wrap64 ((l1.length:Int) - 1)))=0 then(none) else(Bzf.l0 k l0 l1 d8 (wrap64 ((l1.length:Int) - 1)) (wrap64 (Int.tdiv (wrap64 ((wrap64 ((rd l0 (d8)) * 1000000000))+(rd l0 (wrap64 ((d8) - 1))))) (rd l1 (wrap64 ((l1.length:Int) - 1))))) (Int.tmod (wrap64 ((wrap64 ((rd l0 (d8)) * 1000000000))+(rd l0 (wrap64 ((d8) - 1))))) (rd l1 (wrap64 ((l1.length:Int) - 1)))))) else(none)) else(none)) else(none)) else(none)) else(none)) else(none))=some r:=by first|(rw[d9] at H;exact H)|(simp only[d9] at H ⊢;exact H)
 have e6:(IntKind.i64.wrap ((l0.length:Int) - 1))=d8:=(i64_w _).trans d9;by_cases c4:0≤(d8)
 ·rw[if_pos c4] at H;have e7:=dE c4;clear c4;obtain⟨e8,H⟩:=iN H;obtain⟨e9,f3⟩:∃ j_:Int,(wrap64 ((d8) - 1))=j_:=⟨_,rfl⟩;replace H:(if 0≤(e9) then(if(e9) < (l0.length:Int) then(if 0≤(wrap64 ((l1.length:Int) - 1)) then(if(wrap64 ((l1.length:Int) - 1)) < (l1.length:Int) then(if(rd l1 (wrap64 ((l1.length:Int) - 1)))=0 then(none) else(Bzf.l0 k l0 l1 d8 (wrap64 ((l1.length:Int) - 1)) (wrap64 (Int.tdiv (wrap64 ((wrap64 ((rd l0 (d8)) * 1000000000))+(rd l0 (e9)))) (rd l1 (wrap64 ((l1.length:Int) - 1))))) (Int.tmod (wrap64 ((wrap64 ((rd l0 (d8)) * 1000000000))+(rd l0 (e9)))) (rd l1 (wrap64 ((l1.length:Int) - 1)))))) else(none)) else(none)) else(none)) else(none))=some r:=by first|(rw[f3] at H;exact H)|(simp only[f3] at H ⊢;exact H)
  have f4:(IntKind.i64.wrap ((d8) - 1))=e9:=(i64_w _).trans f3;obtain⟨f6,H⟩:=iN H;obtain⟨f9,H⟩:=iN H;obtain⟨g4,g5⟩:∃ j_:Int,(wrap64 ((l1.length:Int) - 1))=j_:=⟨_,rfl⟩;replace H:(if 0≤(g4) then(if(g4) < (l1.length:Int) then(if(rd l1 (g4))=0 then(none) else(Bzf.l0 k l0 l1 d8 g4 (wrap64 (Int.tdiv (wrap64 ((wrap64 ((rd l0 (d8)) * 1000000000))+(rd l0 (e9)))) (rd l1 (g4)))) (Int.tmod (wrap64 ((wrap64 ((rd l0 (d8)) * 1000000000))+(rd l0 (e9)))) (rd l1 (g4))))) else(none)) else(none))=some r:=by first|(rw[g5] at H;exact H)|(simp only[g5] at H ⊢;exact H)
  have g6:(IntKind.i64.wrap ((l1.length:Int) - 1))=g4:=(i64_w _).trans g5;obtain⟨g7,H⟩:=iN H;obtain⟨g8,H⟩:=iN H;obtain⟨g9,H⟩:=iM H;have j5:((rd l1 (g4)) == 0)=false:=beq_eq_false_iff_ne.mpr g9;have j6:((rd l1 (g4)) != 0)=true:=bne_iff_ne.mpr g9;have H':=aM H;clear H;obtain⟨j7,j8,j9,l5,l6⟩:=aI b9.out (d8);cases j8;obtain⟨l7,l8,l9,m0,m2⟩:=aI b9.out (e9);obtain rfl:j7=l7:=(by injection l8);obtain⟨m3,m4,m5,m6,m7⟩:=aI d6.out (g4);cases m4;obtain⟨m8,m9,n0,n6,n7⟩:=aI d6.out (g4);obtain rfl:m3=m8:=(by injection m9);go_enter Try.func100,Try.ntmps100
  go_wp2
  repeat(go_quiet (fail);try go_wp2)
  go_loopg [8,9] k (fun kq n8 n9 w'=>∃ (o0:Int) (o8:Int),n8=.int .i64 o0∧n9=.int .i64 o8∧Aside0 (Bzf.l0 kq l0 l1 d8 g4 o0 o8=some r)∧Aside0 (kq≤k)∧Drawn0 w w')
  case atStart=>exact⟨(wrap64 (Int.tdiv (wrap64 ((wrap64 ((rd l0 (d8)) * 1000000000))+(rd l0 (e9)))) (rd l1 (g4)))),(Int.tmod (wrap64 ((wrap64 ((rd l0 (d8)) * 1000000000))+(rd l0 (e9)))) (rd l1 (g4))),(by first|rfl|(simp;done)|(simp only[← d9,← f3,← g5] <;> (first|rfl|simp))|(simp [*];done)),(by first|rfl|(simp;done)|(simp only[← d9,← f3,← g5] <;> (first|rfl|simp))|(simp [*];done)),H',⟨Nat.le_refl _⟩,dR⟩
  case round =>
   clear H';try clear b4
   try clear o9
   try clear p0
   try clear q3
   try clear p4
   try clear c4
   try clear e7
   try clear c5
   try clear e8
   try clear p5
   try clear c7
   try clear f6
   try clear c8
   try clear f9
   try clear c10
   try clear g7
   try clear p9
   try clear g8
   try clear g9
   try clear j5
   try clear j6
   try clear j9
   try clear l9
   try clear m5
   try clear n0
   try clear l5
   try clear m0
   try clear m6
   try clear n6
   try clear l6
   try clear m2
   try clear m7
   try clear n7
   obtain⟨o0,o8,rfl,rfl,HA,r5,⟨r6,rfl⟩⟩:=hrel;cases gk with
   | zero=>exact absurd HA.out (by simp [Bzf.l0])
   | succ k1 =>
    have H:=HA.out;clear HA;simp only[Bzf.l0] at H;have r7:=aM H;clear H;go_upto_region 4 with (fail)
    repeat(go_quiet (fail);go_upto_region 4 with (fail))
    go_cut [58] (fun r8 wc=>∃ (kq:Nat) (r9:Bool),r8=.bool r9∧Aside0 (Bzf.j1 kq l0 l1 d8 g4 o0 o8 r9=some r)∧Aside0 (kq≤k1)∧Drawn0 w wc)
    case first =>
     have H:=r7.out;clear r7;by_cases t6:o0≥1000000000
     ·rw[if_pos t6] at H;have t7:decide (1000000000≤o0)=true:=dE t6;clear t6;(first|rw[t7]|(simp only[i64_w,i32_w];rw[t7])|skip)
      have H':=aM H;clear H;go_wp2
      repeat(go_quiet (fail);try go_wp2)
      go_meet
      case rel=>exact⟨_,(true),sD,H',⟨by have:=r5.out;first|omega|exact Nat.le_refl _⟩,dR⟩
     ·rw[if_neg t6] at H;have t7:decide (1000000000≤o0)=false:=decide_eq_false t6;clear t6;(first|rw[t7]|(simp only[i64_w,i32_w];rw[t7])|skip)
      obtain⟨t8,z1⟩:∃ j_:Int,(wrap64 (g4 - 1))=j_:=⟨_,rfl⟩;replace H:(if 0≤(t8) then(if(t8) < (l1.length:Int) then(if 0≤(wrap64 (d8 - 2)) then(if(wrap64 (d8 - 2)) < (l0.length:Int) then(Bzf.j1 k1 l0 l1 d8 g4 o0 o8 (decide ((wrap64 (o0 * (rd l1 (t8)))) > (wrap64 ((wrap64 (o8 * 1000000000))+(rd l0 (wrap64 (d8 - 2)))))))) else(none)) else(none)) else(none)) else(none))=some r:=by first|(rw[z1] at H;exact H)|(simp only[z1] at H ⊢;exact H)
      have z2:(IntKind.i64.wrap (g4 - 1))=t8:=(i64_w _).trans z1;obtain⟨z6,H⟩:=iN H;obtain⟨z7,H⟩:=iN H;obtain⟨z8,B0⟩:∃ j_:Int,(wrap64 (d8 - 2))=j_:=⟨_,rfl⟩;replace H:(if 0≤(z8) then(if(z8) < (l0.length:Int) then(Bzf.j1 k1 l0 l1 d8 g4 o0 o8 (decide ((wrap64 (o0 * (rd l1 (t8)))) > (wrap64 ((wrap64 (o8 * 1000000000))+(rd l0 (z8))))))) else(none)) else(none))=some r:=by first|(rw[B0] at H;exact H)|(simp only[B0] at H ⊢;exact H)
      have B5:(IntKind.i64.wrap (d8 - 2))=z8:=(i64_w _).trans B0;obtain⟨B6,H⟩:=iN H;obtain⟨B8,H⟩:=iN H;have H':=aM H;clear H;obtain⟨B9,C0,C1,C2,C3⟩:=aI d6.out (t8);obtain rfl:m3=B9:=(by injection C0);obtain⟨C4,C6,C7,C8,C9⟩:=aI b9.out (z8);obtain rfl:j7=C4:=(by injection C6);go_wp2
      repeat(go_quiet (fail);try go_wp2)
      go_meet
      case rel=>exact⟨_,(decide ((wrap64 (o0 * (rd l1 (t8)))) > (wrap64 ((wrap64 (o8 * 1000000000))+(rd l0 (z8)))))),(by first|rfl|(simp;done)|(simp only[← z1,← B0] <;> (first|rfl|simp))|(simp [*];done)),H',⟨by have:=r5.out;first|omega|exact Nat.le_refl _⟩,dR⟩
    case rest =>
     clear r7;try clear b4
     try clear c2
     try clear o9
     try clear p0
     try clear q3
     try clear p4
     try clear c4
     try clear e7
     try clear c5
     try clear e8
     try clear p5
     try clear c7
     try clear f6
     try clear c8
     try clear f9
     try clear c10
     try clear g7
     try clear p9
     try clear g8
     try clear g9
     try clear j5
     try clear j6
     try clear t6
     try clear t7
     try clear D0
     try clear z6
     try clear D1
     try clear z7
     try clear D2
     try clear B6
     try clear D3
     try clear B8
     try clear j9
     try clear l9
     try clear m5
     try clear n0
     try clear C1
     try clear C7
     try clear o9
     try clear p0
     try clear l5
     try clear m0
     try clear m6
     try clear n6
     try clear C2
     try clear C8
     try clear p5
     try clear q3
     try clear l6
     try clear m2
     try clear m7
     try clear n7
     try clear C3
     try clear C9
     obtain⟨kq,r9,rfl,HA,D4,⟨mc12,rfl⟩⟩:=hcut;cases kq with
     | zero=>exact absurd HA.out (by simp [Bzf.j1])
     | succ D5 =>
      have H:=HA.out;clear HA;simp only[Bzf.j1] at H;by_cases D6:r9=true
      ·subst D6;rw[if_pos rfl] at H;obtain⟨D7,H⟩:=iN H;obtain⟨D8,H⟩:=iN H;by_cases D9:(wrap64 (o8+(rd l1 g4)))≥1000000000
       ·rw[if_pos D9] at H;have E0:decide (1000000000≤(wrap64 (o8+(rd l1 g4))))=true:=dE D9;have E1:decide (1000000000≤(IntKind.i64.wrap (o8+(rd l1 g4))))=true:=by have h_:=E0;first|exact h_|(simp only[i64_w];exact h_)
        clear D9;obtain rfl:=Option.some.inj H;obtain⟨E2,E3,E4,E5,E6⟩:=aI d6.out g4;obtain rfl:m3=E2:=(by injection E3);go_wp2
        repeat(go_quiet (fail);try go_wp2)
        go_ret
        exact⟨by first|rfl|(simp;done)|(simp only[← d9,← f3,← g5] <;> (first|rfl|simp))|(simp [*];done),dR⟩
       ·rw[if_neg D9] at H;have E0:decide (1000000000≤(wrap64 (o8+(rd l1 g4))))=false:=decide_eq_false D9;have E1:decide (1000000000≤(IntKind.i64.wrap (o8+(rd l1 g4))))=false:=by have h_:=E0;first|exact h_|(simp only[i64_w];exact h_)
        clear D9;have H':=aM H;clear H;obtain⟨E2,E3,E4,E5,E6⟩:=aI d6.out g4;obtain rfl:m3=E2:=(by injection E3);go_wp2
        repeat(go_quiet (fail);try go_wp2)
        go_roundg D5
        case measure=>have:=r5.out;have:=D4.out;omega
        case rel=>exact⟨(wrap64 (o0 - 1)),(wrap64 (o8+(rd l1 g4))),sD,(by first|rfl|(simp;done)|(simp only[← g5] <;> (first|rfl|simp))|(simp [*];done)),H',⟨by have:=r5.out;have:=D4.out;omega⟩,dR⟩
      ·obtain rfl:=bN D6;rw[if_neg nF] at H
       obtain rfl:=Option.some.inj H;go_wp2
       repeat(go_quiet (fail);try go_wp2)
       go_ret
       exact⟨by first|rfl|(simp;done)|(simp only[← d9,← f3,← g5] <;> (first|rfl|simp))|(simp [*];done),dR⟩
 ·rw[if_neg c4] at H;exact absurd H (by simp)


def Bzm.l0:Nat→List Int→List Int→Int→Int→Int→Int→Option (Bool × List Int)
 | 0,_,_,_,_,_,_=>none
 | k+1,x0,x1,x2,x7,x11,x12=>if x12 < x11 then(if 0≤x12 then(if x12 < (x0.length:Int) then(if x12 < (x1.length:Int) then(if(wrap64 ((wrap64 ((rd x0 x12) - x7)) - (wrap64 (x2 * (rd x1 x12))))) < 0 then(Bzm.l0 k (x0.set (x12:Int).toNat (wrap64 ((wrap64 ((wrap64 ((rd x0 x12) - x7)) - (wrap64 (x2 * (rd x1 x12)))))+(wrap64 ((wrap64 (Int.tdiv (wrap64 ((wrap64 ((wrap64 (-(wrap64 ((wrap64 ((rd x0 x12) - x7)) - (wrap64 (x2 * (rd x1 x12)))))))+1000000000)) - 1)) 1000000000)) * 1000000000))))) x1 x2 (wrap64 (Int.tdiv (wrap64 ((wrap64 ((wrap64 (-(wrap64 ((wrap64 ((rd x0 x12) - x7)) - (wrap64 (x2 * (rd x1 x12)))))))+1000000000)) - 1)) 1000000000)) x11 (wrap64 (x12+1))) else(Bzm.l0 k (x0.set (x12:Int).toNat (wrap64 ((wrap64 ((rd x0 x12) - x7)) - (wrap64 (x2 * (rd x1 x12)))))) x1 x2 0 x11 (wrap64 (x12+1)))) else(if(wrap64 ((rd x0 x12) - x7)) < 0 then(Bzm.l0 k (x0.set (x12:Int).toNat (wrap64 ((wrap64 ((rd x0 x12) - x7))+(wrap64 ((wrap64 (Int.tdiv (wrap64 ((wrap64 ((wrap64 (-(wrap64 ((rd x0 x12) - x7))))+1000000000)) - 1)) 1000000000)) * 1000000000))))) x1 x2 (wrap64 (Int.tdiv (wrap64 ((wrap64 ((wrap64 (-(wrap64 ((rd x0 x12) - x7))))+1000000000)) - 1)) 1000000000)) x11 (wrap64 (x12+1))) else(Bzm.l0 k (x0.set (x12:Int).toNat (wrap64 ((rd x0 x12) - x7))) x1 x2 0 x11 (wrap64 (x12+1))))) else(none)) else(none)) else(some (decide (x7 > 0),x0))
def Bzm.f (k:Nat) (l0:List Int) (l1:List Int) (a2:Int):Option (Bool × List Int):=Bzm.l0 k l0 l1 a2 0 (l0.length:Int) 0
theorem Bzm.mono_l:∀ k,(∀ a6 a7 a8 b4 b5 b6,LeO (Bzm.l0 k a6 a7 a8 b4 b5 b6) (Bzm.l0 (k+1) a6 a7 a8 b4 b5 b6))
 | 0=>fun _ _ _ _ _ _ r h=>by simp [Bzm.l0] at h
 | k+1=>by
  have ih0:=Bzm.mono_l k
  ·intro a6 a7 a8 b4 b5 b6;unfold Bzm.l0;exact mM
theorem Bzm.mono:∀ a6 a7 a8 k,LeO (Bzm.f k a6 a7 a8) (Bzm.f (k+1) a6 a7 a8):=by
 intro a6 a7 a8 k;have ih0:=Bzm.mono_l k;unfold Bzm.f;exact mM
theorem Bzm.calls (k:Nat) (a6:Nat→Prop) (u9000_:Value) (l0:List Int) (a7:Option Addr) (a8:Nat) (l1:List Int) (b4:Int) (b5:Bool) (b6:List Int) (b7 w:World) (hB:Below b7.heap.size b7 w) (b8:Kd.R (Kd.int .i64) 3 w b7.heap.size a6 u9000_ l0) (b9:∀ W_,Kept w W_ (fun k_=>a6 k_)→Kd.C (Kd.int .i64) W_ a7 l1.length l1) (d0:l1.length≤a8) (h:Bzm.f k l0 l1 b4=some (b5,b6)) :
  Calls Try.prog 101 #[u9000_,.slice a7 l1.length a8,.int .i64 b4] w fun e w'=>e=.returned (.bool b5)∧Kd.R (Kd.int .i64) 3 w' b7.heap.size (fun k_=>(a6 k_∨w.heap.size≤k_)) u9000_ b6∧Below b7.heap.size b7 w'∧Kept w w' (fun k_=>a6 k_):=by
 have d6:=aM (show Kd.R (Kd.int .i64) 3 w b7.heap.size (fun k_=>(a6 k_∨w.heap.size≤k_)) u9000_ l0 from Kd.R_mono b8 (fun k_ hk=>(.inl hk)))
 have d7:=aM b9;have d8:=aM d0;clear b9 d0;have HK:=aM (Kept.refl w (fun k_=>a6 k_))
 have HW0:=aM hB.size;have HB:=aM hB;clear hB;have H:(Bzm.l0 k l0 l1 b4 0 (l0.length:Int) 0)=some (b5,b6):=h;clear h;have H':=aM H;clear H;obtain⟨d9,e6,rfl⟩:=Kd.R_slice d6.out;go_enter Try.func101,Try.ntmps101
 go_wp2
 go_loopg [7,12] k (fun kq e7 e8 w'=>∃ (e9:List Int) (f3:Int) (f4:Int),e7=.int .i64 f3∧e8=.int .i64 f4∧Aside0 (Bzm.l0 kq e9 l1 b4 f3 (l0.length:Int) f4=some (b5,b6))∧Aside0 (kq≤k)∧Aside0 (Kd.R (Kd.int .i64) 3 w' b7.heap.size (fun k_=>(a6 k_∨w.heap.size≤k_)) (.slice d9 l0.length e6) e9)∧Aside0 (Kept w w' (fun k_=>a6 k_))∧Aside0 (Below b7.heap.size b7 w'))
 case atStart=>exact⟨(l0),(0),(0),sD,sD,H',⟨Nat.le_refl _⟩,⟨rX d6.out⟩,⟨kK HK⟩,⟨pB⟩⟩
 case round =>
  clear H';try clear a8
  try clear f6
  obtain⟨e9,f3,f4,rfl,rfl,HA,f9,g4,HK,HB⟩:=hrel;have g5:=(Kd.R_reads' g4.out).1;rw[g5] at g4;(try simp only[g5])
  cases gk with
  | zero=>exact absurd HA.out (by simp [Bzm.l0])
  | succ k1 =>
   have H:=HA.out;clear HA;simp only[Bzm.l0] at H;by_cases c5:f4 < (l0.length:Int)
   ·rw[if_pos c5] at H;have g6:=dE c5;have g7:=g6;(try simp only[g5] at g7)
    clear c5;obtain⟨g8,H⟩:=iN H;obtain⟨c7,H⟩:=iO H;have g9:decide (f4 < (e9.length:Int))=true:=dE c7;have j5:=g9;(try simp only[g5] at j5)
    clear c7;by_cases c8:f4 < (l1.length:Int)
    ·rw[if_pos c8] at H;have j6:=dE c8;have j7:=j6;(try simp only[g5] at j7)
     clear c8;by_cases c9:(wrap64 ((wrap64 ((rd e9 f4) - f3)) - (wrap64 (b4 * (rd l1 f4))))) < 0
     ·rw[if_pos c9] at H;have j8:decide ((wrap64 ((wrap64 ((rd e9 f4) - f3)) - (wrap64 (b4 * (rd l1 f4))))) < 0)=true:=dE c9;have j9:decide ((IntKind.i64.wrap ((IntKind.i64.wrap ((rd e9 f4) - f3)) - (IntKind.i64.wrap (b4 * (rd l1 f4))))) < 0)=true:=by have h_:=j8;first|exact h_|(simp only[i64_w];exact h_)
      clear c9;obtain⟨l5,l6⟩:∃ y_:List Int,y_=(e9.set (f4:Int).toNat (wrap64 ((wrap64 ((wrap64 ((rd e9 f4) - f3)) - (wrap64 (b4 * (rd l1 f4)))))+(wrap64 ((wrap64 (Int.tdiv (wrap64 ((wrap64 ((wrap64 (-(wrap64 ((wrap64 ((rd e9 f4) - f3)) - (wrap64 (b4 * (rd l1 f4)))))))+1000000000)) - 1)) 1000000000)) * 1000000000))))):=⟨_,rfl⟩;replace H:(Bzm.l0 k1 l5 l1 b4 (wrap64 (Int.tdiv (wrap64 ((wrap64 ((wrap64 (-(wrap64 ((wrap64 ((rd e9 f4) - f3)) - (wrap64 (b4 * (rd l1 f4)))))))+1000000000)) - 1)) 1000000000)) (l0.length:Int) (wrap64 (f4+1)))=some (b5,b6):=yE l6 H
      have l7:=aM l6;clear l6;have H':=aM H;clear H;obtain⟨l8,l9,m0,m2,m3⟩:=aI (Kd.R_reads' g4.out).2.2 f4;cases l9;obtain⟨m4,m5,m6,m7,m8⟩:=aI (Kd.C_kept_now d7.out HK.out) f4;cases m5;have m9:0≤(f4:Int):=oE aS
      have n0:(f4:Int) < ((e9.length:Int):Int):=oE aS
      obtain⟨n6,n7,n8,n9,o0,o8,o9⟩:=Kd.R_form g4.out (by omega)
      (first|cases n8|(injection n8 with ea_ en_ ec_;(first|subst ea_|(injection ea_ with ea_;subst ea_));subst ec_;clear en_))
      have p0:=aM n9;have p4:=aM o9;clear n9 o0 o9;have HMgo10:=aM (show(a6 n6∨w.heap.size≤n6) from(g4.out.1 _ rfl))
      (first|simp only[add_plain] at m0|skip)
      obtain⟨p5,p9⟩:=Kd.R_celln 0 g4.out (f4:Int) m9 n0;replace m9:=eq_true m9;replace n0:=eq_true n0;have r5:=Kd.R_putg g4.out (f4:Int) (wrap64 ((wrap64 ((wrap64 ((rd e9 f4) - f3)) - (wrap64 (b4 * (rd l1 f4)))))+(wrap64 ((wrap64 (Int.tdiv (wrap64 ((wrap64 ((wrap64 (-(wrap64 ((wrap64 ((rd e9 f4) - f3)) - (wrap64 (b4 * (rd l1 f4)))))))+1000000000)) - 1)) 1000000000)) * 1000000000))));go_wp2_with (first|((with_reducible refine gate_store (t:=3) (p:=47) rfl ?_);refine store_event (t:=3) (p:=47) (v:=?vo_w12) (w1:=(wr.setCell ⟨n6,(f4:Int).toNat,none⟩ (.int .i64 (wrap64 ((wrap64 ((wrap64 ((rd e9 f4) - f3)) - (wrap64 (b4 * (rd l1 f4)))))+(wrap64 ((wrap64 (Int.tdiv (wrap64 ((wrap64 ((wrap64 (-(wrap64 ((wrap64 ((rd e9 f4) - f3)) - (wrap64 (b4 * (rd l1 f4)))))))+1000000000)) - 1)) 1000000000)) * 1000000000))))))) ?hg ?ho ?hn ?hr ?_;(case ho=>rfl);(case hg=>rfl);(case hn=>rfl);(case hr=>first|(go_simp;done)|(go_simp;rfl));intro r6 hw;have hg:wr.grownBy r6 (some n6):=(by rw[hw];exact r5.2);have hp_:Kd.R (Kd.int .i64) 3 r6 b7.heap.size (fun k_=>(a6 k_∨w.heap.size≤k_)) (.slice (some ⟨n6,0,none⟩) e9.length e6) l5:=(by rw[hw,l7.out];exact r5.1);clear r5;replace HK:=aM (Kept.of_grown (S:=(fun k_=>a6 k_)) hg (kK HK) (fun k_ e_=>(g4.out.1 k_ e_)));replace g4:=aM (hp_);replace HB:=aM ((by rw[hw];exact below_set (HB.out) p0.out:Below b7.heap.size b7 r6));clear hg hw hp_))
      (try simp only[← g5])
      go_roundg k1
      case measure=>have:=f9.out;omega
      case rel=>exact⟨(l5),(wrap64 (Int.tdiv (wrap64 ((wrap64 ((wrap64 (-(wrap64 ((wrap64 ((rd e9 f4) - f3)) - (wrap64 (b4 * (rd l1 f4)))))))+1000000000)) - 1)) 1000000000)),(wrap64 (f4+1)),sD,sD,H',⟨by have:=f9.out;omega⟩,⟨by(try simp only[g5]);(with_reducible repeat(first|apply Kd.R_alloc|apply Kd.R_drewN|apply Kd.R_drew));exact g4.out⟩,⟨kK HK⟩,⟨pB⟩⟩
     ·rw[if_neg c9] at H;have j8:decide ((wrap64 ((wrap64 ((rd e9 f4) - f3)) - (wrap64 (b4 * (rd l1 f4))))) < 0)=false:=decide_eq_false c9;have j9:decide ((IntKind.i64.wrap ((IntKind.i64.wrap ((rd e9 f4) - f3)) - (IntKind.i64.wrap (b4 * (rd l1 f4))))) < 0)=false:=by have h_:=j8;first|exact h_|(simp only[i64_w];exact h_)
      clear c9;obtain⟨r7,r8⟩:∃ y_:List Int,y_=(e9.set (f4:Int).toNat (wrap64 ((wrap64 ((rd e9 f4) - f3)) - (wrap64 (b4 * (rd l1 f4)))))):=⟨_,rfl⟩;replace H:(Bzm.l0 k1 r7 l1 b4 0 (l0.length:Int) (wrap64 (f4+1)))=some (b5,b6):=yE r8 H
      have r9:=aM r8;clear r8;have H':=aM H;clear H;obtain⟨l8,l9,m0,m2,m3⟩:=aI (Kd.R_reads' g4.out).2.2 f4;cases l9;obtain⟨m4,m5,m6,m7,m8⟩:=aI (Kd.C_kept_now d7.out HK.out) f4;cases m5;have t6:0≤(f4:Int):=oE aS
      have t7:(f4:Int) < ((e9.length:Int):Int):=oE aS
      obtain⟨t8,z1,z2,z6,z7,z8,B0⟩:=Kd.R_form g4.out (by omega)
      (first|cases z2|(injection z2 with ea_ en_ ec_;(first|subst ea_|(injection ea_ with ea_;subst ea_));subst ec_;clear en_))
      have B5:=aM z6;have B6:=aM B0;clear z6 z7 B0;have HMgo13:=aM (show(a6 t8∨w.heap.size≤t8) from(g4.out.1 _ rfl))
      (first|simp only[add_plain] at m0|skip)
      obtain⟨B8,B9⟩:=Kd.R_celln 0 g4.out (f4:Int) t6 t7;replace t6:=eq_true t6;replace t7:=eq_true t7;have C0:=Kd.R_putg g4.out (f4:Int) (wrap64 ((wrap64 ((rd e9 f4) - f3)) - (wrap64 (b4 * (rd l1 f4)))));go_wp2_with (first|((with_reducible refine gate_store (t:=3) (p:=47) rfl ?_);refine store_event (t:=3) (p:=47) (v:=?vo_w15) (w1:=(wr.setCell ⟨t8,(f4:Int).toNat,none⟩ (.int .i64 (wrap64 ((wrap64 ((rd e9 f4) - f3)) - (wrap64 (b4 * (rd l1 f4)))))))) ?hg ?ho ?hn ?hr ?_;(case ho=>rfl);(case hg=>rfl);(case hn=>rfl);(case hr=>first|(go_simp;done)|(go_simp;rfl));intro C1 hw;have hg:wr.grownBy C1 (some t8):=(by rw[hw];exact C0.2);have hp_:Kd.R (Kd.int .i64) 3 C1 b7.heap.size (fun k_=>(a6 k_∨w.heap.size≤k_)) (.slice (some ⟨t8,0,none⟩) e9.length e6) r7:=(by rw[hw,r9.out];exact C0.1);clear C0;replace HK:=aM (Kept.of_grown (S:=(fun k_=>a6 k_)) hg (kK HK) (fun k_ e_=>(g4.out.1 k_ e_)));replace g4:=aM (hp_);replace HB:=aM ((by rw[hw];exact below_set (HB.out) B5.out:Below b7.heap.size b7 C1));clear hg hw hp_))
      (try simp only[← g5])
      go_roundg k1
      case measure=>have:=f9.out;omega
      case rel=>exact⟨(r7),(0),(wrap64 (f4+1)),sD,sD,H',⟨by have:=f9.out;omega⟩,⟨by(try simp only[g5]);(with_reducible repeat(first|apply Kd.R_alloc|apply Kd.R_drewN|apply Kd.R_drew));exact g4.out⟩,⟨kK HK⟩,⟨pB⟩⟩
    ·rw[if_neg c8] at H;have j6:decide (f4 < (l1.length:Int))=false:=decide_eq_false c8;have j7:=j6;(try simp only[g5] at j7)
     clear c8;by_cases C2:(wrap64 ((rd e9 f4) - f3)) < 0
     ·rw[if_pos C2] at H;have C3:decide ((wrap64 ((rd e9 f4) - f3)) < 0)=true:=dE C2;have C4:decide ((IntKind.i64.wrap ((rd e9 f4) - f3)) < 0)=true:=by have h_:=C3;first|exact h_|(simp only[i64_w];exact h_)
      clear C2;obtain⟨C6,C7⟩:∃ y_:List Int,y_=(e9.set (f4:Int).toNat (wrap64 ((wrap64 ((rd e9 f4) - f3))+(wrap64 ((wrap64 (Int.tdiv (wrap64 ((wrap64 ((wrap64 (-(wrap64 ((rd e9 f4) - f3))))+1000000000)) - 1)) 1000000000)) * 1000000000))))):=⟨_,rfl⟩;replace H:(Bzm.l0 k1 C6 l1 b4 (wrap64 (Int.tdiv (wrap64 ((wrap64 ((wrap64 (-(wrap64 ((rd e9 f4) - f3))))+1000000000)) - 1)) 1000000000)) (l0.length:Int) (wrap64 (f4+1)))=some (b5,b6):=yE C7 H
      have C8:=aM C7;clear C7;have H':=aM H;clear H;obtain⟨l8,l9,m0,m2,m3⟩:=aI (Kd.R_reads' g4.out).2.2 f4;cases l9;have C9:0≤(f4:Int):=oE aS
      have D0:(f4:Int) < ((e9.length:Int):Int):=oE aS
      obtain⟨D1,D2,D3,D4,D5,D6,D7⟩:=Kd.R_form g4.out (by omega)
      (first|cases D3|(injection D3 with ea_ en_ ec_;(first|subst ea_|(injection ea_ with ea_;subst ea_));subst ec_;clear en_))
      have D8:=aM D4;have D9:=aM D7;clear D4 D5 D7;have HMgo17:=aM (show(a6 D1∨w.heap.size≤D1) from(g4.out.1 _ rfl))
      (first|simp only[add_plain] at m0|skip)
      obtain⟨E0,E1⟩:=Kd.R_celln 0 g4.out (f4:Int) C9 D0;replace C9:=eq_true C9;replace D0:=eq_true D0;have E2:=Kd.R_putg g4.out (f4:Int) (wrap64 ((wrap64 ((rd e9 f4) - f3))+(wrap64 ((wrap64 (Int.tdiv (wrap64 ((wrap64 ((wrap64 (-(wrap64 ((rd e9 f4) - f3))))+1000000000)) - 1)) 1000000000)) * 1000000000))));go_wp2_with (first|((with_reducible refine gate_store (t:=3) (p:=47) rfl ?_);refine store_event (t:=3) (p:=47) (v:=?vo_w19) (w1:=(wr.setCell ⟨D1,(f4:Int).toNat,none⟩ (.int .i64 (wrap64 ((wrap64 ((rd e9 f4) - f3))+(wrap64 ((wrap64 (Int.tdiv (wrap64 ((wrap64 ((wrap64 (-(wrap64 ((rd e9 f4) - f3))))+1000000000)) - 1)) 1000000000)) * 1000000000))))))) ?hg ?ho ?hn ?hr ?_;(case ho=>rfl);(case hg=>rfl);(case hn=>rfl);(case hr=>first|(go_simp;done)|(go_simp;rfl));intro E3 hw;have hg:wr.grownBy E3 (some D1):=(by rw[hw];exact E2.2);have hp_:Kd.R (Kd.int .i64) 3 E3 b7.heap.size (fun k_=>(a6 k_∨w.heap.size≤k_)) (.slice (some ⟨D1,0,none⟩) e9.length e6) C6:=(by rw[hw,C8.out];exact E2.1);clear E2;replace HK:=aM (Kept.of_grown (S:=(fun k_=>a6 k_)) hg (kK HK) (fun k_ e_=>(g4.out.1 k_ e_)));replace g4:=aM (hp_);replace HB:=aM ((by rw[hw];exact below_set (HB.out) D8.out:Below b7.heap.size b7 E3));clear hg hw hp_))
      (try simp only[← g5])
      go_roundg k1
      case measure=>have:=f9.out;omega
      case rel=>exact⟨(C6),(wrap64 (Int.tdiv (wrap64 ((wrap64 ((wrap64 (-(wrap64 ((rd e9 f4) - f3))))+1000000000)) - 1)) 1000000000)),(wrap64 (f4+1)),sD,sD,H',⟨by have:=f9.out;omega⟩,⟨by(try simp only[g5]);(with_reducible repeat(first|apply Kd.R_alloc|apply Kd.R_drewN|apply Kd.R_drew));exact g4.out⟩,⟨kK HK⟩,⟨pB⟩⟩
     ·rw[if_neg C2] at H;have C3:decide ((wrap64 ((rd e9 f4) - f3)) < 0)=false:=decide_eq_false C2;have C4:decide ((IntKind.i64.wrap ((rd e9 f4) - f3)) < 0)=false:=by have h_:=C3;first|exact h_|(simp only[i64_w];exact h_)
      clear C2;obtain⟨E4,E5⟩:∃ y_:List Int,y_=(e9.set (f4:Int).toNat (wrap64 ((rd e9 f4) - f3))):=⟨_,rfl⟩;replace H:(Bzm.l0 k1 E4 l1 b4 0 (l0.length:Int) (wrap64 (f4+1)))=some (b5,b6):=yE E5 H
      have E6:=aM E5;clear E5;have H':=aM H;clear H;obtain⟨l8,l9,m0,m2,m3⟩:=aI (Kd.R_reads' g4.out).2.2 f4;cases l9;have E7:0≤(f4:Int):=oE aS
      have E8:(f4:Int) < ((e9.length:Int):Int):=oE aS
      obtain⟨E9,F0,F1,F2,F3,F4,F5⟩:=Kd.R_form g4.out (by omega)
      (first|cases F1|(injection F1 with ea_ en_ ec_;(first|subst ea_|(injection ea_ with ea_;subst ea_));subst ec_;clear en_))
      have F6:=aM F2;have F7:=aM F5;clear F2 F3 F5;have HMgo20:=aM (show(a6 E9∨w.heap.size≤E9) from(g4.out.1 _ rfl))
      (first|simp only[add_plain] at m0|skip)
      obtain⟨F8,F9⟩:=Kd.R_celln 0 g4.out (f4:Int) E7 E8;replace E7:=eq_true E7;replace E8:=eq_true E8;have G0:=Kd.R_putg g4.out (f4:Int) (wrap64 ((rd e9 f4) - f3));go_wp2_with (first|((with_reducible refine gate_store (t:=3) (p:=47) rfl ?_);refine store_event (t:=3) (p:=47) (v:=?vo_w22) (w1:=(wr.setCell ⟨E9,(f4:Int).toNat,none⟩ (.int .i64 (wrap64 ((rd e9 f4) - f3))))) ?hg ?ho ?hn ?hr ?_;(case ho=>rfl);(case hg=>rfl);(case hn=>rfl);(case hr=>first|(go_simp;done)|(go_simp;rfl));intro G4 hw;have hg:wr.grownBy G4 (some E9):=(by rw[hw];exact G0.2);have hp_:Kd.R (Kd.int .i64) 3 G4 b7.heap.size (fun k_=>(a6 k_∨w.heap.size≤k_)) (.slice (some ⟨E9,0,none⟩) e9.length e6) E4:=(by rw[hw,E6.out];exact G0.1);clear G0;replace HK:=aM (Kept.of_grown (S:=(fun k_=>a6 k_)) hg (kK HK) (fun k_ e_=>(g4.out.1 k_ e_)));replace g4:=aM (hp_);replace HB:=aM ((by rw[hw];exact below_set (HB.out) F6.out:Below b7.heap.size b7 G4));clear hg hw hp_))
      (try simp only[← g5])
      go_roundg k1
      case measure=>have:=f9.out;omega
      case rel=>exact⟨(E4),(0),(wrap64 (f4+1)),sD,sD,H',⟨by have:=f9.out;omega⟩,⟨by(try simp only[g5]);(with_reducible repeat(first|apply Kd.R_alloc|apply Kd.R_drewN|apply Kd.R_drew));exact g4.out⟩,⟨kK HK⟩,⟨pB⟩⟩
   ·rw[if_neg c5] at H;have g6:decide (f4 < (l0.length:Int))=false:=decide_eq_false c5;have g7:=g6;(try simp only[g5] at g7)
    clear c5;obtain⟨rfl,rfl⟩:=q2 H;go_wp2
    go_ret
    exact⟨eW,(by first|exact(rX g4.out)|(simp only[g5];exact(rX g4.out))),pB,kK HK⟩


def Czj.l0:Nat→List Int→List Int→Int→Int→Int→Option (List Int)
 | 0,_,_,_,_,_=>none
 | k+1,x0,x1,x4,x8,x9=>if x9 < x8 then(if 0≤x9 then(if x9 < (x0.length:Int) then(if x9 < (x1.length:Int) then(Czj.l0 k (x0.set (x9:Int).toNat (Int.tmod (wrap64 ((wrap64 ((rd x0 x9)+x4))+(rd x1 x9))) 1000000000)) x1 (wrap64 (Int.tdiv (wrap64 ((wrap64 ((rd x0 x9)+x4))+(rd x1 x9))) 1000000000)) x8 (wrap64 (x9+1))) else(Czj.l0 k (x0.set (x9:Int).toNat (Int.tmod (wrap64 ((rd x0 x9)+x4)) 1000000000)) x1 (wrap64 (Int.tdiv (wrap64 ((rd x0 x9)+x4)) 1000000000)) x8 (wrap64 (x9+1)))) else(none)) else(none)) else(some x0)
def Czj.f (k:Nat) (l0:List Int) (l1:List Int):Option (List Int):=Czj.l0 k l0 l1 0 (l0.length:Int) 0
theorem Czj.mono_l:∀ k,(∀ a6 a7 a8 b4 b5,LeO (Czj.l0 k a6 a7 a8 b4 b5) (Czj.l0 (k+1) a6 a7 a8 b4 b5))
 | 0=>fun _ _ _ _ _ r h=>by simp [Czj.l0] at h
 | k+1=>by
  have ih0:=Czj.mono_l k
  ·intro a6 a7 a8 b4 b5;unfold Czj.l0;exact mM
theorem Czj.mono:∀ a6 a7 k,LeO (Czj.f k a6 a7) (Czj.f (k+1) a6 a7):=by
 intro a6 a7 k;have ih0:=Czj.mono_l k;unfold Czj.f;exact mM
theorem Czj.calls (k:Nat) (a6:Nat→Prop) (u9000_:Value) (l0:List Int) (a7:Option Addr) (a8:Nat) (l1:List Int) (r:List Int) (b4 w:World) (hB:Below b4.heap.size b4 w) (b5:Kd.R (Kd.int .i64) 3 w b4.heap.size a6 u9000_ l0) (b6:∀ W_,Kept w W_ (fun k_=>a6 k_)→Kd.C (Kd.int .i64) W_ a7 l1.length l1) (b7:l1.length≤a8) (h:Czj.f k l0 l1=some r) :
  Calls Try.prog 102 #[u9000_,.slice a7 l1.length a8] w fun e w'=>e=.returned (.tuple #[])∧Kd.R (Kd.int .i64) 3 w' b4.heap.size (fun k_=>(a6 k_∨w.heap.size≤k_)) u9000_ r∧Below b4.heap.size b4 w'∧Kept w w' (fun k_=>a6 k_):=by
 have b8:=aM (show Kd.R (Kd.int .i64) 3 w b4.heap.size (fun k_=>(a6 k_∨w.heap.size≤k_)) u9000_ l0 from Kd.R_mono b5 (fun k_ hk=>(.inl hk)))
 have b9:=aM b6;have d0:=aM b7;clear b6 b7;have HK:=aM (Kept.refl w (fun k_=>a6 k_))
 have HW0:=aM hB.size;have HB:=aM hB;clear hB;have H:(Czj.l0 k l0 l1 0 (l0.length:Int) 0)=some r:=h;clear h;have H':=aM H;clear H;obtain⟨d6,d7,rfl⟩:=Kd.R_slice b8.out;go_enter Try.func102,Try.ntmps102
 go_wp2
 go_loopg [4,9] k (fun kq d8 d9 w'=>∃ (e6:List Int) (e7:Int) (e8:Int),d8=.int .i64 e7∧d9=.int .i64 e8∧Aside0 (Czj.l0 kq e6 l1 e7 (l0.length:Int) e8=some r)∧Aside0 (kq≤k)∧Aside0 (Kd.R (Kd.int .i64) 3 w' b4.heap.size (fun k_=>(a6 k_∨w.heap.size≤k_)) (.slice d6 l0.length d7) e6)∧Aside0 (Kept w w' (fun k_=>a6 k_))∧Aside0 (Below b4.heap.size b4 w'))
 case atStart=>exact⟨(l0),(0),(0),sD,sD,H',⟨Nat.le_refl _⟩,⟨rX b8.out⟩,⟨kK HK⟩,⟨pB⟩⟩
 case round =>
  clear H';try clear a8
  try clear e9
  obtain⟨e6,e7,e8,rfl,rfl,HA,f3,f4,HK,HB⟩:=hrel;have f6:=(Kd.R_reads' f4.out).1;rw[f6] at f4;(try simp only[f6])
  cases gk with
  | zero=>exact absurd HA.out (by simp [Czj.l0])
  | succ k1 =>
   have H:=HA.out;clear HA;simp only[Czj.l0] at H;by_cases c4:e8 < (l0.length:Int)
   ·rw[if_pos c4] at H;have f9:=dE c4;have g4:=f9;(try simp only[f6] at g4)
    clear c4;obtain⟨g5,H⟩:=iN H;obtain⟨c6,H⟩:=iO H;have g6:decide (e8 < (e6.length:Int))=true:=dE c6;have g7:=g6;(try simp only[f6] at g7)
    clear c6;by_cases c7:e8 < (l1.length:Int)
    ·rw[if_pos c7] at H;have g8:=dE c7;have g9:=g8;(try simp only[f6] at g9)
     clear c7;obtain⟨j5,j6⟩:∃ y_:List Int,y_=(e6.set (e8:Int).toNat (Int.tmod (wrap64 ((wrap64 ((rd e6 e8)+e7))+(rd l1 e8))) 1000000000)):=⟨_,rfl⟩;replace H:(Czj.l0 k1 j5 l1 (wrap64 (Int.tdiv (wrap64 ((wrap64 ((rd e6 e8)+e7))+(rd l1 e8))) 1000000000)) (l0.length:Int) (wrap64 (e8+1)))=some r:=yE j6 H
     have j7:=aM j6;clear j6;have H':=aM H;clear H;obtain⟨j8,j9,l5,l6,l7⟩:=aI (Kd.R_reads' f4.out).2.2 e8;cases j9;obtain⟨l8,l9,m0,m2,m3⟩:=aI (Kd.C_kept_now b9.out HK.out) e8;cases l9;have m4:0≤(e8:Int):=oE aS
     have q8:(e8:Int) < ((e6.length:Int):Int):=oE aS
     obtain⟨m5,m6,m7,m8,m9,n0,n6⟩:=Kd.R_form f4.out (by omega)
     (first|cases m7|(injection m7 with ea_ en_ ec_;(first|subst ea_|(injection ea_ with ea_;subst ea_));subst ec_;clear en_))
     have n7:=aM m8;have n8:=aM n6;clear m8 m9 n6;have HMgo8:=aM (show(a6 m5∨w.heap.size≤m5) from(f4.out.1 _ rfl))
     (first|simp only[add_plain] at l5|skip)
     obtain⟨n9,o0⟩:=Kd.R_celln 0 f4.out (e8:Int) m4 q8;replace m4:=eq_true m4;replace q8:=eq_true q8;have o8:=Kd.R_putg f4.out (e8:Int) (Int.tmod (wrap64 ((wrap64 ((rd e6 e8)+e7))+(rd l1 e8))) 1000000000);go_wp2_with (first|((with_reducible refine gate_store (t:=3) (p:=34) rfl ?_);refine store_event (t:=3) (p:=34) (v:=?vo_w10) (w1:=(wr.setCell ⟨m5,(e8:Int).toNat,none⟩ (.int .i64 (Int.tmod (wrap64 ((wrap64 ((rd e6 e8)+e7))+(rd l1 e8))) 1000000000)))) ?hg ?ho ?hn ?hr ?_;(case ho=>rfl);(case hg=>rfl);(case hn=>rfl);(case hr=>first|(go_simp;done)|(go_simp;rfl));intro o9 hw;have hg:wr.grownBy o9 (some m5):=(by rw[hw];exact o8.2);have hp_:Kd.R (Kd.int .i64) 3 o9 b4.heap.size (fun k_=>(a6 k_∨w.heap.size≤k_)) (.slice (some ⟨m5,0,none⟩) e6.length d7) j5:=(by rw[hw,j7.out];exact o8.1);clear o8;replace HK:=aM (Kept.of_grown (S:=(fun k_=>a6 k_)) hg (kK HK) (fun k_ e_=>(f4.out.1 k_ e_)));replace f4:=aM (hp_);replace HB:=aM ((by rw[hw];exact below_set (HB.out) n7.out:Below b4.heap.size b4 o9));clear hg hw hp_))
     (try simp only[← f6])
     go_roundg k1
     case measure=>have:=f3.out;omega
     case rel=>exact⟨(j5),(wrap64 (Int.tdiv (wrap64 ((wrap64 ((rd e6 e8)+e7))+(rd l1 e8))) 1000000000)),(wrap64 (e8+1)),sD,sD,H',⟨by have:=f3.out;omega⟩,⟨by(try simp only[f6]);(with_reducible repeat(first|apply Kd.R_alloc|apply Kd.R_drewN|apply Kd.R_drew));exact f4.out⟩,⟨kK HK⟩,⟨pB⟩⟩
    ·rw[if_neg c7] at H;have g8:decide (e8 < (l1.length:Int))=false:=decide_eq_false c7;have g9:=g8;(try simp only[f6] at g9)
     clear c7;obtain⟨p0,p4⟩:∃ y_:List Int,y_=(e6.set (e8:Int).toNat (Int.tmod (wrap64 ((rd e6 e8)+e7)) 1000000000)):=⟨_,rfl⟩;replace H:(Czj.l0 k1 p0 l1 (wrap64 (Int.tdiv (wrap64 ((rd e6 e8)+e7)) 1000000000)) (l0.length:Int) (wrap64 (e8+1)))=some r:=yE p4 H
     have p5:=aM p4;clear p4;have H':=aM H;clear H;obtain⟨j8,j9,l5,l6,l7⟩:=aI (Kd.R_reads' f4.out).2.2 e8;cases j9;have p9:0≤(e8:Int):=oE aS
     have r5:(e8:Int) < ((e6.length:Int):Int):=oE aS
     obtain⟨r6,r7,r8,r9,t6,t7,t8⟩:=Kd.R_form f4.out (by omega)
     (first|cases r8|(injection r8 with ea_ en_ ec_;(first|subst ea_|(injection ea_ with ea_;subst ea_));subst ec_;clear en_))
     have z1:=aM r9;have z2:=aM t8;clear r9 t6 t8;have HMgo11:=aM (show(a6 r6∨w.heap.size≤r6) from(f4.out.1 _ rfl))
     (first|simp only[add_plain] at l5|skip)
     obtain⟨z6,z7⟩:=Kd.R_celln 0 f4.out (e8:Int) p9 r5;replace p9:=eq_true p9;replace r5:=eq_true r5;have z8:=Kd.R_putg f4.out (e8:Int) (Int.tmod (wrap64 ((rd e6 e8)+e7)) 1000000000);go_wp2_with (first|((with_reducible refine gate_store (t:=3) (p:=34) rfl ?_);refine store_event (t:=3) (p:=34) (v:=?vo_w13) (w1:=(wr.setCell ⟨r6,(e8:Int).toNat,none⟩ (.int .i64 (Int.tmod (wrap64 ((rd e6 e8)+e7)) 1000000000)))) ?hg ?ho ?hn ?hr ?_;(case ho=>rfl);(case hg=>rfl);(case hn=>rfl);(case hr=>first|(go_simp;done)|(go_simp;rfl));intro B0 hw;have hg:wr.grownBy B0 (some r6):=(by rw[hw];exact z8.2);have hp_:Kd.R (Kd.int .i64) 3 B0 b4.heap.size (fun k_=>(a6 k_∨w.heap.size≤k_)) (.slice (some ⟨r6,0,none⟩) e6.length d7) p0:=(by rw[hw,p5.out];exact z8.1);clear z8;replace HK:=aM (Kept.of_grown (S:=(fun k_=>a6 k_)) hg (kK HK) (fun k_ e_=>(f4.out.1 k_ e_)));replace f4:=aM (hp_);replace HB:=aM ((by rw[hw];exact below_set (HB.out) z1.out:Below b4.heap.size b4 B0));clear hg hw hp_))
     (try simp only[← f6])
     go_roundg k1
     case measure=>have:=f3.out;omega
     case rel=>exact⟨(p0),(wrap64 (Int.tdiv (wrap64 ((rd e6 e8)+e7)) 1000000000)),(wrap64 (e8+1)),sD,sD,H',⟨by have:=f3.out;omega⟩,⟨by(try simp only[f6]);(with_reducible repeat(first|apply Kd.R_alloc|apply Kd.R_drewN|apply Kd.R_drew));exact f4.out⟩,⟨kK HK⟩,⟨pB⟩⟩
   ·rw[if_neg c4] at H;have f9:decide (e8 < (l0.length:Int))=false:=decide_eq_false c4;have g4:=f9;(try simp only[f6] at g4)
    clear c4;obtain rfl:=Option.some.inj H;go_wp2
    first|go_end0|((try simp only[Exit.inBlock,Exit.then]);refine bodyPost_ret (results_none rfl _ _ _) rfl ?_)
    exact⟨eW,(by first|exact(rX f4.out)|(simp only[f6];exact(rX f4.out))),pB,kK HK⟩

end Go.Proofs.Ytokkiljkgejnhaa.Print
