import Derived.Test.YtokkiljkgejnhaaPrint0
import Derived.Test.YtokkiljkgejnhaaPrint13
import Derived.Test.YtokkiljkgejnhaaPrint15
import Derived.Test.YtokkiljkgejnhaaPrint22
namespace Go.Proofs.Ytokkiljkgejnhaa.Print
open Go.RowKit Go.Proofs.YtokkiljkgejnhaaW.PrintWords Go.Proofs.YtokkiljkgejnhaaW.PrintLast Go.Proofs.YtokkiljkgejnhaaW.PrintMore
attribute [local go_sem] max2_int min2_int max_two min_two max_three min_three max_four min_four
set_option linter.unusedVariables false
set_option maxRecDepth 100000
set_option maxHeartbeats 8000000
set_option linter.unusedSimpArgs false

mutual
def Bzj.j0:Nat→List Int→List Int→Bool→Option (List Int × Int)
 | 0,_,_,_=>none
 | k+1,x0,x1,x17=>if x17=true then(some (([]:List Int),3)) else(Bzj.l0 k x0 x1)
def Bzj.j2:Nat→List Int→List Int→Option (List Int × Int)
 | 0,_,_=>none
 | k+1,x0,x1=>if(x1.length:Int)=0 then((Ezk.f x0 (x0.length:Int)).bind fun t365=>((Azp.f k t365).bind fun t368=>(some (t368,0)))) else((Czw.f k x0).bind fun t371=>((Czw.f k x1).bind fun t372=>(Bzj.l1 k t371 t372)))
def Bzj.l1:Nat→Int→Int→Option (List Int × Int)
 | 0,_,_=>none
 | k+1,x8,x9=>if x9 > 0 then(if x9=0 then(none) else(Bzj.l1 k x9 (Int.tmod x8 x9))) else((Dzv.f k x8).bind fun bt373=>(some (bt373.1,bt373.2)))
def Bzj.l0:Nat→List Int→List Int→Option (List Int × Int)
 | 0,_,_=>none
 | k+1,x0,x1=>if(x1.length:Int) > 0 then(if(x0.length:Int) > 2 then((Czf.f k x0 x1).bind fun bt353=>(Bzj.l0 k x1 bt353.2)) else(if(x1.length:Int) > 2 then((Czf.f k x0 x1).bind fun bt359=>(Bzj.l0 k x1 bt359.2)) else(Bzj.j2 k x0 x1))) else(Bzj.j2 k x0 x1)
end
def Bzj.f (k:Nat) (l0:List Int) (l1:List Int):Option (List Int × Int):=(Azq.f k l0).bind fun t351=>(if t351=true then((Azq.f k l1).bind fun t352=>(Bzj.j0 k l0 l1 (!t352))) else(Bzj.j0 k l0 l1 true))
theorem Bzj.mono_l:∀ k,(∀ a6 a7 a8,LeO (Bzj.j0 k a6 a7 a8) (Bzj.j0 (k+1) a6 a7 a8))∧(∀ a6 a7,LeO (Bzj.j2 k a6 a7) (Bzj.j2 (k+1) a6 a7))∧(∀ a6 a7,LeO (Bzj.l1 k a6 a7) (Bzj.l1 (k+1) a6 a7))∧(∀ a6 a7,LeO (Bzj.l0 k a6 a7) (Bzj.l0 (k+1) a6 a7))
 | 0=>⟨fun _ _ _ r h=>by simp [Bzj.j0] at h,fun _ _ r h=>by simp [Bzj.j2] at h,fun _ _ r h=>by simp [Bzj.l1] at h,fun _ _ r h=>by simp [Bzj.l0] at h⟩
 | k+1=>by
  obtain⟨ih0,ih1,ih2,ih3⟩:=Bzj.mono_l k;have i0:=@Dzv.mono;have i1:=@Azq.mono;have i2:=@Czf.mono;have i3:=@Czw.mono;have i4:=@Azp.mono;refine⟨?_,?_,?_,?_⟩
  ·intro a6 a7 a8;unfold Bzj.j0;exact mM
  ·intro a6 a7;unfold Bzj.j2;exact mM
  ·intro a6 a7;unfold Bzj.l1;exact mM
  ·intro a6 a7;unfold Bzj.l0;exact mM
theorem Bzj.mono:∀ a6 a7 k,LeO (Bzj.f k a6 a7) (Bzj.f (k+1) a6 a7):=by
 intro a6 a7 k;obtain⟨ih0,ih1,ih2,ih3⟩:=Bzj.mono_l k;unfold Bzj.f;have i0:=@Dzv.mono;have i1:=@Azq.mono;have i2:=@Czf.mono;have i3:=@Czw.mono;have i4:=@Azp.mono;exact mM
theorem Bzj.calls (k:Nat) (a6:Nat→Prop) (a7:Option Addr) (a8:Nat) (l0:List Int) (b4:Nat→Prop) (b5:Option Addr) (b6:Nat) (l1:List Int) (b7:List Int) (b8:Int) (w:World) (b9:Kd.V (Kd.int .i64) 3 w w.heap.size (fun k_=>a6 k_) (.slice a7 l0.length a8) l0) (d0:Kd.V (Kd.int .i64) 3 w w.heap.size (fun k_=>b4 k_) (.slice b5 l1.length b6) l1) (h:Bzj.f k l0 l1=some (b7,b8)) :
  Calls Try.prog 66 #[.slice a7 l0.length a8,.slice b5 l1.length b6] w fun e w'=>∃ v0_:Value,e=.returned (.tuple #[v0_,.int .i64 b8])∧Kd.R (Kd.int .i64) 3 w' w.heap.size (fun k_=>(w.heap.size≤k_)) v0_ b7∧Below w.heap.size w w':=by
 have d6:=aM (show Kd.V (Kd.int .i64) 3 w w.heap.size (fun k_=>((a6 k_∨b4 k_)∨w.heap.size≤k_)) (.slice a7 l0.length a8) l0 from Kd.V_mono b9 (fun k_ hk=>.inl (.inl hk)))
 have d7:=aM (show Kd.V (Kd.int .i64) 3 w w.heap.size (fun k_=>((a6 k_∨b4 k_)∨w.heap.size≤k_)) (.slice b5 l1.length b6) l1 from Kd.V_mono d0 (fun k_ hk=>.inl (.inr hk)))
 have HB:=aM (Below.refl w.heap.size w);have H:((Azq.f k l0).bind fun d8=>(if d8=true then((Azq.f k l1).bind fun d9=>(Bzj.j0 k l0 l1 (!d9))) else(Bzj.j0 k l0 l1 true)))=some (b7,b8):=h
 clear h;have e6:=aM H;clear H;go_enter Try.func66,Try.ntmps66
 go_upto_region 1 with (fail)
 repeat(go_quiet (fail);go_upto_region 1 with (fail))
 go_cut [17] (fun e7 wc=>∃ (kq:Nat) (e8:Bool),e7=.bool e8∧Aside0 (Bzj.j0 kq l0 l1 e8=some (b7,b8))∧Aside0 (kq≤k)∧Aside0 (Kd.V (Kd.int .i64) 3 wc w.heap.size (fun k_=>((a6 k_∨b4 k_)∨w.heap.size≤k_)) (.slice a7 l0.length a8) l0)∧Aside0 (Kd.V (Kd.int .i64) 3 wc w.heap.size (fun k_=>((a6 k_∨b4 k_)∨w.heap.size≤k_)) (.slice b5 l1.length b6) l1)∧Aside0 (Below w.heap.size w wc))
 case first =>
  have H:=e6.out;clear e6;obtain⟨d8,e9,H⟩:=bT H;(try dsimp only at H);by_cases c5:d8=true
  ·subst c5;rw[if_pos rfl] at H;obtain⟨d9,f3,H⟩:=bT H;(try dsimp only at H);have H':=aM H;clear H;have fl_:True:=trivial;repeat((first|clear fl_|go_quiet (first|(go_at_call 65;(with_reducible refine(Azq.calls k _ _ l0 true _ ?_ ?_ e9.out).mono ?_);exact cV d6;exact lV d6;rintro e w' ⟨rfl,⟨nd,rfl⟩⟩;(try exact dD))|(go_at_call 65;(with_reducible refine(Azq.calls k _ _ l1 d9 _ ?_ ?_ f3.out).mono ?_);exact cV d7;exact lV d7;rintro e w' ⟨rfl,⟨nd,rfl⟩⟩;(try exact dD))));go_wp2_with (first|(go_at_call 65;(with_reducible refine(Azq.calls k _ _ l0 true _ ?_ ?_ e9.out).mono ?_);exact cV d6;exact lV d6;rintro e w' ⟨rfl,⟨nd,rfl⟩⟩;(try exact dD))|(go_at_call 65;(with_reducible refine(Azq.calls k _ _ l1 d9 _ ?_ ?_ f3.out).mono ?_);exact cV d7;exact lV d7;rintro e w' ⟨rfl,⟨nd,rfl⟩⟩;(try exact dD))))
   go_meet
   case rel=>exact⟨_,(!d9),sD,H',⟨by first|omega|exact Nat.le_refl _⟩,⟨vX d6.out⟩,⟨vX d7.out⟩,⟨pB⟩⟩
  ·obtain rfl:=bN c5;rw[if_neg nF] at H
   have H':=aM H;clear H;have fl_:True:=trivial;repeat((first|clear fl_|go_quiet (first|(go_at_call 65;(with_reducible refine(Azq.calls k _ _ l0 false _ ?_ ?_ e9.out).mono ?_);exact cV d6;exact lV d6;rintro e w' ⟨rfl,⟨nd,rfl⟩⟩;(try exact dD))));go_wp2_with (first|(go_at_call 65;(with_reducible refine(Azq.calls k _ _ l0 false _ ?_ ?_ e9.out).mono ?_);exact cV d6;exact lV d6;rintro e w' ⟨rfl,⟨nd,rfl⟩⟩;(try exact dD))))
   go_meet
   case rel=>exact⟨_,(true),sD,H',⟨by first|omega|exact Nat.le_refl _⟩,⟨vX d6.out⟩,⟨vX d7.out⟩,⟨pB⟩⟩
 case rest =>
  clear e6;try clear b6
  try clear f4
  try clear c5
  try clear c6
  obtain⟨kq,e8,rfl,HA,f6,f9,g4,HB⟩:=hcut;cases kq with
  | zero=>exact absurd HA.out (by simp [Bzj.j0])
  | succ g5 =>
   have H:=HA.out;clear HA;simp only[Bzj.j0] at H;by_cases c7:e8=true
   ·subst c7;rw[if_pos rfl] at H;obtain⟨rfl,rfl⟩:=q2 H;go_wp2
    repeat(go_quiet (fail);try go_wp2)
    go_ret2
    exact⟨_,eW,nK,pB⟩
   ·obtain rfl:=bN c7;rw[if_neg nF] at H
    have g6:=aM H;clear H;go_upto_block 0 with (fail)
    repeat(go_quiet (fail);go_upto_block 0 with (fail))
    go_cut [0,1] (fun g7 g8 wc=>∃ (kq:Nat) (g9:List Int) (j5:List Int),Aside0 (Bzj.j2 kq g9 j5=some (b7,b8))∧Aside0 (kq≤g5)∧Aside0 (Kd.V (Kd.int .i64) 3 wc w.heap.size (fun k_=>((a6 k_∨b4 k_)∨w.heap.size≤k_)) g7 g9)∧Aside0 (Kd.V (Kd.int .i64) 3 wc w.heap.size (fun k_=>((a6 k_∨b4 k_)∨w.heap.size≤k_)) g8 j5)∧Aside0 (Below w.heap.size w wc))
    case first =>
     have H:=g6.out;clear g6;have H':=aM H;clear H;go_wp2
     repeat(go_quiet (fail);try go_wp2)
     go_loopg [0,1] g5 (fun kq g7 g8 w'=>∃ (j6:List Int) (j7:List Int),Aside0 (Bzj.l0 kq j6 j7=some (b7,b8))∧Aside0 (kq≤g5)∧Aside0 (Kd.V (Kd.int .i64) 3 w' w.heap.size (fun k_=>((a6 k_∨b4 k_)∨w.heap.size≤k_)) g7 j6)∧Aside0 (Kd.V (Kd.int .i64) 3 w' w.heap.size (fun k_=>((a6 k_∨b4 k_)∨w.heap.size≤k_)) g8 j7)∧Aside0 (Below w.heap.size w w'))
     case atStart=>exact⟨(l0),(l1),H',⟨Nat.le_refl _⟩,⟨vX f9.out⟩,⟨vX g4.out⟩,⟨pB⟩⟩
     case round =>
      clear H';try clear b6
      try clear f4
      try clear c5
      try clear c6
      try clear c7
      try clear f4
      obtain⟨j6,j7,HA,j8,f9,g4,HB⟩:=hrel;cases gk with
      | zero=>exact absurd HA.out (by simp [Bzj.l0])
      | succ k2 =>
       have H:=HA.out;clear HA;simp only[Bzj.l0] at H;by_cases c9:(j7.length:Int) > 0
       ·rw[if_pos c9] at H;have j9:decide (0 < (j7.length:Int))=true:=dE c9;have l5:decide (0 < j7.length)=true:=dE (by omega)
        clear c9;(first|rw[j9]|(simp only[i64_w,i32_w];rw[j9])|skip)
        by_cases c10:(j6.length:Int) > 2
        ·rw[if_pos c10] at H;have l6:decide (2 < (j6.length:Int))=true:=dE c10;have l7:decide (2 < j6.length)=true:=dE (by omega)
         clear c10;obtain⟨⟨l8,l9⟩,m0,H⟩:=bT H;(try dsimp only at H);have H':=aM H;clear H;obtain⟨m2,m3,m4⟩:=Kd.V_slice g4.out;subst m4;obtain⟨m5,m6,m7⟩:=Kd.V_slice f9.out;subst m7;have fl_:True:=trivial;repeat((first|clear fl_|go_quiet (first|(go_at_call 78;(with_reducible refine(Czf.calls k2 _ _ j6 _ _ j7 l8 l9 _ ?_ ?_ ?_ ?_ m0.out).mono ?_);exact cV f9;exact lV f9;exact cV g4;exact lV g4;rintro e m8 ⟨m9,n0,rfl,n6,n7,hb⟩;have n8:=rL (Kd.R_newM (M:=fun k_=>(w.heap.size≤k_)) n6 (below_size pB) (fun k_ h_=>h_));have n9:=rL (Kd.R_newM (M:=fun k_=>(w.heap.size≤k_)) n7 (below_size pB) (fun k_ h_=>h_));replace f9:=vO f9 hb n6 n7;replace g4:=vO g4 hb n6 n7;replace HB:=bB hb;clear hb n6 n7)));go_wp2_with (first|(go_at_call 78;(with_reducible refine(Czf.calls k2 _ _ j6 _ _ j7 l8 l9 _ ?_ ?_ ?_ ?_ m0.out).mono ?_);exact cV f9;exact lV f9;exact cV g4;exact lV g4;rintro e m8 ⟨m9,n0,rfl,n6,n7,hb⟩;have n8:=rL (Kd.R_newM (M:=fun k_=>(w.heap.size≤k_)) n6 (below_size pB) (fun k_ h_=>h_));have n9:=rL (Kd.R_newM (M:=fun k_=>(w.heap.size≤k_)) n7 (below_size pB) (fun k_ h_=>h_));replace f9:=vO f9 hb n6 n7;replace g4:=vO g4 hb n6 n7;replace HB:=bB hb;clear hb n6 n7)))
         go_roundg k2
         case measure=>have:=f6.out;have:=j8.out;omega
         case rel=>exact⟨(j7),(l9),H',⟨by have:=f6.out;have:=j8.out;omega⟩,⟨by exact vX (Kd.V_mono g4.out (fun _ hk=>hk.1.1))⟩,⟨Kd.V_mono (Kd.R_V (rX (Kd.R_mono n9.out (fun _ hk=>hk.1)))) (fun k_ hk=>by first|exact⟨(.inr (hk.1)),hk.2⟩|exact(.inr (hk)))⟩,⟨pB⟩⟩
        ·rw[if_neg c10] at H;have l6:decide (2 < (j6.length:Int))=false:=decide_eq_false c10;have l7:decide (2 < j6.length)=false:=decide_eq_false (by omega)
         clear c10;by_cases o0:(j7.length:Int) > 2
         ·rw[if_pos o0] at H;have o8:decide (2 < (j7.length:Int))=true:=dE o0;have o9:decide (2 < j7.length)=true:=dE (by omega)
          clear o0;obtain⟨⟨p0,p4⟩,p5,H⟩:=bT H;(try dsimp only at H);have H':=aM H;clear H;obtain⟨p9,r5,r6⟩:=Kd.V_slice g4.out;subst r6;obtain⟨r7,r8,r9⟩:=Kd.V_slice f9.out;subst r9;have fl_:True:=trivial;repeat((first|clear fl_|go_quiet (first|(go_at_call 78;(with_reducible refine(Czf.calls k2 _ _ j6 _ _ j7 p0 p4 _ ?_ ?_ ?_ ?_ p5.out).mono ?_);exact cV f9;exact lV f9;exact cV g4;exact lV g4;rintro e t6 ⟨t7,t8,rfl,n6,n7,hb⟩;have z1:=rL (Kd.R_newM (M:=fun k_=>(w.heap.size≤k_)) n6 (below_size pB) (fun k_ h_=>h_));have z2:=rL (Kd.R_newM (M:=fun k_=>(w.heap.size≤k_)) n7 (below_size pB) (fun k_ h_=>h_));replace f9:=vO f9 hb n6 n7;replace g4:=vO g4 hb n6 n7;replace HB:=bB hb;clear hb n6 n7)));go_wp2_with (first|(go_at_call 78;(with_reducible refine(Czf.calls k2 _ _ j6 _ _ j7 p0 p4 _ ?_ ?_ ?_ ?_ p5.out).mono ?_);exact cV f9;exact lV f9;exact cV g4;exact lV g4;rintro e t6 ⟨t7,t8,rfl,n6,n7,hb⟩;have z1:=rL (Kd.R_newM (M:=fun k_=>(w.heap.size≤k_)) n6 (below_size pB) (fun k_ h_=>h_));have z2:=rL (Kd.R_newM (M:=fun k_=>(w.heap.size≤k_)) n7 (below_size pB) (fun k_ h_=>h_));replace f9:=vO f9 hb n6 n7;replace g4:=vO g4 hb n6 n7;replace HB:=bB hb;clear hb n6 n7)))
          go_roundg k2
          case measure=>have:=f6.out;have:=j8.out;omega
          case rel=>exact⟨(j7),(p4),H',⟨by have:=f6.out;have:=j8.out;omega⟩,⟨by exact vX (Kd.V_mono g4.out (fun _ hk=>hk.1.1))⟩,⟨Kd.V_mono (Kd.R_V (rX (Kd.R_mono z2.out (fun _ hk=>hk.1)))) (fun k_ hk=>by first|exact⟨(.inr (hk.1)),hk.2⟩|exact(.inr (hk)))⟩,⟨pB⟩⟩
         ·rw[if_neg o0] at H;have o8:decide (2 < (j7.length:Int))=false:=decide_eq_false o0;have o9:decide (2 < j7.length)=false:=decide_eq_false (by omega)
          clear o0;have H':=aM H;clear H;obtain⟨z6,z7,z8⟩:=Kd.V_slice g4.out;subst z8;obtain⟨B0,B5,B6⟩:=Kd.V_slice f9.out;subst B6;go_wp2
          repeat(go_quiet (fail);try go_wp2)
          go_meet
          case rel=>exact⟨_,(j6),(j7),H',⟨by have:=f6.out;have:=j8.out;first|omega|exact Nat.le_refl _⟩,⟨vX f9.out⟩,⟨vX g4.out⟩,⟨pB⟩⟩
       ·rw[if_neg c9] at H;have j9:decide (0 < (j7.length:Int))=false:=decide_eq_false c9;have l5:decide (0 < j7.length)=false:=decide_eq_false (by omega)
        clear c9;(first|rw[j9]|(simp only[i64_w,i32_w];rw[j9])|skip)
        have H':=aM H;clear H;obtain⟨B8,B9,C0⟩:=Kd.V_slice g4.out;subst C0;go_wp2
        repeat(go_quiet (fail);try go_wp2)
        go_meet
        case rel=>exact⟨_,(j6),(j7),H',⟨by have:=f6.out;have:=j8.out;first|omega|exact Nat.le_refl _⟩,⟨vX f9.out⟩,⟨vX g4.out⟩,⟨pB⟩⟩
    case rest =>
     clear g6;try clear b6
     try clear f4
     try clear c5
     try clear c6
     try clear c7
     try clear c9
     try clear j9
     try clear l5
     try clear c10
     try clear l6
     try clear l7
     try clear o0
     try clear o8
     try clear o9
     try clear f4
     obtain⟨kq,g9,j5,HA,C1,f9,g4,HB⟩:=hcut;cases kq with
     | zero=>exact absurd HA.out (by simp [Bzj.j2])
     | succ C2 =>
      have H:=HA.out;clear HA;simp only[Bzj.j2] at H;by_cases C3:(j5.length:Int)=0
      ·rw[if_pos C3] at H;have C4:((j5.length:Int) == 0)=true:=beq_iff_eq.mpr C3;have C6:((j5.length:Int) != 0)=false:=bne_eq_false_iff_eq.mpr C3;clear C3;obtain⟨C7,C8,H⟩:=bT H;(try dsimp only at H);replace H:=bS H;obtain⟨C9,D0,H⟩:=H;replace H:(some (C9,0))=some (b7,b8):=H;have D1:=aM D0;clear D0;obtain⟨rfl,rfl⟩:=q2 H;obtain⟨D2,D3,D4⟩:=Kd.V_slice g4.out;subst D4;obtain⟨D5,D6,D7⟩:=Kd.V_slice f9.out;subst D7;have fl_:True:=trivial;repeat((first|clear fl_|go_quiet (first|(go_at_call 69;(with_reducible refine(Ezk.calls _ _ g9 (g9.length:Int) C7 _ ?_ ?_ C8.out).mono ?_);exact cV f9;exact lV f9;rintro e D8 ⟨D9,rfl,n6,hb⟩;have E0:=rL (Kd.R_newM (M:=fun k_=>(w.heap.size≤k_)) n6 (below_size pB) (fun k_ h_=>h_));replace f9:=vE f9 n6 hb;replace g4:=vE g4 n6 hb;replace HB:=bB hb;clear hb n6;obtain⟨E1,E2,rfl⟩:=Kd.R_slice E0.out)|(go_at_call 72;(with_reducible refine(Azp.calls C2 (fun k_=>some k_=(.slice E1 C7.length E2:Value).ownBlock) (.slice E1 C7.length E2) C7 C9 w _ ?_ ?_ D1.out).mono ?_);exact pB;exact Kd.R_tight rfl E0.out;rintro e E3 ⟨E4,rfl,n6,hb,hkp⟩;have E5:=aM (Kd.R_mono (ok':=fun k_=>(w.heap.size≤k_)) n6 (fun k_ hk_=>Or.elim hk_ (fun hs_=>(E0.out.1 k_ (hs_).symm).1) (fun hn_=>(Nat.le_trans (below_size pB) hn_))));replace f9:=aM (Kd.V_mono (ok':=fun k_=>((a6 k_∨b4 k_)∨w.heap.size≤k_)∧some k_≠(E4:Value).ownBlock) (Kd.V_keptB (f9.out) hkp (fun k_ hk_ hs_=>(hk_.2) hs_)) (fun k_ hk_=>⟨hk_.1.1,fun e_=>Or.elim (n6.1 k_ e_.symm) (fun hs_=>hk_.2.1 hs_) (fun hn_=>Nat.not_le.2 hk_.2.2 hn_)⟩));replace g4:=aM (Kd.V_mono (ok':=fun k_=>((a6 k_∨b4 k_)∨w.heap.size≤k_)∧some k_≠(E4:Value).ownBlock) (Kd.V_keptB (g4.out) hkp (fun k_ hk_ hs_=>(hk_.2) hs_)) (fun k_ hk_=>⟨hk_.1.1,fun e_=>Or.elim (n6.1 k_ e_.symm) (fun hs_=>hk_.2.1 hs_) (fun hn_=>Nat.not_le.2 hk_.2.2 hn_)⟩));replace HB:=aM (hb);clear E0;clear hb hkp n6)));go_wp2_with (first|(go_at_call 69;(with_reducible refine(Ezk.calls _ _ g9 (g9.length:Int) C7 _ ?_ ?_ C8.out).mono ?_);exact cV f9;exact lV f9;rintro e D8 ⟨D9,rfl,n6,hb⟩;have E0:=rL (Kd.R_newM (M:=fun k_=>(w.heap.size≤k_)) n6 (below_size pB) (fun k_ h_=>h_));replace f9:=vE f9 n6 hb;replace g4:=vE g4 n6 hb;replace HB:=bB hb;clear hb n6;obtain⟨E1,E2,rfl⟩:=Kd.R_slice E0.out)|(go_at_call 72;(with_reducible refine(Azp.calls C2 (fun k_=>some k_=(.slice E1 C7.length E2:Value).ownBlock) (.slice E1 C7.length E2) C7 C9 w _ ?_ ?_ D1.out).mono ?_);exact pB;exact Kd.R_tight rfl E0.out;rintro e E3 ⟨E4,rfl,n6,hb,hkp⟩;have E5:=aM (Kd.R_mono (ok':=fun k_=>(w.heap.size≤k_)) n6 (fun k_ hk_=>Or.elim hk_ (fun hs_=>(E0.out.1 k_ (hs_).symm).1) (fun hn_=>(Nat.le_trans (below_size pB) hn_))));replace f9:=aM (Kd.V_mono (ok':=fun k_=>((a6 k_∨b4 k_)∨w.heap.size≤k_)∧some k_≠(E4:Value).ownBlock) (Kd.V_keptB (f9.out) hkp (fun k_ hk_ hs_=>(hk_.2) hs_)) (fun k_ hk_=>⟨hk_.1.1,fun e_=>Or.elim (n6.1 k_ e_.symm) (fun hs_=>hk_.2.1 hs_) (fun hn_=>Nat.not_le.2 hk_.2.2 hn_)⟩));replace g4:=aM (Kd.V_mono (ok':=fun k_=>((a6 k_∨b4 k_)∨w.heap.size≤k_)∧some k_≠(E4:Value).ownBlock) (Kd.V_keptB (g4.out) hkp (fun k_ hk_ hs_=>(hk_.2) hs_)) (fun k_ hk_=>⟨hk_.1.1,fun e_=>Or.elim (n6.1 k_ e_.symm) (fun hs_=>hk_.2.1 hs_) (fun hn_=>Nat.not_le.2 hk_.2.2 hn_)⟩));replace HB:=aM (hb);clear E0;clear hb hkp n6)))
       go_ret2
       exact⟨_,eW,rX E5.out,pB⟩
      ·rw[if_neg C3] at H;have C4:((j5.length:Int) == 0)=false:=beq_eq_false_iff_ne.mpr C3;have C6:((j5.length:Int) != 0)=true:=bne_iff_ne.mpr C3;have E6:¬ (j5=[]):=fun h_=>C3 (by rw[h_];rfl)
       obtain⟨E7,E8,H⟩:=bT H;(try dsimp only at H);obtain⟨E9,F0,H⟩:=bT H;(try dsimp only at H);have H':=aM H;clear H;obtain⟨F1,F2,F3⟩:=Kd.V_slice g4.out;subst F3;obtain⟨F4,F5,F6⟩:=Kd.V_slice f9.out;subst F6;have fl_:True:=trivial;repeat((first|clear fl_|go_quiet (first|(go_at_call 79;(with_reducible refine(Czw.calls C2 _ _ g9 E7 _ ?_ ?_ E8.out).mono ?_);exact cV f9;exact lV f9;rintro e w' ⟨rfl,⟨nd,rfl⟩⟩;(try exact dD))|(go_at_call 79;(with_reducible refine(Czw.calls C2 _ _ j5 E9 _ ?_ ?_ F0.out).mono ?_);exact cV g4;exact lV g4;rintro e w' ⟨rfl,⟨nd,rfl⟩⟩;(try exact dD))));go_wp2_with (first|(go_at_call 79;(with_reducible refine(Czw.calls C2 _ _ g9 E7 _ ?_ ?_ E8.out).mono ?_);exact cV f9;exact lV f9;rintro e w' ⟨rfl,⟨nd,rfl⟩⟩;(try exact dD))|(go_at_call 79;(with_reducible refine(Czw.calls C2 _ _ j5 E9 _ ?_ ?_ F0.out).mono ?_);exact cV g4;exact lV g4;rintro e w' ⟨rfl,⟨nd,rfl⟩⟩;(try exact dD))))
       try simp only[Act.put,sA,sZ,sC]
       go_loopg [8,9] C2 (fun kq F7 F8 w'=>∃ (F9:Int) (G0:Int),F7=.int .i64 F9∧F8=.int .i64 G0∧Aside0 (Bzj.l1 kq F9 G0=some (b7,b8))∧Aside0 (kq≤C2)∧Aside0 (Below w.heap.size w w'))
       case atStart=>exact⟨(E7),(E9),sD,sD,H',⟨Nat.le_refl _⟩,⟨pB⟩⟩
       case round =>
        clear H';try clear b6
        try clear c2
        try clear f4
        try clear c5
        try clear c6
        try clear c7
        try clear c9
        try clear j9
        try clear l5
        try clear c10
        try clear l6
        try clear l7
        try clear o0
        try clear o8
        try clear o9
        try clear C3
        try clear C4
        try clear C6
        try clear E6
        try clear f4
        obtain⟨F9,G0,rfl,rfl,HA,G4,HB⟩:=hrel;cases gk with
        | zero=>exact absurd HA.out (by simp [Bzj.l1])
        | succ k3 =>
         have H:=HA.out;clear HA;simp only[Bzj.l1] at H;by_cases G5:G0 > 0
         ·rw[if_pos G5] at H;have G6:decide (0 < G0)=true:=dE G5;clear G5;obtain⟨G7,H⟩:=iM H;have G8:(G0 == 0)=false:=beq_eq_false_iff_ne.mpr G7;have G9:(G0 != 0)=true:=bne_iff_ne.mpr G7;have H':=aM H;clear H;go_wp2
          repeat(go_quiet (fail);try go_wp2)
          go_roundg k3
          case measure=>have:=f6.out;have:=C1.out;have:=G4.out;omega
          case rel=>exact⟨(G0),(Int.tmod F9 G0),sD,sD,H',⟨by have:=f6.out;have:=C1.out;have:=G4.out;omega⟩,⟨pB⟩⟩
         ·rw[if_neg G5] at H;have G6:decide (0 < G0)=false:=decide_eq_false G5;clear G5;replace H:=bS H;obtain⟨⟨H5,H6⟩,H7,H⟩:=H;replace H:(some (H5,H6))=some (b7,b8):=H;have H8:=aM H7;clear H7;obtain⟨rfl,rfl⟩:=q2 H;have fl_:True:=trivial;repeat((first|clear fl_|go_quiet (first|(go_at_call 77;(with_reducible refine(Dzv.calls k3 F9 H5 H6 _ H8.out).mono ?_);rintro e H9 ⟨I0,rfl,n6,hb⟩;have I1:=rL (Kd.R_newM (M:=fun k_=>(w.heap.size≤k_)) n6 (below_size pB) (fun k_ h_=>h_));replace HB:=bB hb;clear hb n6)));go_wp2_with (first|(go_at_call 77;(with_reducible refine(Dzv.calls k3 F9 H5 H6 _ H8.out).mono ?_);rintro e H9 ⟨I0,rfl,n6,hb⟩;have I1:=rL (Kd.R_newM (M:=fun k_=>(w.heap.size≤k_)) n6 (below_size pB) (fun k_ h_=>h_));replace HB:=bB hb;clear hb n6)))
          go_ret2
          exact⟨_,eW,by exact rX (Kd.R_mono I1.out (fun _ hk=>hk.1)),pB⟩

end Go.Proofs.Ytokkiljkgejnhaa.Print
