import Derived.Test.YtbnpcplckcipfaaPrint0
import Derived.Test.YtbnpcplckcipfaaPrint45
import Derived.Test.YtbnpcplckcipfaaPrint48
namespace Go.Proofs.Ytbnpcplckcipfaa.Print
open Go.RowKit Go.Proofs.YtbnpcplckcipfaaW.PrintWords Go.Proofs.YtbnpcplckcipfaaW.PrintLast Go.Proofs.YtbnpcplckcipfaaW.PrintMore
attribute [local go_sem] max2_int min2_int max_two min_two max_three min_three max_four min_four
set_option linter.unusedVariables false
set_option maxRecDepth 100000
set_option maxHeartbeats 8000000
set_option linter.unusedSimpArgs false

mutual
def Azm.j0:Nat→Bool→Bool→List Int→List Int→Bool→List Int→List Int→Option (Bool × List Int × List Int × Int)
 | 0,_,_,_,_,_,_,_=>none
 | k+1,x22,x844000,x844001,x844002,x845000,x845001,x845002=>if x22=true then(some (false,([]:List Int),([]:List Int),3)) else((Bzy.f k x844001 x845002).bind fun bt848=>((Bzy.f k x845001 x844002).bind fun bt852=>((Bzy.f k x844002 x845002).bind fun bt856=>(if bt848.2=0 then(if bt852.2=0 then(Azm.j1 k bt848.1 bt852.1 bt856.1 (bt856.2 != 0) x844000 x844001 x844002 x845000 x845001 x845002) else(Azm.j1 k bt848.1 bt852.1 bt856.1 true x844000 x844001 x844002 x845000 x845001 x845002)) else(Azm.j1 k bt848.1 bt852.1 bt856.1 true x844000 x844001 x844002 x845000 x845001 x845002)))))
def Azm.j1:Nat→List Int→List Int→List Int→Bool→Bool→List Int→List Int→Bool→List Int→List Int→Option (Bool × List Int × List Int × Int)
 | 0,_,_,_,_,_,_,_,_,_,_=>none
 | k+1,x6,x8,x10,x57,x844000,x844001,x844002,x845000,x845001,x845002=>if x57=true then(some (false,([]:List Int),([]:List Int),2)) else((Ezf.f k x844000 x6 x845000 x8).bind fun bt860=>(if bt860.2.2=0 then((Dzz.f k bt860.1 bt860.2.1 x10).bind fun bt865=>(some (bt865.1,bt865.2.1,bt865.2.2,0))) else(some (false,([]:List Int),([]:List Int),2))))
end
def Azm.f (k:Nat) (a0_0:Bool) (l0_1:List Int) (l0_2:List Int) (a1_0:Bool) (l1_1:List Int) (l1_2:List Int):Option (Bool × List Int × List Int × Int):=(Azw.f k a0_0 l0_1 l0_2).bind fun t846=>(if t846=true then((Azw.f k a1_0 l1_1 l1_2).bind fun t847=>(Azm.j0 k (!t847) a0_0 l0_1 l0_2 a1_0 l1_1 l1_2)) else(Azm.j0 k true a0_0 l0_1 l0_2 a1_0 l1_1 l1_2))
theorem Azm.mono_l:∀ k,(∀ a6 a7 a8 a9 b4 b5 b6,LeO (Azm.j0 k a6 a7 a8 a9 b4 b5 b6) (Azm.j0 (k+1) a6 a7 a8 a9 b4 b5 b6))∧(∀ a6 a7 a8 a9 b4 b5 b6 b7 b8 b9,LeO (Azm.j1 k a6 a7 a8 a9 b4 b5 b6 b7 b8 b9) (Azm.j1 (k+1) a6 a7 a8 a9 b4 b5 b6 b7 b8 b9))
 | 0=>⟨fun _ _ _ _ _ _ _ r h=>by simp [Azm.j0] at h,fun _ _ _ _ _ _ _ _ _ _ r h=>by simp [Azm.j1] at h⟩
 | k+1=>by
  obtain⟨ih0,ih1⟩:=Azm.mono_l k;have i0:=@Bzy.mono;have i1:=@Dzz.mono;have i2:=@Azw.mono;have i3:=@Ezf.mono;refine⟨?_,?_⟩
  ·intro a6 a7 a8 a9 b4 b5 b6;unfold Azm.j0;exact mM
  ·intro a6 a7 a8 a9 b4 b5 b6 b7 b8 b9;unfold Azm.j1;exact mM
theorem Azm.mono:∀ a6 a7 a8 a9 b4 b5 k,LeO (Azm.f k a6 a7 a8 a9 b4 b5) (Azm.f (k+1) a6 a7 a8 a9 b4 b5):=by
 intro a6 a7 a8 a9 b4 b5 k;obtain⟨ih0,ih1⟩:=Azm.mono_l k;unfold Azm.f;have i0:=@Bzy.mono;have i1:=@Dzz.mono;have i2:=@Azw.mono;have i3:=@Ezf.mono;exact mM
theorem Azm.calls (k:Nat) (a6:Bool) (a7:Option Addr) (a8:Nat) (a9:List Int) (b4:Option Addr) (b5:Nat) (b6:List Int) (b7:Bool) (b8:Option Addr) (b9:Nat) (d6:List Int) (d7:Option Addr) (d8:Nat) (d9:List Int) (e6:Bool) (e7:List Int) (e8:List Int) (e9:Int) (w:World) (f3:cI w a7 a9) (f4:a9.length≤a8) (f5:cI w b4 b6) (f6:b6.length≤b5) (f7:cI w b8 d6) (f8:d6.length≤b9) (f9:cI w d7 d9) (g4:d9.length≤d8) (h:Azm.f k a6 a9 b6 b7 d6 d9=some (e6,e7,e8,e9)) :
  Calls Try.prog 29 #[.agg #[.bool a6,.slice a7 a9.length a8,.slice b4 b6.length b5],.agg #[.bool b7,.slice b8 d6.length b9,.slice d7 d9.length d8]] w fun e w'=>∃ v1_ v2_:Value,e=.returned (.tuple #[.agg #[.bool e6,v1_,v2_],.int .i64 e9])∧rI w' w (oV v2_) v1_ e7∧rI w' w (oV v1_) v2_ e8∧bw w w':=by
 have hu33:=Try.underlying33;have g5:=aM f3;have g6:=aM f4;clear f3 f4;have g7:=aM f5;have g8:=aM f6;clear f5 f6;have g9:=aM f7;have j3:=aM f8;clear f7 f8;have j4:=aM f9;have j5:=aM g4;clear f9 g4;have HB:=aM (Below.refl w.heap.size w);have H:((Azw.f k a6 a9 b6).bind fun j6=>(if j6=true then((Azw.f k b7 d6 d9).bind fun j7=>(Azm.j0 k (!j7) a6 a9 b6 b7 d6 d9)) else(Azm.j0 k true a6 a9 b6 b7 d6 d9)))=some (e6,e7,e8,e9):=h
 clear h;have j8:=aM H;clear H;go_enter Try.func29,Try.ntmps29
 go_upto_region 1 with (first|((with_reducible refine gd 2 rfl ?_);refine bx #[.bool a6,.slice a7 a9.length a8,.slice b4 b6.length b5] 33 ?_;intro j9 hg l5 l6 hb;have l7:=gA w hg;replace HB:=bB hb;clear hb hg)|((with_reducible refine gd 3 rfl ?_);refine bx #[.bool b7,.slice b8 d6.length b9,.slice d7 d9.length d8] 33 ?_;intro l9 hg m0 m4 hb;have m5:=gA w hg;have m7:=nl hg l6;have m8:=ng hg l6;replace l6:=kb l6 hb;replace HB:=bB hb;clear hb hg)|((with_reducible refine gd 4 rfl ?_);refine bz 33 ?_;intro m9 hg n0 n7 hb;have n8:=gA w hg;have o0:=nl hg l6;have o8:=ng hg l6;have o9:=nl hg m4;have p0:=ng hg m4;replace l6:=kb l6 hb;replace m4:=kb m4 hb;replace HB:=bB hb;clear hb hg))
 (try simp only[Act.put,sA,sZ,sC])
 go_cut [22] (fun p4 wc=>∃ (kq:Nat) (p7:Bool),p4=.bool p7∧Aside0 (Azm.j0 kq p7 a6 a9 b6 b7 d6 d9=some (e6,e7,e8,e9))∧Aside0 (kq≤k)∧Aside0 (wc.heap[j9]?=some (.cells #[.bool a6,(.slice a7 a9.length a8),(.slice b4 b6.length b5)] 33 (0,0)))∧Aside0 (wc.heap[l9]?=some (.cells #[.bool b7,(.slice b8 d6.length b9),(.slice d7 d9.length d8)] 33 (0,0)))∧Aside0 (wc.heap[m9]?=some (.cells #[.bool false,(.slice none 0 0),(.slice none 0 0)] 33 (0,0)))∧Aside0 (bw w wc))
 case first =>
  have H:=j8.out;clear j8;obtain⟨j6,p9,H⟩:=bT H;(try dsimp only at H);by_cases c8:j6=true
  ·subst c8;rw[if_pos rfl] at H;obtain⟨j7,r5,H⟩:=bT H;(try dsimp only at H);have H':=aM H;clear H;have r6:=m7.out;have r7:=m8.out;have r8:=o0.out;have r9:=o8.out;obtain⟨t4,t5,t6,t7,t8,t9⟩:=bk3 l6;go_wp2_with (first|((with_reducible refine gc 39 rfl ?_);refine gC 39 (some 16) Try.func39 #[.agg #[.bool a6,.slice a7 a9.length a8,.slice b4 b6.length b5]] ?_;(with_reducible refine(Azw.calls k a6 _ _ a9 _ _ b6 true _ ?_ ?_ ?_ ?_ p9.out).mono ?_);exact cB g5;exact g6.out;exact cB g7;exact g8.out;rintro e z3 ⟨rfl,hb⟩;refine⟨_,rfl,?_⟩;replace l6:=kb l6 hb;replace m4:=kb m4 hb;replace n7:=kb n7 hb;replace HB:=bB hb;clear hb;have z4:=o9.out;have z5:=p0.out;obtain⟨z6,z7,z8,z9,B0,B5⟩:=bk3 m4)|(go_at_call 39;(with_reducible refine(Azw.calls k b7 _ _ d6 _ _ d9 j7 _ ?_ ?_ ?_ ?_ r5.out).mono ?_);exact cB g9;exact j3.out;exact cB j4;exact j5.out;rintro e B9 ⟨rfl,hb⟩;replace l6:=kb l6 hb;replace m4:=kb m4 hb;replace n7:=kb n7 hb;replace HB:=bB hb;clear hb))
   go_meet
   case rel=>exact⟨_,(!j7),sD,H',⟨by first|omega|exact Nat.le_refl _⟩,⟨by exact kW l6⟩,⟨by exact kW m4⟩,⟨by exact kW n7⟩,⟨pB⟩⟩
  ·obtain rfl:=bN c8;rw[if_neg nF] at H
   have H':=aM H;clear H;have C0:=m7.out;have C1:=m8.out;have C2:=o0.out;have C3:=o8.out;obtain⟨C4,C6,C7,C8,C9,D2⟩:=bk3 l6;go_wp2_with (first|((with_reducible refine gc 39 rfl ?_);refine gC 39 (some 16) Try.func39 #[.agg #[.bool a6,.slice a7 a9.length a8,.slice b4 b6.length b5]] ?_;(with_reducible refine(Azw.calls k a6 _ _ a9 _ _ b6 false _ ?_ ?_ ?_ ?_ p9.out).mono ?_);exact cB g5;exact g6.out;exact cB g7;exact g8.out;rintro e D3 ⟨rfl,hb⟩;refine⟨_,rfl,?_⟩;replace l6:=kb l6 hb;replace m4:=kb m4 hb;replace n7:=kb n7 hb;replace HB:=bB hb;clear hb))
   go_meet
   case rel=>exact⟨_,(true),sD,H',⟨by first|omega|exact Nat.le_refl _⟩,⟨by exact kW l6⟩,⟨by exact kW m4⟩,⟨by exact kW n7⟩,⟨pB⟩⟩
 case rest =>
  clear j8;try clear D4
  obtain⟨kq,p7,rfl,HA,D5,l6,m4,n7,HB⟩:=hcut;cases kq with
  | zero=>exact absurd HA.out (by simp [Azm.j0])
  | succ D6 =>
   have H:=HA.out;clear HA;simp only[Azm.j0] at H;by_cases D7:p7=true
   ·subst D7;rw[if_pos rfl] at H;obtain⟨rfl,rfl,rfl,rfl⟩:=q4 H;have D8:=o8.out;have D9:=o0.out;have E0:=p0.out;have E1:=o9.out;obtain⟨E2,E3,E4,E5,E6,E7⟩:=bk3 n7;go_wp2
    refine rC m9 33 #[.bool false,.slice none 0 0,.slice none 0 0] (kQ n7) Try.underlying33 ?_
    exact⟨_,_,eW,nK,nK,pB⟩
   ·obtain rfl:=bN D7;rw[if_neg nF] at H
    obtain⟨⟨E8,E9⟩,F0,H⟩:=bT H;(try dsimp only at H);obtain⟨⟨F2,F3⟩,F4,H⟩:=bT H;(try dsimp only at H);obtain⟨⟨F5,F6⟩,F7,H⟩:=bT H;(try dsimp only at H);have F8:=aM H;clear H;have F9:=m7.out;have G5:=m8.out;have G9:=o0.out;have H5:=o8.out;obtain⟨H6,H7,H8,H9,I0,I3⟩:=bk3 l6;have I4:=o9.out;have I5:=p0.out;obtain⟨I6,I7,I8,I9,J0,J1⟩:=bk3 m4;go_upto_region 6 with (first|((with_reducible refine gc 56 rfl ?_);refine gC 56 (some 29) Try.func56 #[.slice a7 a9.length a8,.slice d7 d9.length d8] ?_;(with_reducible refine(Bzy.calls D6 _ _ a9 _ _ d9 E8 E9 _ ?_ ?_ ?_ ?_ F0.out).mono ?_);exact cB g5;exact g6.out;exact cB j4;exact j5.out;rintro e J2 ⟨J3,rfl,J4,hb⟩;refine⟨_,rfl,?_⟩;have J5:=rL J4;replace l6:=kb l6 hb;replace m4:=kb m4 hb;replace n7:=kb n7 hb;replace HB:=bB hb;clear hb J4;obtain⟨J6,J7,J8,J9,K0,K1⟩:=bk3 m4;obtain⟨K2,K3,K4,K5,K6,K7⟩:=bk3 l6)|((with_reducible refine gc 56 rfl ?_);refine gC 56 (some 37) Try.func56 #[.slice b8 d6.length b9,.slice b4 b6.length b5] ?_;(with_reducible refine(Bzy.calls D6 _ _ d6 _ _ b6 F2 F3 _ ?_ ?_ ?_ ?_ F4.out).mono ?_);exact cB g9;exact j3.out;exact cB g7;exact g8.out;rintro e K8 ⟨K9,rfl,J4,hb⟩;refine⟨_,rfl,?_⟩;have L0:=rL (rn J4 J5);replace J5:=rE J5 J4 hb;replace l6:=kb l6 hb;replace m4:=kb m4 hb;replace n7:=kb n7 hb;replace HB:=bB hb;clear hb J4;obtain⟨L7,L8,L9,M0,M3,M4⟩:=bk3 l6;obtain⟨M5,M6,M7,M8,M9,N0⟩:=bk3 m4)|((with_reducible refine gc 56 rfl ?_);refine gC 56 (some 45) Try.func56 #[.slice b4 b6.length b5,.slice d7 d9.length d8] ?_;(with_reducible refine(Bzy.calls D6 _ _ b6 _ _ d9 F5 F6 _ ?_ ?_ ?_ ?_ F7.out).mono ?_);exact cB g7;exact g8.out;exact cB j4;exact j5.out;rintro e N1 ⟨N2,rfl,J4,hb⟩;refine⟨_,rfl,?_⟩;have N3:=rL (rn (rn J4 J5) L0);replace J5:=rE J5 J4 hb;replace L0:=rE L0 J4 hb;replace l6:=kb l6 hb;replace m4:=kb m4 hb;replace n7:=kb n7 hb;replace HB:=bB hb;clear hb J4))
    (try simp only[Act.put,sA,sZ,sC])
    go_cut [57] (fun N4 wc=>∃ (kq:Nat) (N5:Bool),N4=.bool N5∧Aside0 (Azm.j1 kq E8 F2 F5 N5 a6 a9 b6 b7 d6 d9=some (e6,e7,e8,e9))∧Aside0 (kq≤D6)∧Aside0 (rI wc w (fun k_=>oV K9 k_∧oV N2 k_) J3 E8)∧Aside0 (rI wc w (fun k_=>oV J3 k_∧oV N2 k_) K9 F2)∧Aside0 (rI wc w (fun k_=>oV J3 k_∧oV K9 k_) N2 F5)∧Aside0 (wc.heap[j9]?=some (.cells #[.bool a6,(.slice a7 a9.length a8),(.slice b4 b6.length b5)] 33 (0,0)))∧Aside0 (wc.heap[l9]?=some (.cells #[.bool b7,(.slice b8 d6.length b9),(.slice d7 d9.length d8)] 33 (0,0)))∧Aside0 (wc.heap[m9]?=some (.cells #[.bool false,(.slice none 0 0),(.slice none 0 0)] 33 (0,0)))∧Aside0 (bw w wc))
    case first =>
     have H:=F8.out;clear F8;replace H:=iE H;rcases H with⟨N7,N8,H⟩|⟨N6,N7,N8,H⟩
     ·(first|rw[N7]|(simp only[i64_w,i32_w];rw[N7])|skip)
      replace H:=iE H;rcases H with⟨O0,O1,H⟩|⟨N9,O0,O1,H⟩
      ·have H':=aM H;clear H;go_wp2
       go_meet
       case rel=>exact⟨_,((F6 != 0)),sD,H',⟨by have:=D5.out;first|omega|exact Nat.le_refl _⟩,⟨by exact rX (Kd.R_mono J5.out (fun _ hk=>⟨hk.1.2,hk.2⟩))⟩,⟨by exact rX (Kd.R_mono L0.out (fun _ hk=>⟨hk.1.2,hk.2⟩))⟩,⟨by exact rX (Kd.R_mono N3.out (fun _ hk=>⟨hk.1.2,hk.2⟩))⟩,⟨by exact kW l6⟩,⟨by exact kW m4⟩,⟨by exact kW n7⟩,⟨pB⟩⟩
      ·have H':=aM H;clear H;go_wp2
       go_meet
       case rel=>exact⟨_,(true),sD,H',⟨by have:=D5.out;first|omega|exact Nat.le_refl _⟩,⟨by exact rX (Kd.R_mono J5.out (fun _ hk=>⟨hk.1.2,hk.2⟩))⟩,⟨by exact rX (Kd.R_mono L0.out (fun _ hk=>⟨hk.1.2,hk.2⟩))⟩,⟨by exact rX (Kd.R_mono N3.out (fun _ hk=>⟨hk.1.2,hk.2⟩))⟩,⟨by exact kW l6⟩,⟨by exact kW m4⟩,⟨by exact kW n7⟩,⟨pB⟩⟩
     ·(first|rw[N7]|(simp only[i64_w,i32_w];rw[N7])|skip)
      have H':=aM H;clear H;go_wp2
      go_meet
      case rel=>exact⟨_,(true),sD,H',⟨by have:=D5.out;first|omega|exact Nat.le_refl _⟩,⟨by exact rX (Kd.R_mono J5.out (fun _ hk=>⟨hk.1.2,hk.2⟩))⟩,⟨by exact rX (Kd.R_mono L0.out (fun _ hk=>⟨hk.1.2,hk.2⟩))⟩,⟨by exact rX (Kd.R_mono N3.out (fun _ hk=>⟨hk.1.2,hk.2⟩))⟩,⟨by exact kW l6⟩,⟨by exact kW m4⟩,⟨by exact kW n7⟩,⟨pB⟩⟩
    case rest =>
     clear F8;try clear D4
     obtain⟨kq,N5,rfl,HA,O2,O3,O4,O5,l6,m4,n7,HB⟩:=hcut;cases kq with
     | zero=>exact absurd HA.out (by simp [Azm.j1])
     | succ O6 =>
      have H:=HA.out;clear HA;simp only[Azm.j1] at H;by_cases O7:N5=true
      ·subst O7;rw[if_pos rfl] at H;obtain⟨rfl,rfl,rfl,rfl⟩:=q4 H;have O8:=o8.out;have O9:=o0.out;have P0:=p0.out;have P3:=o9.out;obtain⟨P4,P5,P6,P7,P8,P9⟩:=bk3 n7;go_wp2
       refine rC m9 33 #[.bool false,.slice none 0 0,.slice none 0 0] (kQ n7) Try.underlying33 ?_
       exact⟨_,_,eW,nK,nK,pB⟩
      ·obtain rfl:=bN O7;rw[if_neg nF] at H
       obtain⟨⟨Q0,Q1,Q2⟩,Q3,H⟩:=bT H;(try dsimp only at H);have Q4:=aM H;clear H;have Q5:=m7.out;have Q6:=m8.out;have Q7:=o0.out;have Q8:=o8.out;obtain⟨Q9,R0,R1,R2,R3,R4⟩:=bk3 l6;have R5:=o9.out;have R6:=p0.out;obtain⟨R7,R8,R9,U0,U1,U2⟩:=bk3 m4;obtain⟨U3,U4,rfl⟩:=Kd.R_slice O3.out;obtain⟨U5,U6,rfl⟩:=Kd.R_slice O4.out;go_upto_if 71 with (first|((with_reducible refine gc 57 rfl ?_);refine gC 57 (some 66) Try.func57 #[.bool a6,.slice U3 E8.length U4,.bool b7,.slice U5 F2.length U6] ?_;(with_reducible refine(Ezf.calls O6 a6 _ _ E8 b7 _ _ F2 Q0 Q1 Q2 _ ?_ ?_ ?_ ?_ Q3.out).mono ?_);exact cR O3;exact lR O3;exact cR O4;exact lR O4;rintro e U7 ⟨U8,rfl,J4,hb⟩;refine⟨_,rfl,?_⟩;have U9:=rL (rn (rn (rn J4 O3) O4) O5);replace O3:=rE O3 J4 hb;replace O4:=rE O4 J4 hb;replace O5:=rE O5 J4 hb;replace l6:=kb l6 hb;replace m4:=kb m4 hb;replace n7:=kb n7 hb;replace HB:=bB hb;clear hb J4))
       have H:=Q4.out;clear Q4;replace H:=iE H;rcases H with⟨V1,V2,H⟩|⟨V0,V1,V2,H⟩
       ·(first|rw[V1]|(simp only[i64_w,i32_w];rw[V1])|skip)
        replace H:=bS H;obtain⟨⟨V3,V4,V5⟩,V6,H⟩:=H;replace H:(some (V3,V4,V5,0))=some (e6,e7,e8,e9):=H;have V7:=aM V6;clear V6;obtain⟨rfl,rfl,rfl,rfl⟩:=q4 H;obtain⟨V8,V9,rfl⟩:=Kd.R_slice U9.out;obtain⟨W3,W4,rfl⟩:=Kd.R_slice O5.out;go_wp2_with (first|((with_reducible refine gc 58 rfl ?_);refine gC 58 (some 76) Try.func58 #[.bool Q0,.slice V8 Q1.length V9,.slice W3 F5.length W4] ?_;(with_reducible refine(Dzz.calls O6 Q0 _ _ Q1 _ _ F5 V3 V4 V5 _ ?_ ?_ ?_ ?_ V7.out).mono ?_);exact cR U9;exact lR U9;exact cR O5;exact lR O5;rintro e W5 ⟨W6,W7,rfl,J4,W8,hb⟩;refine⟨_,rfl,?_⟩;have W9:=rL (rn (rn (rn (rn J4 O3) O4) O5) U9);have X0:=rL (rn (rn (rn (rn W8 O3) O4) O5) U9);replace O3:=rO O3 hb J4 W8;replace O4:=rO O4 hb J4 W8;replace O5:=rO O5 hb J4 W8;replace U9:=rO U9 hb J4 W8;replace l6:=kb l6 hb;replace m4:=kb m4 hb;replace n7:=kb n7 hb;replace HB:=bB hb;clear hb J4 W8;have X3:=o8.out;have X4:=o0.out;have X5:=p0.out;have X6:=o9.out;obtain⟨X7,X8,X9,Y0,Y1,Y2⟩:=bk3 n7;obtain⟨Y3,Y4,rfl⟩:=Kd.R_slice W9.out;obtain⟨Y5,Y6,rfl⟩:=Kd.R_slice X0.out))
        refine rC m9 33 #[.bool V3,.slice Y3 V4.length Y4,.slice Y5 V5.length Y6] (kQ n7) Try.underlying33 ?_
        exact⟨_,_,eW,by exact Kd.R_mono (rT W9 n7) (fun _ hk=>hk.1.1.1.1),by exact Kd.R_mono (rT X0 n7) (fun _ hk=>hk.1.1.1.1),pB⟩
       ·(first|rw[V1]|(simp only[i64_w,i32_w];rw[V1])|skip)
        obtain⟨rfl,rfl,rfl,rfl⟩:=q4 H;have Y7:=o8.out;have Y8:=o0.out;have Y9:=p0.out;have Z0:=o9.out;obtain⟨Z1,Z2,Z3,Z4,Z5,Z6⟩:=bk3 n7;go_wp2
        refine rC m9 33 #[.bool false,.slice none 0 0,.slice none 0 0] (kQ n7) Try.underlying33 ?_
        exact⟨_,_,eW,nK,nK,pB⟩


mutual
def Azb.l0:Nat→List (S33)→Int→Option (Bool × List Int × List Int × Int)
 | 0,_,_=>none
 | k+1,x0,x4=>if x4 < (x0.length:Int) then(if 0≤x4 then((Azw.f k ((rd_T33 x0 x4).f0) ((rd_T33 x0 x4).f1) ((rd_T33 x0 x4).f2)).bind fun t874=>(if t874=true then(Azb.l0 k x0 (wrap64 (x4+1))) else(some (false,([]:List Int),([]:List Int),3)))) else(none)) else((Czp.f k 0).bind fun bt875=>(Azb.l1 k x0 0 bt875.1 bt875.2.1 bt875.2.2.1))
def Azb.l1:Nat→List (S33)→Int→Bool→List Int→List Int→Option (Bool × List Int × List Int × Int)
 | 0,_,_,_,_,_=>none
 | k+1,x0,x7,x884000,x884001,x884002=>if x7 < (x0.length:Int) then(if 0≤x7 then((Azm.f k x884000 x884001 x884002 ((rd_T33 x0 x7).f0) ((rd_T33 x0 x7).f1) ((rd_T33 x0 x7).f2)).bind fun bt885=>(if bt885.2.2.2=0 then(Azb.l1 k x0 (wrap64 (x7+1)) bt885.1 bt885.2.1 bt885.2.2.1) else(some (false,([]:List Int),([]:List Int),bt885.2.2.2)))) else(none)) else(some (x884000,x884001,x884002,0))
end
def Azb.f (k:Nat) (l0:List (S33)):Option (Bool × List Int × List Int × Int):=if(l0.length:Int) > 4096 then(some (false,([]:List Int),([]:List Int),8)) else(Azb.l0 k l0 0)
theorem Azb.mono_l:∀ k,(∀ a6 a7,LeO (Azb.l0 k a6 a7) (Azb.l0 (k+1) a6 a7))∧(∀ a6 a7 a8 a9 b4,LeO (Azb.l1 k a6 a7 a8 a9 b4) (Azb.l1 (k+1) a6 a7 a8 a9 b4))
 | 0=>⟨fun _ _ r h=>by simp [Azb.l0] at h,fun _ _ _ _ _ r h=>by simp [Azb.l1] at h⟩
 | k+1=>by
  obtain⟨ih0,ih1⟩:=Azb.mono_l k;have i0:=@Azm.mono;have i1:=@Czp.mono;have i2:=@Azw.mono;refine⟨?_,?_⟩
  ·intro a6 a7;unfold Azb.l0;exact mM
  ·intro a6 a7 a8 a9 b4;unfold Azb.l1;exact mM
theorem Azb.mono:∀ a6 k,LeO (Azb.f k a6) (Azb.f (k+1) a6):=by
 intro a6 k;obtain⟨ih0,ih1⟩:=Azb.mono_l k;unfold Azb.f;have i0:=@Azm.mono;have i1:=@Czp.mono;have i2:=@Azw.mono;exact mM
def Azb.T12:Bool × List (List Nat × List Nat):=(true,[([],[]),([],[]),([],[]),([1,2],[1,2]),([3],[3]),([0,4],[0,4]),([5],[5]),([6],[6]),([6],[6]),([],[]),([9,7,5,0,1,2,3,4,5,6,7,9],[7,9]),([8,10,0,1,2,3,4,5,6,7,8,9,10],[8])])
def Azb.B12:List Nat:=[0,0,0,6,14,31,63,127,127,0,767,2047]
theorem Azb.tab12:rtab .any (opsOf Try.f27 12)=Azb.T12:=by kernel_rfl
theorem Azb.bits12:waitsOk Azb.T12.2 Azb.B12=true:=by kernel_rfl
theorem Azb.calls (k:Nat) (a6:Option Addr) (a7:Nat) (l0:List (S33)) (a8:Bool) (a9:List Int) (b4:List Int) (b5:Int) (w:World) (b6:Kd.C k33 w a6 l0.length l0) (b7:l0.length≤a7) (h:Azb.f k l0=some (a8,a9,b4,b5)) :
  Calls Try.prog 27 #[.slice a6 l0.length a7] w fun e w'=>∃ v1_ v2_:Value,e=.returned (.tuple #[.agg #[.bool a8,v1_,v2_],.int .i64 b5])∧rI w' w (oV v2_) v1_ a9∧rI w' w (oV v1_) v2_ b4∧bw w w':=by
 have hu33:=Try.underlying33;have b8:=aM b6;have b9:=aM b7;clear b6 b7;have HB:=aM (Below.refl w.heap.size w);have H:(if(l0.length:Int) > 4096 then(some (false,([]:List Int),([]:List Int),8)) else(Azb.l0 k l0 0))=some (a8,a9,b4,b5):=h
 clear h;have d6:=aM H;clear H;go_enter Try.func27,Try.ntmps27
 go_upto_if 12 with (first|((with_reducible refine gd 2 rfl ?_);refine bz 33 ?_;intro d7 hg d8 d9 hb;have e6:=gA w hg;replace HB:=bB hb;clear hb hg))
 have H:=d6.out;clear d6;by_cases c4:(l0.length:Int) > 4096
 ·rw[if_pos c4] at H;have e8:decide (4096 < (l0.length:Int))=true:=dE c4;have e9:decide (4096 < l0.length)=true:=dE (by omega)
  clear c4;(first|rw[e8]|(simp only[i64_w,i32_w];rw[e8])|skip)
  obtain⟨rfl,rfl,rfl,rfl⟩:=q4 H;obtain⟨f3,f4,f5,f6,f7,f8⟩:=bk3 d9;go_wp2
  refine rC d7 33 #[.bool false,.slice none 0 0,.slice none 0 0] (kQ d9) Try.underlying33 ?_
  exact⟨_,_,eW,nK,nK,pB⟩
 ·rw[if_neg c4] at H;have e8:decide (4096 < (l0.length:Int))=false:=decide_eq_false c4;have e9:decide (4096 < l0.length)=false:=decide_eq_false (by omega)
  clear c4;(first|rw[e8]|(simp only[i64_w,i32_w];rw[e8])|skip)
  have H':=aM H;clear H;go_wp2
  go_loopg [4] k (fun kq f9 w'=>∃ (g4:Int) (g5:Bool),f9=.int .i64 g4∧Aside0 (Azb.l0 kq l0 g4=some (a8,a9,b4,b5))∧Aside0 (kq≤k)∧Aside0 (w'.heap[d7]?=some (.cells #[.bool g5,(.slice none 0 0),(.slice none 0 0)] 33 (0,0)))∧Aside0 (bw w w'))
  case atStart=>exact⟨(0),(false),sD,H',⟨Nat.le_refl _⟩,⟨by exact kW d9⟩,⟨pB⟩⟩
  case round =>
   clear H';try clear c2
   obtain⟨g4,g5,rfl,HA,g6,d9,HB⟩:=hrel;cases gk with
   | zero=>exact absurd HA.out (by simp [Azb.l0])
   | succ k1 =>
    have H:=HA.out;clear HA;simp only[Azb.l0] at H;replace H:=iD H;rcases H with⟨g7,H⟩|⟨g7,H⟩
    ·obtain⟨g8,H⟩:=iN H;obtain⟨g9,j3,H⟩:=bT H;(try dsimp only at H);have j4:=aM H;clear H;obtain⟨j5,j6,j7,j8,j9,l5,l6,l7,l8,l9,m0,m4,m5⟩:=at_T33 b8.out g4 (oE aS) (oE aS);cases l5
     replace l6:=hB HB l6;replace l7:=hB HB l7;replace l8:=hB HB l8;have m6:=aM m0;have m7:=aM l9;clear m0 l9;have m8:=aM m5;have m9:=aM m4;clear m5 m4;have n0:=eT (g4);have n7:=eU (g4) l0.length;go_upto_if 25 with (first|((with_reducible refine gc 39 rfl ?_);refine gC 39 (some 24) Try.func39 #[.agg #[.bool ((rd_T33 l0 g4).f0),.slice j6 ((rd_T33 l0 g4).f1).length j7,.slice j8 ((rd_T33 l0 g4).f2).length j9]] ?_;(with_reducible refine(Azw.calls k1 ((rd_T33 l0 g4).f0) _ _ ((rd_T33 l0 g4).f1) _ _ ((rd_T33 l0 g4).f2) g9 _ ?_ ?_ ?_ ?_ j3.out).mono ?_);exact cB m6;exact m7.out;exact cB m8;exact m9.out;rintro e n8 ⟨rfl,hb⟩;refine⟨_,rfl,?_⟩;replace d9:=kb d9 hb;replace HB:=bB hb;clear hb))
     have H:=j4.out;clear j4;by_cases n9:g9=true
     ·subst n9;rw[if_pos rfl] at H;have H':=aM H;clear H;go_wp2
      go_roundg k1
      case measure=>have:=g6.out;omega
      case rel=>exact⟨(wrap64 (g4+1)),(g5),sD,H',⟨by have:=g6.out;omega⟩,⟨by exact kW d9⟩,⟨pB⟩⟩
     ·obtain rfl:=bN n9;rw[if_neg nF] at H
      obtain⟨rfl,rfl,rfl,rfl⟩:=q4 H;obtain⟨o0,o8,o9,p0,p4,p7⟩:=bk3 d9;go_wp2
      refine rC d7 33 #[.bool false,.slice none 0 0,.slice none 0 0] (kQ d9) Try.underlying33 ?_
      exact⟨_,_,eW,nK,nK,pB⟩
    ·obtain⟨⟨p9,r5,r6,r7⟩,r8,H⟩:=bT H;(try dsimp only at H);have H':=aM H;clear H;go_wp2_with (first|((with_reducible refine gc 40 rfl ?_);refine gC 40 (some 28) Try.func40 #[.int .i64 0] ?_;(with_reducible refine(Czp.calls k1 0 p9 r5 r6 r7 _ r8.out).mono ?_);rintro e r9 ⟨t4,t5,rfl,t6,t7,hb⟩;refine⟨_,rfl,?_⟩;have t8:=rL t6;have t9:=rL t7;replace d9:=kb d9 hb;replace HB:=bB hb;clear hb t6 t7)|((with_reducible refine gd 5 rfl ?_);refine bz 33 ?_;intro z3 hg z4 z5 hb;have z6:=gA w hg;have z8:=nl hg d9;have z9:=ng hg d9;replace t8:=rB t8 hb;replace t9:=rB t9 hb;replace d9:=kb d9 hb;replace HB:=bB hb;clear hb hg;have B0:=z9.out;have B5:=z8.out;obtain⟨B9,C0,C1,C2,C3,C4⟩:=bk3 z5;obtain⟨C6,C7,rfl⟩:=Kd.R_slice t8.out;obtain⟨C8,C9,rfl⟩:=Kd.R_slice t9.out))
     go_loopg [7] k1 (fun kq D2 w'=>∃ (D3:Int) (D4:Bool) (D5:Bool) (D6:List Int) (D7:List Int) (u884001:Value) (u884002:Value),D2=.int .i64 D3∧Aside0 (Azb.l1 kq l0 D3 D5 D6 D7=some (a8,a9,b4,b5))∧Aside0 (kq≤k1)∧Aside0 (rI w' w (oV u884002) u884001 D6)∧Aside0 (rI w' w (oV u884001) u884002 D7)∧Aside0 (w'.heap[d7]?=some (.cells #[.bool D4,(.slice none 0 0),(.slice none 0 0)] 33 (0,0)))∧Aside0 (w'.heap[z3]?=some (.cells #[.bool D5,u884001,u884002] 33 (0,0)))∧Aside0 (bw w w'))
     case atStart=>exact⟨(0),(g5),(p9),(r5),(r6),(.slice C6 r5.length C7),(.slice C8 r6.length C9),sD,H',⟨Nat.le_refl _⟩,⟨by exact Kd.R_mono (rT t8 z5) (fun _ hk=>hk)⟩,⟨by exact Kd.R_mono (rT t9 z5) (fun _ hk=>hk)⟩,⟨by exact kf d9 z8⟩,⟨by exact kQ z5⟩,⟨pB⟩⟩
     case round =>
      clear H';try clear D8
      obtain⟨D3,D4,D5,D6,D7,u884001,u884002,rfl,HA,D9,E0,E1,d9,z5,HB⟩:=hrel;cases gk with
      | zero=>exact absurd HA.out (by simp [Azb.l1])
      | succ k2 =>
       have H:=HA.out;clear HA;simp only[Azb.l1] at H;replace H:=iD H;rcases H with⟨E3,H⟩|⟨E3,H⟩
       ·obtain⟨E4,H⟩:=iN H;obtain⟨⟨E5,E6,E7,E8⟩,E9,H⟩:=bT H;(try dsimp only at H);have F0:=aM H;clear H;obtain⟨F2,F3,rfl⟩:=Kd.R_slice E0.out;obtain⟨F4,F5,rfl⟩:=Kd.R_slice E1.out;try go_wp2
        have n0_:=aM (Kd.R_drew E0.out);have n1_:=aM (Kd.R_drew E1.out);have n2_:=aM (blk_drew d9.out);have n3_:=aM (blk_drew z5.out);have n4_:=aM (below_drew1 HB.out);clear E0 E1 d9 z5 HB;have E0:=n0_;have E1:=n1_;have d9:=n2_;have z5:=n3_;have HB:=n4_;clear n0_ n1_ n2_ n3_ n4_;obtain⟨F6,F7,F8,F9,G5,G9,H5,H6,H7,H8,H9,I0,I3⟩:=at_T33 b8.out D3 (oE aS) (oE aS);have I4:=H7;have I5:=H6;have I6:=H5;cases G9
        replace H5:=hB HB H5;replace H6:=hB HB H6;replace H7:=hB HB H7;have I7:=aM H9;have I8:=aM H8;clear H9 H8;have I9:=aM I3;have J0:=aM I0;clear I3 I0;have J1:=eT (D3);have J2:=eU (D3) l0.length;refine start_ (n:=12) (S:=fun w'=>w'.cell? ⟨z3,0,none⟩=some (.bool D5)∧w'.cell? ⟨z3,1,none⟩=some (.slice F2 D6.length F3)∧w'.cell? ⟨z3,2,none⟩=some (.slice F4 D7.length F5)∧w'.cell? (F6.add ((D3).toNat * 3))=some (.bool ((rd_T33 l0 D3).f0))∧w'.cell? ⟨(F6.add ((D3).toNat * 3)).block,(F6.add ((D3).toNat * 3)).off+1,none⟩=some (.slice F7 ((rd_T33 l0 D3).f1).length F8)∧w'.cell? ⟨(F6.add ((D3).toNat * 3)).block,(F6.add ((D3).toNat * 3)).off+2,none⟩=some (.slice F9 ((rd_T33 l0 D3).f2).length G5)) (ds:=[]) (bA 12 0) (by kernel_rfl) rfl rfl ⟨(blk_cell z5.out 0).trans rfl,(blk_cell z5.out 1).trans rfl,(blk_cell z5.out 2).trans rfl,(hB HB I6),(hB HB I5),(hB HB I4)⟩ (fun hHeld=>?_);refine with_tabW Azb.tab12 Azb.bits12 (fun HT_ HW_=>?_)
        generalize wr.drew=J3 at E0 E1 d9 z5 HB I7 I9 H5 H6 H7 hHeld ⊢;refine pS 1 39 HT_ ?_;refine pS 2 40 HT_ ?_;refine pS 3 41 HT_ ?_;refine tU 0 38 HT_ HW_ hHeld ?_;refine tU 4 42 HT_ HW_ hHeld ?_;refine join_ (σ:=Value × Value × Nat) 2 (bA 12 1023) (fun s_=>[(43,.tuple #[.agg #[.bool E5,s_.1,s_.2.1],.int .i64 E8]),(8,.pointer (some ⟨s_.2.2,0,none⟩)),(37,.tuple #[.agg #[.bool E5,s_.1,s_.2.1],.int .i64 E8]),(44,.agg #[.bool E5,s_.1,s_.2.1]),(45,.int .i64 E8)]) (fun s_ w'=>(w'.cell? ⟨z3,0,none⟩=some (.bool D5)∧w'.cell? ⟨z3,1,none⟩=some (.slice F2 D6.length F3)∧w'.cell? ⟨z3,2,none⟩=some (.slice F4 D7.length F5)∧w'.cell? (F6.add ((D3).toNat * 3))=some (.bool ((rd_T33 l0 D3).f0))∧w'.cell? ⟨(F6.add ((D3).toNat * 3)).block,(F6.add ((D3).toNat * 3)).off+1,none⟩=some (.slice F7 ((rd_T33 l0 D3).f1).length F8)∧w'.cell? ⟨(F6.add ((D3).toNat * 3)).block,(F6.add ((D3).toNat * 3)).off+2,none⟩=some (.slice F9 ((rd_T33 l0 D3).f2).length G5))∧(rI w' w (fun k_=>some k_≠(s_.2.1:Value).ownBlock∧oN F2 D6.length F3 k_∧oN F4 D7.length F5 k_) s_.1 E6)∧(rI w' w (fun k_=>some k_≠(s_.1:Value).ownBlock∧oN F2 D6.length F3 k_∧oN F4 D7.length F5 k_) s_.2.1 E7)∧(rI w' w (fun k_=>some k_≠(s_.1:Value).ownBlock∧some k_≠(s_.2.1:Value).ownBlock∧oN F4 D7.length F5 k_) (.slice F2 D6.length F3) D6)∧(rI w' w (fun k_=>some k_≠(s_.1:Value).ownBlock∧some k_≠(s_.2.1:Value).ownBlock∧oN F2 D6.length F3 k_) (.slice F4 D7.length F5) D7)∧(w'.heap[d7]?=some (.cells #[.bool D4,.slice none 0 0,.slice none 0 0] 33 (0,0)))∧(w'.heap[z3]?=some (.cells #[.bool D5,.slice F2 D6.length F3,.slice F4 D7.length F5] 33 (0,0)))∧(w'.heap[s_.2.2]?=some (.cells #[.bool false,.slice none 0 0,.slice none 0 0] 33 (0,0)))∧(w.heap.size≤s_.2.2)∧(w.heap.size≤s_.2.2)∧(d7≠s_.2.2)∧(s_.2.2≠d7)∧(z3≠s_.2.2)∧(s_.2.2≠z3)∧(bw w w')) ?_ ?_
        rotate_left
        ·intro hCont;refine two_ (i:=5) (j:=9) (Ni:=some 43) (Nj:=some 8) (bA 12 63) (bA 12 543) rfl rfl rfl rfl (two_of HT_.out (by kernel_rfl)) (by decide) (by decide) (fun K hK=>?_) (fun K hK=>?_)
         ·skip
          refine goes_ Try.func29 (by kernel_rfl) rfl #[.agg #[.bool D5,.slice F2 D6.length F3,.slice F4 D7.length F5],.agg #[.bool ((rd_T33 l0 D3).f0),.slice F7 ((rd_T33 l0 D3).f1).length F8,.slice F9 ((rd_T33 l0 D3).f2).length G5]] (by rfl) rfl rfl mA ?_
          with_reducible refine(Azm.calls k2 D5 _ _ D6 _ _ D7 ((rd_T33 l0 D3).f0) _ _ ((rd_T33 l0 D3).f1) _ _ ((rd_T33 l0 D3).f2) E5 E6 E7 E8 _ ?side1 ?side2 ?side3 ?side4 ?side5 ?side6 ?side7 ?side8 E9.out).mono ?_
          (case side1=>exact cR E0)
          (case side2=>exact lR E0)
          (case side3=>exact cR E1)
          (case side4=>exact lR E1)
          (case side5=>exact cB I7)
          (case side6=>exact I8.out)
          (case side7=>exact cB I9)
          (case side8=>exact J0.out)
          rintro e J4 ⟨J5,J6,rfl,t6,t7,hb⟩;refine⟨_,rfl,?_⟩;have n0_:=rO E0 hb t6 t7
          have n1_:=rO E1 hb t6 t7
          have n2_:=rL (rn (rn t6 E0) E1);have n3_:=rL (rn (rn t7 E0) E1);have n4_:=kb d9 hb;have n5_:=kb z5 hb;have n6_:=bB hb;clear E0 E1 d9 z5 HB;have E0:=n0_;have E1:=n1_;have J7:=n2_;have J8:=n3_;have d9:=n4_;have z5:=n5_;have HB:=n6_;clear n0_ n1_ n2_ n3_ n4_ n5_ n6_;(try clear hb)
          (try clear J9)
          (try clear hk)
          (try clear hi)
          (try clear t6)
          (try clear t7)
          refine hK.out _ _ ⟨(blk_cell z5.out 0).trans rfl,(blk_cell z5.out 1).trans rfl,(blk_cell z5.out 2).trans rfl,(hB HB I6),(hB HB I5),(hB HB I4)⟩ (fun hHeld=>?_)
          clear hK K;refine nm 43 ?_;refine pS 6 37 HT_ ?_;refine pS 7 44 HT_ ?_;refine pS 8 45 HT_ ?_;refine oU 9 (some 8) HT_ fun K hK=>?_
          refine box_step ?hg (N:=8) ?hd (cs:=#[.bool false,.slice none 0 0,.slice none 0 0]) (t:=33) ?hr ?_;(case hd=>rfl);(case hg=>rfl);(case hr=>first|(go_simp;done)|(go_simp;rfl))
          intro K0 hg K1 hbox hb;have n0_:=rB E0 hb;have n1_:=rB E1 hb;have n2_:=rB J7 hb;have n3_:=rB J8 hb;have n4_:=kb d9 hb;have n5_:=kb z5 hb;have n6_:=bB hb;have n7_:=aM (hbox);have n8_:=gA w hg;have n9_:=gA w hg;have K2:=nl hg d9;have K3:=ng hg d9;have K4:=nl hg z5;have K5:=ng hg z5;clear E0 E1 J7 J8 d9 z5 HB;have E0:=n0_;have E1:=n1_;have J7:=n2_;have J8:=n3_;have d9:=n4_;have z5:=n5_;have HB:=n6_;have K6:=n7_;have K7:=n8_;have K8:=n9_;have K9:=K2;have L0:=K3;have L7:=K4;have L8:=K5;clear n0_ n1_ n2_ n3_ n4_ n5_ n6_ n7_ n8_ n9_ K2 K3 K4 K5 hb hbox hg;refine hK.out _ _ ⟨(blk_cell z5.out 0).trans rfl,(blk_cell z5.out 1).trans rfl,(blk_cell z5.out 2).trans rfl,(hB HB I6),(hB HB I5),(hB HB I4)⟩ (fun hHeld=>?_)
          clear hK K;refine nm 8 ?_;exact norm_ (by simp only[putAll,Act.put,sA,sZ,sC]) (hCont (J5,J6,K0) _ ⟨hHeld,(rX (Kd.R_mono J7.out (fun _ hk=>⟨hk.1.1,⟨hk.1.2,hk.2⟩⟩))),(rX (Kd.R_mono J8.out (fun _ hk=>⟨hk.1.1,⟨hk.1.2,hk.2⟩⟩))),(rX (Kd.R_mono E0.out (fun _ hk=>⟨hk.1.2,⟨hk.2,hk.1.1⟩⟩))),(rX (Kd.R_mono E1.out (fun _ hk=>⟨hk.1.2,⟨hk.2,hk.1.1⟩⟩))),(kW d9),(kW z5),(kW K6),K7.out,K8.out,K9.out,L0.out,L7.out,L8.out,pB⟩)
         ·skip
          refine box_step ?hg (N:=8) ?hd (cs:=#[.bool false,.slice none 0 0,.slice none 0 0]) (t:=33) ?hr ?_;(case hd=>rfl);(case hg=>rfl);(case hr=>first|(go_simp;done)|(go_simp;rfl))
          intro K0 hg J4 hbox hb;have n0_:=rB E0 hb;have n1_:=rB E1 hb;have n2_:=kb d9 hb;have n3_:=kb z5 hb;have n4_:=bB hb;have n5_:=aM (hbox);have n6_:=gA w hg;have n7_:=gA w hg;have n8_:=nl hg d9;have n9_:=ng hg d9;have K2:=nl hg z5;have K3:=ng hg z5;clear E0 E1 d9 z5 HB;have E0:=n0_;have E1:=n1_;have d9:=n2_;have z5:=n3_;have HB:=n4_;have K6:=n5_;have K7:=n6_;have K8:=n7_;have K9:=n8_;have L0:=n9_;have L7:=K2;have L8:=K3;clear n0_ n1_ n2_ n3_ n4_ n5_ n6_ n7_ n8_ n9_ K2 K3 hb hbox hg;refine hK.out _ _ ⟨(blk_cell z5.out 0).trans rfl,(blk_cell z5.out 1).trans rfl,(blk_cell z5.out 2).trans rfl,(hB HB I6),(hB HB I5),(hB HB I4)⟩ (fun hHeld=>?_)
          clear hK K;refine nm 8 ?_;refine oU 5 (some 43) HT_ fun K hK=>?_
          refine goes_ Try.func29 (by kernel_rfl) rfl #[.agg #[.bool D5,.slice F2 D6.length F3,.slice F4 D7.length F5],.agg #[.bool ((rd_T33 l0 D3).f0),.slice F7 ((rd_T33 l0 D3).f1).length F8,.slice F9 ((rd_T33 l0 D3).f2).length G5]] (by rfl) rfl rfl mA ?_
          with_reducible refine(Azm.calls k2 D5 _ _ D6 _ _ D7 ((rd_T33 l0 D3).f0) _ _ ((rd_T33 l0 D3).f1) _ _ ((rd_T33 l0 D3).f2) E5 E6 E7 E8 _ ?side1 ?side2 ?side3 ?side4 ?side5 ?side6 ?side7 ?side8 E9.out).mono ?_
          (case side1=>exact cR E0)
          (case side2=>exact lR E0)
          (case side3=>exact cR E1)
          (case side4=>exact lR E1)
          (case side5=>exact cB I7)
          (case side6=>exact I8.out)
          (case side7=>exact cB I9)
          (case side8=>exact J0.out)
          rintro e K1 ⟨J5,J6,rfl,t6,t7,hb⟩;refine⟨_,rfl,?_⟩;have n0_:=rO E0 hb t6 t7
          have n1_:=rO E1 hb t6 t7
          have n2_:=rL (rn (rn t6 E0) E1);have n3_:=rL (rn (rn t7 E0) E1);have n4_:=kb d9 hb;have n5_:=kb z5 hb;have n6_:=kb K6 hb;have n7_:=bB hb;clear E0 E1 d9 z5 K6 HB;have E0:=n0_;have E1:=n1_;have J7:=n2_;have J8:=n3_;have d9:=n4_;have z5:=n5_;have K6:=n6_;have HB:=n7_;clear n0_ n1_ n2_ n3_ n4_ n5_ n6_ n7_;(try clear hb)
          (try clear J9)
          (try clear hk)
          (try clear hi)
          (try clear t6)
          (try clear t7)
          refine hK.out _ _ ⟨(blk_cell z5.out 0).trans rfl,(blk_cell z5.out 1).trans rfl,(blk_cell z5.out 2).trans rfl,(hB HB I6),(hB HB I5),(hB HB I4)⟩ (fun hHeld=>?_)
          clear hK K;refine nm 43 ?_;refine pS 6 37 HT_ ?_;refine pS 7 44 HT_ ?_;refine pS 8 45 HT_ ?_;exact norm_ (by simp only[putAll,Act.put,sA,sZ,sC]) (hCont (J5,J6,K0) _ ⟨hHeld,(rX (Kd.R_mono J7.out (fun _ hk=>⟨hk.1.1,⟨hk.1.2,hk.2⟩⟩))),(rX (Kd.R_mono J8.out (fun _ hk=>⟨hk.1.1,⟨hk.1.2,hk.2⟩⟩))),(rX (Kd.R_mono E0.out (fun _ hk=>⟨hk.1.2,⟨hk.2,hk.1.1⟩⟩))),(rX (Kd.R_mono E1.out (fun _ hk=>⟨hk.1.2,⟨hk.2,hk.1.1⟩⟩))),(kW d9),(kW z5),(kW K6),K7.out,K8.out,K9.out,L0.out,L7.out,L8.out,pB⟩)
        rintro ⟨J5,J6,K0⟩ L9 ⟨hS_,h0_,h1_,h2_,h3_,h4_,h5_,h6_,h7_,h8_,h9_,M0,M3,M4,M5⟩;have n0_:Aside0 (rI L9 w (fun k_=>oV J6 k_∧oN F2 D6.length F3 k_∧oN F4 D7.length F5 k_) J5 E6):=⟨h0_⟩
        have n1_:Aside0 (rI L9 w (fun k_=>oV J5 k_∧oN F2 D6.length F3 k_∧oN F4 D7.length F5 k_) J6 E7):=⟨h1_⟩
        have n2_:Aside0 (rI L9 w (fun k_=>oV J5 k_∧oV J6 k_∧oN F4 D7.length F5 k_) (.slice F2 D6.length F3) D6):=⟨h2_⟩
        have n3_:Aside0 (rI L9 w (fun k_=>oV J5 k_∧oV J6 k_∧oN F2 D6.length F3 k_) (.slice F4 D7.length F5) D7):=⟨h3_⟩
        have n4_:Aside0 (L9.heap[d7]?=some (.cells #[.bool D4,.slice none 0 0,.slice none 0 0] 33 (0,0))):=⟨h4_⟩;have n5_:Aside0 (L9.heap[z3]?=some (.cells #[.bool D5,.slice F2 D6.length F3,.slice F4 D7.length F5] 33 (0,0))):=⟨h5_⟩;have n6_:Aside0 (L9.heap[K0]?=some (.cells #[.bool false,.slice none 0 0,.slice none 0 0] 33 (0,0))):=⟨h6_⟩;have n7_:Aside0 (w.heap.size≤K0):=⟨h7_⟩;have n8_:Aside0 (w.heap.size≤K0):=⟨h8_⟩;have n9_:Aside0 (d7≠K0):=⟨h9_⟩;have K2:Aside0 (K0≠d7):=⟨M0⟩;have K3:Aside0 (z3≠K0):=⟨M3⟩;have K4:Aside0 (K0≠z3):=⟨M4⟩;have K5:Aside0 (bw w L9):=⟨M5⟩;clear E0 E1 d9 z5 HB h0_ h1_ h2_ h3_ h4_ h5_ h6_ h7_ h8_ h9_ M0 M3 M4 M5;have J7:=n0_;have J8:=n1_;have E0:=n2_;have E1:=n3_;have d9:=n4_;have z5:=n5_;have K6:=n6_;have K7:=n7_;have K8:=n8_;have K9:=n9_;have L0:=K2;have L7:=K3;have L8:=K4;have HB:=K5;clear n0_ n1_ n2_ n3_ n4_ n5_ n6_ n7_ n8_ n9_ K2 K3 K4 K5;have hHeld:L9.cell? ⟨z3,0,none⟩=some (.bool D5)∧L9.cell? ⟨z3,1,none⟩=some (.slice F2 D6.length F3)∧L9.cell? ⟨z3,2,none⟩=some (.slice F4 D7.length F5)∧L9.cell? (F6.add ((D3).toNat * 3))=some (.bool ((rd_T33 l0 D3).f0))∧L9.cell? ⟨(F6.add ((D3).toNat * 3)).block,(F6.add ((D3).toNat * 3)).off+1,none⟩=some (.slice F7 ((rd_T33 l0 D3).f1).length F8)∧L9.cell? ⟨(F6.add ((D3).toNat * 3)).block,(F6.add ((D3).toNat * 3)).off+2,none⟩=some (.slice F9 ((rd_T33 l0 D3).f2).length G5):=hS_;obtain⟨M6,M7,M8⟩:=Kd.R_slice J7.out;(first|subst M8|(injection M8 with f1_ f2_ f3_;have f4_:=f1_.symm;have f5_:=f3_.symm;clear f1_ f2_ f3_;subst f4_;subst f5_))
        obtain⟨M9,N0,N1⟩:=Kd.R_slice J8.out;(first|subst N1|(injection N1 with f1_ f2_ f3_;have f4_:=f1_.symm;have f5_:=f3_.symm;clear f1_ f2_ f3_;subst f4_;subst f5_))
        refine norm_ (a':=?_) ?_ ?_;rotate_left
        ·simp only[putAll,Act.put,sA,sZ,sC];rfl
        refine oU 10 none HT_ fun K hK=>?_
        have N2:L9.cell? ⟨K0,0,none⟩=some (.bool false):=(blk_cell K6.out 0).trans rfl;have hfs30:=blk_frozen K6.out 0;have hns30_0:=K9.out;have hns30_1:=L7.out;have hms30_0:=L0.out;have hms30_1:=L8.out;have N3:L9.cell? ⟨K0,1,none⟩=some (.slice none 0 0):=(blk_cell K6.out 1).trans rfl;have hfs32:=blk_frozen K6.out 1;have hns32_0:=K9.out;have hns32_1:=L7.out;have hms32_0:=L0.out;have hms32_1:=L8.out;have N4:L9.cell? ⟨K0,2,none⟩=some (.slice none 0 0):=(blk_cell K6.out 2).trans rfl;have hfs34:=blk_frozen K6.out 2;have hns34_0:=K9.out;have hns34_1:=L7.out;have hms34_0:=L0.out;have hms34_1:=L8.out;refine skip_ (w1:=?_) (by rfl) rfl ?_ ?_
        rotate_left
        ·go_simp
         rfl
        refine hK.out _ _ ⟨((cell_far (p:=⟨K0,_,none⟩) L7.out _).trans (((cell_far (p:=⟨K0,_,none⟩) L7.out _).trans (((cell_far (p:=⟨K0,_,none⟩) L7.out _).trans (hHeld.1)))))),((cell_far (p:=⟨K0,_,none⟩) L7.out _).trans (((cell_far (p:=⟨K0,_,none⟩) L7.out _).trans (((cell_far (p:=⟨K0,_,none⟩) L7.out _).trans (hHeld.2.1)))))),((cell_far (p:=⟨K0,_,none⟩) L7.out _).trans (((cell_far (p:=⟨K0,_,none⟩) L7.out _).trans (((cell_far (p:=⟨K0,_,none⟩) L7.out _).trans (hHeld.2.2.1)))))),((cell_far (p:=⟨K0,_,none⟩) (nC I6 K7) _).trans (((cell_far (p:=⟨K0,_,none⟩) (nC I6 K7) _).trans (((cell_far (p:=⟨K0,_,none⟩) (nC I6 K7) _).trans (hHeld.2.2.2.1)))))),((cell_far (p:=⟨K0,_,none⟩) (nC I5 K7) _).trans (((cell_far (p:=⟨K0,_,none⟩) (nC I5 K7) _).trans (((cell_far (p:=⟨K0,_,none⟩) (nC I5 K7) _).trans (hHeld.2.2.2.2.1)))))),((cell_far (p:=⟨K0,_,none⟩) (nC I4 K7) _).trans (((cell_far (p:=⟨K0,_,none⟩) (nC I4 K7) _).trans (((cell_far (p:=⟨K0,_,none⟩) (nC I4 K7) _).trans (hHeld.2.2.2.2.2))))))⟩ (fun hHeld=>?_)
        clear hK K;refine pS 11 9 HT_ ?_;refine done_ (done_of HT_.out (by kernel_rfl)) ?_
        go_upto_if 47 with (fail)
        have H:=F0.out;clear F0;replace H:=iE H;rcases H with⟨N6,N7,H⟩|⟨N5,N6,N7,H⟩
        ·(first|rw[N6]|(simp only[i64_w,i32_w];rw[N6])|skip)
         have H':=aM H;clear H;have N8:=L0.out;have N9:=K9.out;have O0:=L8.out;have O1:=L7.out;obtain⟨O2,O3,O4,O5,O6,O7⟩:=bk3 K6;have O8:=z9.out;have O9:=z8.out;obtain⟨P0,P3,P4,P5,P6,P7⟩:=bk3 z5;go_wp2
         go_roundg k2
         case measure=>have:=g6.out;have:=D9.out;omega
         case rel=>exact⟨(wrap64 (D3+1)),(D4),(E5),(E6),(E7),(.slice M6 E6.length M7),(.slice M9 E7.length N0),sD,H',⟨by have:=g6.out;have:=D9.out;omega⟩,⟨by exact rX (Kd.R_mono (Kd.R_far (p:=⟨z3,2,none⟩) (Kd.R_far (p:=⟨z3,1,none⟩) (Kd.R_far (p:=⟨z3,0,none⟩) (Kd.R_far (p:=⟨K0,2,none⟩) (Kd.R_far (p:=⟨K0,1,none⟩) (Kd.R_far (p:=⟨K0,0,none⟩) (Kd.R_types (Kd.R_types J7.out K6.out (by decide)) z5.out (by decide)) (fun _ hk=>hk.1.2) (.bool E5)) (fun _ hk=>hk.1.2) (.slice M6 E6.length M7)) (fun _ hk=>hk.1.2) (.slice M9 E7.length N0)) (fun _ hk=>hk.2) (.bool E5)) (fun _ hk=>hk.2) (.slice M6 E6.length M7)) (fun _ hk=>hk.2) (.slice M9 E7.length N0)) (fun _ hk=>hk.1.1.1))⟩,⟨by exact rX (Kd.R_mono (Kd.R_far (p:=⟨z3,2,none⟩) (Kd.R_far (p:=⟨z3,1,none⟩) (Kd.R_far (p:=⟨z3,0,none⟩) (Kd.R_far (p:=⟨K0,2,none⟩) (Kd.R_far (p:=⟨K0,1,none⟩) (Kd.R_far (p:=⟨K0,0,none⟩) (Kd.R_types (Kd.R_types J8.out K6.out (by decide)) z5.out (by decide)) (fun _ hk=>hk.1.2) (.bool E5)) (fun _ hk=>hk.1.2) (.slice M6 E6.length M7)) (fun _ hk=>hk.1.2) (.slice M9 E7.length N0)) (fun _ hk=>hk.2) (.bool E5)) (fun _ hk=>hk.2) (.slice M6 E6.length M7)) (fun _ hk=>hk.2) (.slice M9 E7.length N0)) (fun _ hk=>hk.1.1.1))⟩,⟨by exact kf2 d9 z8 K9⟩,⟨by refine bD ?_;refine blk_put (cs:=#[.bool E5,.slice M6 E6.length M7,.slice F4 D7.length F5]) ?_ 2 _ rfl;refine bD ?_;refine blk_put (cs:=#[.bool E5,.slice F2 D6.length F3,.slice F4 D7.length F5]) ?_ 1 _ rfl;refine bD ?_;refine blk_put (cs:=#[.bool D5,.slice F2 D6.length F3,.slice F4 D7.length F5]) ?_ 0 _ rfl;refine bD ?_;refine blk_far ?_ L7.out _;refine bD ?_;refine blk_far ?_ L7.out _;refine bD ?_;refine blk_far ?_ L7.out _;(with_reducible repeat(first|refine blk_drewN ?_ _|refine blk_drew ?_|refine blk_alloc ?_ _));exact z5.out⟩,⟨pB⟩⟩
        ·(first|rw[N6]|(simp only[i64_w,i32_w];rw[N6])|skip)
         obtain⟨rfl,rfl,rfl,rfl⟩:=q4 H;have P8:=z8.out;have P9:=z9.out;have Q0:=K9.out;have Q1:=L0.out;obtain⟨Q2,Q3,Q4,Q5,Q6,Q7⟩:=bk3 d9;go_wp2
         refine rC d7 33 #[.bool false,.slice none 0 0,.slice none 0 0] (by refine bD ?_;refine blk_put (cs:=#[.bool false,.slice none 0 0,.slice none 0 0]) ?_ 2 _ rfl;refine bD ?_;refine blk_put (cs:=#[.bool false,.slice none 0 0,.slice none 0 0]) ?_ 1 _ rfl;refine bD ?_;refine blk_put (cs:=#[.bool D4,.slice none 0 0,.slice none 0 0]) ?_ 0 _ rfl;refine bD ?_;refine blk_far ?_ K9.out _;refine bD ?_;refine blk_far ?_ K9.out _;refine bD ?_;refine blk_far ?_ K9.out _;(with_reducible repeat(first|refine blk_drewN ?_ _|refine blk_drew ?_|refine blk_alloc ?_ _));exact d9.out) Try.underlying33 ?_
         exact⟨_,_,eW,nK,nK,pB⟩
       ·obtain⟨rfl,rfl,rfl,rfl⟩:=q4 H;have Q8:=z9.out;have Q9:=z8.out;obtain⟨R0,R1,R2,R3,R4,R5⟩:=bk3 z5;obtain⟨R6,R7,R8,R9,U0,U1⟩:=bk3 d9;obtain⟨U2,U3,rfl⟩:=Kd.R_slice E0.out;obtain⟨U4,U5,rfl⟩:=Kd.R_slice E1.out;go_wp2
        refine rC d7 33 #[.bool D5,.slice U2 D6.length U3,.slice U4 D7.length U5] (kQ d9) Try.underlying33 ?_
        exact⟨_,_,eW,by exact Kd.R_mono (rT E0 d9) (fun _ hk=>hk),by exact Kd.R_mono (rT E1 d9) (fun _ hk=>hk),pB⟩

end Go.Proofs.Ytbnpcplckcipfaa.Print
