import Derived.Test.YtbnpcplckcipfaaPrint0
import Derived.Test.YtbnpcplckcipfaaPrint45
import Derived.Test.YtbnpcplckcipfaaPrint48
import Derived.Test.YtbnpcplckcipfaaPrint27
import Derived.Test.YtbnpcplckcipfaaPrint29
import Derived.Test.YtbnpcplckcipfaaPrint37
namespace Go.Proofs.Ytbnpcplckcipfaa.Print
open Go.RowKit Go.Proofs.YtbnpcplckcipfaaW.PrintWords Go.Proofs.YtbnpcplckcipfaaW.PrintLast Go.Proofs.YtbnpcplckcipfaaW.PrintMore
attribute [local go_sem] dF dG eB eD dm dn dH dI
set_option linter.unusedVariables false
set_option maxRecDepth 100000
set_option maxHeartbeats 8000000
set_option linter.unusedSimpArgs false

mutual
def Azf.j0:Nat→Bool→Bool→List Int→List Int→Bool→List Int→List Int→Option (Bool × List Int × List Int × Int)
 | 0,_,_,_,_,_,_,_=>none
 | k+1,x22,x846000,x846001,x846002,x847000,x847001,x847002=>if x22=true then(some (false,([]:List Int),([]:List Int),3)) else((Bzp.f k x846001 x847002).bind fun bt850=>((Bzp.f k x847001 x846002).bind fun bt854=>((Bzp.f k x846002 x847002).bind fun bt858=>(if bt850.2=0 then(if bt854.2=0 then(Azf.j1 k bt850.1 bt854.1 bt858.1 (bt858.2 != 0) x846000 x846001 x846002 x847000 x847001 x847002) else(Azf.j1 k bt850.1 bt854.1 bt858.1 true x846000 x846001 x846002 x847000 x847001 x847002)) else(Azf.j1 k bt850.1 bt854.1 bt858.1 true x846000 x846001 x846002 x847000 x847001 x847002)))))
def Azf.j1:Nat→List Int→List Int→List Int→Bool→Bool→List Int→List Int→Bool→List Int→List Int→Option (Bool × List Int × List Int × Int)
 | 0,_,_,_,_,_,_,_,_,_,_=>none
 | k+1,x6,x8,x10,x57,x846000,x846001,x846002,x847000,x847001,x847002=>if x57=true then(some (false,([]:List Int),([]:List Int),2)) else((Ezv.f k x846000 x6 x847000 x8).bind fun bt862=>(if bt862.2.2=0 then((Czb.f k bt862.1 bt862.2.1 x10).bind fun bt867=>(some (bt867.1,bt867.2.1,bt867.2.2,0))) else(some (false,([]:List Int),([]:List Int),2))))
end
def Azf.f (k:Nat) (a0_0:Bool) (l0_1:List Int) (l0_2:List Int) (a1_0:Bool) (l1_1:List Int) (l1_2:List Int):Option (Bool × List Int × List Int × Int):=(Azx.f k a0_0 l0_1 l0_2).bind fun t848=>(if t848=true then((Azx.f k a1_0 l1_1 l1_2).bind fun t849=>(Azf.j0 k (!t849) a0_0 l0_1 l0_2 a1_0 l1_1 l1_2)) else(Azf.j0 k true a0_0 l0_1 l0_2 a1_0 l1_1 l1_2))
theorem Azf.mono_l:∀ k,(∀ a6 a7 a8 a9 b4 b5 b6,LeO (Azf.j0 k a6 a7 a8 a9 b4 b5 b6) (Azf.j0 (k+1) a6 a7 a8 a9 b4 b5 b6))∧(∀ a6 a7 a8 a9 b4 b5 b6 b7 b8 b9,LeO (Azf.j1 k a6 a7 a8 a9 b4 b5 b6 b7 b8 b9) (Azf.j1 (k+1) a6 a7 a8 a9 b4 b5 b6 b7 b8 b9))
 | 0=>⟨fun _ _ _ _ _ _ _ r h=>by simp [Azf.j0] at h,fun _ _ _ _ _ _ _ _ _ _ r h=>by simp [Azf.j1] at h⟩
 | k+1=>by
  obtain⟨ih0,ih1⟩:=Azf.mono_l k;have i0:=@Bzp.mono;have i1:=@Czb.mono;have i2:=@Azx.mono;have i3:=@Ezv.mono;refine⟨?_,?_⟩
  ·intro a6 a7 a8 a9 b4 b5 b6;unfold Azf.j0;exact mM
  ·intro a6 a7 a8 a9 b4 b5 b6 b7 b8 b9;unfold Azf.j1;exact mM
theorem Azf.mono:∀ a6 a7 a8 a9 b4 b5 k,LeO (Azf.f k a6 a7 a8 a9 b4 b5) (Azf.f (k+1) a6 a7 a8 a9 b4 b5):=by
 intro a6 a7 a8 a9 b4 b5 k;obtain⟨ih0,ih1⟩:=Azf.mono_l k;unfold Azf.f;have i0:=@Bzp.mono;have i1:=@Czb.mono;have i2:=@Azx.mono;have i3:=@Ezv.mono;exact mM
theorem Azf.calls (k:Nat) (a6:Bool) (a7:Option Addr) (a8:Nat) (a9:List Int) (b4:Option Addr) (b5:Nat) (b6:List Int) (b7:Bool) (b8:Option Addr) (b9:Nat) (d6:List Int) (d7:Option Addr) (d8:Nat) (d9:List Int) (e6:Bool) (e7:List Int) (f6:List Int) (f7:Int) (w:World) (f8:cI w a7 a9) (g5:a9.length≤a8) (g8:cI w b4 b6) (g9:b6.length≤b5) (j3:cI w b8 d6) (j4:d6.length≤b9) (j5:cI w d7 d9) (j6:d9.length≤d8) (h:Azf.f k a6 a9 b6 b7 d6 d9=some (e6,e7,f6,f7)) :
  Calls Try.prog 29 #[.agg #[.bool a6,.slice a7 a9.length a8,.slice b4 b6.length b5],.agg #[.bool b7,.slice b8 d6.length b9,.slice d7 d9.length d8]] w fun e w'=>∃ v1_ v2_:Value,e=.returned (.tuple #[.agg #[.bool e6,v1_,v2_],.int .i64 f7])∧rI w' w (oV v2_) v1_ e7∧rI w' w (oV v1_) v2_ f6∧bw w w':=by
 have hu33:=Try.underlying33;have j7:=aM f8;have j8:=aM g5;clear f8 g5;have j9:=aM g8;have l5:=aM g9;clear g8 g9;have l6:=aM j3;have l7:=aM j4;clear j3 j4;have l8:=aM j5;have l9:=aM j6;clear j5 j6;have HB:=aM (Below.refl w.heap.size w);have H:((Azx.f k a6 a9 b6).bind fun m0=>(if m0=true then((Azx.f k b7 d6 d9).bind fun m4=>(Azf.j0 k (!m4) a6 a9 b6 b7 d6 d9)) else(Azf.j0 k true a6 a9 b6 b7 d6 d9)))=some (e6,e7,f6,f7):=h
 clear h;have m5:=aM H;clear H;go_enter Try.func29,Try.ntmps29
 go_upto_region 1 with (first|((with_reducible refine gd 2 rfl ?_);refine bx #[.bool a6,.slice a7 a9.length a8,.slice b4 b6.length b5] 33 ?_;intro m6 hg m7 m8 hb;have m9:=gA w hg;replace HB:=bB hb;clear hb hg)|((with_reducible refine gd 3 rfl ?_);refine bx #[.bool b7,.slice b8 d6.length b9,.slice d7 d9.length d8] 33 ?_;intro n7 hg n8 n9 hb;have o0:=gA w hg;have o9:=nl hg m8;have p9:=ng hg m8;replace m8:=kb m8 hb;replace HB:=bB hb;clear hb hg)|((with_reducible refine gd 4 rfl ?_);refine bz 33 ?_;intro r6 hg r7 r8 hb;have r9:=gA w hg;have t5:=nl hg m8;have t6:=ng hg m8;have t7:=nl hg n9;have t8:=ng hg n9;replace m8:=kb m8 hb;replace n9:=kb n9 hb;replace HB:=bB hb;clear hb hg))
 (try simp only[Act.put,sA,sZ,sC])
 go_cut [22] (fun t9 wc=>∃ (kq:Nat) (z3:Bool),t9=.bool z3∧ae (Azf.j0 kq z3 a6 a9 b6 b7 d6 d9=some (e6,e7,f6,f7))∧ae (kq≤k)∧ae (wc.heap[m6]?=some (.cells #[.bool a6,(.slice a7 a9.length a8),(.slice b4 b6.length b5)] 33 (0,0)))∧ae (wc.heap[n7]?=some (.cells #[.bool b7,(.slice b8 d6.length b9),(.slice d7 d9.length d8)] 33 (0,0)))∧ae (wc.heap[r6]?=some (.cells #[.bool false,(.slice none 0 0),(.slice none 0 0)] 33 (0,0)))∧ae (bw w wc))
 case first =>
  have H:=m5.out;clear m5;obtain⟨m0,z4,H⟩:=bT H;(try dsimp only at H);by_cases c8:m0=true
  ·subst c8;rw[if_pos rfl] at H;obtain⟨m4,z5,H⟩:=bT H;(try dsimp only at H);have H':=aM H;clear H;have z6:=o9.out;have z7:=p9.out;have z8:=t5.out;have z9:=t6.out;obtain⟨B0,B5,B9,C0,C1,C2⟩:=bk3 m8;go_wp2_with (first|((with_reducible refine gc 39 rfl ?_);refine gC 39 (some 16) Try.func39 #[.agg #[.bool a6,.slice a7 a9.length a8,.slice b4 b6.length b5]] ?_;(with_reducible refine(Azx.calls k a6 _ _ a9 _ _ b6 true _ ?_ ?_ ?_ ?_ z4.out).mono ?_);exact cB j7;exact j8.out;exact cB j9;exact l5.out;rintro e C3 ⟨rfl,hb⟩;refine⟨_,rfl,?_⟩;replace m8:=kb m8 hb;replace n9:=kb n9 hb;replace r8:=kb r8 hb;replace HB:=bB hb;clear hb;have C4:=t7.out;have C6:=t8.out;obtain⟨C7,C8,C9,D4,D5,D6⟩:=bk3 n9)|(go_at_call 39;(with_reducible refine(Azx.calls k b7 _ _ d6 _ _ d9 m4 _ ?_ ?_ ?_ ?_ z5.out).mono ?_);exact cB l6;exact l7.out;exact cB l8;exact l9.out;rintro e D7 ⟨rfl,hb⟩;replace m8:=kb m8 hb;replace n9:=kb n9 hb;replace r8:=kb r8 hb;replace HB:=bB hb;clear hb))
   go_meet
   case rel=>exact⟨_,(!m4),sD,H',⟨by first|omega|exact Nat.le_refl _⟩,⟨by exact kW m8⟩,⟨by exact kW n9⟩,⟨by exact kW r8⟩,⟨pB⟩⟩
  ·obtain rfl:=bN c8;rw[if_neg nF] at H
   have H':=aM H;clear H;have D8:=o9.out;have D9:=p9.out;have E0:=t5.out;have E1:=t6.out;obtain⟨E2,E3,E4,E5,E6,E7⟩:=bk3 m8;go_wp2_with (first|((with_reducible refine gc 39 rfl ?_);refine gC 39 (some 16) Try.func39 #[.agg #[.bool a6,.slice a7 a9.length a8,.slice b4 b6.length b5]] ?_;(with_reducible refine(Azx.calls k a6 _ _ a9 _ _ b6 false _ ?_ ?_ ?_ ?_ z4.out).mono ?_);exact cB j7;exact j8.out;exact cB j9;exact l5.out;rintro e E8 ⟨rfl,hb⟩;refine⟨_,rfl,?_⟩;replace m8:=kb m8 hb;replace n9:=kb n9 hb;replace r8:=kb r8 hb;replace HB:=bB hb;clear hb))
   go_meet
   case rel=>exact⟨_,(true),sD,H',⟨by first|omega|exact Nat.le_refl _⟩,⟨by exact kW m8⟩,⟨by exact kW n9⟩,⟨by exact kW r8⟩,⟨pB⟩⟩
 case rest =>
  clear m5;try clear E9
  obtain⟨kq,z3,rfl,HA,F0,m8,n9,r8,HB⟩:=hcut;cases kq with
  | zero=>exact absurd HA.out (by simp [Azf.j0])
  | succ F2 =>
   have H:=HA.out;clear HA;simp only[Azf.j0] at H;by_cases F3:z3=true
   ·subst F3;rw[if_pos rfl] at H;obtain⟨rfl,rfl,rfl,rfl⟩:=q4 H;have F4:=t6.out;have F5:=t5.out;have F6:=t8.out;have F7:=t7.out;obtain⟨F8,F9,G5,G9,H5,H6⟩:=bk3 r8;go_wp2
    refine rC r6 33 #[.bool false,.slice none 0 0,.slice none 0 0] (kQ r8) Try.underlying33 ?_
    exact⟨_,_,eW,nK,nK,pB⟩
   ·obtain rfl:=bN F3;rw[if_neg nF] at H
    obtain⟨⟨H7,H8⟩,H9,H⟩:=bT H;(try dsimp only at H);obtain⟨⟨I0,I3⟩,I4,H⟩:=bT H;(try dsimp only at H);obtain⟨⟨I5,I6⟩,I7,H⟩:=bT H;(try dsimp only at H);have I8:=aM H;clear H;have I9:=o9.out;have J0:=p9.out;have J1:=t5.out;have J2:=t6.out;obtain⟨J3,J4,J5,J6,J7,J8⟩:=bk3 m8;have J9:=t7.out;have K0:=t8.out;obtain⟨K1,K2,K3,K4,K5,K6⟩:=bk3 n9;go_upto_region 6 with (first|((with_reducible refine gc 56 rfl ?_);refine gC 56 (some 29) Try.func56 #[.slice a7 a9.length a8,.slice d7 d9.length d8] ?_;(with_reducible refine(Bzp.calls F2 _ _ a9 _ _ d9 H7 H8 _ ?_ ?_ ?_ ?_ H9.out).mono ?_);exact cB j7;exact j8.out;exact cB l8;exact l9.out;rintro e K7 ⟨K8,rfl,K9,hb⟩;refine⟨_,rfl,?_⟩;have L0:=rL K9;replace m8:=kb m8 hb;replace n9:=kb n9 hb;replace r8:=kb r8 hb;replace HB:=bB hb;clear hb K9;obtain⟨L8,L9,M0,M3,M4,M5⟩:=bk3 n9;obtain⟨M6,M7,M8,M9,N0,N1⟩:=bk3 m8)|((with_reducible refine gc 56 rfl ?_);refine gC 56 (some 37) Try.func56 #[.slice b8 d6.length b9,.slice b4 b6.length b5] ?_;(with_reducible refine(Bzp.calls F2 _ _ d6 _ _ b6 I0 I3 _ ?_ ?_ ?_ ?_ I4.out).mono ?_);exact cB l6;exact l7.out;exact cB j9;exact l5.out;rintro e N2 ⟨N3,rfl,K9,hb⟩;refine⟨_,rfl,?_⟩;have N4:=rL (rn K9 L0);replace L0:=rE L0 K9 hb;replace m8:=kb m8 hb;replace n9:=kb n9 hb;replace r8:=kb r8 hb;replace HB:=bB hb;clear hb K9;obtain⟨N5,N6,N7,N8,N9,O0⟩:=bk3 m8;obtain⟨O1,O2,O3,O4,O5,O6⟩:=bk3 n9)|((with_reducible refine gc 56 rfl ?_);refine gC 56 (some 45) Try.func56 #[.slice b4 b6.length b5,.slice d7 d9.length d8] ?_;(with_reducible refine(Bzp.calls F2 _ _ b6 _ _ d9 I5 I6 _ ?_ ?_ ?_ ?_ I7.out).mono ?_);exact cB j9;exact l5.out;exact cB l8;exact l9.out;rintro e O7 ⟨O8,rfl,K9,hb⟩;refine⟨_,rfl,?_⟩;have O9:=rL (rn (rn K9 L0) N4);replace L0:=rE L0 K9 hb;replace N4:=rE N4 K9 hb;replace m8:=kb m8 hb;replace n9:=kb n9 hb;replace r8:=kb r8 hb;replace HB:=bB hb;clear hb K9))
    (try simp only[Act.put,sA,sZ,sC])
    go_cut [57] (fun P0 wc=>∃ (kq:Nat) (P3:Bool),P0=.bool P3∧ae (Azf.j1 kq H7 I0 I5 P3 a6 a9 b6 b7 d6 d9=some (e6,e7,f6,f7))∧ae (kq≤F2)∧ae (rI wc w (fun k_=>oV N3 k_∧oV O8 k_) K8 H7)∧ae (rI wc w (fun k_=>oV K8 k_∧oV O8 k_) N3 I0)∧ae (rI wc w (fun k_=>oV K8 k_∧oV N3 k_) O8 I5)∧ae (wc.heap[m6]?=some (.cells #[.bool a6,(.slice a7 a9.length a8),(.slice b4 b6.length b5)] 33 (0,0)))∧ae (wc.heap[n7]?=some (.cells #[.bool b7,(.slice b8 d6.length b9),(.slice d7 d9.length d8)] 33 (0,0)))∧ae (wc.heap[r6]?=some (.cells #[.bool false,(.slice none 0 0),(.slice none 0 0)] 33 (0,0)))∧ae (bw w wc))
    case first =>
     have H:=I8.out;clear I8;replace H:=iE H;rcases H with⟨P5,P6,H⟩|⟨P4,P5,P6,H⟩
     ·(first|rw[P5]|(simp only[aH,bg];rw[P5])|skip)
      replace H:=iE H;rcases H with⟨P8,P9,H⟩|⟨P7,P8,P9,H⟩
      ·have H':=aM H;clear H;go_wp2
       go_meet
       case rel=>exact⟨_,((I6 != 0)),sD,H',⟨by have:=F0.out;first|omega|exact Nat.le_refl _⟩,⟨by exact rX (Kd.ah L0.out (fun _ hk=>⟨hk.1.2,hk.2⟩))⟩,⟨by exact rX (Kd.ah N4.out (fun _ hk=>⟨hk.1.2,hk.2⟩))⟩,⟨by exact rX (Kd.ah O9.out (fun _ hk=>⟨hk.1.2,hk.2⟩))⟩,⟨by exact kW m8⟩,⟨by exact kW n9⟩,⟨by exact kW r8⟩,⟨pB⟩⟩
      ·have H':=aM H;clear H;go_wp2
       go_meet
       case rel=>exact⟨_,(true),sD,H',⟨by have:=F0.out;first|omega|exact Nat.le_refl _⟩,⟨by exact rX (Kd.ah L0.out (fun _ hk=>⟨hk.1.2,hk.2⟩))⟩,⟨by exact rX (Kd.ah N4.out (fun _ hk=>⟨hk.1.2,hk.2⟩))⟩,⟨by exact rX (Kd.ah O9.out (fun _ hk=>⟨hk.1.2,hk.2⟩))⟩,⟨by exact kW m8⟩,⟨by exact kW n9⟩,⟨by exact kW r8⟩,⟨pB⟩⟩
     ·(first|rw[P5]|(simp only[aH,bg];rw[P5])|skip)
      have H':=aM H;clear H;go_wp2
      go_meet
      case rel=>exact⟨_,(true),sD,H',⟨by have:=F0.out;first|omega|exact Nat.le_refl _⟩,⟨by exact rX (Kd.ah L0.out (fun _ hk=>⟨hk.1.2,hk.2⟩))⟩,⟨by exact rX (Kd.ah N4.out (fun _ hk=>⟨hk.1.2,hk.2⟩))⟩,⟨by exact rX (Kd.ah O9.out (fun _ hk=>⟨hk.1.2,hk.2⟩))⟩,⟨by exact kW m8⟩,⟨by exact kW n9⟩,⟨by exact kW r8⟩,⟨pB⟩⟩
    case rest =>
     clear I8;try clear E9
     obtain⟨kq,P3,rfl,HA,Q0,Q1,Q2,Q3,m8,n9,r8,HB⟩:=hcut;cases kq with
     | zero=>exact absurd HA.out (by simp [Azf.j1])
     | succ Q4 =>
      have H:=HA.out;clear HA;simp only[Azf.j1] at H;by_cases Q5:P3=true
      ·subst Q5;rw[if_pos rfl] at H;obtain⟨rfl,rfl,rfl,rfl⟩:=q4 H;have Q6:=t6.out;have Q7:=t5.out;have Q8:=t8.out;have Q9:=t7.out;obtain⟨R0,R1,R2,R3,R4,R5⟩:=bk3 r8;go_wp2
       refine rC r6 33 #[.bool false,.slice none 0 0,.slice none 0 0] (kQ r8) Try.underlying33 ?_
       exact⟨_,_,eW,nK,nK,pB⟩
      ·obtain rfl:=bN Q5;rw[if_neg nF] at H
       obtain⟨⟨R6,R7,R8⟩,R9,H⟩:=bT H;(try dsimp only at H);have U0:=aM H;clear H;have U1:=o9.out;have U2:=p9.out;have U3:=t5.out;have U4:=t6.out;obtain⟨U5,U6,U7,U8,U9,V0⟩:=bk3 m8;have V4:=t7.out;have V5:=t8.out;obtain⟨V6,V7,V8,V9,W3,W4⟩:=bk3 n9;obtain⟨W5,W6,rfl⟩:=Kd.aj Q1.out;obtain⟨W7,W8,rfl⟩:=Kd.aj Q2.out;go_upto_if 71 with (first|((with_reducible refine gc 57 rfl ?_);refine gC 57 (some 66) Try.func57 #[.bool a6,.slice W5 H7.length W6,.bool b7,.slice W7 I0.length W8] ?_;(with_reducible refine(Ezv.calls Q4 a6 _ _ H7 b7 _ _ I0 R6 R7 R8 _ ?_ ?_ ?_ ?_ R9.out).mono ?_);exact cR Q1;exact lR Q1;exact cR Q2;exact lR Q2;rintro e W9 ⟨X0,rfl,K9,hb⟩;refine⟨_,rfl,?_⟩;have X3:=rL (rn (rn (rn K9 Q1) Q2) Q3);replace Q1:=rE Q1 K9 hb;replace Q2:=rE Q2 K9 hb;replace Q3:=rE Q3 K9 hb;replace m8:=kb m8 hb;replace n9:=kb n9 hb;replace r8:=kb r8 hb;replace HB:=bB hb;clear hb K9))
       have H:=U0.out;clear U0;replace H:=iE H;rcases H with⟨X5,X6,H⟩|⟨X4,X5,X6,H⟩
       ·(first|rw[X5]|(simp only[aH,bg];rw[X5])|skip)
        replace H:=bS H;obtain⟨⟨X7,X8,X9⟩,Y0,H⟩:=H;replace H:(some (X7,X8,X9,0))=some (e6,e7,f6,f7):=H;have Y1:=aM Y0;clear Y0;obtain⟨rfl,rfl,rfl,rfl⟩:=q4 H;obtain⟨Y2,Y3,rfl⟩:=Kd.aj X3.out;obtain⟨Y4,Y5,rfl⟩:=Kd.aj Q3.out;go_wp2_with (first|((with_reducible refine gc 58 rfl ?_);refine gC 58 (some 76) Try.func58 #[.bool R6,.slice Y2 R7.length Y3,.slice Y4 I5.length Y5] ?_;(with_reducible refine(Czb.calls Q4 R6 _ _ R7 _ _ I5 X7 X8 X9 _ ?_ ?_ ?_ ?_ Y1.out).mono ?_);exact cR X3;exact lR X3;exact cR Q3;exact lR Q3;rintro e Y6 ⟨Y7,Y8,rfl,K9,Y9,hb⟩;refine⟨_,rfl,?_⟩;have Z0:=rL (rn (rn (rn (rn K9 Q1) Q2) Q3) X3);have Z1:=rL (rn (rn (rn (rn Y9 Q1) Q2) Q3) X3);replace Q1:=rO Q1 hb K9 Y9;replace Q2:=rO Q2 hb K9 Y9;replace Q3:=rO Q3 hb K9 Y9;replace X3:=rO X3 hb K9 Y9;replace m8:=kb m8 hb;replace n9:=kb n9 hb;replace r8:=kb r8 hb;replace HB:=bB hb;clear hb K9 Y9;have Z2:=t6.out;have Z3:=t5.out;have Z4:=t8.out;have Z5:=t7.out;obtain⟨Z6,Z7,Z8,Z9,Aa,Ab⟩:=bk3 r8;obtain⟨Ac,Ad,rfl⟩:=Kd.aj Z0.out;obtain⟨Ae,Af,rfl⟩:=Kd.aj Z1.out))
        refine rC r6 33 #[.bool X7,.slice Ac X8.length Ad,.slice Ae X9.length Af] (kQ r8) Try.underlying33 ?_
        exact⟨_,_,eW,by exact Kd.ah (rT Z0 r8) (fun _ hk=>hk.1.1.1.1),by exact Kd.ah (rT Z1 r8) (fun _ hk=>hk.1.1.1.1),pB⟩
       ·(first|rw[X5]|(simp only[aH,bg];rw[X5])|skip)
        obtain⟨rfl,rfl,rfl,rfl⟩:=q4 H;have Ag:=t6.out;have Ah:=t5.out;have Ai:=t8.out;have Aj:=t7.out;obtain⟨Ak,Al,Am,An,Ao,Ap⟩:=bk3 r8;go_wp2
        refine rC r6 33 #[.bool false,.slice none 0 0,.slice none 0 0] (kQ r8) Try.underlying33 ?_
        exact⟨_,_,eW,nK,nK,pB⟩



theorem Izz.calls (A:Option Addr) (c:Nat) (l:List S33) (g:Nat) (j:Int) (w:World) (hk:w.heap[g]?=some (.cells #[.slice A l.length c] 22 (0,0))) (hC:Kd.C k33 w A l.length l) (a6:0≤j) (a7:j < (l.length:Int)) :
  Calls Try.prog 59 #[.int .i64 j,.pointer (some ⟨g,0,none⟩)] w fun e w'=>∃ a8 a9 b4 c2,e=.returned (.agg #[.bool (ag l j).f0,.slice a8 (ag l j).f1.length a9,.slice b4 (ag l j).f2.length c2])∧bw w w'∧(ag l j).f1.length≤a9∧(Kd.int .i64).C w' a8 (ag l j).f1.length (ag l j).f1∧(ag l j).f2.length≤c2∧(Kd.int .i64).C w' b4 (ag l j).f2.length (ag l j).f2:=by
 have hu33:=Try.underlying33;have HB:=aM (Below.refl w.heap.size w);obtain⟨ad,a8,a9,b4,c2,rfl,b5,b6,b7,l1,g1,l2,g2⟩:=gT hC j a6 a7;have HK:=aM hk;have HX:=aM (And.intro b5 (And.intro b6 b7));have HG:=aM (And.intro l1 (And.intro g1 (And.intro l2 g2)));have b8:=eq_true a6;have q0:=eq_true a7;clear hk hC b5 b6 b7 l1 g1 l2 g2 a6 a7;go_enter Try.func59,Try.ntmps59
 go_wp2_with (first|((with_reducible refine gd 3 rfl ?_);refine bz 33 ?_;intro b9 hg d6 d7 hb;have d8:=gA w hg;replace HB:=bB hb;clear hb hg;have d9:=aM (aD HK.out HB.out);obtain⟨e6,e7⟩:=bk1 d9;obtain⟨f6,f7,f8⟩:=HX.out;replace f6:=cz HB.out f6;replace f7:=cz HB.out f7;replace f8:=cz HB.out f8;obtain⟨hd0,hd1,hd2,hg0,hg1,hg2⟩:=bk3 d7))
 refine bodyPost_ret (results_cell_row rfl _ _ b9 33 #[.bool (ag l j).f0,.slice a8 (ag l j).f1.length a9,.slice b4 (ag l j).f2.length c2] (0,0) _ rfl (au (au (au d7.out 0 (.bool (ag l j).f0) rfl) 1 (.slice a8 (ag l j).f1.length a9) rfl) 2 (.slice b4 (ag l j).f2.length c2) rfl) Try.underlying33 rfl (by kernel_rfl)) rfl ?_
 have HBz:=((HB.out.setCell (p:=⟨b9,0,none⟩) d8.out (.bool (ag l j).f0)).setCell (p:=⟨b9,1,none⟩) d8.out (.slice a8 (ag l j).f1.length a9)).setCell (p:=⟨b9,2,none⟩) d8.out (.slice b4 (ag l j).f2.length c2);exact⟨a8,a9,b4,c2,rfl,HBz,HG.out.1,Kd.aT HG.out.2.1 HBz,HG.out.2.2.1,Kd.aT HG.out.2.2.2 HBz⟩
theorem lI {P:Program} {fn:Func} {p q u:Tmp} {ty tz:TypeId} (h:fn.results=#[.cell p ty,.cell q tz,.tmp u]) (tmps:Array Value) (w:World) (g g':Nat) (t t':TypeId) (cs cs':Array Value) (fr fr':Nat × Nat) (d:TypeDesc)
  (hp:tmps.getD p undef=.pointer (some ⟨g,0,none⟩)) (hq:tmps.getD q undef=.pointer (some ⟨g',0,none⟩)) (hg:w.heap[g]?=some (.cells cs t fr)) (hg':w.heap[g']?=some (.cells cs' t' fr'))
  (hu:P.underlying ty=some d) (hd:(match d with|.struct _|.array _ _=>true|_=>false)=true) (hi:(P.info? ty).map (·.size)=some cs.size) (hi':(P.info? ty).map (·.size)=some cs'.size) (hz:tz=ty:=by rfl) :
  (results fn tmps).run P w=.ok (.tuple #[.agg cs,.agg cs',tmps.getD u undef]) w:=by
 subst hz;have hp':tmps[p]?.getD undef=.pointer (some ⟨g,0,none⟩):=by simpa using hp
 have hq':tmps[q]?.getD undef=.pointer (some ⟨g',0,none⟩):=by simpa using hq
 simp [results,h,hp',hq',asAddr,run_loadVar_row w g t _ cs fr d hg hu hd hi,run_loadVar_row w g' t' _ cs' fr' d hg' hu hd hi']
def kV (t:List S33) (j:Nat):Option S33:=if j < t.length then some (ag t (j:Int)) else none
def Gzj.f (k:Nat) (ca:Int) (la:List S33) (cb:Int) (lb:List S33) (mass:Int):Option (Int × List S33 × Int × List S33 × Int):=(Azb.f k ca la).bind fun e=>if e=0 then(Azb.f k cb lb).bind fun e2=>if e2=0 then(if la.length=lb.length then(Fzb.f k ca la mass).bind fun x=>if x.2.2.2=0 then(Gzv.f k (kV x.2.2.1) cb lb).bind fun y=>if y.2.2=0 then some (x.1,x.2.1,y.1,y.2.1,0) else some (0,[],0,[],y.2.2) else some (0,[],0,[],x.2.2.2) else some (0,[],0,[],17)) else some (0,[],0,[],e2) else some (0,[],0,[],e)
theorem Gzj.calls (k:Nat) (ca:Int) (A:Option Addr) (c:Nat) (la:List S33) (cb:Int) (A':Option Addr) (c':Nat) (lb:List S33) (mass:Int) (a6:Int) (a7:List S33) (a8:Int) (a9:List S33) (b4:Int) (w:World) (hC:Kd.C k33 w A la.length la) (hc:la.length≤c) (hC':Kd.C k33 w A' lb.length lb) (hc':lb.length≤c') (h:Gzj.f k ca la cb lb mass=some (a6,a7,a8,a9,b4)) :
  Calls Try.prog 32 #[.agg #[.int .i64 ca,.slice A la.length c],.agg #[.int .i64 cb,.slice A' lb.length c'],.int .i64 mass] w fun e w'=>∃ v1_ v2_:Value,e=.returned (.tuple #[.agg #[.int .i64 a6,v1_],.agg #[.int .i64 a8,v2_],.int .i64 b4])∧Kd.N k33 33 w' w.heap.size (fun k_=>w.heap.size≤k_∧oV v2_ k_) v1_ a7∧Kd.N k33 33 w' w.heap.size (fun k_=>w.heap.size≤k_∧oV v1_ k_) v2_ a9∧bw w w':=by
 have hmf_:∀ (fn:Fn) (first cap:Array Value) (w:World),(Instr.makeFunc fn first cap).run Try.prog w=.ok (.func fn first cap) w:=fun _ _ _ _=>rfl
 have hu:=Try.underlying24;unfold Gzj.f at h;rw[Option.bind_eq_some_iff] at h;obtain⟨b5,hck,h⟩:=h;have HC:=aM hC;have HL:=aM hc;have b6:=aM hC';have b7:=aM hc';have CK:=aM hck;have H:=aM h;have HB:=aM (Below.refl w.heap.size w);clear hC hc hC' hc' hck h;go_enter Try.func32,Try.ntmps32
 go_upto_region 2 with (first|((with_reducible refine gd 3 rfl ?_);refine bx #[.int .i64 ca,.slice A la.length c] 24 ?_;intro g3 hg b8 B3 hb;have G3:=gA w hg;replace HB:=bB hb;clear hb hg)|((with_reducible refine gd 4 rfl ?_);refine bx #[.int .i64 cb,.slice A' lb.length c'] 24 ?_;intro g4 hg b9 B4 hb;have G4:=gA w hg;replace B3:=kb B3 hb;replace HB:=bB hb;clear hb hg)|((with_reducible refine gd 6 rfl ?_);refine bx #[.int .i64 0,.slice none 0 0] 24 ?_;intro g6 hg d6 B6 hb;have G6:=gA w hg;have N36:=nl hg B3;have N46:=nl hg B4;replace B3:=kb B3 hb;replace B4:=kb B4 hb;replace HB:=bB hb;clear hb hg)|((with_reducible refine gd 7 rfl ?_);refine bx #[.int .i64 0,.slice none 0 0] 24 ?_;intro g7 hg d7 B7 hb;have G7:=gA w hg;have N37:=nl hg B3;have N47:=nl hg B4;have N67:=nl hg B6;have N76:=ng hg B6;replace B3:=kb B3 hb;replace B4:=kb B4 hb;replace B6:=kb B6 hb;replace HB:=bB hb;clear hb hg;obtain⟨d8,d9,e6,q3⟩:=bk2 B3)|((with_reducible refine df (f:=17) rfl ?_);refine gJ (some 16) rfl rfl Try.func17 (by kernel_rfl) rfl #[.agg #[.int .i64 ca,.slice A la.length c]] rfl (by first|exact mA|(simp [Act.eval];done)) ?_;refine(Azb.calls k ca A c la b5 _ (Kd.aT HC.out HB.out) HL.out CK.out).mono ?_;rintro e e7 ⟨rfl,hb⟩;refine⟨_,rfl,?_⟩;replace B3:=kb B3 hb;replace B4:=kb B4 hb;replace B6:=kb B6 hb;replace B7:=kb B7 hb;replace HB:=bB hb;clear hb d8 d9 e6 q3 CK))
 by_cases hr:b5=0
 ·subst hr;have h:=H.out;simp only[if_true] at h;rw[Option.bind_eq_some_iff] at h;obtain⟨f6,hx,h⟩:=h;have CK:=aM hx;replace H:=aM h;clear hx h;obtain⟨f7,f8,g5,q4⟩:=bk2 B4;go_upto_region 5 with (first|((with_reducible refine df (f:=17) rfl ?_);refine gJ (some 23) rfl rfl Try.func17 (by kernel_rfl) rfl #[.agg #[.int .i64 cb,.slice A' lb.length c']] rfl (by first|exact mA|(simp [Act.eval];done)) ?_;refine(Azb.calls k cb A' c' lb f6 _ (Kd.aT b6.out HB.out) b7.out CK.out).mono ?_;rintro e g8 ⟨rfl,hb⟩;refine⟨_,rfl,?_⟩;replace B3:=kb B3 hb;replace B4:=kb B4 hb;replace B6:=kb B6 hb;replace B7:=kb B7 hb;replace HB:=bB hb;clear hb f7 f8 g5 q4 CK))
  by_cases hr:f6=0
  ·subst hr;have h:=H.out;simp only[if_true] at h;replace H:=aM h;clear h;obtain⟨d8,d9,e6,q3⟩:=bk2 B3;obtain⟨f7,f8,g5,q4⟩:=bk2 B4;by_cases hr:la.length=lb.length
   ·have hrb:((la.length:Int) != (lb.length:Int))=false:=bne_eq_false_iff_eq.mpr (by omega)
    have hrc:(la.length != lb.length)=false:=bne_eq_false_iff_eq.mpr hr;have h:=H.out;simp only[if_pos hr] at h;rw[Option.bind_eq_some_iff] at h;obtain⟨⟨d1,d2,d3,d4⟩,hx,h⟩:=h;have DR:=aM hx;replace H:=aM h;clear hx h;have HR:=aM hr;clear hr;go_upto_region 10 with (first|((with_reducible refine df (f:=22) rfl ?_);refine gJ (some 41) rfl rfl Try.func22 (by kernel_rfl) rfl #[.agg #[.int .i64 ca,.slice A la.length c],.int .i64 mass] rfl (by first|exact mA|(simp [Act.eval];done)) ?_;refine(Fzb.calls k ca A c la mass d1 d2 d3 d4 _ (Kd.aT HC.out HB.out) HL.out DR.out).mono ?_;rintro e g9 ⟨j3,j4,rfl,j5,j6,hb⟩;refine⟨_,rfl,?_⟩;have L6:=aM (Kd.jB B6.out);have L7:=aM (Kd.jB B7.out);have V1:=aM (Kd.aG (ok':=fun k_=>(w.heap.size≤k_∧oV j4 k_)∧k_≠g6∧k_≠g7) (Kd.fq j5 HB.out.size) (fun k_ hk=>⟨⟨Nat.le_trans HB.out.size hk.1,hk.2⟩,L6.out k_ hk.1,L7.out k_ hk.1⟩));have V2:=aM (Kd.aG (ok':=fun k_=>w.heap.size≤k_∧k_≠g6∧k_≠g7) (Kd.fq j6 HB.out.size) (fun k_ hk=>⟨Nat.le_trans HB.out.size hk.1,L6.out k_ hk.1,L7.out k_ hk.1⟩));replace B3:=kb B3 hb;replace B4:=kb B4 hb;replace B6:=kb B6 hb;replace B7:=kb B7 hb;replace HB:=bB hb;clear hb j5 j6 L6 L7 d8 d9 e6 q3 f7 f8 g5 q4 DR;obtain⟨D1,dc1,ev1⟩:=Kd.ek V1.out;subst ev1;obtain⟨D2,dc2,ev2⟩:=Kd.ek V2.out;subst ev2)|((with_reducible refine gd 11 rfl ?_);refine bx #[.int .i64 0,.slice none 0 0] 24 ?_;intro j7 hg j8 B11 hb;have G11:=gA w hg;have N116:=ng hg B6;have N611:=nl hg B6;have N711:=nl hg B7;have N411:=nl hg B4;replace B4:=kb B4 hb;replace B6:=kb B6 hb;replace B7:=kb B7 hb;replace V1:=aM (Kd.aG (ok':=fun k_=>((w.heap.size≤k_∧oN D2 d3.length dc2 k_)∧k_≠g6∧k_≠g7)∧k_≠j7) (Kd.dQ (Kd.iq V1.out) hb) (fun k_ hk=>⟨hk.1,fun he=>absurd hk.2 (by rw[he,hg];exact Nat.lt_irrefl _)⟩));replace V2:=aM (Kd.aG (ok':=fun k_=>(w.heap.size≤k_∧k_≠g6∧k_≠g7)∧k_≠j7) (Kd.dQ (Kd.iq V2.out) hb) (fun k_ hk=>⟨hk.1,fun he=>absurd hk.2 (by rw[he,hg];exact Nat.lt_irrefl _)⟩));replace HB:=bB hb;clear hb hg;obtain⟨j9,l5,l6,l7⟩:=bk2 B11)|((with_reducible refine gd 12 rfl ?_);refine bx #[.slice none 0 0] 22 ?_;intro l8 hg l9 B12 hb;have G12:=gA w hg;have N612:=nl hg B6;have N712:=nl hg B7;have N412:=nl hg B4;have N1112:=nl hg B11;have N1211:=ng hg B11;replace B4:=kb B4 hb;replace B6:=kb B6 hb;replace B7:=kb B7 hb;replace B11:=kb B11 hb;replace V1:=aM (Kd.aG (ok':=fun k_=>(((w.heap.size≤k_∧oN D2 d3.length dc2 k_)∧k_≠g6∧k_≠g7)∧k_≠j7)∧k_≠l8) (Kd.dQ (Kd.iq V1.out) hb) (fun k_ hk=>⟨hk.1,fun he=>absurd hk.2 (by rw[he,hg];exact Nat.lt_irrefl _)⟩));replace V2:=aM (Kd.aG (ok':=fun k_=>((w.heap.size≤k_∧k_≠g6∧k_≠g7)∧k_≠j7)∧k_≠l8) (Kd.dQ (Kd.iq V2.out) hb) (fun k_ hk=>⟨hk.1,fun he=>absurd hk.2 (by rw[he,hg];exact Nat.lt_irrefl _)⟩));replace HB:=bB hb;clear hb hg j9 l5 l6 l7;obtain⟨j9,l5,l6,l7⟩:=bk2 B11;obtain⟨m0,m4⟩:=bk1 B12;have z1:=N1112.out;have z2:=N1211.out))
    replace B4:=aM (av (p:=⟨l8,0,none⟩) (av (p:=⟨j7,1,none⟩) (av (p:=⟨j7,0,none⟩) B4.out N411.out (.int .i64 d1)) N411.out (.slice D1 d2.length dc1)) N412.out (.slice D2 d3.length dc2));replace B6:=aM (av (p:=⟨l8,0,none⟩) (av (p:=⟨j7,1,none⟩) (av (p:=⟨j7,0,none⟩) B6.out N611.out (.int .i64 d1)) N611.out (.slice D1 d2.length dc1)) N612.out (.slice D2 d3.length dc2));replace B7:=aM (av (p:=⟨l8,0,none⟩) (av (p:=⟨j7,1,none⟩) (av (p:=⟨j7,0,none⟩) B7.out N711.out (.int .i64 d1)) N711.out (.slice D1 d2.length dc1)) N712.out (.slice D2 d3.length dc2));replace V1:=aM (Kd.bJ (p:=⟨l8,0,none⟩) (Kd.bJ (p:=⟨j7,1,none⟩) (Kd.bJ (p:=⟨j7,0,none⟩) V1.out (fun _ hk=>hk.1.2) (.int .i64 d1)) (fun _ hk=>hk.1.2) (.slice D1 d2.length dc1)) (fun _ hk=>hk.2) (.slice D2 d3.length dc2))
    replace V2:=aM (Kd.bJ (p:=⟨l8,0,none⟩) (Kd.bJ (p:=⟨j7,1,none⟩) (Kd.bJ (p:=⟨j7,0,none⟩) V2.out (fun _ hk=>hk.1.2) (.int .i64 d1)) (fun _ hk=>hk.1.2) (.slice D1 d2.length dc1)) (fun _ hk=>hk.2) (.slice D2 d3.length dc2))
    replace B12:=aM (au (av (p:=⟨j7,1,none⟩) (av (p:=⟨j7,0,none⟩) B12.out N1211.out (.int .i64 d1)) N1211.out (.slice D1 d2.length dc1)) 0 (.slice D2 d3.length dc2) rfl);replace B11:=aM (av (p:=⟨l8,0,none⟩) (au (au B11.out 0 (.int .i64 d1) rfl) 1 (.slice D1 d2.length dc1) rfl) N1112.out (.slice D2 d3.length dc2));replace HB:=aM (((HB.out.setCell (p:=⟨j7,0,none⟩) G11.out (.int .i64 d1)).setCell (p:=⟨j7,1,none⟩) G11.out (.slice D1 d2.length dc1)).setCell (p:=⟨l8,0,none⟩) G12.out (.slice D2 d3.length dc2));clear z1 z2 j9 l5 l6 l7 m0 m4 B3 N36 N46 N37 N47 N411 N412 N116;generalize (((l9.setCell { block:=j7,off:=0 } (Value.int IntKind.i64 d1)).setCell { block:=j7,off:=1 } (Value.slice D1 d2.length dc1)).setCell { block:=l8,off:=0 } (Value.slice D2 d3.length dc2))=m5 at B4 B6 B7 V1 V2 B12 B11 HB ⊢;by_cases hr:d4=0
    ·subst hr;have h:=H.out;simp only[if_true] at h;rw[Option.bind_eq_some_iff] at h;obtain⟨⟨f1,f2,f3⟩,hx,h⟩:=h;have FL:=aM hx;replace H:=aM h;clear hx h;have hfn:∃ fn,Try.prog.funcs[59]?=some fn∧(fn.name == "runtime.NumGoroutine")=false∧fn.body.isSome=true:=⟨_,Try.func59,by kernel_rfl,rfl⟩
     have HFN:=aM hfn;clear hfn;have hy:∀ (j:Nat) y W,j < lb.length→kV d3 j=some y→Below m5.heap.size m5 W→Calls Try.prog 59 (#[.int .i64 (j:Int)] ++ #[.pointer (some ⟨l8,0,none⟩)]) W fun e W'=>∃ m6 m7 m8 c2,e=.returned (.agg #[.bool y.f0,.slice m6 y.f1.length m7,.slice m8 y.f2.length c2])∧Below W.heap.size W W'∧y.f1.length≤m7∧(Kd.int .i64).C W' m6 y.f1.length y.f1∧y.f2.length≤c2∧(Kd.int .i64).C W' m8 y.f2.length y.f2:=by
      intro j y W hj hg hb;unfold kV at hg;by_cases hjt:j < d3.length
      ·rw[if_pos hjt] at hg;injection hg with hg
       subst hg;exact Izz.calls D2 dc2 d3 l8 (j:Int) W (aD B12.out hb) (Kd.aT (Kd.gQ V2.out).2.2 hb) (by omega) (by omega)
      ·rw[if_neg hjt] at hg;cases hg
     have HY:=aM hy;clear hy;obtain⟨f7,f8,g5,q4⟩:=bk2 B4;go_upto_region 13 with (first|((with_reducible refine df (f:=44) rfl ?_);refine gJ (some 53) rfl rfl Try.func44 (by kernel_rfl) rfl #[.agg #[.int .i64 cb,.slice A' lb.length c'],.func (.func 59) #[] #[.pointer (some ⟨l8,0,none⟩)]] rfl (by first|exact mA|(simp [Act.eval];done)) ?_;have L6:=aM (Kd.jB B6.out);have L7:=aM (Kd.jB B7.out);have L11:=aM (Kd.jB B11.out);have LV:=aM (Kd.fresh' (Kd.kr V1.out));refine(Gzv.calls k (kV d3) cb A' c' lb 59 #[.pointer (some ⟨l8,0,none⟩)] f1 f2 f3 _ (Kd.aT b6.out HB.out) b7.out HFN.out HY.out FL.out).mono ?_;rintro e m9 ⟨n0,rfl,n7,hb⟩;refine⟨_,rfl,?_⟩;have V3:=aM (Kd.aG (ok':=fun k_=>(w.heap.size≤k_∧oN D1 d2.length dc1 k_)∧k_≠g6∧k_≠g7) (Kd.fq n7 HB.out.size) (fun k_ hk=>⟨⟨Nat.le_trans HB.out.size hk,LV.out k_ hk⟩,L6.out k_ hk,L7.out k_ hk⟩));obtain⟨D3,dc3,ev3⟩:=Kd.ek V3.out;subst ev3;have hbd:=Kd.cO n7;replace V1:=aM (Kd.aG (ok':=fun k_=>(w.heap.size≤k_∧oN D3 f2.length dc3 k_)∧k_≠g6∧k_≠g7) (Kd.dQ (Kd.iq V1.out) hb) (fun k_ hk=>⟨⟨hk.1.1.1.1.1,fun he=>absurd (hbd k_ he.symm) (Nat.not_le.2 hk.2)⟩,hk.1.1.1.2⟩));clear V2 hbd;replace B6:=kb B6 hb;replace B7:=kb B7 hb;replace B11:=kb B11 hb;replace HB:=bB hb;clear hb n7 L6 L7 L11 LV f7 f8 g5 q4 FL B4 B12 HY)|((with_reducible refine gd 14 rfl ?_);refine bx #[.int .i64 0,.slice none 0 0] 24 ?_;intro n8 hg n9 o0 hb;have G14:=gA w hg;have N614:=nl hg B6;have N714:=nl hg B7;have N1114:=nl hg B11;replace B6:=kb B6 hb;replace B7:=kb B7 hb;replace B11:=kb B11 hb;replace V1:=aM (Kd.aG (ok':=fun k_=>((w.heap.size≤k_∧oN D3 f2.length dc3 k_)∧k_≠g6∧k_≠g7)∧k_≠n8) (Kd.dQ (Kd.iq V1.out) hb) (fun k_ hk=>⟨hk.1,fun he=>absurd hk.2 (by rw[he,hg];exact Nat.lt_irrefl _)⟩));replace V3:=aM (Kd.aG (ok':=fun k_=>((w.heap.size≤k_∧oN D1 d2.length dc1 k_)∧k_≠g6∧k_≠g7)∧k_≠n8) (Kd.dQ (Kd.iq V3.out) hb) (fun k_ hk=>⟨hk.1,fun he=>absurd hk.2 (by rw[he,hg];exact Nat.lt_irrefl _)⟩));replace HB:=bB hb;clear hb hg;obtain⟨o8,o9,p9,r6⟩:=bk2 o0))
     replace B6:=aM (av (p:=⟨n8,1,none⟩) (av (p:=⟨n8,0,none⟩) B6.out N614.out (.int .i64 f1)) N614.out (.slice D3 f2.length dc3));replace B7:=aM (av (p:=⟨n8,1,none⟩) (av (p:=⟨n8,0,none⟩) B7.out N714.out (.int .i64 f1)) N714.out (.slice D3 f2.length dc3));replace B11:=aM (av (p:=⟨n8,1,none⟩) (av (p:=⟨n8,0,none⟩) B11.out N1114.out (.int .i64 f1)) N1114.out (.slice D3 f2.length dc3));replace V1:=aM (Kd.bJ (p:=⟨n8,1,none⟩) (Kd.bJ (p:=⟨n8,0,none⟩) V1.out (fun _ hk=>hk.2) (.int .i64 f1)) (fun _ hk=>hk.2) (.slice D3 f2.length dc3))
     replace V3:=aM (Kd.bJ (p:=⟨n8,1,none⟩) (Kd.bJ (p:=⟨n8,0,none⟩) V3.out (fun _ hk=>hk.2) (.int .i64 f1)) (fun _ hk=>hk.2) (.slice D3 f2.length dc3))
     replace o0:=aM (au (au o0.out 0 (.int .i64 f1) rfl) 1 (.slice D3 f2.length dc3) rfl);replace HB:=aM ((HB.out.setCell (p:=⟨n8,0,none⟩) G14.out (.int .i64 f1)).setCell (p:=⟨n8,1,none⟩) G14.out (.slice D3 f2.length dc3));clear o8 o9 p9 r6;generalize ((n9.setCell { block:=n8,off:=0 } (Value.int IntKind.i64 f1)).setCell { block:=n8,off:=1 } (Value.slice D3 f2.length dc3))=r7 at B6 B7 B11 V1 V3 o0 HB ⊢;by_cases hr:f3=0
     ·subst hr;have h:=H.out;simp only[if_true] at h;injection h with h
      injection h with j5 h
      injection h with j6 h
      injection h with n7 h
      injection h with r8 r9
      subst j5 j6 n7 r8 r9;clear H hmf_ HFN HR HC HL b6 b7;go_upto_region 15 with (fail)
      replace B6:=aM (az B6.out);replace B7:=aM (az B7.out);replace B11:=aM (az B11.out);replace o0:=aM (az o0.out);replace V1:=aM (Kd.jm V1.out);replace V3:=aM (Kd.jm V3.out);replace HB:=aM HB.out.drew;refine gz (n:=5) (S:=fun W=>W.cell? ⟨j7,0,none⟩=some (.int .i64 d1)∧W.cell? ⟨j7,1,none⟩=some (.slice D1 d2.length dc1)∧W.cell? ⟨n8,0,none⟩=some (.int .i64 f1)∧W.cell? ⟨n8,1,none⟩=some (.slice D3 f2.length dc3)) (ds:=[]) (bA 5 0) (by kernel_rfl) rfl rfl ⟨(bk2 B11).1,(bk2 B11).2.1,(bk2 o0).1,(bk2 o0).2.1⟩ (fun hHeld=>?_)
      generalize r7.drew=t4 at B6 B7 B11 o0 V1 V3 HB hHeld ⊢;refine tV 0 61 (bA 5 1) hHeld ?_;refine tV 1 62 (bA 5 3) hHeld ?_;refine iK (i:=2) (N:=none) (bA 5 7) rfl rfl (by kernel_rfl) (by decide) (fun K hK=>?_)
      obtain⟨t7,t8,t9,q6⟩:=bk2 B6;refine iY (w1:=?_) (by rfl) rfl ?_ ?_
      rotate_left
      ·go_simp
       rfl
      clear t7 t8 t9 q6;replace B7:=aM (av (p:=⟨g6,1,none⟩) (av (p:=⟨g6,0,none⟩) B7.out N76.out (.int .i64 d1)) N76.out (.slice D1 d2.length dc1));replace B6:=aM (au (au B6.out 0 (.int .i64 d1) rfl) 1 (.slice D1 d2.length dc1) rfl);replace B11:=aM (av (p:=⟨g6,1,none⟩) (av (p:=⟨g6,0,none⟩) B11.out N611.out.symm (.int .i64 d1)) N611.out.symm (.slice D1 d2.length dc1));replace o0:=aM (av (p:=⟨g6,1,none⟩) (av (p:=⟨g6,0,none⟩) o0.out N614.out.symm (.int .i64 d1)) N614.out.symm (.slice D1 d2.length dc1));replace V1:=aM (Kd.bJ (p:=⟨g6,1,none⟩) (Kd.bJ (p:=⟨g6,0,none⟩) V1.out (fun _ hk=>hk.1.2.1) (.int .i64 d1)) (fun _ hk=>hk.1.2.1) (.slice D1 d2.length dc1))
      replace V3:=aM (Kd.bJ (p:=⟨g6,1,none⟩) (Kd.bJ (p:=⟨g6,0,none⟩) V3.out (fun _ hk=>hk.1.2.1) (.int .i64 d1)) (fun _ hk=>hk.1.2.1) (.slice D1 d2.length dc1))
      replace HB:=aM ((HB.out.setCell (p:=⟨g6,0,none⟩) G6.out (.int .i64 d1)).setCell (p:=⟨g6,1,none⟩) G6.out (.slice D1 d2.length dc1));refine hK.out _ _ ⟨(bk2 B11).1,(bk2 B11).2.1,(bk2 o0).1,(bk2 o0).2.1⟩ (fun hHeld=>?_)
      clear hK K;generalize (t4.setCell { block:=g6,off:=0 } (Value.int IntKind.i64 d1)).setCell { block:=g6,off:=1 } (Value.slice D1 d2.length dc1)=z3 at B6 B7 B11 o0 V1 V3 HB hHeld ⊢;refine iK (i:=3) (N:=none) (bA 5 15) rfl rfl (by kernel_rfl) (by decide) (fun K hK=>?_)
      obtain⟨t7,t8,t9,q6⟩:=bk2 B7;refine iY (w1:=?_) (by rfl) rfl ?_ ?_
      rotate_left
      ·go_simp
       rfl
      clear t7 t8 t9 q6;replace B6:=aM (av (p:=⟨g7,1,none⟩) (av (p:=⟨g7,0,none⟩) B6.out N67.out (.int .i64 f1)) N67.out (.slice D3 f2.length dc3));replace B7:=aM (au (au B7.out 0 (.int .i64 f1) rfl) 1 (.slice D3 f2.length dc3) rfl);replace B11:=aM (av (p:=⟨g7,1,none⟩) (av (p:=⟨g7,0,none⟩) B11.out N711.out.symm (.int .i64 f1)) N711.out.symm (.slice D3 f2.length dc3));replace o0:=aM (av (p:=⟨g7,1,none⟩) (av (p:=⟨g7,0,none⟩) o0.out N714.out.symm (.int .i64 f1)) N714.out.symm (.slice D3 f2.length dc3));replace V1:=aM (Kd.bJ (p:=⟨g7,1,none⟩) (Kd.bJ (p:=⟨g7,0,none⟩) V1.out (fun _ hk=>hk.1.2.2) (.int .i64 f1)) (fun _ hk=>hk.1.2.2) (.slice D3 f2.length dc3))
      replace V3:=aM (Kd.bJ (p:=⟨g7,1,none⟩) (Kd.bJ (p:=⟨g7,0,none⟩) V3.out (fun _ hk=>hk.1.2.2) (.int .i64 f1)) (fun _ hk=>hk.1.2.2) (.slice D3 f2.length dc3))
      replace HB:=aM ((HB.out.setCell (p:=⟨g7,0,none⟩) G7.out (.int .i64 f1)).setCell (p:=⟨g7,1,none⟩) G7.out (.slice D3 f2.length dc3));refine hK.out _ _ ⟨(bk2 B11).1,(bk2 B11).2.1,(bk2 o0).1,(bk2 o0).2.1⟩ (fun hHeld=>?_)
      clear hK K;generalize (z3.setCell { block:=g7,off:=0 } (Value.int IntKind.i64 f1)).setCell { block:=g7,off:=1 } (Value.slice D3 f2.length dc3)=z4 at B6 B7 B11 o0 V1 V3 HB hHeld ⊢;refine pV 4 8 (bA 5 31) ?_;refine gZ (by kernel_rfl) ?_
      go_wp2
      refine bodyPost_ret (lI rfl _ _ g6 g7 24 24 #[.int .i64 d1,.slice D1 d2.length dc1] #[.int .i64 f1,.slice D3 f2.length dc3] (0,0) (0,0) _ rfl rfl B6.out B7.out Try.underlying24 rfl (by kernel_rfl) (by kernel_rfl)) rfl ?_
      exact⟨_,_,rfl,Kd.aG V1.out (fun _ hk=>hk.1.1),Kd.aG V3.out (fun _ hk=>hk.1.1),HB.out⟩
     ·have h:=H.out;simp only[if_neg hr] at h;injection h with h
      injection h with j5 h
      injection h with j6 h
      injection h with n7 h
      injection h with r8 r9
      subst j5 j6 n7 r8 r9;have z5:(f3 != 0)=true:=bne_iff_ne.mpr hr;obtain⟨t7,t8,t9,q6⟩:=bk2 B6;obtain⟨z6,z7,z8,q7⟩:=bk2 B7;have z1:=N67.out;have z2:=N76.out;go_wp2
      refine bodyPost_ret (lI rfl _ _ g6 g7 24 24 #[.int .i64 0,.slice none 0 0] #[.int .i64 0,.slice none 0 0] (0,0) (0,0) _ rfl rfl (av (p:=⟨g7,1,none⟩) (av (p:=⟨g7,0,none⟩) (au (au B6.out 0 (.int .i64 0) rfl) 1 (.slice none 0 0) rfl) N67.out (.int .i64 0)) N67.out (.slice none 0 0)) (au (au (av (p:=⟨g6,1,none⟩) (av (p:=⟨g6,0,none⟩) B7.out N76.out (.int .i64 0)) N76.out (.slice none 0 0)) 0 (.int .i64 0) rfl) 1 (.slice none 0 0) rfl) Try.underlying24 rfl (by kernel_rfl) (by kernel_rfl)) rfl ?_
      exact⟨_,_,rfl,Kd.fU _ _ _ _ _,Kd.fU _ _ _ _ _,(((HB.out.setCell (p:=⟨g6,0,none⟩) G6.out _).setCell (p:=⟨g6,1,none⟩) G6.out _).setCell (p:=⟨g7,0,none⟩) G7.out _).setCell (p:=⟨g7,1,none⟩) G7.out _⟩
    ·have h:=H.out;simp only[if_neg hr] at h;injection h with h
     injection h with j5 h
     injection h with j6 h
     injection h with n7 h
     injection h with r8 r9
     subst j5 j6 n7 r8 r9;have z5:(d4 != 0)=true:=bne_iff_ne.mpr hr;obtain⟨t7,t8,t9,q6⟩:=bk2 B6;obtain⟨z6,z7,z8,q7⟩:=bk2 B7;have z1:=N67.out;have z2:=N76.out;go_wp2
     refine bodyPost_ret (lI rfl _ _ g6 g7 24 24 #[.int .i64 0,.slice none 0 0] #[.int .i64 0,.slice none 0 0] (0,0) (0,0) _ rfl rfl (av (p:=⟨g7,1,none⟩) (av (p:=⟨g7,0,none⟩) (au (au B6.out 0 (.int .i64 0) rfl) 1 (.slice none 0 0) rfl) N67.out (.int .i64 0)) N67.out (.slice none 0 0)) (au (au (av (p:=⟨g6,1,none⟩) (av (p:=⟨g6,0,none⟩) B7.out N76.out (.int .i64 0)) N76.out (.slice none 0 0)) 0 (.int .i64 0) rfl) 1 (.slice none 0 0) rfl) Try.underlying24 rfl (by kernel_rfl) (by kernel_rfl)) rfl ?_
     exact⟨_,_,rfl,Kd.fU _ _ _ _ _,Kd.fU _ _ _ _ _,(((HB.out.setCell (p:=⟨g6,0,none⟩) G6.out _).setCell (p:=⟨g6,1,none⟩) G6.out _).setCell (p:=⟨g7,0,none⟩) G7.out _).setCell (p:=⟨g7,1,none⟩) G7.out _⟩
   ·have h:=H.out;simp only[if_neg hr] at h;injection h with h
    injection h with j5 h
    injection h with j6 h
    injection h with n7 h
    injection h with r8 r9
    subst j5 j6 n7 r8 r9;have hrb:((la.length:Int) != (lb.length:Int))=true:=bne_iff_ne.mpr (by omega)
    have hrc:(la.length != lb.length)=true:=bne_iff_ne.mpr hr;obtain⟨t7,t8,t9,q6⟩:=bk2 B6;obtain⟨z6,z7,z8,q7⟩:=bk2 B7;have z1:=N67.out;have z2:=N76.out;go_wp2
    refine bodyPost_ret (lI rfl _ _ g6 g7 24 24 #[.int .i64 0,.slice none 0 0] #[.int .i64 0,.slice none 0 0] (0,0) (0,0) _ rfl rfl (av (p:=⟨g7,1,none⟩) (av (p:=⟨g7,0,none⟩) (au (au B6.out 0 (.int .i64 0) rfl) 1 (.slice none 0 0) rfl) N67.out (.int .i64 0)) N67.out (.slice none 0 0)) (au (au (av (p:=⟨g6,1,none⟩) (av (p:=⟨g6,0,none⟩) B7.out N76.out (.int .i64 0)) N76.out (.slice none 0 0)) 0 (.int .i64 0) rfl) 1 (.slice none 0 0) rfl) Try.underlying24 rfl (by kernel_rfl) (by kernel_rfl)) rfl ?_
    exact⟨_,_,rfl,Kd.fU _ _ _ _ _,Kd.fU _ _ _ _ _,(((HB.out.setCell (p:=⟨g6,0,none⟩) G6.out _).setCell (p:=⟨g6,1,none⟩) G6.out _).setCell (p:=⟨g7,0,none⟩) G7.out _).setCell (p:=⟨g7,1,none⟩) G7.out _⟩
  ·have h:=H.out;simp only[if_neg hr] at h;injection h with h
   injection h with j5 h
   injection h with j6 h
   injection h with n7 h
   injection h with r8 r9
   subst j5 j6 n7 r8 r9;have z5:(f6 != 0)=true:=bne_iff_ne.mpr hr;obtain⟨t7,t8,t9,q6⟩:=bk2 B6;obtain⟨z6,z7,z8,q7⟩:=bk2 B7;have z1:=N67.out;have z2:=N76.out;go_wp2
   refine bodyPost_ret (lI rfl _ _ g6 g7 24 24 #[.int .i64 0,.slice none 0 0] #[.int .i64 0,.slice none 0 0] (0,0) (0,0) _ rfl rfl (av (p:=⟨g7,1,none⟩) (av (p:=⟨g7,0,none⟩) (au (au B6.out 0 (.int .i64 0) rfl) 1 (.slice none 0 0) rfl) N67.out (.int .i64 0)) N67.out (.slice none 0 0)) (au (au (av (p:=⟨g6,1,none⟩) (av (p:=⟨g6,0,none⟩) B7.out N76.out (.int .i64 0)) N76.out (.slice none 0 0)) 0 (.int .i64 0) rfl) 1 (.slice none 0 0) rfl) Try.underlying24 rfl (by kernel_rfl) (by kernel_rfl)) rfl ?_
   exact⟨_,_,rfl,Kd.fU _ _ _ _ _,Kd.fU _ _ _ _ _,(((HB.out.setCell (p:=⟨g6,0,none⟩) G6.out _).setCell (p:=⟨g6,1,none⟩) G6.out _).setCell (p:=⟨g7,0,none⟩) G7.out _).setCell (p:=⟨g7,1,none⟩) G7.out _⟩
 ·have h:=H.out;simp only[if_neg hr] at h;injection h with h
  injection h with j5 h
  injection h with j6 h
  injection h with n7 h
  injection h with r8 r9
  subst j5 j6 n7 r8 r9;have z5:(b5 != 0)=true:=bne_iff_ne.mpr hr;obtain⟨t7,t8,t9,q6⟩:=bk2 B6;obtain⟨z6,z7,z8,q7⟩:=bk2 B7;have z1:=N67.out;have z2:=N76.out;go_wp2
  refine bodyPost_ret (lI rfl _ _ g6 g7 24 24 #[.int .i64 0,.slice none 0 0] #[.int .i64 0,.slice none 0 0] (0,0) (0,0) _ rfl rfl (av (p:=⟨g7,1,none⟩) (av (p:=⟨g7,0,none⟩) (au (au B6.out 0 (.int .i64 0) rfl) 1 (.slice none 0 0) rfl) N67.out (.int .i64 0)) N67.out (.slice none 0 0)) (au (au (av (p:=⟨g6,1,none⟩) (av (p:=⟨g6,0,none⟩) B7.out N76.out (.int .i64 0)) N76.out (.slice none 0 0)) 0 (.int .i64 0) rfl) 1 (.slice none 0 0) rfl) Try.underlying24 rfl (by kernel_rfl) (by kernel_rfl)) rfl ?_
  exact⟨_,_,rfl,Kd.fU _ _ _ _ _,Kd.fU _ _ _ _ _,(((HB.out.setCell (p:=⟨g6,0,none⟩) G6.out _).setCell (p:=⟨g6,1,none⟩) G6.out _).setCell (p:=⟨g7,0,none⟩) G7.out _).setCell (p:=⟨g7,1,none⟩) G7.out _⟩
theorem Gzj.mono:∀ a6 a7 a8 a9 b4 k,LeO (Gzj.f k a6 a7 a8 a9 b4) (Gzj.f (k+1) a6 a7 a8 a9 b4):=by
 intro a6 a7 a8 a9 b4 k;unfold Gzj.f;exact LeO.bind (Azb.mono _ _ k) (fun _=>LeO.ite (LeO.bind (Azb.mono _ _ k) (fun _=>LeO.ite (LeO.ite (LeO.bind (Fzb.mono _ _ _ k) (fun x=>LeO.ite (LeO.bind (ku k _ _ (fun _=>LeO.refl _) _ _) (fun _=>LeO.refl _)) (LeO.refl _))) (LeO.refl _)) (LeO.refl _))) (LeO.refl _))

end Go.Proofs.Ytbnpcplckcipfaa.Print
