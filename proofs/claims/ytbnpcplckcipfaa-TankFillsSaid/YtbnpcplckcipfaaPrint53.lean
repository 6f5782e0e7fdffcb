import Derived.Test.YtbnpcplckcipfaaPrint0
import Derived.Test.YtbnpcplckcipfaaPrint48
import Derived.Test.YtbnpcplckcipfaaPrint45
import Derived.Test.YtbnpcplckcipfaaPrint51
namespace Go.Proofs.Ytbnpcplckcipfaa.Print
open Go.RowKit Go.Proofs.YtbnpcplckcipfaaW.PrintWords Go.Proofs.YtbnpcplckcipfaaW.PrintLast Go.Proofs.YtbnpcplckcipfaaW.PrintMore
attribute [local go_sem] max2_int min2_int max_two min_two max_three min_three max_four min_four
set_option linter.unusedVariables false
set_option maxRecDepth 100000
set_option maxHeartbeats 8000000
set_option linter.unusedSimpArgs false

mutual
def Bzk.j0:Nat→Bool→Bool→List Int→List Int→Bool→List Int→List Int→Option (Int × Int)
 | 0,_,_,_,_,_,_,_=>none
 | k+1,x19,x895000,x895001,x895002,x896000,x896001,x896002=>if x19=true then(some (0,3)) else((Bzy.f k x895001 x896002).bind fun bt898=>((Bzy.f k x896001 x895002).bind fun bt902=>(if bt898.2=0 then(Bzk.j1 k bt898.1 bt902.1 (bt902.2 != 0) x895000 x895001 x895002 x896000 x896001 x896002) else(Bzk.j1 k bt898.1 bt902.1 true x895000 x895001 x895002 x896000 x896001 x896002))))
def Bzk.j1:Nat→List Int→List Int→Bool→Bool→List Int→List Int→Bool→List Int→List Int→Option (Int × Int)
 | 0,_,_,_,_,_,_,_,_,_=>none
 | k+1,x6,x8,x41,x895000,x895001,x895002,x896000,x896001,x896002=>if x41=true then(some (0,2)) else(if(x895000 != x896000)=true then(if x895000=true then(some ((-1),0)) else(some (1,0))) else((Ezv.f k x6 x8).bind fun bt906=>(if x895000=true then(some (wrap64 (-bt906.1),0)) else(some (bt906.1,0)))))
end
def Bzk.f (k:Nat) (a0_0:Bool) (l0_1:List Int) (l0_2:List Int) (a1_0:Bool) (l1_1:List Int) (l1_2:List Int):Option (Int × Int):=(Azw.f k a0_0 l0_1 l0_2).bind fun t896=>(if t896=true then((Azw.f k a1_0 l1_1 l1_2).bind fun t897=>(Bzk.j0 k (!t897) a0_0 l0_1 l0_2 a1_0 l1_1 l1_2)) else(Bzk.j0 k true a0_0 l0_1 l0_2 a1_0 l1_1 l1_2))
theorem Bzk.mono_l:∀ k,(∀ a6 a7 a8 a9 b4 b5 b6,LeO (Bzk.j0 k a6 a7 a8 a9 b4 b5 b6) (Bzk.j0 (k+1) a6 a7 a8 a9 b4 b5 b6))∧(∀ a6 a7 a8 a9 b4 b5 b6 b7 b8,LeO (Bzk.j1 k a6 a7 a8 a9 b4 b5 b6 b7 b8) (Bzk.j1 (k+1) a6 a7 a8 a9 b4 b5 b6 b7 b8))
 | 0=>⟨fun _ _ _ _ _ _ _ r h=>by simp [Bzk.j0] at h,fun _ _ _ _ _ _ _ _ _ r h=>by simp [Bzk.j1] at h⟩
 | k+1=>by
  obtain⟨ih0,ih1⟩:=Bzk.mono_l k;have i0:=@Ezv.mono;have i1:=@Bzy.mono;have i2:=@Azw.mono;refine⟨?_,?_⟩
  ·intro a6 a7 a8 a9 b4 b5 b6;unfold Bzk.j0;exact mM
  ·intro a6 a7 a8 a9 b4 b5 b6 b7 b8;unfold Bzk.j1;exact mM
theorem Bzk.mono:∀ a6 a7 a8 a9 b4 b5 k,LeO (Bzk.f k a6 a7 a8 a9 b4 b5) (Bzk.f (k+1) a6 a7 a8 a9 b4 b5):=by
 intro a6 a7 a8 a9 b4 b5 k;obtain⟨ih0,ih1⟩:=Bzk.mono_l k;unfold Bzk.f;have i0:=@Ezv.mono;have i1:=@Bzy.mono;have i2:=@Azw.mono;exact mM
theorem Bzk.calls (k:Nat) (a6:Bool) (a7:Option Addr) (a8:Nat) (a9:List Int) (b4:Option Addr) (b5:Nat) (b6:List Int) (b7:Bool) (b8:Option Addr) (b9:Nat) (d6:List Int) (d7:Option Addr) (d8:Nat) (d9:List Int) (e6:Int) (e7:Int) (w:World) (e8:cI w a7 a9) (e9:a9.length≤a8) (f3:cI w b4 b6) (f4:b6.length≤b5) (f5:cI w b8 d6) (f6:d6.length≤b9) (f7:cI w d7 d9) (f8:d9.length≤d8) (h:Bzk.f k a6 a9 b6 b7 d6 d9=some (e6,e7)) :
  Calls Try.prog 41 #[.agg #[.bool a6,.slice a7 a9.length a8,.slice b4 b6.length b5],.agg #[.bool b7,.slice b8 d6.length b9,.slice d7 d9.length d8]] w fun e w'=>e=.returned (.tuple #[.int .i64 e6,.int .i64 e7])∧bw w w':=by
 have hu33:=Try.underlying33;have f9:=aM e8;have g4:=aM e9;clear e8 e9;have g5:=aM f3;have g6:=aM f4;clear f3 f4;have g7:=aM f5;have g8:=aM f6;clear f5 f6;have g9:=aM f7;have j3:=aM f8;clear f7 f8;have HB:=aM (Below.refl w.heap.size w);have H:((Azw.f k a6 a9 b6).bind fun j4=>(if j4=true then((Azw.f k b7 d6 d9).bind fun j5=>(Bzk.j0 k (!j5) a6 a9 b6 b7 d6 d9)) else(Bzk.j0 k true a6 a9 b6 b7 d6 d9)))=some (e6,e7):=h
 clear h;have j6:=aM H;clear H;go_enter Try.func41,Try.ntmps41
 go_upto_region 1 with (first|((with_reducible refine gd 2 rfl ?_);refine bx #[.bool a6,.slice a7 a9.length a8,.slice b4 b6.length b5] 33 ?_;intro j7 hg j8 j9 hb;have l5:=gA w hg;replace HB:=bB hb;clear hb hg)|((with_reducible refine gd 3 rfl ?_);refine bx #[.bool b7,.slice b8 d6.length b9,.slice d7 d9.length d8] 33 ?_;intro l7 hg l8 l9 hb;have m0:=gA w hg;have m5:=nl hg j9;have m6:=ng hg j9;replace j9:=kb j9 hb;replace HB:=bB hb;clear hb hg))
 (try simp only[Act.put,sA,sZ,sC])
 go_cut [19] (fun m7 wc=>∃ (kq:Nat) (m8:Bool),m7=.bool m8∧Aside0 (Bzk.j0 kq m8 a6 a9 b6 b7 d6 d9=some (e6,e7))∧Aside0 (kq≤k)∧Aside0 (wc.heap[j7]?=some (.cells #[.bool a6,(.slice a7 a9.length a8),(.slice b4 b6.length b5)] 33 (0,0)))∧Aside0 (wc.heap[l7]?=some (.cells #[.bool b7,(.slice b8 d6.length b9),(.slice d7 d9.length d8)] 33 (0,0)))∧Aside0 (bw w wc))
 case first =>
  have H:=j6.out;clear j6;obtain⟨j4,m9,H⟩:=bT H;(try dsimp only at H);by_cases c7:j4=true
  ·subst c7;rw[if_pos rfl] at H;obtain⟨j5,n0,H⟩:=bT H;(try dsimp only at H);have H':=aM H;clear H;have n7:=m5.out;have n8:=m6.out;obtain⟨n9,o0,o8,o9,p0,p4⟩:=bk3 j9;go_wp2_with (first|((with_reducible refine gc 39 rfl ?_);refine gC 39 (some 13) Try.func39 #[.agg #[.bool a6,.slice a7 a9.length a8,.slice b4 b6.length b5]] ?_;(with_reducible refine(Azw.calls k a6 _ _ a9 _ _ b6 true _ ?_ ?_ ?_ ?_ m9.out).mono ?_);exact cB f9;exact g4.out;exact cB g5;exact g6.out;rintro e p7 ⟨rfl,hb⟩;refine⟨_,rfl,?_⟩;replace j9:=kb j9 hb;replace l9:=kb l9 hb;replace HB:=bB hb;clear hb;obtain⟨p9,r5,r6,r7,r8,r9⟩:=bk3 l9)|(go_at_call 39;(with_reducible refine(Azw.calls k b7 _ _ d6 _ _ d9 j5 _ ?_ ?_ ?_ ?_ n0.out).mono ?_);exact cB g7;exact g8.out;exact cB g9;exact j3.out;rintro e t4 ⟨rfl,hb⟩;replace j9:=kb j9 hb;replace l9:=kb l9 hb;replace HB:=bB hb;clear hb))
   go_meet
   case rel=>exact⟨_,(!j5),sD,H',⟨by first|omega|exact Nat.le_refl _⟩,⟨by exact kW j9⟩,⟨by exact kW l9⟩,⟨pB⟩⟩
  ·obtain rfl:=bN c7;rw[if_neg nF] at H
   have H':=aM H;clear H;have t5:=m5.out;have t6:=m6.out;obtain⟨t7,t8,t9,z3,z4,z5⟩:=bk3 j9;go_wp2_with (first|((with_reducible refine gc 39 rfl ?_);refine gC 39 (some 13) Try.func39 #[.agg #[.bool a6,.slice a7 a9.length a8,.slice b4 b6.length b5]] ?_;(with_reducible refine(Azw.calls k a6 _ _ a9 _ _ b6 false _ ?_ ?_ ?_ ?_ m9.out).mono ?_);exact cB f9;exact g4.out;exact cB g5;exact g6.out;rintro e z6 ⟨rfl,hb⟩;refine⟨_,rfl,?_⟩;replace j9:=kb j9 hb;replace l9:=kb l9 hb;replace HB:=bB hb;clear hb))
   go_meet
   case rel=>exact⟨_,(true),sD,H',⟨by first|omega|exact Nat.le_refl _⟩,⟨by exact kW j9⟩,⟨by exact kW l9⟩,⟨pB⟩⟩
 case rest =>
  clear j6;try clear z7
  obtain⟨kq,m8,rfl,HA,z8,j9,l9,HB⟩:=hcut;cases kq with
  | zero=>exact absurd HA.out (by simp [Bzk.j0])
  | succ z9 =>
   have H:=HA.out;clear HA;simp only[Bzk.j0] at H;by_cases B0:m8=true
   ·subst B0;rw[if_pos rfl] at H;obtain⟨rfl,rfl⟩:=q2 H;go_wp2
    go_ret2
    exact⟨eW,pB⟩
   ·obtain rfl:=bN B0;rw[if_neg nF] at H
    obtain⟨⟨B5,B9⟩,C0,H⟩:=bT H;(try dsimp only at H);obtain⟨⟨C1,C2⟩,C3,H⟩:=bT H;(try dsimp only at H);have C4:=aM H;clear H;have C6:=m5.out;have C7:=m6.out;obtain⟨C8,C9,D2,D3,D4,D5⟩:=bk3 j9;obtain⟨D6,D7,D8,D9,E0,E1⟩:=bk3 l9;go_upto_region 5 with (first|((with_reducible refine gc 56 rfl ?_);refine gC 56 (some 25) Try.func56 #[.slice a7 a9.length a8,.slice d7 d9.length d8] ?_;(with_reducible refine(Bzy.calls z9 _ _ a9 _ _ d9 B5 B9 _ ?_ ?_ ?_ ?_ C0.out).mono ?_);exact cB f9;exact g4.out;exact cB g9;exact j3.out;rintro e E2 ⟨E3,rfl,E4,hb⟩;refine⟨_,rfl,?_⟩;have E5:=rL E4;replace j9:=kb j9 hb;replace l9:=kb l9 hb;replace HB:=bB hb;clear hb E4;obtain⟨E6,E7,E8,E9,F0,F2⟩:=bk3 l9;obtain⟨F3,F4,F5,F6,F7,F8⟩:=bk3 j9)|((with_reducible refine gc 56 rfl ?_);refine gC 56 (some 33) Try.func56 #[.slice b8 d6.length b9,.slice b4 b6.length b5] ?_;(with_reducible refine(Bzy.calls z9 _ _ d6 _ _ b6 C1 C2 _ ?_ ?_ ?_ ?_ C3.out).mono ?_);exact cB g7;exact g8.out;exact cB g5;exact g6.out;rintro e F9 ⟨G5,rfl,E4,hb⟩;refine⟨_,rfl,?_⟩;have G9:=rL (rn E4 E5);replace E5:=rE E5 E4 hb;replace j9:=kb j9 hb;replace l9:=kb l9 hb;replace HB:=bB hb;clear hb E4))
    (try simp only[Act.put,sA,sZ,sC])
    go_cut [41] (fun H5 wc=>∃ (kq:Nat) (H6:Bool),H5=.bool H6∧Aside0 (Bzk.j1 kq B5 C1 H6 a6 a9 b6 b7 d6 d9=some (e6,e7))∧Aside0 (kq≤z9)∧Aside0 (rI wc w (oV G5) E3 B5)∧Aside0 (rI wc w (oV E3) G5 C1)∧Aside0 (wc.heap[j7]?=some (.cells #[.bool a6,(.slice a7 a9.length a8),(.slice b4 b6.length b5)] 33 (0,0)))∧Aside0 (wc.heap[l7]?=some (.cells #[.bool b7,(.slice b8 d6.length b9),(.slice d7 d9.length d8)] 33 (0,0)))∧Aside0 (bw w wc))
    case first =>
     have H:=C4.out;clear C4;by_cases H7:B9=0
     ·rw[if_pos H7] at H;obtain⟨H8,H9⟩:=bE H7;clear H7;(first|rw[H8]|(simp only[i64_w,i32_w];rw[H8])|skip)
      have H':=aM H;clear H;go_wp2
      go_meet
      case rel=>exact⟨_,((C2 != 0)),sD,H',⟨by have:=z8.out;first|omega|exact Nat.le_refl _⟩,⟨by exact rX (Kd.R_mono E5.out (fun _ hk=>hk.2))⟩,⟨by exact rX (Kd.R_mono G9.out (fun _ hk=>hk.2))⟩,⟨by exact kW j9⟩,⟨by exact kW l9⟩,⟨pB⟩⟩
     ·rw[if_neg H7] at H;obtain⟨H8,H9⟩:=bI H7;(first|rw[H8]|(simp only[i64_w,i32_w];rw[H8])|skip)
      have H':=aM H;clear H;go_wp2
      go_meet
      case rel=>exact⟨_,(true),sD,H',⟨by have:=z8.out;first|omega|exact Nat.le_refl _⟩,⟨by exact rX (Kd.R_mono E5.out (fun _ hk=>hk.2))⟩,⟨by exact rX (Kd.R_mono G9.out (fun _ hk=>hk.2))⟩,⟨by exact kW j9⟩,⟨by exact kW l9⟩,⟨pB⟩⟩
    case rest =>
     clear C4;try clear z7
     obtain⟨kq,H6,rfl,HA,I0,I3,I4,j9,l9,HB⟩:=hcut;cases kq with
     | zero=>exact absurd HA.out (by simp [Bzk.j1])
     | succ I5 =>
      have H:=HA.out;clear HA;simp only[Bzk.j1] at H;by_cases I6:H6=true
      ·subst I6;rw[if_pos rfl] at H;obtain⟨rfl,rfl⟩:=q2 H;go_wp2
       go_ret2
       exact⟨eW,pB⟩
      ·obtain rfl:=bN I6;rw[if_neg nF] at H
       by_cases I7:(a6 != b7)=true
       ·rw[if_pos I7] at H;have I8:(a6 != b7)=true:=I7;(try(have I9:decide (a6=b7)=false:=by simpa using I7))
        (try(have J0:(a6 == b7)=false:=by simpa using I7))
        (try(have J1:¬ (a6=b7):=by simpa using I7))
        clear I7;by_cases J2:a6=true
        ·subst J2;rw[if_pos rfl] at H;obtain⟨rfl,rfl⟩:=q2 H;have J3:=m5.out;have J4:=m6.out;obtain⟨J5,J6,J7,J8,J9,K0⟩:=bk3 j9;obtain⟨K1,K2,K3,K4,K5,K6⟩:=bk3 l9;go_wp2
         go_ret2
         exact⟨eW,pB⟩
        ·obtain rfl:=bN J2;rw[if_neg nF] at H
         obtain⟨rfl,rfl⟩:=q2 H;have K7:=m5.out;have K8:=m6.out;obtain⟨K9,L0,L7,L8,L9,M0⟩:=bk3 j9;obtain⟨M3,M4,M5,M6,M7,M8⟩:=bk3 l9;go_wp2
         go_ret2
         exact⟨eW,pB⟩
       ·rw[if_neg I7] at H;have I8:(a6 != b7)=false:=by simpa using I7
        (try(have I9:decide (a6=b7)=true:=by simpa using I7))
        (try(have J0:(a6 == b7)=true:=by simpa using I7))
        clear I7;obtain⟨⟨M9,N0⟩,N1,H⟩:=bT H;(try dsimp only at H);have N2:=aM H;clear H;have N3:=m5.out;have N4:=m6.out;obtain⟨N5,N6,N7,N8,N9,O0⟩:=bk3 j9;obtain⟨O1,O2,O3,O4,O5,O6⟩:=bk3 l9;obtain⟨O7,O8,rfl⟩:=Kd.R_slice I3.out;obtain⟨O9,P0,rfl⟩:=Kd.R_slice I4.out;go_upto_if 56 with (first|((with_reducible refine gc 73 rfl ?_);refine gC 73 (some 52) Try.func73 #[.slice O7 B5.length O8,.slice O9 C1.length P0] ?_;(with_reducible refine(Ezv.calls I5 _ _ B5 _ _ C1 M9 N0 _ ?_ ?_ ?_ ?_ N1.out).mono ?_);exact cR I3;exact lR I3;exact cR I4;exact lR I4;rintro e w' ⟨rfl,⟨nd,rfl⟩⟩;refine⟨_,rfl,?_⟩))
        have H:=N2.out;clear N2;by_cases P3:a6=true
        ·subst P3;rw[if_pos rfl] at H;obtain⟨rfl,rfl⟩:=q2 H;go_wp2
         go_ret2
         exact⟨eW,pB⟩
        ·obtain rfl:=bN P3;rw[if_neg nF] at H
         obtain⟨rfl,rfl⟩:=q2 H;go_wp2
         go_ret2
         exact⟨eW,pB⟩


mutual
def Azv.j0:Nat→Bool→Int→List (S33)→Option (Int)
 | 0,_,_,_=>none
 | k+1,x17,x909000,x909001=>if x17=true then(some 1) else(if(x909001.length:Int) < 1 then(Azv.j1 k true x909000 x909001) else(Azv.j1 k (decide ((x909001.length:Int) > 8)) x909000 x909001))
def Azv.j1:Nat→Bool→Int→List (S33)→Option (Int)
 | 0,_,_,_=>none
 | k+1,x27,x909000,x909001=>if x27=true then(some 17) else(Azv.l0 k 0 x909000 x909001)
def Azv.l0:Nat→Int→Int→List (S33)→Option (Int)
 | 0,_,_,_=>none
 | k+1,x3,x909000,x909001=>if x3 < (x909001.length:Int) then(if 0≤x3 then((Azw.f k ((rd_T33 x909001 x3).f0) ((rd_T33 x909001 x3).f1) ((rd_T33 x909001 x3).f2)).bind fun t910=>(if t910=true then(if(rd_T33 x909001 x3).f0=true then(some 1) else(Azv.l0 k (wrap64 (x3+1)) x909000 x909001)) else(some 3))) else(none)) else((Azb.f k x909001).bind fun bt912=>(if bt912.2.2.2=0 then((Czp.f k x909000).bind fun bt921=>((Bzk.f k bt912.1 bt912.2.1 bt912.2.2.1 bt921.1 bt921.2.1 bt921.2.2.1).bind fun bt930=>(if bt930.2=0 then(if bt930.1 > 0 then(some 8) else(some 0)) else(some bt930.2)))) else(some bt912.2.2.2)))
end
def Azv.f (k:Nat) (a0_0:Int) (l0_1:List (S33)):Option (Int):=if a0_0 < 1 then(Azv.j0 k true a0_0 l0_1) else(Azv.j0 k (decide (a0_0 > 1099511627776)) a0_0 l0_1)
theorem Azv.mono_l:∀ k,(∀ a6 a7 a8,LeO (Azv.j0 k a6 a7 a8) (Azv.j0 (k+1) a6 a7 a8))∧(∀ a6 a7 a8,LeO (Azv.j1 k a6 a7 a8) (Azv.j1 (k+1) a6 a7 a8))∧(∀ a6 a7 a8,LeO (Azv.l0 k a6 a7 a8) (Azv.l0 (k+1) a6 a7 a8))
 | 0=>⟨fun _ _ _ r h=>by simp [Azv.j0] at h,fun _ _ _ r h=>by simp [Azv.j1] at h,fun _ _ _ r h=>by simp [Azv.l0] at h⟩
 | k+1=>by
  obtain⟨ih0,ih1,ih2⟩:=Azv.mono_l k;have i0:=@Bzk.mono;have i1:=@Czp.mono;have i2:=@Azb.mono;have i3:=@Azw.mono;refine⟨?_,?_,?_⟩
  ·intro a6 a7 a8;unfold Azv.j0;exact mM
  ·intro a6 a7 a8;unfold Azv.j1;exact mM
  ·intro a6 a7 a8;unfold Azv.l0;exact mM
theorem Azv.mono:∀ a6 a7 k,LeO (Azv.f k a6 a7) (Azv.f (k+1) a6 a7):=by
 intro a6 a7 k;obtain⟨ih0,ih1,ih2⟩:=Azv.mono_l k;unfold Azv.f;have i0:=@Bzk.mono;have i1:=@Czp.mono;have i2:=@Azb.mono;have i3:=@Azw.mono;exact mM
theorem Azv.calls (k:Nat) (a6:Int) (a7:Option Addr) (a8:Nat) (a9:List (S33)) (r:Int) (w:World) (b4:Kd.C k33 w a7 a9.length a9) (b5:a9.length≤a8) (h:Azv.f k a6 a9=some r) :
  Calls Try.prog 18 #[.agg #[.int .i64 a6,.slice a7 a9.length a8]] w fun e w'=>e=.returned (.int .i64 r)∧bw w w':=by
 have hu24:=Try.underlying24;have hu33:=Try.underlying33;have b6:=aM b4;have b7:=aM b5;clear b4 b5;have HB:=aM (Below.refl w.heap.size w);have H:(if a6 < 1 then(Azv.j0 k true a6 a9) else(Azv.j0 k (decide (a6 > 1099511627776)) a6 a9))=some r:=h
 clear h;have b8:=aM H;clear H;go_enter Try.func18,Try.ntmps18
 go_upto_region 1 with (first|((with_reducible refine gd 1 rfl ?_);refine bxg #[.int .i64 a6,.slice a7 a9.length a8] 24 ?_;intro b9 hg d6 d7 hb;have d8:=gA w hg;replace HB:=bB hb;clear hb hg))
 (try simp only[Act.put,sA,sZ,sC])
 go_cut [17] (fun e6 wc=>∃ (kq:Nat) (e7:Bool),e6=.bool e7∧Aside0 (Azv.j0 kq e7 a6 a9=some r)∧Aside0 (kq≤k)∧Aside0 (wc.heap[b9]?=some (.cells #[.int .i64 a6,(.slice a7 a9.length a8)] 24 (0,0)))∧Aside0 (bw w wc))
 case first =>
  have H:=b8.out;clear b8;replace H:=iD H;rcases H with⟨e8,H⟩|⟨e8,H⟩
  ·(first|rw[e8]|(simp only[i64_w,i32_w];rw[e8])|skip)
   have H':=aM H;clear H;obtain⟨e9,f3,f4,f5⟩:=bk2 d7;go_wp2
   go_meet
   case rel=>exact⟨_,(true),sD,H',⟨by first|omega|exact Nat.le_refl _⟩,⟨by exact kW d7⟩,⟨pB⟩⟩
  ·(first|rw[e8]|(simp only[i64_w,i32_w];rw[e8])|skip)
   have H':=aM H;clear H;obtain⟨f6,f7,f8,f9⟩:=bk2 d7;go_wp2
   go_meet
   case rel=>exact⟨_,(decide (a6 > 1099511627776)),sD,H',⟨by first|omega|exact Nat.le_refl _⟩,⟨by exact kW d7⟩,⟨pB⟩⟩
 case rest =>
  clear b8;try clear g4
  obtain⟨kq,e7,rfl,HA,g5,d7,HB⟩:=hcut;cases kq with
  | zero=>exact absurd HA.out (by simp [Azv.j0])
  | succ g6 =>
   have H:=HA.out;clear HA;simp only[Azv.j0] at H;by_cases c7:e7=true
   ·subst c7;rw[if_pos rfl] at H;obtain rfl:=Option.some.inj H;go_wp2
    go_ret
    exact⟨eW,pB⟩
   ·obtain rfl:=bN c7;rw[if_neg nF] at H
    have g7:=aM H;clear H;go_upto_region 3 with (fail)
    go_cut [27] (fun g8 wc=>∃ (kq:Nat) (g9:Bool),g8=.bool g9∧Aside0 (Azv.j1 kq g9 a6 a9=some r)∧Aside0 (kq≤g6)∧Aside0 (wc.heap[b9]?=some (.cells #[.int .i64 a6,(.slice a7 a9.length a8)] 24 (0,0)))∧Aside0 (bw w wc))
    case first =>
     have H:=g7.out;clear g7;by_cases c9:(a9.length:Int) < 1
     ·rw[if_pos c9] at H;have j3:=dE c9;have j4:decide (a9.length < 1)=true:=dE (by omega)
      clear c9;(first|rw[j3]|(simp only[i64_w,i32_w];rw[j3])|skip)
      have H':=aM H;clear H;obtain⟨j5,j6,j7,j8⟩:=bk2 d7;go_wp2
      go_meet
      case rel=>exact⟨_,(true),sD,H',⟨by have:=g5.out;first|omega|exact Nat.le_refl _⟩,⟨by exact kW d7⟩,⟨pB⟩⟩
     ·rw[if_neg c9] at H;have j3:decide ((a9.length:Int) < 1)=false:=decide_eq_false c9;have j4:decide (a9.length < 1)=false:=decide_eq_false (by omega)
      clear c9;(first|rw[j3]|(simp only[i64_w,i32_w];rw[j3])|skip)
      have H':=aM H;clear H;obtain⟨j9,l5,l6,l7⟩:=bk2 d7;go_wp2
      go_meet
      case rel=>exact⟨_,(decide ((a9.length:Int) > 8)),sD,H',⟨by have:=g5.out;first|omega|exact Nat.le_refl _⟩,⟨by exact kW d7⟩,⟨pB⟩⟩
    case rest =>
     clear g7;try clear g4
     obtain⟨kq,g9,rfl,HA,l8,d7,HB⟩:=hcut;cases kq with
     | zero=>exact absurd HA.out (by simp [Azv.j1])
     | succ l9 =>
      have H:=HA.out;clear HA;simp only[Azv.j1] at H;by_cases m0:g9=true
      ·subst m0;rw[if_pos rfl] at H;obtain rfl:=Option.some.inj H;go_wp2
       go_ret
       exact⟨eW,pB⟩
      ·obtain rfl:=bN m0;rw[if_neg nF] at H
       have H':=aM H;clear H;go_wp2
       go_loopg [3] l9 (fun kq m4 w'=>∃ (m5:Int),m4=.int .i64 m5∧Aside0 (Azv.l0 kq m5 a6 a9=some r)∧Aside0 (kq≤l9)∧Aside0 (w'.heap[b9]?=some (.cells #[.int .i64 a6,(.slice a7 a9.length a8)] 24 (0,0)))∧Aside0 (bw w w'))
       case atStart=>exact⟨(0),sD,H',⟨Nat.le_refl _⟩,⟨by exact kW d7⟩,⟨pB⟩⟩
       case round =>
        clear H';try clear g4
        obtain⟨m5,rfl,HA,m6,d7,HB⟩:=hrel;cases gk with
        | zero=>exact absurd HA.out (by simp [Azv.l0])
        | succ k3 =>
         have H:=HA.out;clear HA;simp only[Azv.l0] at H;replace H:=iD H;rcases H with⟨m8,H⟩|⟨m8,H⟩
         ·obtain⟨m9,H⟩:=iN H;obtain⟨n0,n7,H⟩:=bT H;(try dsimp only at H);have n8:=aM H;clear H;obtain⟨n9,o0,o8,o9⟩:=bk2 d7;obtain⟨p0,p4,p7,p9,r5,r6,r7,r8,r9,t4,t5,t6,t7⟩:=at_T33 b6.out m5 (oE aS) (oE aS);cases r6
          replace r7:=hB HB r7;replace r8:=hB HB r8;replace r9:=hB HB r9;have t8:=aM t5;have t9:=aM t4;clear t5 t4;have z3:=aM t7;have z4:=aM t6;clear t7 t6;have z5:=eT (m5);have z6:=eU (m5) a9.length;go_upto_if 41 with (first|((with_reducible refine gc 39 rfl ?_);refine gC 39 (some 40) Try.func39 #[.agg #[.bool ((rd_T33 a9 m5).f0),.slice p4 ((rd_T33 a9 m5).f1).length p7,.slice p9 ((rd_T33 a9 m5).f2).length r5]] ?_;(with_reducible refine(Azw.calls k3 ((rd_T33 a9 m5).f0) _ _ ((rd_T33 a9 m5).f1) _ _ ((rd_T33 a9 m5).f2) n0 _ ?_ ?_ ?_ ?_ n7.out).mono ?_);exact cB t8;exact t9.out;exact cB z3;exact z4.out;rintro e z7 ⟨rfl,hb⟩;refine⟨_,rfl,?_⟩;replace d7:=kb d7 hb;replace HB:=bB hb;clear hb))
          have H:=n8.out;clear n8;by_cases z8:n0=true
          ·subst z8;rw[if_pos rfl] at H;obtain⟨bq20,hbq20⟩:∃ b_:Bool,b_=((rd_T33 a9 m5).f0):=⟨_,rfl⟩;replace H:(if bq20=true then(some 1) else(Azv.l0 k3 (wrap64 (m5+1)) a6 a9))=some r:=by rw[← hbq20] at H;exact H
           have Nbq20:=aM hbq20;clear hbq20;(try rw[← Nbq20.out])
           by_cases z9:bq20=true
           ·subst z9;rw[if_pos rfl] at H;obtain rfl:=Option.some.inj H;obtain⟨B0,B5,B9,C0⟩:=bk2 d7;obtain⟨C1,C2,C3,C4,C6,C7,C8,C9,D2,D3,D4,D5,D6⟩:=at_T33 b6.out m5 (oE aS) (oE aS);(try rw[← Nbq20.out] at C8)
            obtain rfl:p0=C1:=(by injection C7)
            replace C8:=hB HB C8;replace C9:=hB HB C9;replace D2:=hB HB D2;have D7:=aM D4;have D8:=aM D3;clear D4 D3;have D9:=aM D6;have E0:=aM D5;clear D6 D5;have E1:=eT (m5);have E2:=eU (m5) a9.length;go_wp2
            go_ret
            exact⟨eW,pB⟩
           ·obtain rfl:=bN z9;rw[if_neg nF] at H
            have H':=aM H;clear H;obtain⟨E3,E4,E5,E6⟩:=bk2 d7;obtain⟨C1,C2,C3,C4,C6,C7,C8,C9,D2,D3,D4,D5,D6⟩:=at_T33 b6.out m5 (oE aS) (oE aS);(try rw[← Nbq20.out] at C8)
            obtain rfl:p0=C1:=(by injection C7)
            replace C8:=hB HB C8;replace C9:=hB HB C9;replace D2:=hB HB D2;have D7:=aM D4;have D8:=aM D3;clear D4 D3;have D9:=aM D6;have E0:=aM D5;clear D6 D5;have E1:=eT (m5);have E2:=eU (m5) a9.length;go_wp2
            go_roundg k3
            case measure=>have:=g5.out;have:=l8.out;have:=m6.out;omega
            case rel=>exact⟨(wrap64 (m5+1)),sD,H',⟨by have:=g5.out;have:=l8.out;have:=m6.out;omega⟩,⟨by exact kW d7⟩,⟨pB⟩⟩
          ·obtain rfl:=bN z8;rw[if_neg nF] at H
           obtain rfl:=Option.some.inj H;go_wp2
           go_ret
           exact⟨eW,pB⟩
         ·obtain⟨⟨E7,E8,E9,F0⟩,F2,H⟩:=bT H;(try dsimp only at H);have F3:=aM H;clear H;obtain⟨F4,F5,F6,F7⟩:=bk2 d7;go_upto_if 55 with (first|((with_reducible refine gc 27 rfl ?_);refine gC 27 (some 51) Try.func27 #[.slice a7 a9.length a8] ?_;(with_reducible refine(Azb.calls k3 _ _ a9 E7 E8 E9 F0 _ ?_ ?_ F2.out).mono ?_);exact cB b6;exact b7.out;rintro e F8 ⟨F9,G5,rfl,G9,H5,hb⟩;refine⟨_,rfl,?_⟩;have H6:=rL G9;have H7:=rL H5;replace d7:=kb d7 hb;replace HB:=bB hb;clear hb G9 H5)|((with_reducible refine gd 4 rfl ?_);refine bzg 33 ?_;intro H8 hg H9 I0 hb;have I3:=gA w hg;have I5:=nl hg d7;have I6:=ng hg d7;replace H6:=rB H6 hb;replace H7:=rB H7 hb;replace d7:=kb d7 hb;replace HB:=bB hb;clear hb hg;have I7:=I6.out;have I8:=I5.out;obtain⟨I9,J0,J1,J2,J3,J4⟩:=bk3 I0;obtain⟨J5,J6,rfl⟩:=Kd.R_slice H6.out;obtain⟨J7,J8,rfl⟩:=Kd.R_slice H7.out))
          have H:=F3.out;clear F3;replace H:=iE H;rcases H with⟨K0,K1,H⟩|⟨J9,K0,K1,H⟩
          ·(first|rw[K0]|(simp only[i64_w,i32_w];rw[K0])|skip)
           obtain⟨⟨K2,K3,K4,K5⟩,K6,H⟩:=bT H;(try dsimp only at H);obtain⟨⟨K7,K8⟩,K9,H⟩:=bT H;(try dsimp only at H);have L0:=aM H;clear H;have L7:=I5.out;have L8:=I6.out;obtain⟨L9,M0,M3,M4⟩:=bk2 d7;go_upto_if 70 with (first|((with_reducible refine gc 40 rfl ?_);refine gC 40 (some 60) Try.func40 #[.int .i64 a6] ?_;(with_reducible refine(Czp.calls k3 a6 K2 K3 K4 K5 _ K6.out).mono ?_);rintro e M5 ⟨M6,M7,rfl,G9,H5,hb⟩;refine⟨_,rfl,?_⟩;have M8:=rL (Kd.R_new' (Kd.R_new' G9 (Kd.R_lt (rT H6 I0))) (Kd.R_lt (rT H7 I0)));have M9:=rL (Kd.R_new' (Kd.R_new' H5 (Kd.R_lt (rT H6 I0))) (Kd.R_lt (rT H7 I0)));replace H6:=ro (rT H6 I0) hb G9 H5;replace H7:=ro (rT H7 I0) hb G9 H5;replace d7:=kF d7 I5 hb;replace I0:=kP (o':=.cells #[.bool E7,.slice J5 E8.length J6,.slice J7 E9.length J8] 33 (0,0)) I0 hb;replace HB:=bB hb;clear hb G9 H5)|((with_reducible refine gd 6 rfl ?_);refine bzg 33 ?_;intro N0 hg N1 N2 hb;have N3:=gA w hg;have N5:=nl hg d7;have N6:=ng hg d7;have N7:=nl hg I0;have N8:=ng hg I0;replace H6:=rB H6 hb;replace H7:=rB H7 hb;replace M8:=rB M8 hb;replace M9:=rB M9 hb;replace d7:=kb d7 hb;replace I0:=kb I0 hb;replace HB:=bB hb;clear hb hg;have N9:=N6.out;have O0:=N5.out;have O1:=N8.out;have O2:=N7.out;obtain⟨O3,O4,O5,O6,O7,O8⟩:=bk3 N2;obtain⟨O9,P0,rfl⟩:=Kd.R_slice M8.out;obtain⟨P3,P4,rfl⟩:=Kd.R_slice M9.out;obtain⟨P5,P6,P7,P8,P9,Q0⟩:=bk3 I0)|((with_reducible refine gc 41 rfl ?_);refine gC 41 (some 66) Try.func41 #[.agg #[.bool E7,.slice J5 E8.length J6,.slice J7 E9.length J8],.agg #[.bool K2,.slice O9 K3.length P0,.slice P3 K4.length P4]] ?_;(with_reducible refine(Bzk.calls k3 E7 _ _ E8 _ _ E9 K2 _ _ K3 _ _ K4 K7 K8 _ ?_ ?_ ?_ ?_ ?_ ?_ ?_ ?_ K9.out).mono ?_);(focus(refine(Kd.R_reads' (e:=3) (base:=w.heap.size) (ok:=fun k_=>((oN J7 E9.length J8 k_∧oN O9 K3.length P0 k_)∧oN P3 K4.length P4 k_)) (n:=E8.length) (c:=J6) ?_).2.2;exact(rT H6 N2)));exact lR H6;(focus(refine(Kd.R_reads' (e:=3) (base:=w.heap.size) (ok:=fun k_=>((oN J5 E8.length J6 k_∧oN O9 K3.length P0 k_)∧oN P3 K4.length P4 k_)) (n:=E9.length) (c:=J8) ?_).2.2;exact(rT H7 N2)));exact lR H7;(focus(refine(Kd.R_reads' (e:=3) (base:=w.heap.size) (ok:=fun k_=>((oN P3 K4.length P4 k_∧oN J5 E8.length J6 k_)∧oN J7 E9.length J8 k_)) (n:=K3.length) (c:=P0) ?_).2.2;exact(rT M8 N2)));exact lR M8;(focus(refine(Kd.R_reads' (e:=3) (base:=w.heap.size) (ok:=fun k_=>((oN O9 K3.length P0 k_∧oN J5 E8.length J6 k_)∧oN J7 E9.length J8 k_)) (n:=K4.length) (c:=P4) ?_).2.2;exact(rT M9 N2)));exact lR M9;rintro e Q1 ⟨rfl,hb⟩;refine⟨_,rfl,?_⟩;replace H6:=rb (rT H6 N2) hb;replace H7:=rb (rT H7 N2) hb;replace M8:=rb (rT M8 N2) hb;replace M9:=rb (rT M9 N2) hb;replace d7:=kF d7 N5 hb;replace I0:=kF I0 N7 hb;replace N2:=kP (o':=.cells #[.bool K2,.slice O9 K3.length P0,.slice P3 K4.length P4] 33 (0,0)) N2 hb;replace HB:=bB hb;clear hb))
           have H:=L0.out;clear L0;replace H:=iE H;rcases H with⟨Q3,Q4,H⟩|⟨Q2,Q3,Q4,H⟩
           ·(first|rw[Q3]|(simp only[i64_w,i32_w];rw[Q3])|skip)
            by_cases Q5:K7 > 0
            ·rw[if_pos Q5] at H;have Q6:decide (0 < K7)=true:=dE Q5;clear Q5;obtain rfl:=Option.some.inj H;go_wp2
             go_ret
             exact⟨eW,pB⟩
            ·rw[if_neg Q5] at H;have Q6:decide (0 < K7)=false:=decide_eq_false Q5;clear Q5;obtain rfl:=Option.some.inj H;go_wp2
             go_ret
             exact⟨eW,pB⟩
           ·(first|rw[Q3]|(simp only[i64_w,i32_w];rw[Q3])|skip)
            obtain rfl:=Option.some.inj H;go_wp2
            go_ret
            exact⟨eW,pB⟩
          ·(first|rw[K0]|(simp only[i64_w,i32_w];rw[K0])|skip)
           obtain rfl:=Option.some.inj H;go_wp2
           go_ret
           exact⟨eW,pB⟩


mutual
def Bzw.j0:Nat→List Int→Int→Bool→Option (Int)
 | 0,_,_,_=>none
 | k+1,x0,x2,x19=>if x19=true then(some 17) else(Bzw.l0 k x0 x2 0)
def Bzw.l0:Nat→List Int→Int→Int→Option (Int)
 | 0,_,_,_=>none
 | k+1,x0,x2,x7=>if x7 < (x0.length:Int) then(if 0≤x7 then(if(rd x0 x7) < 0 then(some 1) else(if(rd x0 x7) > x2 then(some 1) else(Bzw.l0 k x0 x2 (wrap64 (x7+1))))) else(none)) else(some 0)
end
def Bzw.f (k:Nat) (l0:List Int) (a1:Int) (a2:Int):Option (Int):=if a1 < 1 then(Bzw.j0 k l0 a2 true) else(if a1 > 8 then(Bzw.j0 k l0 a2 true) else(Bzw.j0 k l0 a2 ((l0.length:Int) != a1)))
theorem Bzw.mono_l:∀ k,(∀ a6 a7 a8,LeO (Bzw.j0 k a6 a7 a8) (Bzw.j0 (k+1) a6 a7 a8))∧(∀ a6 a7 a8,LeO (Bzw.l0 k a6 a7 a8) (Bzw.l0 (k+1) a6 a7 a8))
 | 0=>⟨fun _ _ _ r h=>by simp [Bzw.j0] at h,fun _ _ _ r h=>by simp [Bzw.l0] at h⟩
 | k+1=>by
  obtain⟨ih0,ih1⟩:=Bzw.mono_l k;refine⟨?_,?_⟩
  ·intro a6 a7 a8;unfold Bzw.j0;exact mM
  ·intro a6 a7 a8;unfold Bzw.l0;exact mM
theorem Bzw.mono:∀ a6 a7 a8 k,LeO (Bzw.f k a6 a7 a8) (Bzw.f (k+1) a6 a7 a8):=by
 intro a6 a7 a8 k;obtain⟨ih0,ih1⟩:=Bzw.mono_l k;unfold Bzw.f;exact mM
theorem Bzw.calls (k:Nat) (a6:Option Addr) (a7:Nat) (l0:List Int) (a8:Int) (a9:Int) (r:Int) (w:World) (b4:cI w a6 l0) (b5:l0.length≤a7) (h:Bzw.f k l0 a8 a9=some r) :
  Calls Try.prog 77 #[.slice a6 l0.length a7,.int .i64 a8,.int .i64 a9] w fun e w'=>e=.returned (.int .i64 r)∧Drawn0 w w':=by
 have b6:=aM b4;have b7:=aM b5;clear b4 b5;have H:(if a8 < 1 then(Bzw.j0 k l0 a9 true) else(if a8 > 8 then(Bzw.j0 k l0 a9 true) else(Bzw.j0 k l0 a9 ((l0.length:Int) != a8))))=some r:=h
 clear h;have b8:=aM H;clear H;go_enter Try.func77,Try.ntmps77
 go_upto_region 1 with (fail)
 go_cut [19] (fun b9 wc=>∃ (kq:Nat) (d6:Bool),b9=.bool d6∧Aside0 (Bzw.j0 kq l0 a9 d6=some r)∧Aside0 (kq≤k)∧Drawn0 w wc)
 case first =>
  have H:=b8.out;clear b8;replace H:=iD H;rcases H with⟨d7,H⟩|⟨d7,H⟩
  ·(first|rw[d7]|(simp only[i64_w,i32_w];rw[d7])|skip)
   have H':=aM H;clear H;go_wp2
   go_meet
   case rel=>exact⟨_,(true),sD,H',⟨by first|omega|exact Nat.le_refl _⟩,dR⟩
  ·(first|rw[d7]|(simp only[i64_w,i32_w];rw[d7])|skip)
   by_cases c6:a8 > 8
   ·rw[if_pos c6] at H;have d8:decide (8 < a8)=true:=dE c6;clear c6;have H':=aM H;clear H;go_wp2
    go_meet
    case rel=>exact⟨_,(true),sD,H',⟨by first|omega|exact Nat.le_refl _⟩,dR⟩
   ·rw[if_neg c6] at H;have d8:decide (8 < a8)=false:=decide_eq_false c6;clear c6;have H':=aM H;clear H;go_wp2
    go_meet
    case rel=>exact⟨_,(((l0.length:Int) != a8)),sD,H',⟨by first|omega|exact Nat.le_refl _⟩,dR⟩
 case rest =>
  clear b8;try clear d9
  obtain⟨kq,d6,rfl,HA,e6,⟨mc3,rfl⟩⟩:=hcut;cases kq with
  | zero=>exact absurd HA.out (by simp [Bzw.j0])
  | succ e7 =>
   have H:=HA.out;clear HA;simp only[Bzw.j0] at H;by_cases c7:d6=true
   ·subst c7;rw[if_pos rfl] at H;obtain rfl:=Option.some.inj H;go_wp2
    go_ret
    exact⟨sD,dR⟩
   ·obtain rfl:=bN c7;rw[if_neg nF] at H
    have H':=aM H;clear H;go_wp2
    go_loopg [7] e7 (fun kq e8 w'=>∃ (e9:Int),e8=.int .i64 e9∧Aside0 (Bzw.l0 kq l0 a9 e9=some r)∧Aside0 (kq≤e7)∧Drawn0 w w')
    case atStart=>exact⟨(0),sD,H',⟨Nat.le_refl _⟩,dR⟩
    case round =>
     clear H';try clear d9
     obtain⟨e9,rfl,HA,f3,⟨f4,rfl⟩⟩:=hrel;cases gk with
     | zero=>exact absurd HA.out (by simp [Bzw.l0])
     | succ k2 =>
      have H:=HA.out;clear HA;simp only[Bzw.l0] at H;replace H:=iD H;rcases H with⟨f5,H⟩|⟨f5,H⟩
      ·obtain⟨f6,H⟩:=iN H;replace H:=iD H;rcases H with⟨f7,H⟩|⟨f7,H⟩
       ·obtain rfl:=Option.some.inj H;obtain⟨f8,f9,g4,g5,g6⟩:=aI b6.out e9;cases f9;go_wp2
        go_ret
        exact⟨sD,dR⟩
       ·by_cases g7:(rd l0 e9) > a9
        ·rw[if_pos g7] at H;have g8:decide (a9 < (rd l0 e9))=true:=dE g7;clear g7;obtain rfl:=Option.some.inj H;obtain⟨f8,f9,g4,g5,g6⟩:=aI b6.out e9;cases f9;obtain⟨g9,j3,j4,j5,j6⟩:=aI b6.out e9;obtain rfl:f8=g9:=(by injection j3);go_wp2
         go_ret
         exact⟨sD,dR⟩
        ·rw[if_neg g7] at H;have g8:decide (a9 < (rd l0 e9))=false:=decide_eq_false g7;clear g7;have H':=aM H;clear H;obtain⟨f8,f9,g4,g5,g6⟩:=aI b6.out e9;cases f9;obtain⟨g9,j3,j4,j5,j6⟩:=aI b6.out e9;obtain rfl:f8=g9:=(by injection j3);go_wp2
         go_roundg k2
         case measure=>have:=e6.out;have:=f3.out;omega
         case rel=>exact⟨(wrap64 (e9+1)),sD,H',⟨by have:=e6.out;have:=f3.out;omega⟩,dR⟩
      ·obtain rfl:=Option.some.inj H;go_wp2
       go_ret
       exact⟨sD,dR⟩

def Ezm.f (k:Nat) (l0:List Int) (a1:Int):Option (Int):=(Bzw.f k l0 a1 1099511627776).bind fun t934=>(some t934)
theorem Ezm.mono:∀ a6 a7 k,LeO (Ezm.f k a6 a7) (Ezm.f (k+1) a6 a7):=by
 intro a6 a7 k;unfold Ezm.f;have i0:=@Bzw.mono;exact mM
theorem Ezm.calls (k:Nat) (a6:Option Addr) (a7:Nat) (l0:List Int) (a8:Int) (r:Int) (w:World) (a9:cI w a6 l0) (b4:l0.length≤a7) (h:Ezm.f k l0 a8=some r) :
  Calls Try.prog 46 #[.slice a6 l0.length a7,.int .i64 a8] w fun e w'=>e=.returned (.int .i64 r)∧Drawn0 w w':=by
 have b5:=aM a9;have b6:=aM b4;clear a9 b4;have H:((Bzw.f k l0 a8 1099511627776).bind fun b7=>(some b7))=some r:=h
 clear h;replace H:=bS H;obtain⟨b7,b8,H⟩:=H;replace H:(some b7)=some r:=H;have b9:=aM b8;clear b8;obtain rfl:=Option.some.inj H;go_enter Try.func46,Try.ntmps46
 go_wp2_with (first|((with_reducible refine gc 77 rfl ?_);refine gC 77 (some 7) Try.func77 #[.slice a6 l0.length a7,.int .i64 a8,.int .i64 1099511627776] ?_;(with_reducible refine(Bzw.calls k _ _ l0 a8 1099511627776 b7 _ ?_ ?_ b9.out).mono ?_);exact cX b5.out;exact b6.out;rintro e w' ⟨rfl,⟨nd,rfl⟩⟩;refine⟨_,rfl,?_⟩))
 go_ret
 exact⟨sD,dR⟩

end Go.Proofs.Ytbnpcplckcipfaa.Print
