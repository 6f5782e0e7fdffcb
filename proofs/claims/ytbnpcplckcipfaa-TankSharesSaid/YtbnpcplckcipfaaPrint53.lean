import Derived.Test.YtbnpcplckcipfaaPrint0
import Derived.Test.YtbnpcplckcipfaaPrint48
import Derived.Test.YtbnpcplckcipfaaPrint42
import Derived.Test.YtbnpcplckcipfaaPrint51
namespace Go.Proofs.Ytbnpcplckcipfaa.Print
open Go.RowKit Go.Proofs.YtbnpcplckcipfaaW.PrintWords Go.Proofs.YtbnpcplckcipfaaW.PrintLast Go.Proofs.YtbnpcplckcipfaaW.PrintMore
attribute [local go_sem] max2_int min2_int max_two min_two max_three min_three max_four min_four
set_option linter.unusedVariables false
set_option maxRecDepth 100000
set_option maxHeartbeats 8000000
set_option linter.unusedSimpArgs false

mutual
def Bzy.j0:Nat→Bool→Bool→List Int→List Int→Bool→List Int→List Int→Option (Int × Int)
 | 0,_,_,_,_,_,_,_=>none
 | k+1,x19,x895000,x895001,x895002,x896000,x896001,x896002=>if x19=true then(some (0,3)) else((Azm.f k x895001 x896002).bind fun bt898=>((Azm.f k x896001 x895002).bind fun bt902=>(if bt898.2=0 then(Bzy.j1 k bt898.1 bt902.1 (bt902.2 != 0) x895000 x895001 x895002 x896000 x896001 x896002) else(Bzy.j1 k bt898.1 bt902.1 true x895000 x895001 x895002 x896000 x896001 x896002))))
def Bzy.j1:Nat→List Int→List Int→Bool→Bool→List Int→List Int→Bool→List Int→List Int→Option (Int × Int)
 | 0,_,_,_,_,_,_,_,_,_=>none
 | k+1,x6,x8,x41,x895000,x895001,x895002,x896000,x896001,x896002=>if x41=true then(some (0,2)) else(if(x895000 != x896000)=true then(if x895000=true then(some ((-1),0)) else(some (1,0))) else((Ezw.f k x6 x8).bind fun bt906=>(if x895000=true then(some (wrap64 (-bt906.1),0)) else(some (bt906.1,0)))))
end
def Bzy.f (k:Nat) (a0_0:Bool) (l0_1:List Int) (l0_2:List Int) (a1_0:Bool) (l1_1:List Int) (l1_2:List Int):Option (Int × Int):=(Azq.f k a0_0 l0_1 l0_2).bind fun t896=>(if t896=true then((Azq.f k a1_0 l1_1 l1_2).bind fun t897=>(Bzy.j0 k (!t897) a0_0 l0_1 l0_2 a1_0 l1_1 l1_2)) else(Bzy.j0 k true a0_0 l0_1 l0_2 a1_0 l1_1 l1_2))
theorem Bzy.mono_l:∀ k,(∀ a6 a7 a8 a9 b4 b5 b6,LeO (Bzy.j0 k a6 a7 a8 a9 b4 b5 b6) (Bzy.j0 (k+1) a6 a7 a8 a9 b4 b5 b6))∧(∀ a6 a7 a8 a9 b4 b5 b6 b7 b8,LeO (Bzy.j1 k a6 a7 a8 a9 b4 b5 b6 b7 b8) (Bzy.j1 (k+1) a6 a7 a8 a9 b4 b5 b6 b7 b8))
 | 0=>⟨fun _ _ _ _ _ _ _ r h=>by simp [Bzy.j0] at h,fun _ _ _ _ _ _ _ _ _ r h=>by simp [Bzy.j1] at h⟩
 | k+1=>by
  obtain⟨ih0,ih1⟩:=Bzy.mono_l k;have i0:=@Ezw.mono;have i1:=@Azm.mono;have i2:=@Azq.mono;refine⟨?_,?_⟩
  ·intro a6 a7 a8 a9 b4 b5 b6;unfold Bzy.j0;exact mM
  ·intro a6 a7 a8 a9 b4 b5 b6 b7 b8;unfold Bzy.j1;exact mM
theorem Bzy.mono:∀ a6 a7 a8 a9 b4 b5 k,LeO (Bzy.f k a6 a7 a8 a9 b4 b5) (Bzy.f (k+1) a6 a7 a8 a9 b4 b5):=by
 intro a6 a7 a8 a9 b4 b5 k;obtain⟨ih0,ih1⟩:=Bzy.mono_l k;unfold Bzy.f;have i0:=@Ezw.mono;have i1:=@Azm.mono;have i2:=@Azq.mono;exact mM
theorem Bzy.calls (k:Nat) (a6:Bool) (a7:Option Addr) (a8:Nat) (a9:List Int) (b4:Option Addr) (b5:Nat) (b6:List Int) (b7:Bool) (b8:Option Addr) (b9:Nat) (d6:List Int) (d7:Option Addr) (d8:Nat) (d9:List Int) (e6:Int) (e7:Int) (w:World) (e8:cI w a7 a9) (e9:a9.length≤a8) (f3:cI w b4 b6) (f4:b6.length≤b5) (f5:cI w b8 d6) (f6:d6.length≤b9) (f7:cI w d7 d9) (f8:d9.length≤d8) (h:Bzy.f k a6 a9 b6 b7 d6 d9=some (e6,e7)) :
  Calls Try.prog 41 #[.agg #[.bool a6,.slice a7 a9.length a8,.slice b4 b6.length b5],.agg #[.bool b7,.slice b8 d6.length b9,.slice d7 d9.length d8]] w fun e w'=>e=.returned (.tuple #[.int .i64 e6,.int .i64 e7])∧bw w w':=by
 have hu33:=Try.underlying33;have f9:=aM e8;have g4:=aM e9;clear e8 e9;have g5:=aM f3;have g6:=aM f4;clear f3 f4;have g7:=aM f5;have g8:=aM f6;clear f5 f6;have g9:=aM f7;have j3:=aM f8;clear f7 f8;have HB:=aM (Below.refl w.heap.size w);have H:((Azq.f k a6 a9 b6).bind fun j4=>(if j4=true then((Azq.f k b7 d6 d9).bind fun j5=>(Bzy.j0 k (!j5) a6 a9 b6 b7 d6 d9)) else(Bzy.j0 k true a6 a9 b6 b7 d6 d9)))=some (e6,e7):=h
 clear h;have j6:=aM H;clear H;go_enter Try.func41,Try.ntmps41
 go_upto_region 1 with (first|((with_reducible refine gd 2 rfl ?_);refine bx #[.bool a6,.slice a7 a9.length a8,.slice b4 b6.length b5] 33 ?_;intro j7 hg j8 j9 hb;have l5:=gA w hg;replace HB:=bB hb;clear hb hg)|((with_reducible refine gd 3 rfl ?_);refine bx #[.bool b7,.slice b8 d6.length b9,.slice d7 d9.length d8] 33 ?_;intro l7 hg l8 l9 hb;have m0:=gA w hg;have m5:=nl hg j9;have m6:=ng hg j9;replace j9:=kb j9 hb;replace HB:=bB hb;clear hb hg))
 (try simp only[Act.put,sA,sZ,sC])
 go_cut [19] (fun m7 wc=>∃ (kq:Nat) (m8:Bool),m7=.bool m8∧Aside0 (Bzy.j0 kq m8 a6 a9 b6 b7 d6 d9=some (e6,e7))∧Aside0 (kq≤k)∧Aside0 (wc.heap[j7]?=some (.cells #[.bool a6,(.slice a7 a9.length a8),(.slice b4 b6.length b5)] 33 (0,0)))∧Aside0 (wc.heap[l7]?=some (.cells #[.bool b7,(.slice b8 d6.length b9),(.slice d7 d9.length d8)] 33 (0,0)))∧Aside0 (bw w wc))
 case first =>
  have H:=j6.out;clear j6;obtain⟨j4,m9,H⟩:=bT H;(try dsimp only at H);by_cases c7:j4=true
  ·subst c7;rw[if_pos rfl] at H;obtain⟨j5,n0,H⟩:=bT H;(try dsimp only at H);have H':=aM H;clear H;have n7:=m5.out;have n8:=m6.out;obtain⟨n9,o0,o8,o9,p0,p4⟩:=bk3 j9;go_wp2_with (first|((with_reducible refine gc 39 rfl ?_);refine gC 39 (some 13) Try.func39 #[.agg #[.bool a6,.slice a7 a9.length a8,.slice b4 b6.length b5]] ?_;(with_reducible refine(Azq.calls k a6 _ _ a9 _ _ b6 true _ ?_ ?_ ?_ ?_ m9.out).mono ?_);exact cB f9;exact g4.out;exact cB g5;exact g6.out;rintro e p7 ⟨rfl,hb⟩;refine⟨_,rfl,?_⟩;replace j9:=kb j9 hb;replace l9:=kb l9 hb;replace HB:=bB hb;clear hb;obtain⟨p9,r5,r6,r7,r8,r9⟩:=bk3 l9)|(go_at_call 39;(with_reducible refine(Azq.calls k b7 _ _ d6 _ _ d9 j5 _ ?_ ?_ ?_ ?_ n0.out).mono ?_);exact cB g7;exact g8.out;exact cB g9;exact j3.out;rintro e t4 ⟨rfl,hb⟩;replace j9:=kb j9 hb;replace l9:=kb l9 hb;replace HB:=bB hb;clear hb))
   go_meet
   case rel=>exact⟨_,(!j5),sD,H',⟨by first|omega|exact Nat.le_refl _⟩,⟨by exact kW j9⟩,⟨by exact kW l9⟩,⟨pB⟩⟩
  ·obtain rfl:=bN c7;rw[if_neg nF] at H
   have H':=aM H;clear H;have t5:=m5.out;have t6:=m6.out;obtain⟨t7,t8,t9,z3,z4,z5⟩:=bk3 j9;go_wp2_with (first|((with_reducible refine gc 39 rfl ?_);refine gC 39 (some 13) Try.func39 #[.agg #[.bool a6,.slice a7 a9.length a8,.slice b4 b6.length b5]] ?_;(with_reducible refine(Azq.calls k a6 _ _ a9 _ _ b6 false _ ?_ ?_ ?_ ?_ m9.out).mono ?_);exact cB f9;exact g4.out;exact cB g5;exact g6.out;rintro e z6 ⟨rfl,hb⟩;refine⟨_,rfl,?_⟩;replace j9:=kb j9 hb;replace l9:=kb l9 hb;replace HB:=bB hb;clear hb))
   go_meet
   case rel=>exact⟨_,(true),sD,H',⟨by first|omega|exact Nat.le_refl _⟩,⟨by exact kW j9⟩,⟨by exact kW l9⟩,⟨pB⟩⟩
 case rest =>
  clear j6;try clear z7
  obtain⟨kq,m8,rfl,HA,z8,j9,l9,HB⟩:=hcut;cases kq with
  | zero=>exact absurd HA.out (by simp [Bzy.j0])
  | succ z9 =>
   have H:=HA.out;clear HA;simp only[Bzy.j0] at H;by_cases B0:m8=true
   ·subst B0;rw[if_pos rfl] at H;obtain⟨rfl,rfl⟩:=q2 H;go_wp2
    go_ret2
    exact⟨eW,pB⟩
   ·obtain rfl:=bN B0;rw[if_neg nF] at H
    obtain⟨⟨B5,B9⟩,C0,H⟩:=bT H;(try dsimp only at H);obtain⟨⟨C1,C2⟩,C3,H⟩:=bT H;(try dsimp only at H);have C4:=aM H;clear H;have C6:=m5.out;have C7:=m6.out;obtain⟨C8,C9,D2,D3,D4,D5⟩:=bk3 j9;obtain⟨D6,D7,D8,D9,E0,E1⟩:=bk3 l9;go_upto_region 5 with (first|((with_reducible refine gc 56 rfl ?_);refine gC 56 (some 25) Try.func56 #[.slice a7 a9.length a8,.slice d7 d9.length d8] ?_;(with_reducible refine(Azm.calls z9 _ _ a9 _ _ d9 B5 B9 _ ?_ ?_ ?_ ?_ C0.out).mono ?_);exact cB f9;exact g4.out;exact cB g9;exact j3.out;rintro e E2 ⟨E3,rfl,E4,hb⟩;refine⟨_,rfl,?_⟩;have E5:=rL E4;replace j9:=kb j9 hb;replace l9:=kb l9 hb;replace HB:=bB hb;clear hb E4;obtain⟨E6,E7,E8,E9,F0,F2⟩:=bk3 l9;obtain⟨F3,F4,F5,F6,F7,F8⟩:=bk3 j9)|((with_reducible refine gc 56 rfl ?_);refine gC 56 (some 33) Try.func56 #[.slice b8 d6.length b9,.slice b4 b6.length b5] ?_;(with_reducible refine(Azm.calls z9 _ _ d6 _ _ b6 C1 C2 _ ?_ ?_ ?_ ?_ C3.out).mono ?_);exact cB g7;exact g8.out;exact cB g5;exact g6.out;rintro e F9 ⟨G5,rfl,E4,hb⟩;refine⟨_,rfl,?_⟩;have G9:=rL (rn E4 E5);replace E5:=rE E5 E4 hb;replace j9:=kb j9 hb;replace l9:=kb l9 hb;replace HB:=bB hb;clear hb E4))
    (try simp only[Act.put,sA,sZ,sC])
    go_cut [41] (fun H5 wc=>∃ (kq:Nat) (H6:Bool),H5=.bool H6∧Aside0 (Bzy.j1 kq B5 C1 H6 a6 a9 b6 b7 d6 d9=some (e6,e7))∧Aside0 (kq≤z9)∧Aside0 (rI wc w (oV G5) E3 B5)∧Aside0 (rI wc w (oV E3) G5 C1)∧Aside0 (wc.heap[j7]?=some (.cells #[.bool a6,(.slice a7 a9.length a8),(.slice b4 b6.length b5)] 33 (0,0)))∧Aside0 (wc.heap[l7]?=some (.cells #[.bool b7,(.slice b8 d6.length b9),(.slice d7 d9.length d8)] 33 (0,0)))∧Aside0 (bw w wc))
    case first =>
     have H:=C4.out;clear C4;by_cases H7:B9=0
     ·rw[if_pos H7] at H;obtain⟨H8,H9⟩:=bE H7;clear H7;(first|rw[H8]|(simp only[i64_w,i32_w];rw[H8])|skip)
      have H':=aM H;clear H;go_wp2
      go_meet
      case rel=>exact⟨_,((C2 != 0)),sD,H',⟨by have:=z8.out;first|omega|exact Nat.le_refl _⟩,⟨by exact rX (Kd.R_mono E5.out (fun _ hk=>hk.2))⟩,⟨by exact rX (Kd.R_mono G9.out (fun _ hk=>hk.2))⟩,⟨by exact kW j9⟩,⟨by exact kW l9⟩,⟨pB⟩⟩
     ·rw[if_neg H7] at H;obtain⟨H8,H9⟩:=bI H7;(first|rw[H8]|(simp only[i64_w,i32_w];rw[H8])|skip)
      have H':=aM H;clear H;go_wp2
      go_meet
      case rel=>exact⟨_,(true),sD,H',⟨by have:=z8.out;first|omega|exact Nat.le_refl _⟩,⟨by exact rX (Kd.R_mono E5.out (fun _ hk=>hk.2))⟩,⟨by exact rX (Kd.R_mono G9.out (fun _ hk=>hk.2))⟩,⟨by exact kW j9⟩,⟨by exact kW l9⟩,⟨pB⟩⟩
    case rest =>
     clear C4;try clear z7
     obtain⟨kq,H6,rfl,HA,I0,I3,I4,j9,l9,HB⟩:=hcut;cases kq with
     | zero=>exact absurd HA.out (by simp [Bzy.j1])
     | succ I5 =>
      have H:=HA.out;clear HA;simp only[Bzy.j1] at H;by_cases I6:H6=true
      ·subst I6;rw[if_pos rfl] at H;obtain⟨rfl,rfl⟩:=q2 H;go_wp2
       go_ret2
       exact⟨eW,pB⟩
      ·obtain rfl:=bN I6;rw[if_neg nF] at H
       by_cases I7:(a6 != b7)=true
       ·rw[if_pos I7] at H;have I8:(a6 != b7)=true:=I7;(try(have I9:decide (a6=b7)=false:=by simpa using I7))
        (try(have J0:(a6 == b7)=false:=by simpa using I7))
        (try(have J1:¬ (a6=b7):=by simpa using I7))
        clear I7;by_cases J2:a6=true
        ·subst J2;rw[if_pos rfl] at H;obtain⟨rfl,rfl⟩:=q2 H;have J3:=m5.out;have J4:=m6.out;obtain⟨J5,J6,J7,J8,J9,K0⟩:=bk3 j9;obtain⟨K1,K2,K3,K4,K5,K6⟩:=bk3 l9;go_wp2
         go_ret2
         exact⟨eW,pB⟩
        ·obtain rfl:=bN J2;rw[if_neg nF] at H
         obtain⟨rfl,rfl⟩:=q2 H;have K7:=m5.out;have K8:=m6.out;obtain⟨K9,L0,L7,L8,L9,M0⟩:=bk3 j9;obtain⟨M3,M4,M5,M6,M7,M8⟩:=bk3 l9;go_wp2
         go_ret2
         exact⟨eW,pB⟩
       ·rw[if_neg I7] at H;have I8:(a6 != b7)=false:=by simpa using I7
        (try(have I9:decide (a6=b7)=true:=by simpa using I7))
        (try(have J0:(a6 == b7)=true:=by simpa using I7))
        clear I7;obtain⟨⟨M9,N0⟩,N1,H⟩:=bT H;(try dsimp only at H);have N2:=aM H;clear H;have N3:=m5.out;have N4:=m6.out;obtain⟨N5,N6,N7,N8,N9,O0⟩:=bk3 j9;obtain⟨O1,O2,O3,O4,O5,O6⟩:=bk3 l9;obtain⟨O7,O8,rfl⟩:=Kd.R_slice I3.out;obtain⟨O9,P0,rfl⟩:=Kd.R_slice I4.out;go_upto_if 56 with (first|((with_reducible refine gc 73 rfl ?_);refine gC 73 (some 52) Try.func73 #[.slice O7 B5.length O8,.slice O9 C1.length P0] ?_;(with_reducible refine(Ezw.calls I5 _ _ B5 _ _ C1 M9 N0 _ ?_ ?_ ?_ ?_ N1.out).mono ?_);exact cR I3;exact lR I3;exact cR I4;exact lR I4;rintro e w' ⟨rfl,⟨nd,rfl⟩⟩;refine⟨_,rfl,?_⟩))
        have H:=N2.out;clear N2;by_cases P3:a6=true
        ·subst P3;rw[if_pos rfl] at H;obtain⟨rfl,rfl⟩:=q2 H;go_wp2
         go_ret2
         exact⟨eW,pB⟩
        ·obtain rfl:=bN P3;rw[if_neg nF] at H
         obtain⟨rfl,rfl⟩:=q2 H;go_wp2
         go_ret2
         exact⟨eW,pB⟩


mutual
def Azy.j0:Nat→Bool→Int→List (S33)→Option (Int)
 | 0,_,_,_=>none
 | k+1,x17,x909000,x909001=>if x17=true then(some 1) else(if(x909001.length:Int) < 1 then(Azy.j1 k true x909000 x909001) else(Azy.j1 k (decide ((x909001.length:Int) > 8)) x909000 x909001))
def Azy.j1:Nat→Bool→Int→List (S33)→Option (Int)
 | 0,_,_,_=>none
 | k+1,x27,x909000,x909001=>if x27=true then(some 17) else(Azy.l0 k 0 x909000 x909001)
def Azy.l0:Nat→Int→Int→List (S33)→Option (Int)
 | 0,_,_,_=>none
 | k+1,x3,x909000,x909001=>if x3 < (x909001.length:Int) then(if 0≤x3 then((Azq.f k ((rd_T33 x909001 x3).f0) ((rd_T33 x909001 x3).f1) ((rd_T33 x909001 x3).f2)).bind fun t910=>(if t910=true then(if(rd_T33 x909001 x3).f0=true then(some 1) else(Azy.l0 k (wrap64 (x3+1)) x909000 x909001)) else(some 3))) else(none)) else((Azk.f k x909001).bind fun bt912=>(if bt912.2.2.2=0 then((Dzj.f k x909000).bind fun bt921=>((Bzy.f k bt912.1 bt912.2.1 bt912.2.2.1 bt921.1 bt921.2.1 bt921.2.2.1).bind fun bt930=>(if bt930.2=0 then(if bt930.1 > 0 then(some 8) else(some 0)) else(some bt930.2)))) else(some bt912.2.2.2)))
end
def Azy.f (k:Nat) (a0_0:Int) (l0_1:List (S33)):Option (Int):=if a0_0 < 1 then(Azy.j0 k true a0_0 l0_1) else(Azy.j0 k (decide (a0_0 > 1099511627776)) a0_0 l0_1)
theorem Azy.mono_l:∀ k,(∀ a6 a7 a8,LeO (Azy.j0 k a6 a7 a8) (Azy.j0 (k+1) a6 a7 a8))∧(∀ a6 a7 a8,LeO (Azy.j1 k a6 a7 a8) (Azy.j1 (k+1) a6 a7 a8))∧(∀ a6 a7 a8,LeO (Azy.l0 k a6 a7 a8) (Azy.l0 (k+1) a6 a7 a8))
 | 0=>⟨fun _ _ _ r h=>by simp [Azy.j0] at h,fun _ _ _ r h=>by simp [Azy.j1] at h,fun _ _ _ r h=>by simp [Azy.l0] at h⟩
 | k+1=>by
  obtain⟨ih0,ih1,ih2⟩:=Azy.mono_l k;have i0:=@Bzy.mono;have i1:=@Dzj.mono;have i2:=@Azk.mono;have i3:=@Azq.mono;refine⟨?_,?_,?_⟩
  ·intro a6 a7 a8;unfold Azy.j0;exact mM
  ·intro a6 a7 a8;unfold Azy.j1;exact mM
  ·intro a6 a7 a8;unfold Azy.l0;exact mM
theorem Azy.mono:∀ a6 a7 k,LeO (Azy.f k a6 a7) (Azy.f (k+1) a6 a7):=by
 intro a6 a7 k;obtain⟨ih0,ih1,ih2⟩:=Azy.mono_l k;unfold Azy.f;have i0:=@Bzy.mono;have i1:=@Dzj.mono;have i2:=@Azk.mono;have i3:=@Azq.mono;exact mM
theorem Azy.calls (k:Nat) (a6:Int) (a7:Option Addr) (a8:Nat) (a9:List (S33)) (r:Int) (w:World) (b4:Kd.C k33 w a7 a9.length a9) (b5:a9.length≤a8) (h:Azy.f k a6 a9=some r) :
  Calls Try.prog 18 #[.agg #[.int .i64 a6,.slice a7 a9.length a8]] w fun e w'=>e=.returned (.int .i64 r)∧bw w w':=by
 have hu24:=Try.underlying24;have hu33:=Try.underlying33;have b6:=aM b4;have b7:=aM b5;clear b4 b5;have HB:=aM (Below.refl w.heap.size w);have H:(if a6 < 1 then(Azy.j0 k true a6 a9) else(Azy.j0 k (decide (a6 > 1099511627776)) a6 a9))=some r:=h
 clear h;have b8:=aM H;clear H;go_enter Try.func18,Try.ntmps18
 go_upto_region 1 with (first|((with_reducible refine gd 1 rfl ?_);refine bxg #[.int .i64 a6,.slice a7 a9.length a8] 24 ?_;intro b9 hg d6 d7 hb;have d8:=gA w hg;replace HB:=bB hb;clear hb hg))
 (try simp only[Act.put,sA,sZ,sC])
 go_cut [17] (fun e6 wc=>∃ (kq:Nat) (e7:Bool),e6=.bool e7∧Aside0 (Azy.j0 kq e7 a6 a9=some r)∧Aside0 (kq≤k)∧Aside0 (wc.heap[b9]?=some (.cells #[.int .i64 a6,(.slice a7 a9.length a8)] 24 (0,0)))∧Aside0 (bw w wc))
 case first =>
  have H:=b8.out;clear b8;replace H:=iD H;rcases H with⟨e8,H⟩|⟨e8,H⟩
  ·(first|rw[e8]|(simp only[i64_w,i32_w];rw[e8])|skip)
   have H':=aM H;clear H;obtain⟨e9,f3,f4,f5⟩:=bk2 d7;go_wp2
   go_meet
   case rel=>exact⟨_,(true),sD,H',⟨by first|omega|exact Nat.le_refl _⟩,⟨by exact kW d7⟩,⟨pB⟩⟩
  ·(first|rw[e8]|(simp only[i64_w,i32_w];rw[e8])|skip)
   have H':=aM H;clear H;obtain⟨f6,f7,f8,f9⟩:=bk2 d7;go_wp2
   go_meet
   case rel=>exact⟨_,(decide (a6 > 1099511627776)),sD,H',⟨by first|omega|exact Nat.le_refl _⟩,⟨by exact kW d7⟩,⟨pB⟩⟩
 case rest =>
  clear b8;try clear g4
  obtain⟨kq,e7,rfl,HA,g5,d7,HB⟩:=hcut;cases kq with
  | zero=>exact absurd HA.out (by simp [Azy.j0])
  | succ g6 =>
   have H:=HA.out;clear HA;simp only[Azy.j0] at H;by_cases c7:e7=true
   ·subst c7;rw[if_pos rfl] at H;obtain rfl:=Option.some.inj H;go_wp2
    go_ret
    exact⟨eW,pB⟩
   ·obtain rfl:=bN c7;rw[if_neg nF] at H
    have g7:=aM H;clear H;go_upto_region 3 with (fail)
    go_cut [27] (fun g8 wc=>∃ (kq:Nat) (g9:Bool),g8=.bool g9∧Aside0 (Azy.j1 kq g9 a6 a9=some r)∧Aside0 (kq≤g6)∧Aside0 (wc.heap[b9]?=some (.cells #[.int .i64 a6,(.slice a7 a9.length a8)] 24 (0,0)))∧Aside0 (bw w wc))
    case first =>
     have H:=g7.out;clear g7;by_cases c9:(a9.length:Int) < 1
     ·rw[if_pos c9] at H;have j3:=dE c9;have j4:decide (a9.length < 1)=true:=dE (by omega)
      clear c9;(first|rw[j3]|(simp only[i64_w,i32_w];rw[j3])|skip)
      have H':=aM H;clear H;obtain⟨j5,j6,j7,j8⟩:=bk2 d7;go_wp2
      go_meet
      case rel=>exact⟨_,(true),sD,H',⟨by have:=g5.out;first|omega|exact Nat.le_refl _⟩,⟨by exact kW d7⟩,⟨pB⟩⟩
     ·rw[if_neg c9] at H;have j3:decide ((a9.length:Int) < 1)=false:=decide_eq_false c9;have j4:decide (a9.length < 1)=false:=decide_eq_false (by omega)
      clear c9;(first|rw[j3]|(simp only[i64_w,i32_w];rw[j3])|skip)
      have H':=aM H;clear H;obtain⟨j9,l5,l6,l7⟩:=bk2 d7;go_wp2
      go_meet
      case rel=>exact⟨_,(decide ((a9.length:Int) > 8)),sD,H',⟨by have:=g5.out;first|omega|exact Nat.le_refl _⟩,⟨by exact kW d7⟩,⟨pB⟩⟩
    case rest =>
     clear g7;try clear g4
     obtain⟨kq,g9,rfl,HA,l8,d7,HB⟩:=hcut;cases kq with
     | zero=>exact absurd HA.out (by simp [Azy.j1])
     | succ l9 =>
      have H:=HA.out;clear HA;simp only[Azy.j1] at H;by_cases m0:g9=true
      ·subst m0;rw[if_pos rfl] at H;obtain rfl:=Option.some.inj H;go_wp2
       go_ret
       exact⟨eW,pB⟩
      ·obtain rfl:=bN m0;rw[if_neg nF] at H
       have H':=aM H;clear H;go_wp2
       go_loopg [3] l9 (fun kq m4 w'=>∃ (m5:Int),m4=.int .i64 m5∧Aside0 (Azy.l0 kq m5 a6 a9=some r)∧Aside0 (kq≤l9)∧Aside0 (w'.heap[b9]?=some (.cells #[.int .i64 a6,(.slice a7 a9.length a8)] 24 (0,0)))∧Aside0 (bw w w'))
       case atStart=>exact⟨(0),sD,H',⟨Nat.le_refl _⟩,⟨by exact kW d7⟩,⟨pB⟩⟩
       case round =>
        clear H';try clear g4
        obtain⟨m5,rfl,HA,m6,d7,HB⟩:=hrel;cases gk with
        | zero=>exact absurd HA.out (by simp [Azy.l0])
        | succ k3 =>
         have H:=HA.out;clear HA;simp only[Azy.l0] at H;replace H:=iD H;rcases H with⟨m8,H⟩|⟨m8,H⟩
         ·obtain⟨m9,H⟩:=iN H;obtain⟨n0,n7,H⟩:=bT H;(try dsimp only at H);have n8:=aM H;clear H;obtain⟨n9,o0,o8,o9⟩:=bk2 d7;obtain⟨p0,p4,p7,p9,r5,r6,r7,r8,r9,t4,t5,t6,t7⟩:=at_T33 b6.out m5 (oE aS) (oE aS);cases r6
          replace r7:=hB HB r7;replace r8:=hB HB r8;replace r9:=hB HB r9;have t8:=aM t5;have t9:=aM t4;clear t5 t4;have z3:=aM t7;have z4:=aM t6;clear t7 t6;have z5:=eT (m5);have z6:=eU (m5) a9.length;go_upto_if 41 with (first|((with_reducible refine gc 39 rfl ?_);refine gC 39 (some 40) Try.func39 #[.agg #[.bool ((rd_T33 a9 m5).f0),.slice p4 ((rd_T33 a9 m5).f1).length p7,.slice p9 ((rd_T33 a9 m5).f2).length r5]] ?_;(with_reducible refine(Azq.calls k3 ((rd_T33 a9 m5).f0) _ _ ((rd_T33 a9 m5).f1) _ _ ((rd_T33 a9 m5).f2) n0 _ ?_ ?_ ?_ ?_ n7.out).mono ?_);exact cB t8;exact t9.out;exact cB z3;exact z4.out;rintro e z7 ⟨rfl,hb⟩;refine⟨_,rfl,?_⟩;replace d7:=kb d7 hb;replace HB:=bB hb;clear hb))
          have H:=n8.out;clear n8;by_cases z8:n0=true
          ·subst z8;rw[if_pos rfl] at H;obtain⟨bq20,hbq20⟩:∃ b_:Bool,b_=((rd_T33 a9 m5).f0):=⟨_,rfl⟩;replace H:(if bq20=true then(some 1) else(Azy.l0 k3 (wrap64 (m5+1)) a6 a9))=some r:=by rw[← hbq20] at H;exact H
           have Nbq20:=aM hbq20;clear hbq20;(try rw[← Nbq20.out])
           by_cases z9:bq20=true
           ·subst z9;rw[if_pos rfl] at H;obtain rfl:=Option.some.inj H;obtain⟨B0,B5,B9,C0⟩:=bk2 d7;obtain⟨C1,C2,C3,C4,C6,C7,C8,C9,D2,D3,D4,D5,D6⟩:=at_T33 b6.out m5 (oE aS) (oE aS);(try rw[← Nbq20.out] at C8)
            obtain rfl:p0=C1:=(by injection C7)
            replace C8:=hB HB C8;replace C9:=hB HB C9;replace D2:=hB HB D2;have D7:=aM D4;have D8:=aM D3;clear D4 D3;have D9:=aM D6;have E0:=aM D5;clear D6 D5;have E1:=eT (m5);have E2:=eU (m5) a9.length;go_wp2
            go_ret
            exact⟨eW,pB⟩
           ·obtain rfl:=bN z9;rw[if_neg nF] at H
            have H':=aM H;clear H;obtain⟨E3,E4,E5,E6⟩:=bk2 d7;obtain⟨C1,C2,C3,C4,C6,C7,C8,C9,D2,D3,D4,D5,D6⟩:=at_T33 b6.out m5 (oE aS) (oE aS);(try rw[← Nbq20.out] at C8)
            obtain rfl:p0=C1:=(by injection C7)
            replace C8:=hB HB C8;replace C9:=hB HB C9;replace D2:=hB HB D2;have D7:=aM D4;have D8:=aM D3;clear D4 D3;have D9:=aM D6;have E0:=aM D5;clear D6 D5;have E1:=eT (m5);have E2:=eU (m5) a9.length;go_wp2
            go_roundg k3
            case measure=>have:=g5.out;have:=l8.out;have:=m6.out;omega
            case rel=>exact⟨(wrap64 (m5+1)),sD,H',⟨by have:=g5.out;have:=l8.out;have:=m6.out;omega⟩,⟨by exact kW d7⟩,⟨pB⟩⟩
          ·obtain rfl:=bN z8;rw[if_neg nF] at H
           obtain rfl:=Option.some.inj H;go_wp2
           go_ret
           exact⟨eW,pB⟩
         ·obtain⟨⟨E7,E8,E9,F0⟩,F2,H⟩:=bT H;(try dsimp only at H);have F3:=aM H;clear H;obtain⟨F4,F5,F6,F7⟩:=bk2 d7;go_upto_if 55 with (first|((with_reducible refine gc 27 rfl ?_);refine gC 27 (some 51) Try.func27 #[.slice a7 a9.length a8] ?_;(with_reducible refine(Azk.calls k3 _ _ a9 E7 E8 E9 F0 _ ?_ ?_ F2.out).mono ?_);exact cB b6;exact b7.out;rintro e F8 ⟨F9,G5,rfl,G9,H5,hb⟩;refine⟨_,rfl,?_⟩;have H6:=rL G9;have H7:=rL H5;replace d7:=kb d7 hb;replace HB:=bB hb;clear hb G9 H5)|((with_reducible refine gd 4 rfl ?_);refine bzg 33 ?_;intro H8 hg H9 I0 hb;have I3:=gA w hg;have I5:=nl hg d7;have I6:=ng hg d7;replace H6:=rB H6 hb;replace H7:=rB H7 hb;replace d7:=kb d7 hb;replace HB:=bB hb;clear hb hg;have I7:=I6.out;have I8:=I5.out;obtain⟨I9,J0,J1,J2,J3,J4⟩:=bk3 I0;obtain⟨J5,J6,rfl⟩:=Kd.R_slice H6.out;obtain⟨J7,J8,rfl⟩:=Kd.R_slice H7.out))
          have H:=F3.out;clear F3;replace H:=iE H;rcases H with⟨K0,K1,H⟩|⟨J9,K0,K1,H⟩
          ·(first|rw[K0]|(simp only[i64_w,i32_w];rw[K0])|skip)
           obtain⟨⟨K2,K3,K4,K5⟩,K6,H⟩:=bT H;(try dsimp only at H);obtain⟨⟨K7,K8⟩,K9,H⟩:=bT H;(try dsimp only at H);have L0:=aM H;clear H;have L7:=I5.out;have L8:=I6.out;obtain⟨L9,M0,M3,M4⟩:=bk2 d7;go_upto_if 70 with (first|((with_reducible refine gc 40 rfl ?_);refine gC 40 (some 60) Try.func40 #[.int .i64 a6] ?_;(with_reducible refine(Dzj.calls k3 a6 K2 K3 K4 K5 _ K6.out).mono ?_);rintro e M5 ⟨M6,M7,rfl,G9,H5,hb⟩;refine⟨_,rfl,?_⟩;have M8:=rL (Kd.R_new' (Kd.R_new' G9 (Kd.R_lt (rT H6 I0))) (Kd.R_lt (rT H7 I0)));have M9:=rL (Kd.R_new' (Kd.R_new' H5 (Kd.R_lt (rT H6 I0))) (Kd.R_lt (rT H7 I0)));replace H6:=ro (rT H6 I0) hb G9 H5;replace H7:=ro (rT H7 I0) hb G9 H5;replace d7:=kF d7 I5 hb;replace I0:=kP (o':=.cells #[.bool E7,.slice J5 E8.length J6,.slice J7 E9.length J8] 33 (0,0)) I0 hb;replace HB:=bB hb;clear hb G9 H5)|((with_reducible refine gd 6 rfl ?_);refine bzg 33 ?_;intro N0 hg N1 N2 hb;have N3:=gA w hg;have N5:=nl hg d7;have N6:=ng hg d7;have N7:=nl hg I0;have N8:=ng hg I0;replace H6:=rB H6 hb;replace H7:=rB H7 hb;replace M8:=rB M8 hb;replace M9:=rB M9 hb;replace d7:=kb d7 hb;replace I0:=kb I0 hb;replace HB:=bB hb;clear hb hg;have N9:=N6.out;have O0:=N5.out;have O1:=N8.out;have O2:=N7.out;obtain⟨O3,O4,O5,O6,O7,O8⟩:=bk3 N2;obtain⟨O9,P0,rfl⟩:=Kd.R_slice M8.out;obtain⟨P3,P4,rfl⟩:=Kd.R_slice M9.out;obtain⟨P5,P6,P7,P8,P9,Q0⟩:=bk3 I0)|((with_reducible refine gc 41 rfl ?_);refine gC 41 (some 66) Try.func41 #[.agg #[.bool E7,.slice J5 E8.length J6,.slice J7 E9.length J8],.agg #[.bool K2,.slice O9 K3.length P0,.slice P3 K4.length P4]] ?_;(with_reducible refine(Bzy.calls k3 E7 _ _ E8 _ _ E9 K2 _ _ K3 _ _ K4 K7 K8 _ ?_ ?_ ?_ ?_ ?_ ?_ ?_ ?_ K9.out).mono ?_);(focus(refine(Kd.R_reads' (e:=3) (base:=w.heap.size) (ok:=fun k_=>((oN J7 E9.length J8 k_∧oN O9 K3.length P0 k_)∧oN P3 K4.length P4 k_)) (n:=E8.length) (c:=J6) ?_).2.2;exact(rT H6 N2)));exact lR H6;(focus(refine(Kd.R_reads' (e:=3) (base:=w.heap.size) (ok:=fun k_=>((oN J5 E8.length J6 k_∧oN O9 K3.length P0 k_)∧oN P3 K4.length P4 k_)) (n:=E9.length) (c:=J8) ?_).2.2;exact(rT H7 N2)));exact lR H7;(focus(refine(Kd.R_reads' (e:=3) (base:=w.heap.size) (ok:=fun k_=>((oN P3 K4.length P4 k_∧oN J5 E8.length J6 k_)∧oN J7 E9.length J8 k_)) (n:=K3.length) (c:=P0) ?_).2.2;exact(rT M8 N2)));exact lR M8;(focus(refine(Kd.R_reads' (e:=3) (base:=w.heap.size) (ok:=fun k_=>((oN O9 K3.length P0 k_∧oN J5 E8.length J6 k_)∧oN J7 E9.length J8 k_)) (n:=K4.length) (c:=P4) ?_).2.2;exact(rT M9 N2)));exact lR M9;rintro e Q1 ⟨rfl,hb⟩;refine⟨_,rfl,?_⟩;replace H6:=rb (rT H6 N2) hb;replace H7:=rb (rT H7 N2) hb;replace M8:=rb (rT M8 N2) hb;replace M9:=rb (rT M9 N2) hb;replace d7:=kF d7 N5 hb;replace I0:=kF I0 N7 hb;replace N2:=kP (o':=.cells #[.bool K2,.slice O9 K3.length P0,.slice P3 K4.length P4] 33 (0,0)) N2 hb;replace HB:=bB hb;clear hb))
           have H:=L0.out;clear L0;replace H:=iE H;rcases H with⟨Q3,Q4,H⟩|⟨Q2,Q3,Q4,H⟩
           ·(first|rw[Q3]|(simp only[i64_w,i32_w];rw[Q3])|skip)
            by_cases Q5:K7 > 0
            ·rw[if_pos Q5] at H;have Q6:decide (0 < K7)=true:=dE Q5;clear Q5;obtain rfl:=Option.some.inj H;go_wp2
             go_ret
             exact⟨eW,pB⟩
            ·rw[if_neg Q5] at H;have Q6:decide (0 < K7)=false:=decide_eq_false Q5;clear Q5;obtain rfl:=Option.some.inj H;go_wp2
             go_ret
             exact⟨eW,pB⟩
           ·(first|rw[Q3]|(simp only[i64_w,i32_w];rw[Q3])|skip)
            obtain rfl:=Option.some.inj H;go_wp2
            go_ret
            exact⟨eW,pB⟩
          ·(first|rw[K0]|(simp only[i64_w,i32_w];rw[K0])|skip)
           obtain rfl:=Option.some.inj H;go_wp2
           go_ret
           exact⟨eW,pB⟩


def Ezf.f (k:Nat) (a0_0:Int) (l0_1:List (S33)):Option (Bool × List Int × List Int × Int):=(Azy.f k a0_0 l0_1).bind fun t934=>(if t934=0 then((Azk.f k l0_1).bind fun bt935=>(some (bt935.1,bt935.2.1,bt935.2.2.1,bt935.2.2.2))) else(some (false,([]:List Int),([]:List Int),t934)))
theorem Ezf.mono:∀ a6 a7 k,LeO (Ezf.f k a6 a7) (Ezf.f (k+1) a6 a7):=by
 intro a6 a7 k;unfold Ezf.f;have i0:=@Azk.mono;have i1:=@Azy.mono;exact mM
theorem Ezf.calls (k:Nat) (a6:Int) (a7:Option Addr) (a8:Nat) (a9:List (S33)) (b4:Bool) (b5:List Int) (b6:List Int) (b7:Int) (w:World) (b8:Kd.C k33 w a7 a9.length a9) (b9:a9.length≤a8) (h:Ezf.f k a6 a9=some (b4,b5,b6,b7)) :
  Calls Try.prog 15 #[.agg #[.int .i64 a6,.slice a7 a9.length a8]] w fun e w'=>∃ v1_ v2_:Value,e=.returned (.tuple #[.agg #[.bool b4,v1_,v2_],.int .i64 b7])∧rI w' w (oV v2_) v1_ b5∧rI w' w (oV v1_) v2_ b6∧bw w w':=by
 have hu24:=Try.underlying24;have hu33:=Try.underlying33;have d6:=aM b8;have d7:=aM b9;clear b8 b9;have HB:=aM (Below.refl w.heap.size w);have H:((Azy.f k a6 a9).bind fun d8=>(if d8=0 then((Azk.f k a9).bind fun d9=>(some (d9.1,d9.2.1,d9.2.2.1,d9.2.2.2))) else(some (false,([]:List Int),([]:List Int),d8))))=some (b4,b5,b6,b7):=h
 clear h;obtain⟨d8,e6,H⟩:=bT H;(try dsimp only at H);have e7:=aM H;clear H;go_enter Try.func15,Try.ntmps15
 go_upto_if 8 with (first|((with_reducible refine gd 1 rfl ?_);refine bx #[.int .i64 a6,.slice a7 a9.length a8] 24 ?_;intro e8 hg e9 f3 hb;have f4:=gA w hg;replace HB:=bB hb;clear hb hg)|((with_reducible refine gd 2 rfl ?_);refine bz 33 ?_;intro f6 hg f7 f8 hb;have f9:=gA w hg;have g5:=nl hg f3;have g6:=ng hg f3;replace f3:=kb f3 hb;replace HB:=bB hb;clear hb hg;have g7:=g5.out;have g8:=g6.out;obtain⟨g9,j3,j4,j5⟩:=bk2 f3)|((with_reducible refine gc 18 rfl ?_);refine gC 18 (some 6) Try.func18 #[.agg #[.int .i64 a6,.slice a7 a9.length a8]] ?_;(with_reducible refine(Azy.calls k a6 _ _ a9 d8 _ ?_ ?_ e6.out).mono ?_);exact cB d6;exact d7.out;rintro e j6 ⟨rfl,hb⟩;refine⟨_,rfl,?_⟩;replace f3:=kb f3 hb;replace f8:=kb f8 hb;replace HB:=bB hb;clear hb))
 have H:=e7.out;clear e7;replace H:=iE H;rcases H with⟨j7,j8,H⟩|⟨c9,j7,j8,H⟩
 ·(first|rw[j7]|(simp only[i64_w,i32_w];rw[j7])|skip)
  replace H:=bS H;obtain⟨⟨j9,l5,l6,l7⟩,l8,H⟩:=H;replace H:(some (j9,l5,l6,l7))=some (b4,b5,b6,b7):=H;have l9:=aM l8;clear l8;obtain⟨rfl,rfl,rfl,rfl⟩:=q4 H;have m0:=g5.out;have m4:=g6.out;obtain⟨m5,m6,m7,m8⟩:=bk2 f3;go_wp2_with (first|((with_reducible refine gc 27 rfl ?_);refine gC 27 (some 13) Try.func27 #[.slice a7 a9.length a8] ?_;(with_reducible refine(Azk.calls k _ _ a9 j9 l5 l6 l7 _ ?_ ?_ l9.out).mono ?_);exact cB d6;exact d7.out;rintro e m9 ⟨n0,n7,rfl,n8,n9,hb⟩;refine⟨_,rfl,?_⟩;have o0:=rL n8;have o8:=rL n9;replace f3:=kb f3 hb;replace f8:=kb f8 hb;replace HB:=bB hb;clear hb n8 n9;obtain⟨o9,p0,p4,p7,p9,r5⟩:=bk3 f8;obtain⟨r6,r7,rfl⟩:=Kd.R_slice o0.out;obtain⟨r8,r9,rfl⟩:=Kd.R_slice o8.out))
  refine rC f6 33 #[.bool j9,.slice r6 l5.length r7,.slice r8 l6.length r9] (kQ f8) Try.underlying33 ?_
  exact⟨_,_,eW,by exact Kd.R_mono (rT o0 f8) (fun _ hk=>hk),by exact Kd.R_mono (rT o8 f8) (fun _ hk=>hk),pB⟩
 ·(first|rw[j7]|(simp only[i64_w,i32_w];rw[j7])|skip)
  obtain⟨rfl,rfl,rfl,rfl⟩:=q4 H;have t4:=g6.out;have t5:=g5.out;obtain⟨t6,t7,t8,t9,z3,z4⟩:=bk3 f8;go_wp2
  refine rC f6 33 #[.bool false,.slice none 0 0,.slice none 0 0] (kQ f8) Try.underlying33 ?_
  exact⟨_,_,eW,nK,nK,pB⟩

def Czx.j0:Nat→Bool→Bool→List Int→List Int→Bool→List Int→List Int→Option (Bool × List Int × List Int × Int)
 | 0,_,_,_,_,_,_,_=>none
 | k+1,x17,x944000,x944001,x944002,x945000,x945001,x945002=>if x17=true then(some (false,([]:List Int),([]:List Int),3)) else((Azm.f k x944001 x945001).bind fun bt948=>((Azm.f k x944002 x945002).bind fun bt952=>(if bt948.2=0 then(if bt952.2=0 then((Czp.f k (x944000 != x945000) bt948.1 bt952.1).bind fun bt956=>(some (bt956.1,bt956.2.1,bt956.2.2,0))) else(some (false,([]:List Int),([]:List Int),2))) else(some (false,([]:List Int),([]:List Int),2)))))
def Czx.f (k:Nat) (a0_0:Bool) (l0_1:List Int) (l0_2:List Int) (a1_0:Bool) (l1_1:List Int) (l1_2:List Int):Option (Bool × List Int × List Int × Int):=(Azq.f k a0_0 l0_1 l0_2).bind fun t946=>(if t946=true then((Azq.f k a1_0 l1_1 l1_2).bind fun t947=>(Czx.j0 k (!t947) a0_0 l0_1 l0_2 a1_0 l1_1 l1_2)) else(Czx.j0 k true a0_0 l0_1 l0_2 a1_0 l1_1 l1_2))
theorem Czx.mono_l:∀ k,(∀ a6 a7 a8 a9 b4 b5 b6,LeO (Czx.j0 k a6 a7 a8 a9 b4 b5 b6) (Czx.j0 (k+1) a6 a7 a8 a9 b4 b5 b6))
 | 0=>fun _ _ _ _ _ _ _ r h=>by simp [Czx.j0] at h
 | k+1=>by
  have ih0:=Czx.mono_l k
  ·intro a6 a7 a8 a9 b4 b5 b6;unfold Czx.j0;have i0:=@Azm.mono;have i1:=@Czp.mono;have i2:=@Azq.mono;exact mM
theorem Czx.mono:∀ a6 a7 a8 a9 b4 b5 k,LeO (Czx.f k a6 a7 a8 a9 b4 b5) (Czx.f (k+1) a6 a7 a8 a9 b4 b5):=by
 intro a6 a7 a8 a9 b4 b5 k;have ih0:=Czx.mono_l k;unfold Czx.f;have i0:=@Azm.mono;have i1:=@Czp.mono;have i2:=@Azq.mono;exact mM
theorem Czx.calls (k:Nat) (a6:Bool) (a7:Option Addr) (a8:Nat) (a9:List Int) (b4:Option Addr) (b5:Nat) (b6:List Int) (b7:Bool) (b8:Option Addr) (b9:Nat) (d6:List Int) (d7:Option Addr) (d8:Nat) (d9:List Int) (e6:Bool) (e7:List Int) (e8:List Int) (e9:Int) (w:World) (f3:cI w a7 a9) (f4:a9.length≤a8) (f5:cI w b4 b6) (f6:b6.length≤b5) (f7:cI w b8 d6) (f8:d6.length≤b9) (f9:cI w d7 d9) (g4:d9.length≤d8) (h:Czx.f k a6 a9 b6 b7 d6 d9=some (e6,e7,e8,e9)) :
  Calls Try.prog 30 #[.agg #[.bool a6,.slice a7 a9.length a8,.slice b4 b6.length b5],.agg #[.bool b7,.slice b8 d6.length b9,.slice d7 d9.length d8]] w fun e w'=>∃ v1_ v2_:Value,e=.returned (.tuple #[.agg #[.bool e6,v1_,v2_],.int .i64 e9])∧rI w' w (oV v2_) v1_ e7∧rI w' w (oV v1_) v2_ e8∧bw w w':=by
 have hu33:=Try.underlying33;have g5:=aM f3;have g6:=aM f4;clear f3 f4;have g7:=aM f5;have g8:=aM f6;clear f5 f6;have g9:=aM f7;have j3:=aM f8;clear f7 f8;have j4:=aM f9;have j5:=aM g4;clear f9 g4;have HB:=aM (Below.refl w.heap.size w);have H:((Azq.f k a6 a9 b6).bind fun j6=>(if j6=true then((Azq.f k b7 d6 d9).bind fun j7=>(Czx.j0 k (!j7) a6 a9 b6 b7 d6 d9)) else(Czx.j0 k true a6 a9 b6 b7 d6 d9)))=some (e6,e7,e8,e9):=h
 clear h;have j8:=aM H;clear H;go_enter Try.func30,Try.ntmps30
 go_upto_region 1 with (first|((with_reducible refine gd 2 rfl ?_);refine bx #[.bool a6,.slice a7 a9.length a8,.slice b4 b6.length b5] 33 ?_;intro j9 hg l5 l6 hb;have l7:=gA w hg;replace HB:=bB hb;clear hb hg)|((with_reducible refine gd 3 rfl ?_);refine bx #[.bool b7,.slice b8 d6.length b9,.slice d7 d9.length d8] 33 ?_;intro l9 hg m0 m4 hb;have m5:=gA w hg;have m7:=nl hg l6;have m8:=ng hg l6;replace l6:=kb l6 hb;replace HB:=bB hb;clear hb hg)|((with_reducible refine gd 4 rfl ?_);refine bz 33 ?_;intro m9 hg n0 n7 hb;have n8:=gA w hg;have o0:=nl hg l6;have o8:=ng hg l6;have o9:=nl hg m4;have p0:=ng hg m4;replace l6:=kb l6 hb;replace m4:=kb m4 hb;replace HB:=bB hb;clear hb hg))
 (try simp only[Act.put,sA,sZ,sC])
 go_cut [17] (fun p4 wc=>∃ (kq:Nat) (p7:Bool),p4=.bool p7∧Aside0 (Czx.j0 kq p7 a6 a9 b6 b7 d6 d9=some (e6,e7,e8,e9))∧Aside0 (kq≤k)∧Aside0 (wc.heap[j9]?=some (.cells #[.bool a6,(.slice a7 a9.length a8),(.slice b4 b6.length b5)] 33 (0,0)))∧Aside0 (wc.heap[l9]?=some (.cells #[.bool b7,(.slice b8 d6.length b9),(.slice d7 d9.length d8)] 33 (0,0)))∧Aside0 (wc.heap[m9]?=some (.cells #[.bool false,(.slice none 0 0),(.slice none 0 0)] 33 (0,0)))∧Aside0 (bw w wc))
 case first =>
  have H:=j8.out;clear j8;obtain⟨j6,p9,H⟩:=bT H;(try dsimp only at H);by_cases c8:j6=true
  ·subst c8;rw[if_pos rfl] at H;obtain⟨j7,r5,H⟩:=bT H;(try dsimp only at H);have H':=aM H;clear H;have r6:=m7.out;have r7:=m8.out;have r8:=o0.out;have r9:=o8.out;obtain⟨t4,t5,t6,t7,t8,t9⟩:=bk3 l6;go_wp2_with (first|((with_reducible refine gc 39 rfl ?_);refine gC 39 (some 11) Try.func39 #[.agg #[.bool a6,.slice a7 a9.length a8,.slice b4 b6.length b5]] ?_;(with_reducible refine(Azq.calls k a6 _ _ a9 _ _ b6 true _ ?_ ?_ ?_ ?_ p9.out).mono ?_);exact cB g5;exact g6.out;exact cB g7;exact g8.out;rintro e z3 ⟨rfl,hb⟩;refine⟨_,rfl,?_⟩;replace l6:=kb l6 hb;replace m4:=kb m4 hb;replace n7:=kb n7 hb;replace HB:=bB hb;clear hb;have z4:=o9.out;have z5:=p0.out;obtain⟨z6,z7,z8,z9,B0,B5⟩:=bk3 m4)|(go_at_call 39;(with_reducible refine(Azq.calls k b7 _ _ d6 _ _ d9 j7 _ ?_ ?_ ?_ ?_ r5.out).mono ?_);exact cB g9;exact j3.out;exact cB j4;exact j5.out;rintro e B9 ⟨rfl,hb⟩;replace l6:=kb l6 hb;replace m4:=kb m4 hb;replace n7:=kb n7 hb;replace HB:=bB hb;clear hb))
   go_meet
   case rel=>exact⟨_,(!j7),sD,H',⟨by first|omega|exact Nat.le_refl _⟩,⟨by exact kW l6⟩,⟨by exact kW m4⟩,⟨by exact kW n7⟩,⟨pB⟩⟩
  ·obtain rfl:=bN c8;rw[if_neg nF] at H
   have H':=aM H;clear H;have C0:=m7.out;have C1:=m8.out;have C2:=o0.out;have C3:=o8.out;obtain⟨C4,C6,C7,C8,C9,D2⟩:=bk3 l6;go_wp2_with (first|((with_reducible refine gc 39 rfl ?_);refine gC 39 (some 11) Try.func39 #[.agg #[.bool a6,.slice a7 a9.length a8,.slice b4 b6.length b5]] ?_;(with_reducible refine(Azq.calls k a6 _ _ a9 _ _ b6 false _ ?_ ?_ ?_ ?_ p9.out).mono ?_);exact cB g5;exact g6.out;exact cB g7;exact g8.out;rintro e D3 ⟨rfl,hb⟩;refine⟨_,rfl,?_⟩;replace l6:=kb l6 hb;replace m4:=kb m4 hb;replace n7:=kb n7 hb;replace HB:=bB hb;clear hb))
   go_meet
   case rel=>exact⟨_,(true),sD,H',⟨by first|omega|exact Nat.le_refl _⟩,⟨by exact kW l6⟩,⟨by exact kW m4⟩,⟨by exact kW n7⟩,⟨pB⟩⟩
 case rest =>
  clear j8;try clear D4
  obtain⟨kq,p7,rfl,HA,D5,l6,m4,n7,HB⟩:=hcut;cases kq with
  | zero=>exact absurd HA.out (by simp [Czx.j0])
  | succ D6 =>
   have H:=HA.out;clear HA;simp only[Czx.j0] at H;by_cases D7:p7=true
   ·subst D7;rw[if_pos rfl] at H;obtain⟨rfl,rfl,rfl,rfl⟩:=q4 H;have D8:=o8.out;have D9:=o0.out;have E0:=p0.out;have E1:=o9.out;obtain⟨E2,E3,E4,E5,E6,E7⟩:=bk3 n7;go_wp2
    refine rC m9 33 #[.bool false,.slice none 0 0,.slice none 0 0] (kQ n7) Try.underlying33 ?_
    exact⟨_,_,eW,nK,nK,pB⟩
   ·obtain rfl:=bN D7;rw[if_neg nF] at H
    obtain⟨⟨E8,E9⟩,F0,H⟩:=bT H;(try dsimp only at H);obtain⟨⟨F2,F3⟩,F4,H⟩:=bT H;(try dsimp only at H);replace H:=iE H;rcases H with⟨F6,F7,H⟩|⟨F5,F6,F7,H⟩
    ·have F8:=aM H;clear H;have F9:=m7.out;have G5:=m8.out;have G9:=o0.out;have H5:=o8.out;obtain⟨H6,H7,H8,H9,I0,I3⟩:=bk3 l6;have I4:=o9.out;have I5:=p0.out;obtain⟨I6,I7,I8,I9,J0,J1⟩:=bk3 m4;go_upto_if 40 with (first|((with_reducible refine gc 56 rfl ?_);refine gC 56 (some 24) Try.func56 #[.slice a7 a9.length a8,.slice b8 d6.length b9] ?_;(with_reducible refine(Azm.calls D6 _ _ a9 _ _ d6 E8 E9 _ ?_ ?_ ?_ ?_ F0.out).mono ?_);exact cB g5;exact g6.out;exact cB g9;exact j3.out;rintro e J2 ⟨J3,rfl,J4,hb⟩;refine⟨_,rfl,?_⟩;have J5:=rL J4;replace l6:=kb l6 hb;replace m4:=kb m4 hb;replace n7:=kb n7 hb;replace HB:=bB hb;clear hb J4;obtain⟨J6,J7,J8,J9,K0,K1⟩:=bk3 l6;obtain⟨K2,K3,K4,K5,K6,K7⟩:=bk3 m4)|((with_reducible refine gc 56 rfl ?_);refine gC 56 (some 32) Try.func56 #[.slice b4 b6.length b5,.slice d7 d9.length d8] ?_;(with_reducible refine(Azm.calls D6 _ _ b6 _ _ d9 F2 F3 _ ?_ ?_ ?_ ?_ F4.out).mono ?_);exact cB g7;exact g8.out;exact cB j4;exact j5.out;rintro e K8 ⟨K9,rfl,J4,hb⟩;refine⟨_,rfl,?_⟩;have L0:=rL (rn J4 J5);replace J5:=rE J5 J4 hb;replace l6:=kb l6 hb;replace m4:=kb m4 hb;replace n7:=kb n7 hb;replace HB:=bB hb;clear hb J4))
     have H:=F8.out;clear F8;replace H:=iE H;rcases H with⟨L8,L9,H⟩|⟨L7,L8,L9,H⟩
     ·(first|rw[L8]|(simp only[i64_w,i32_w];rw[L8])|skip)
      replace H:=bS H;obtain⟨⟨M0,M3,M4⟩,M5,H⟩:=H;replace H:(some (M0,M3,M4,0))=some (e6,e7,e8,e9):=H;have M6:=aM M5;clear M5;obtain⟨rfl,rfl,rfl,rfl⟩:=q4 H;have M7:=m7.out;have M8:=m8.out;have M9:=o0.out;have N0:=o8.out;obtain⟨N1,N2,N3,N4,N5,N6⟩:=bk3 l6;have N7:=o9.out;have N8:=p0.out;obtain⟨N9,O0,O1,O2,O3,O4⟩:=bk3 m4;obtain⟨O5,O6,rfl⟩:=Kd.R_slice J5.out;obtain⟨O7,O8,rfl⟩:=Kd.R_slice L0.out;go_wp2_with (first|((with_reducible refine gc 58 rfl ?_);refine gC 58 (some 49) Try.func58 #[.bool (a6 != b7),.slice O5 E8.length O6,.slice O7 F2.length O8] ?_;(with_reducible refine(Czp.calls D6 (a6 != b7) _ _ E8 _ _ F2 M0 M3 M4 _ ?_ ?_ ?_ ?_ M6.out).mono ?_);exact cR J5;exact lR J5;exact cR L0;exact lR L0;rintro e O9 ⟨P0,P3,rfl,J4,P4,hb⟩;refine⟨_,rfl,?_⟩;have P5:=rL (rn (rn J4 J5) L0);have P6:=rL (rn (rn P4 J5) L0);replace J5:=rO J5 hb J4 P4;replace L0:=rO L0 hb J4 P4;replace l6:=kb l6 hb;replace m4:=kb m4 hb;replace n7:=kb n7 hb;replace HB:=bB hb;clear hb J4 P4;obtain⟨P7,P8,P9,Q0,Q1,Q2⟩:=bk3 n7;obtain⟨Q3,Q4,rfl⟩:=Kd.R_slice P5.out;obtain⟨Q5,Q6,rfl⟩:=Kd.R_slice P6.out))
      refine rC m9 33 #[.bool M0,.slice Q3 M3.length Q4,.slice Q5 M4.length Q6] (kQ n7) Try.underlying33 ?_
      exact⟨_,_,eW,by exact Kd.R_mono (rT P5 n7) (fun _ hk=>hk.1.1),by exact Kd.R_mono (rT P6 n7) (fun _ hk=>hk.1.1),pB⟩
     ·(first|rw[L8]|(simp only[i64_w,i32_w];rw[L8])|skip)
      obtain⟨rfl,rfl,rfl,rfl⟩:=q4 H;have Q7:=o8.out;have Q8:=o0.out;have Q9:=p0.out;have R0:=o9.out;obtain⟨R1,R2,R3,R4,R5,R6⟩:=bk3 n7;go_wp2
      refine rC m9 33 #[.bool false,.slice none 0 0,.slice none 0 0] (kQ n7) Try.underlying33 ?_
      exact⟨_,_,eW,nK,nK,pB⟩
    ·obtain⟨rfl,rfl,rfl,rfl⟩:=q4 H;have R7:=m7.out;have R8:=m8.out;have R9:=o0.out;have U0:=o8.out;obtain⟨U1,U2,U3,U4,U5,U6⟩:=bk3 l6;have U7:=o9.out;have U8:=p0.out;obtain⟨U9,V0,V1,V2,V3,V4⟩:=bk3 m4;go_wp2_with (first|((with_reducible refine gc 56 rfl ?_);refine gC 56 (some 24) Try.func56 #[.slice a7 a9.length a8,.slice b8 d6.length b9] ?_;(with_reducible refine(Azm.calls D6 _ _ a9 _ _ d6 E8 E9 _ ?_ ?_ ?_ ?_ F0.out).mono ?_);exact cB g5;exact g6.out;exact cB g9;exact j3.out;rintro e V5 ⟨J3,rfl,J4,hb⟩;refine⟨_,rfl,?_⟩;have J5:=rL J4;replace l6:=kb l6 hb;replace m4:=kb m4 hb;replace n7:=kb n7 hb;replace HB:=bB hb;clear hb J4;obtain⟨V6,V7,V8,V9,W3,W4⟩:=bk3 l6;obtain⟨W5,W6,W7,W8,W9,X0⟩:=bk3 m4)|((with_reducible refine gc 56 rfl ?_);refine gC 56 (some 32) Try.func56 #[.slice b4 b6.length b5,.slice d7 d9.length d8] ?_;(with_reducible refine(Azm.calls D6 _ _ b6 _ _ d9 F2 F3 _ ?_ ?_ ?_ ?_ F4.out).mono ?_);exact cB g7;exact g8.out;exact cB j4;exact j5.out;rintro e X3 ⟨K9,rfl,J4,hb⟩;refine⟨_,rfl,?_⟩;have L0:=rL (rn J4 J5);replace J5:=rE J5 J4 hb;replace l6:=kb l6 hb;replace m4:=kb m4 hb;replace n7:=kb n7 hb;replace HB:=bB hb;clear hb J4;obtain⟨X4,X5,X6,X7,X8,X9⟩:=bk3 n7))
     refine rC m9 33 #[.bool false,.slice none 0 0,.slice none 0 0] (kQ n7) Try.underlying33 ?_
     exact⟨_,_,eW,nK,nK,pB⟩


def Czk.j0:Nat→Bool→Bool→List Int→List Int→Bool→List Int→List Int→Option (Bool × List Int × List Int × Int)
 | 0,_,_,_,_,_,_,_=>none
 | k+1,x13,x964000,x964001,x964002,x965000,x965001,x965002=>if x13=true then(some (false,([]:List Int),([]:List Int),3)) else(if(x965001.length:Int)=0 then(some (false,([]:List Int),([]:List Int),16)) else((Czx.f k x964000 x964001 x964002 x965000 x965002 x965001).bind fun bt968=>(some (bt968.1,bt968.2.1,bt968.2.2.1,bt968.2.2.2))))
def Czk.f (k:Nat) (a0_0:Bool) (l0_1:List Int) (l0_2:List Int) (a1_0:Bool) (l1_1:List Int) (l1_2:List Int):Option (Bool × List Int × List Int × Int):=(Azq.f k a0_0 l0_1 l0_2).bind fun t966=>(if t966=true then((Azq.f k a1_0 l1_1 l1_2).bind fun t967=>(Czk.j0 k (!t967) a0_0 l0_1 l0_2 a1_0 l1_1 l1_2)) else(Czk.j0 k true a0_0 l0_1 l0_2 a1_0 l1_1 l1_2))
theorem Czk.mono_l:∀ k,(∀ a6 a7 a8 a9 b4 b5 b6,LeO (Czk.j0 k a6 a7 a8 a9 b4 b5 b6) (Czk.j0 (k+1) a6 a7 a8 a9 b4 b5 b6))
 | 0=>fun _ _ _ _ _ _ _ r h=>by simp [Czk.j0] at h
 | k+1=>by
  have ih0:=Czk.mono_l k
  ·intro a6 a7 a8 a9 b4 b5 b6;unfold Czk.j0;have i0:=@Czx.mono;have i1:=@Azq.mono;exact mM
theorem Czk.mono:∀ a6 a7 a8 a9 b4 b5 k,LeO (Czk.f k a6 a7 a8 a9 b4 b5) (Czk.f (k+1) a6 a7 a8 a9 b4 b5):=by
 intro a6 a7 a8 a9 b4 b5 k;have ih0:=Czk.mono_l k;unfold Czk.f;have i0:=@Czx.mono;have i1:=@Azq.mono;exact mM
theorem Czk.calls (k:Nat) (a6:Bool) (a7:Option Addr) (a8:Nat) (a9:List Int) (b4:Option Addr) (b5:Nat) (b6:List Int) (b7:Bool) (b8:Option Addr) (b9:Nat) (d6:List Int) (d7:Option Addr) (d8:Nat) (d9:List Int) (e6:Bool) (e7:List Int) (e8:List Int) (e9:Int) (w:World) (f3:cI w a7 a9) (f4:a9.length≤a8) (f5:cI w b4 b6) (f6:b6.length≤b5) (f7:cI w b8 d6) (f8:d6.length≤b9) (f9:cI w d7 d9) (g4:d9.length≤d8) (h:Czk.f k a6 a9 b6 b7 d6 d9=some (e6,e7,e8,e9)) :
  Calls Try.prog 55 #[.agg #[.bool a6,.slice a7 a9.length a8,.slice b4 b6.length b5],.agg #[.bool b7,.slice b8 d6.length b9,.slice d7 d9.length d8]] w fun e w'=>∃ v1_ v2_:Value,e=.returned (.tuple #[.agg #[.bool e6,v1_,v2_],.int .i64 e9])∧rI w' w (oV v2_) v1_ e7∧rI w' w (oV v1_) v2_ e8∧bw w w':=by
 have hu33:=Try.underlying33;have g5:=aM f3;have g6:=aM f4;clear f3 f4;have g7:=aM f5;have g8:=aM f6;clear f5 f6;have g9:=aM f7;have j3:=aM f8;clear f7 f8;have j4:=aM f9;have j5:=aM g4;clear f9 g4;have HB:=aM (Below.refl w.heap.size w);have H:((Azq.f k a6 a9 b6).bind fun j6=>(if j6=true then((Azq.f k b7 d6 d9).bind fun j7=>(Czk.j0 k (!j7) a6 a9 b6 b7 d6 d9)) else(Czk.j0 k true a6 a9 b6 b7 d6 d9)))=some (e6,e7,e8,e9):=h
 clear h;have j8:=aM H;clear H;go_enter Try.func55,Try.ntmps55
 go_upto_region 1 with (first|((with_reducible refine gd 2 rfl ?_);refine bx #[.bool a6,.slice a7 a9.length a8,.slice b4 b6.length b5] 33 ?_;intro j9 hg l5 l6 hb;have l7:=gA w hg;replace HB:=bB hb;clear hb hg)|((with_reducible refine gd 3 rfl ?_);refine bx #[.bool b7,.slice b8 d6.length b9,.slice d7 d9.length d8] 33 ?_;intro l9 hg m0 m4 hb;have m5:=gA w hg;have m7:=nl hg l6;have m8:=ng hg l6;replace l6:=kb l6 hb;replace HB:=bB hb;clear hb hg)|((with_reducible refine gd 4 rfl ?_);refine bz 33 ?_;intro m9 hg n0 n7 hb;have n8:=gA w hg;have o0:=nl hg l6;have o8:=ng hg l6;have o9:=nl hg m4;have p0:=ng hg m4;replace l6:=kb l6 hb;replace m4:=kb m4 hb;replace HB:=bB hb;clear hb hg))
 (try simp only[Act.put,sA,sZ,sC])
 go_cut [13] (fun p4 wc=>∃ (kq:Nat) (p7:Bool),p4=.bool p7∧Aside0 (Czk.j0 kq p7 a6 a9 b6 b7 d6 d9=some (e6,e7,e8,e9))∧Aside0 (kq≤k)∧Aside0 (wc.heap[j9]?=some (.cells #[.bool a6,(.slice a7 a9.length a8),(.slice b4 b6.length b5)] 33 (0,0)))∧Aside0 (wc.heap[l9]?=some (.cells #[.bool b7,(.slice b8 d6.length b9),(.slice d7 d9.length d8)] 33 (0,0)))∧Aside0 (wc.heap[m9]?=some (.cells #[.bool false,(.slice none 0 0),(.slice none 0 0)] 33 (0,0)))∧Aside0 (bw w wc))
 case first =>
  have H:=j8.out;clear j8;obtain⟨j6,p9,H⟩:=bT H;(try dsimp only at H);by_cases c8:j6=true
  ·subst c8;rw[if_pos rfl] at H;obtain⟨j7,r5,H⟩:=bT H;(try dsimp only at H);have H':=aM H;clear H;have r6:=m7.out;have r7:=m8.out;have r8:=o0.out;have r9:=o8.out;obtain⟨t4,t5,t6,t7,t8,t9⟩:=bk3 l6;go_wp2_with (first|((with_reducible refine gc 39 rfl ?_);refine gC 39 (some 7) Try.func39 #[.agg #[.bool a6,.slice a7 a9.length a8,.slice b4 b6.length b5]] ?_;(with_reducible refine(Azq.calls k a6 _ _ a9 _ _ b6 true _ ?_ ?_ ?_ ?_ p9.out).mono ?_);exact cB g5;exact g6.out;exact cB g7;exact g8.out;rintro e z3 ⟨rfl,hb⟩;refine⟨_,rfl,?_⟩;replace l6:=kb l6 hb;replace m4:=kb m4 hb;replace n7:=kb n7 hb;replace HB:=bB hb;clear hb;have z4:=o9.out;have z5:=p0.out;obtain⟨z6,z7,z8,z9,B0,B5⟩:=bk3 m4)|(go_at_call 39;(with_reducible refine(Azq.calls k b7 _ _ d6 _ _ d9 j7 _ ?_ ?_ ?_ ?_ r5.out).mono ?_);exact cB g9;exact j3.out;exact cB j4;exact j5.out;rintro e B9 ⟨rfl,hb⟩;replace l6:=kb l6 hb;replace m4:=kb m4 hb;replace n7:=kb n7 hb;replace HB:=bB hb;clear hb))
   go_meet
   case rel=>exact⟨_,(!j7),sD,H',⟨by first|omega|exact Nat.le_refl _⟩,⟨by exact kW l6⟩,⟨by exact kW m4⟩,⟨by exact kW n7⟩,⟨pB⟩⟩
  ·obtain rfl:=bN c8;rw[if_neg nF] at H
   have H':=aM H;clear H;have C0:=m7.out;have C1:=m8.out;have C2:=o0.out;have C3:=o8.out;obtain⟨C4,C6,C7,C8,C9,D2⟩:=bk3 l6;go_wp2_with (first|((with_reducible refine gc 39 rfl ?_);refine gC 39 (some 7) Try.func39 #[.agg #[.bool a6,.slice a7 a9.length a8,.slice b4 b6.length b5]] ?_;(with_reducible refine(Azq.calls k a6 _ _ a9 _ _ b6 false _ ?_ ?_ ?_ ?_ p9.out).mono ?_);exact cB g5;exact g6.out;exact cB g7;exact g8.out;rintro e D3 ⟨rfl,hb⟩;refine⟨_,rfl,?_⟩;replace l6:=kb l6 hb;replace m4:=kb m4 hb;replace n7:=kb n7 hb;replace HB:=bB hb;clear hb))
   go_meet
   case rel=>exact⟨_,(true),sD,H',⟨by first|omega|exact Nat.le_refl _⟩,⟨by exact kW l6⟩,⟨by exact kW m4⟩,⟨by exact kW n7⟩,⟨pB⟩⟩
 case rest =>
  clear j8;try clear D4
  obtain⟨kq,p7,rfl,HA,D5,l6,m4,n7,HB⟩:=hcut;cases kq with
  | zero=>exact absurd HA.out (by simp [Czk.j0])
  | succ D6 =>
   have H:=HA.out;clear HA;simp only[Czk.j0] at H;by_cases D7:p7=true
   ·subst D7;rw[if_pos rfl] at H;obtain⟨rfl,rfl,rfl,rfl⟩:=q4 H;have D8:=o8.out;have D9:=o0.out;have E0:=p0.out;have E1:=o9.out;obtain⟨E2,E3,E4,E5,E6,E7⟩:=bk3 n7;go_wp2
    refine rC m9 33 #[.bool false,.slice none 0 0,.slice none 0 0] (kQ n7) Try.underlying33 ?_
    exact⟨_,_,eW,nK,nK,pB⟩
   ·obtain rfl:=bN D7;rw[if_neg nF] at H
    replace H:=iE H;rcases H with⟨E9,F0,H⟩|⟨E8,E9,F0,H⟩
    ·obtain⟨rfl,rfl,rfl,rfl⟩:=q4 H;have F2:=m8.out;have F3:=m7.out;have F4:=o9.out;have F5:=p0.out;obtain⟨F6,F7,F8,F9,G5,G9⟩:=bk3 m4;have H5:=o8.out;have H6:=o0.out;obtain⟨H7,H8,H9,I0,I3,I4⟩:=bk3 n7;go_wp2
     refine rC m9 33 #[.bool false,.slice none 0 0,.slice none 0 0] (kQ n7) Try.underlying33 ?_
     exact⟨_,_,eW,nK,nK,pB⟩
    ·have I5:¬ (d6=[]):=fun h_=>E8 (by rw[h_];rfl)
     replace H:=bS H;obtain⟨⟨I6,I7,I8,I9⟩,J0,H⟩:=H;replace H:(some (I6,I7,I8,I9))=some (e6,e7,e8,e9):=H;have J1:=aM J0;clear J0;obtain⟨rfl,rfl,rfl,rfl⟩:=q4 H;have J2:=m8.out;have J3:=m7.out;have J4:=o9.out;have J5:=p0.out;obtain⟨J6,J7,J8,J9,K0,K1⟩:=bk3 m4;have K2:=o0.out;have K3:=o8.out;obtain⟨K4,K5,K6,K7,K8,K9⟩:=bk3 l6;go_wp2_with (first|((with_reducible refine gc 30 rfl ?_);refine gC 30 (some 28) Try.func30 #[.agg #[.bool a6,.slice a7 a9.length a8,.slice b4 b6.length b5],.agg #[.bool b7,.slice d7 d9.length d8,.slice b8 d6.length b9]] ?_;(with_reducible refine(Czx.calls D6 a6 _ _ a9 _ _ b6 b7 _ _ d9 _ _ d6 I6 I7 I8 I9 _ ?_ ?_ ?_ ?_ ?_ ?_ ?_ ?_ J1.out).mono ?_);exact cB g5;exact g6.out;exact cB g7;exact g8.out;exact cB j4;exact j5.out;exact cB g9;exact j3.out;rintro e L0 ⟨L7,L8,rfl,L9,M0,hb⟩;refine⟨_,rfl,?_⟩;have M3:=rL L9;have M4:=rL M0;replace l6:=kb l6 hb;replace m4:=kb m4 hb;replace n7:=kb n7 hb;replace HB:=bB hb;clear hb L9 M0;obtain⟨M5,M6,M7,M8,M9,N0⟩:=bk3 n7;obtain⟨N1,N2,rfl⟩:=Kd.R_slice M3.out;obtain⟨N3,N4,rfl⟩:=Kd.R_slice M4.out))
     refine rC m9 33 #[.bool I6,.slice N1 I7.length N2,.slice N3 I8.length N4] (kQ n7) Try.underlying33 ?_
     exact⟨_,_,eW,by exact Kd.R_mono (rT M3 n7) (fun _ hk=>hk),by exact Kd.R_mono (rT M4 n7) (fun _ hk=>hk),pB⟩

end Go.Proofs.Ytbnpcplckcipfaa.Print
