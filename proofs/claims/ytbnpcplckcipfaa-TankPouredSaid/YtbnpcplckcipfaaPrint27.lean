import Derived.Test.YtbnpcplckcipfaaPrint0
import Derived.Test.YtbnpcplckcipfaaPrint12
import Derived.Test.YtbnpcplckcipfaaPrint17
import Derived.Test.YtbnpcplckcipfaaPrint25
import Derived.Test.YtbnpcplckcipfaaPrint26
namespace Go.Proofs.Ytbnpcplckcipfaa.Print
open Go.RowKit Go.Proofs.YtbnpcplckcipfaaW.PrintWords Go.Proofs.YtbnpcplckcipfaaW.PrintLast Go.Proofs.YtbnpcplckcipfaaW.PrintMore
attribute [local go_sem] dF dG eB eD dm dn dH dI
set_option linter.unusedVariables false
set_option maxRecDepth 100000
set_option maxHeartbeats 8000000
set_option linter.unusedSimpArgs false

mutual
def Azb.j0:Nat→Bool→Int→List (S33)→Option (Int)
 | 0,_,_,_=>none
 | k+1,x15,x391000,x391001=>if x15=true then(some 1) else(if(x391001.length:Int) < 1 then(Azb.j1 k true x391000 x391001) else(Azb.j1 k (decide ((x391001.length:Int) > 8)) x391000 x391001))
def Azb.j1:Nat→Bool→Int→List (S33)→Option (Int)
 | 0,_,_,_=>none
 | k+1,x25,x391000,x391001=>if x25=true then(some 17) else(Azb.l0 k x391001 (x391001.length:Int) 0 x391000 x391001)
def Azb.l0:Nat→List (S33)→Int→Int→Int→List (S33)→Option (Int)
 | 0,_,_,_,_,_=>none
 | k+1,x27,x28,x29,x391000,x391001=>if x29 < x28 then(if 0≤x29 then(if x29 < (x27.length:Int) then((Ezm.f k ((ag x27 x29).f0) ((ag x27 x29).f1) ((ag x27 x29).f2)).bind fun t393=>(if t393=true then(if(ag x27 x29).f0=true then(some 1) else(Azb.l0 k x27 x28 (wrap64 (x29+1)) x391000 x391001)) else(some 3))) else(none)) else(none)) else((Ezx.f k x391001).bind fun bt394=>(if bt394.2.2.2=0 then((Dzk.f k x391000).bind fun bt403=>((Fzq.f k bt394.1 bt394.2.1 bt394.2.2.1 bt403.1 bt403.2.1 bt403.2.2).bind fun bt410=>(if bt410.2=0 then(if bt410.1 > 0 then(some 8) else(some 0)) else(some bt410.2)))) else(some bt394.2.2.2)))
end
def Azb.f (k:Nat) (a0_0:Int) (l0_1:List (S33)):Option (Int):=if a0_0 < 1 then(Azb.j0 k true a0_0 l0_1) else(Azb.j0 k (decide (a0_0 > 1099511627776)) a0_0 l0_1)
theorem Azb.mono_l:∀ k,(∀ a6 a7 a8,LeO (Azb.j0 k a6 a7 a8) (Azb.j0 (k+1) a6 a7 a8))∧(∀ a6 a7 a8,LeO (Azb.j1 k a6 a7 a8) (Azb.j1 (k+1) a6 a7 a8))∧(∀ a6 a7 a8 a9 b4,LeO (Azb.l0 k a6 a7 a8 a9 b4) (Azb.l0 (k+1) a6 a7 a8 a9 b4))
 | 0=>⟨fun _ _ _ r h=>by simp [Azb.j0] at h,fun _ _ _ r h=>by simp [Azb.j1] at h,fun _ _ _ _ _ r h=>by simp [Azb.l0] at h⟩
 | k+1=>by
  obtain⟨ih0,ih1,ih2⟩:=Azb.mono_l k;have i0:=@Fzq.mono;have i1:=@Ezx.mono;have i2:=@Ezm.mono;have i3:=@Dzk.mono;refine⟨?_,?_,?_⟩
  ·intro a6 a7 a8;unfold Azb.j0;exact mM
  ·intro a6 a7 a8;unfold Azb.j1;exact mM
  ·intro a6 a7 a8 a9 b4;unfold Azb.l0;exact mM
theorem Azb.mono:∀ a6 a7 k,LeO (Azb.f k a6 a7) (Azb.f (k+1) a6 a7):=by
 intro a6 a7 k;obtain⟨ih0,ih1,ih2⟩:=Azb.mono_l k;unfold Azb.f;have i0:=@Fzq.mono;have i1:=@Ezx.mono;have i2:=@Ezm.mono;have i3:=@Dzk.mono;exact mM
def Azb.T16:Bool × List (List Nat × List Nat):=(true,[([],[]),([],[]),([1],[1]),([2],[2]),([0,3,3],[0,3]),([4],[4]),([5],[5]),([5],[5]),([6,4,0,1,2,3,4,5,6],[6]),([7,8,0,1,2,3,4,5,6,7,8],[7])])
def Azb.B16:List Nat:=[0,0,2,6,15,31,63,63,127,511]
theorem Azb.EG:ik .any (opsOf Try.f17 16)=Azb.T16:=by kernel_rfl
theorem Azb.CR:gM Azb.T16.2 Azb.B16=true:=by kernel_rfl
theorem Azb.calls (k:Nat) (a6:Int) (a7:Option Addr) (a8:Nat) (a9:List (S33)) (r:Int) (w:World) (b4:Kd.C k33 w a7 a9.length a9) (b5:a9.length≤a8) (h:Azb.f k a6 a9=some r) :
  Calls Try.prog 17 #[.agg #[.int .i64 a6,.slice a7 a9.length a8]] w fun e w'=>e=.returned (.int .i64 r)∧bw w w':=by
 have hu24:=Try.underlying24;have hu33:=Try.underlying33;have b6:=aM b4;have b7:=aM b5;clear b4 b5;have HB:=aM (Below.refl w.heap.size w);have H:(if a6 < 1 then(Azb.j0 k true a6 a9) else(Azb.j0 k (decide (a6 > 1099511627776)) a6 a9))=some r:=h
 clear h;have b8:=aM H;clear H;go_enter Try.func17,Try.ntmps17
 go_upto_region 1 with (first|((with_reducible refine gd 1 rfl ?_);refine bxg #[.int .i64 a6,.slice a7 a9.length a8] 24 ?_;intro b9 hg d6 d7 hb;have d8:=gA w hg;replace HB:=bB hb;clear hb hg))
 (try simp only[Act.put,sA,sZ,sC])
 go_cut [15] (fun e6 wc=>∃ (kq:Nat) (e7:Bool),e6=.bool e7∧ae (Azb.j0 kq e7 a6 a9=some r)∧ae (kq≤k)∧ae (wc.heap[b9]?=some (.cells #[.int .i64 a6,(.slice a7 a9.length a8)] 24 (0,0)))∧ae (bw w wc))
 case first =>
  have H:=b8.out;clear b8;replace H:=iD H;rcases H with⟨f6,H⟩|⟨f6,H⟩
  ·(first|rw[f6]|(simp only[aH,bg];rw[f6])|skip)
   have H':=aM H;clear H;obtain⟨f7,f8,g5,g8⟩:=bk2 d7;go_wp2
   go_meet
   case rel=>exact⟨_,(true),sD,H',⟨by first|omega|exact Nat.le_refl _⟩,⟨by exact kW d7⟩,⟨pB⟩⟩
  ·(first|rw[f6]|(simp only[aH,bg];rw[f6])|skip)
   have H':=aM H;clear H;obtain⟨g9,j3,j4,j5⟩:=bk2 d7;go_wp2
   go_meet
   case rel=>exact⟨_,(decide (a6 > 1099511627776)),sD,H',⟨by first|omega|exact Nat.le_refl _⟩,⟨by exact kW d7⟩,⟨pB⟩⟩
 case rest =>
  clear b8;try clear j6
  obtain⟨kq,e7,rfl,HA,j7,d7,HB⟩:=hcut;cases kq with
  | zero=>exact absurd HA.out (by simp [Azb.j0])
  | succ j8 =>
   have H:=HA.out;clear HA;simp only[Azb.j0] at H;by_cases c7:e7=true
   ·subst c7;rw[if_pos rfl] at H;obtain rfl:=Option.some.inj H;go_wp2
    go_ret
    exact⟨eW,pB⟩
   ·obtain rfl:=bN c7;rw[if_neg nF] at H
    have j9:=aM H;clear H;go_upto_region 3 with (fail)
    go_cut [25] (fun l5 wc=>∃ (kq:Nat) (l6:Bool),l5=.bool l6∧ae (Azb.j1 kq l6 a6 a9=some r)∧ae (kq≤j8)∧ae (wc.heap[b9]?=some (.cells #[.int .i64 a6,(.slice a7 a9.length a8)] 24 (0,0)))∧ae (bw w wc))
    case first =>
     have H:=j9.out;clear j9;by_cases c9:(a9.length:Int) < 1
     ·rw[if_pos c9] at H;have l7:=dE c9;have l8:decide (a9.length < 1)=true:=dE (by omega)
      clear c9;(first|rw[l7]|(simp only[aH,bg];rw[l7])|skip)
      have H':=aM H;clear H;obtain⟨l9,m0,m4,m5⟩:=bk2 d7;go_wp2
      go_meet
      case rel=>exact⟨_,(true),sD,H',⟨by have:=j7.out;first|omega|exact Nat.le_refl _⟩,⟨by exact kW d7⟩,⟨pB⟩⟩
     ·rw[if_neg c9] at H;have l7:decide ((a9.length:Int) < 1)=false:=decide_eq_false c9;have l8:decide (a9.length < 1)=false:=decide_eq_false (by omega)
      clear c9;(first|rw[l7]|(simp only[aH,bg];rw[l7])|skip)
      have H':=aM H;clear H;obtain⟨m6,m7,m8,m9⟩:=bk2 d7;go_wp2
      go_meet
      case rel=>exact⟨_,(decide ((a9.length:Int) > 8)),sD,H',⟨by have:=j7.out;first|omega|exact Nat.le_refl _⟩,⟨by exact kW d7⟩,⟨pB⟩⟩
    case rest =>
     clear j9;try clear j6
     obtain⟨kq,l6,rfl,HA,n0,d7,HB⟩:=hcut;cases kq with
     | zero=>exact absurd HA.out (by simp [Azb.j1])
     | succ n7 =>
      have H:=HA.out;clear HA;simp only[Azb.j1] at H;by_cases n8:l6=true
      ·subst n8;rw[if_pos rfl] at H;obtain rfl:=Option.some.inj H;go_wp2
       go_ret
       exact⟨eW,pB⟩
      ·obtain rfl:=bN n8;rw[if_neg nF] at H
       have H':=aM H;clear H;obtain⟨n9,o0,o8,o9⟩:=bk2 d7;go_wp2
       go_loopg [29] n7 (fun kq p9 w'=>∃ (r6:Int),p9=.int .i64 r6∧ae (Azb.l0 kq a9 (a9.length:Int) r6 a6 a9=some r)∧ae (kq≤n7)∧ae (w'.heap[b9]?=some (.cells #[.int .i64 a6,(.slice a7 a9.length a8)] 24 (0,0)))∧ae (bw w w'))
       case atStart=>exact⟨(0),sD,H',⟨Nat.le_refl _⟩,⟨by exact kW d7⟩,⟨pB⟩⟩
       case round =>
        clear H';try clear j6
        obtain⟨r6,rfl,HA,r7,d7,HB⟩:=hrel;cases gk with
        | zero=>exact absurd HA.out (by simp [Azb.l0])
        | succ k3 =>
         have H:=HA.out;clear HA;simp only[Azb.l0] at H;replace H:=iD H;rcases H with⟨r9,H⟩|⟨r9,H⟩
         ·obtain⟨t4,H⟩:=iN H;obtain⟨t5,H⟩:=iN H;obtain⟨t6,t7,H⟩:=bT H;(try dsimp only at H);have t8:=aM H;clear H;obtain⟨t9,z3,z4,z5,z6,z7,z8,z9,B0,B5,B9,C0,C1⟩:=gT b6.out r6 (oE aS) (oE aS);cases z7
          replace z8:=hB HB z8;replace z9:=hB HB z9;replace B0:=hB HB B0;have C2:=aM B9;have C3:=aM B5;clear B9 B5;have C4:=aM C1;have C6:=aM C0;clear C1 C0;have C7:=eT (r6);have C8:=eU (r6) a9.length;go_upto_if 35 with (first|((with_reducible refine gd 4 rfl ?_);refine bzg 33 ?_;intro C9 hg D4 D5 hb;have D6:=gA w hg;have D8:=nl hg d7;have D9:=ng hg d7;replace d7:=kb d7 hb;replace HB:=bB hb;clear hb hg;have E0:=D9.out;have E1:=D8.out;obtain⟨E2,E3,E4,E5,E6,E7⟩:=bk3 D5)|((with_reducible refine gc 37 rfl ?_);refine gC 37 (some 34) Try.func37 #[.agg #[.bool ((ag a9 r6).f0),.slice z3 ((ag a9 r6).f1).length z4,.slice z5 ((ag a9 r6).f2).length z6]] ?_;(with_reducible refine(Ezm.calls k3 ((ag a9 r6).f0) _ _ ((ag a9 r6).f1) _ _ ((ag a9 r6).f2) t6 _ ?_ ?_ ?_ ?_ t7.out).mono ?_);exact Kd.aT C2.out pB;exact C3.out;exact Kd.aT C4.out pB;exact C6.out;rintro e E8 ⟨rfl,hb⟩;refine⟨_,rfl,?_⟩;replace d7:=kF d7 D8 hb;replace D5:=kP (o':=.cells #[.bool ((ag a9 r6).f0),.slice z3 ((ag a9 r6).f1).length z4,.slice z5 ((ag a9 r6).f2).length z6] 33 (0,0)) D5 hb;replace HB:=bB hb;clear hb))
          have H:=t8.out;clear t8;by_cases E9:t6=true
          ·subst E9;rw[if_pos rfl] at H;obtain⟨bq24,hbq24⟩:∃ b_:Bool,b_=((ag a9 r6).f0):=⟨_,rfl⟩;replace H:(if bq24=true then(some 1) else(Azb.l0 k3 a9 (a9.length:Int) (wrap64 (r6+1)) a6 a9))=some r:=by rw[← hbq24] at H;exact H
           have Nbq24:=aM hbq24;clear hbq24;(try rw[← Nbq24.out])
           (try rw[← Nbq24.out] at D5)
           by_cases F0:bq24=true
           ·subst F0;rw[if_pos rfl] at H;obtain rfl:=Option.some.inj H;have F2:=D9.out;have F3:=D8.out;obtain⟨F4,F5,F6,F7,F8,F9⟩:=bk3 D5;go_wp2
            go_ret
            exact⟨eW,pB⟩
           ·obtain rfl:=bN F0;rw[if_neg nF] at H
            have H':=aM H;clear H;have G5:=D9.out;have G9:=D8.out;obtain⟨H5,H6,H7,H8,H9,I0⟩:=bk3 D5;go_wp2
            go_roundg k3
            case measure=>have:=j7.out;have:=n0.out;have:=r7.out;omega
            case rel=>exact⟨(wrap64 (r6+1)),sD,H',⟨by have:=j7.out;have:=n0.out;have:=r7.out;omega⟩,⟨by exact kW d7⟩,⟨pB⟩⟩
          ·obtain rfl:=bN E9;rw[if_neg nF] at H
           obtain rfl:=Option.some.inj H;go_wp2
           go_ret
           exact⟨eW,pB⟩
         ·obtain⟨⟨I3,I4,I5,I6⟩,I7,H⟩:=bT H;(try dsimp only at H);have I8:=aM H;clear H;obtain⟨I9,J0,J1,J2⟩:=bk2 d7;go_upto_if 46 with (first|((with_reducible refine gc 36 rfl ?_);refine gC 36 (some 42) Try.func36 #[.slice a7 a9.length a8] ?_;(with_reducible refine(Ezx.calls k3 _ _ a9 I3 I4 I5 I6 _ ?_ ?_ I7.out).mono ?_);exact cB b6;exact b7.out;rintro e J3 ⟨J4,J5,rfl,J6,J7,hb⟩;refine⟨_,rfl,?_⟩;have J8:=rL J6;have J9:=rL J7;replace d7:=kb d7 hb;replace HB:=bB hb;clear hb J6 J7)|((with_reducible refine gd 5 rfl ?_);refine bzg 33 ?_;intro K0 hg K1 K2 hb;have K3:=gA w hg;have K5:=nl hg d7;have K6:=ng hg d7;replace J8:=rB J8 hb;replace J9:=rB J9 hb;replace d7:=kb d7 hb;replace HB:=bB hb;clear hb hg;have K7:=K6.out;have K8:=K5.out;obtain⟨K9,L0,L8,L9,M0,M3⟩:=bk3 K2;obtain⟨M4,M5,rfl⟩:=Kd.aj J8.out;obtain⟨M6,M7,rfl⟩:=Kd.aj J9.out))
          have H:=I8.out;clear I8;replace H:=iE H;rcases H with⟨M9,N0,H⟩|⟨M8,M9,N0,H⟩
          ·(first|rw[M9]|(simp only[aH,bg];rw[M9])|skip)
           obtain⟨⟨N1,N2,N3⟩,N4,H⟩:=bT H;(try dsimp only at H);obtain⟨⟨N5,N6⟩,N7,H⟩:=bT H;(try dsimp only at H);have N8:=aM H;clear H;try go_wp2
           have n0_:ae (Kd.R (Kd.int .i64) 3 (((K1.setCell ⟨K0,0,none⟩ (.bool I3)).setCell ⟨K0,1,none⟩ (.slice M4 I4.length M5)).setCell ⟨K0,2,none⟩ (.slice M6 I5.length M7)) w.heap.size (fun k_=>oN M6 I5.length M7 k_) (.slice M4 I4.length M5) I4):=⟨by exact Kd.ah (rT J8 K2) (fun _ hk=>hk)⟩
           have n1_:ae (Kd.R (Kd.int .i64) 3 (((K1.setCell ⟨K0,0,none⟩ (.bool I3)).setCell ⟨K0,1,none⟩ (.slice M4 I4.length M5)).setCell ⟨K0,2,none⟩ (.slice M6 I5.length M7)) w.heap.size (fun k_=>oN M4 I4.length M5 k_) (.slice M6 I5.length M7) I5):=⟨by exact Kd.ah (rT J9 K2) (fun _ hk=>hk)⟩
           have n2_:ae ((((K1.setCell ⟨K0,0,none⟩ (.bool I3)).setCell ⟨K0,1,none⟩ (.slice M4 I4.length M5)).setCell ⟨K0,2,none⟩ (.slice M6 I5.length M7)).heap[b9]?=some (.cells #[.int .i64 a6,.slice a7 a9.length a8] 24 (0,0))):=⟨by exact kf d7 K5⟩
           have n3_:ae ((((K1.setCell ⟨K0,0,none⟩ (.bool I3)).setCell ⟨K0,1,none⟩ (.slice M4 I4.length M5)).setCell ⟨K0,2,none⟩ (.slice M6 I5.length M7)).heap[K0]?=some (.cells #[.bool I3,.slice M4 I4.length M5,.slice M6 I5.length M7] 33 (0,0))):=⟨by exact kQ K2⟩
           have n4_:ae (Below w.heap.size w (((K1.setCell ⟨K0,0,none⟩ (.bool I3)).setCell ⟨K0,1,none⟩ (.slice M4 I4.length M5)).setCell ⟨K0,2,none⟩ (.slice M6 I5.length M7))):=⟨pB⟩;(try clear J8)
           (try clear J9)
           (try clear d7)
           (try clear K2)
           (try clear HB)
           generalize (((K1.setCell ⟨K0,0,none⟩ (.bool I3)).setCell ⟨K0,1,none⟩ (.slice M4 I4.length M5)).setCell ⟨K0,2,none⟩ (.slice M6 I5.length M7))=N9 at n0_ n1_ n2_ n3_ n4_ ⊢;have J8:=n0_;have J9:=n1_;have d7:=n2_;have K2:=n3_;have HB:=n4_;clear n0_ n1_ n2_ n3_ n4_;have n0_:=aM (Kd.eZ J8.out);have n1_:=aM (Kd.eZ J9.out);have n2_:=aM (az d7.out);have n3_:=aM (az K2.out);have n4_:=aM (dA HB.out);clear J8 J9 d7 K2 HB;have J8:=n0_;have J9:=n1_;have d7:=n2_;have K2:=n3_;have HB:=n4_;clear n0_ n1_ n2_ n3_ n4_;refine gz (n:=10) (S:=fun w'=>w'.cell? ⟨K0,0,none⟩=some (.bool I3)∧w'.cell? ⟨K0,1,none⟩=some (.slice M4 I4.length M5)∧w'.cell? ⟨K0,2,none⟩=some (.slice M6 I5.length M7)∧w'.cell? ⟨b9,0,none⟩=some (.int .i64 a6)∧w'.cell? ⟨b9,1,none⟩=some (.slice a7 a9.length a8)) (ds:=[]) (bA 10 0) (by kernel_rfl) rfl rfl ⟨(af K2.out 0).trans rfl,(af K2.out 1).trans rfl,(af K2.out 2).trans rfl,(af d7.out 0).trans rfl,(af d7.out 1).trans rfl⟩ (fun hHeld=>?_);refine fF Azb.EG Azb.CR (fun HT_ HW_=>?_)
           generalize N9.drew=O0 at J8 J9 d7 K2 HB hHeld ⊢;refine pS 1 50 HT_ ?_;refine tU 0 49 HT_ HW_ hHeld ?_;refine tU 2 51 HT_ HW_ hHeld ?_;refine oU 3 (some 52) HT_ fun K hK=>?_
           refine eH Try.func34 (by kernel_rfl) rfl #[.int .i64 a6] (by rfl) rfl rfl mA ?_
           with_reducible refine(Dzk.calls k3 a6 N1 N2 N3 _ N4.out).mono ?_
           rintro e O1 ⟨O2,O3,rfl,J6,J7,hb⟩;refine⟨_,rfl,?_⟩;have n0_:=rO J8 hb J6 J7
           have n1_:=rO J9 hb J6 J7
           have n2_:=rL (rn (rn J6 J8) J9);have n3_:=rL (rn (rn J7 J8) J9);have n4_:=kb d7 hb;have n5_:=kb K2 hb;have n6_:=bB hb;clear J8 J9 d7 K2 HB;have J8:=n0_;have J9:=n1_;have O4:=n2_;have O5:=n3_;have d7:=n4_;have K2:=n5_;have HB:=n6_;clear n0_ n1_ n2_ n3_ n4_ n5_ n6_;(try clear hb)
           (try clear O6)
           (try clear hk)
           (try clear hi)
           (try clear J6)
           (try clear J7)
           obtain⟨O7,O8,O9⟩:=Kd.aj O4.out;(first|subst O9|(injection O9 with f1_ f2_ f3_;have f4_:=f1_.symm;have f5_:=f3_.symm;clear f1_ f2_ f3_;subst f4_;subst f5_))
           obtain⟨P0,P3,P4⟩:=Kd.aj O5.out;(first|subst P4|(injection P4 with f1_ f2_ f3_;have f4_:=f1_.symm;have f5_:=f3_.symm;clear f1_ f2_ f3_;subst f4_;subst f5_))
           refine hK.out _ _ ⟨(af K2.out 0).trans rfl,(af K2.out 1).trans rfl,(af K2.out 2).trans rfl,(af d7.out 0).trans rfl,(af d7.out 1).trans rfl⟩ (fun hHeld=>?_)
           clear hK K;refine nm 52 ?_;refine oU 4 (some 53) HT_ fun K hK=>?_
           refine eH Try.func38 (by kernel_rfl) rfl #[.agg #[.bool I3,.slice M4 I4.length M5,.slice M6 I5.length M7],.agg #[.bool N1,.slice O7 N2.length O8,.slice P0 N3.length P3]] (by rfl) rfl rfl mA ?_
           with_reducible refine(Fzq.calls k3 I3 _ _ I4 _ _ I5 N1 _ _ N2 _ _ N3 N5 N6 _ ?side1 ?side2 ?side3 ?side4 ?side5 ?side6 ?side7 ?side8 N7.out).mono ?_
           (case side1=>exact cR J8)
           (case side2=>exact lR J8)
           (case side3=>exact cR J9)
           (case side4=>exact lR J9)
           (case side5=>exact cR O4)
           (case side6=>exact lR O4)
           (case side7=>exact cR O5)
           (case side8=>exact lR O5)
           rintro e P5 ⟨rfl,hb⟩;refine⟨_,rfl,?_⟩;have n0_:=rB J8 hb;have n1_:=rB J9 hb;have n2_:=rB O4 hb;have n3_:=rB O5 hb;have n4_:=kb d7 hb;have n5_:=kb K2 hb;have n6_:=bB hb;clear J8 J9 O4 O5 d7 K2 HB;have J8:=n0_;have J9:=n1_;have O4:=n2_;have O5:=n3_;have d7:=n4_;have K2:=n5_;have HB:=n6_;clear n0_ n1_ n2_ n3_ n4_ n5_ n6_ hb
           (try clear O6)
           (try clear hk)
           (try clear hi)
           refine hK.out _ _ ⟨(af K2.out 0).trans rfl,(af K2.out 1).trans rfl,(af K2.out 2).trans rfl,(af d7.out 0).trans rfl,(af d7.out 1).trans rfl⟩ (fun hHeld=>?_)
           clear hK K;refine nm 53 ?_;refine pS 5 48 HT_ ?_;refine pS 6 54 HT_ ?_;refine pS 7 55 HT_ ?_;refine pS 8 7 HT_ ?_;refine pS 9 6 HT_ ?_;refine gZ (il HT_.out (by kernel_rfl)) ?_
           go_upto_if 57 with (fail)
           have H:=N8.out;clear N8;replace H:=iE H;rcases H with⟨P7,P8,H⟩|⟨P6,P7,P8,H⟩
           ·(first|rw[P7]|(simp only[aH,bg];rw[P7])|skip)
            by_cases P9:N5 > 0
            ·rw[if_pos P9] at H;have Q0:decide (0 < N5)=true:=dE P9;clear P9;obtain rfl:=Option.some.inj H;go_wp2
             go_ret
             exact⟨eW,pB⟩
            ·rw[if_neg P9] at H;have Q0:decide (0 < N5)=false:=decide_eq_false P9;clear P9;obtain rfl:=Option.some.inj H;go_wp2
             go_ret
             exact⟨eW,pB⟩
           ·(first|rw[P7]|(simp only[aH,bg];rw[P7])|skip)
            obtain rfl:=Option.some.inj H;go_wp2
            go_ret
            exact⟨eW,pB⟩
          ·(first|rw[M9]|(simp only[aH,bg];rw[M9])|skip)
           obtain rfl:=Option.some.inj H;go_wp2
           go_ret
           exact⟨eW,pB⟩


def Hzj.f (l0:List Int) (a1:Int):Option (Bool):=if a1≥1 then(if a1≤8 then(some ((l0.length:Int) == a1)) else(some false)) else(some false)
theorem Hzj.calls (a6:Option Addr) (a7:Nat) (l0:List Int) (a8:Int) (r:Bool) (w:World) (a9:cI w a6 l0) (b4:l0.length≤a7) (h:Hzj.f l0 a8=some r) :
  Calls Try.prog 74 #[.slice a6 l0.length a7,.int .i64 a8] w fun e w'=>e=.returned (.bool r)∧dC w w':=by
 have b5:=aM a9;have b6:=aM b4;clear a9 b4;have H:(if a8≥1 then(if a8≤8 then(some ((l0.length:Int) == a8)) else(some false)) else(some false))=some r:=h
 clear h;by_cases c3:a8≥1
 ·rw[if_pos c3] at H;have b7:decide (1≤a8)=true:=dE c3;clear c3;replace H:=iD H;rcases H with⟨b8,H⟩|⟨b8,H⟩
  ·obtain rfl:=Option.some.inj H;go_enter Try.func74,Try.ntmps74
   go_wp2
   go_ret
   exact⟨sD,dR⟩
  ·obtain rfl:=Option.some.inj H;go_enter Try.func74,Try.ntmps74
   go_wp2
   go_ret
   exact⟨sD,dR⟩
 ·rw[if_neg c3] at H;have b7:decide (1≤a8)=false:=decide_eq_false c3;clear c3;obtain rfl:=Option.some.inj H;go_enter Try.func74,Try.ntmps74
  go_wp2
  go_ret
  exact⟨sD,dR⟩


def Hzw.f (a0:Int) (l1:List Int):Option (Bool):=if a0≥0 then(if 0 < (l1.length:Int) then(some (decide (a0≤(rd l1 0)))) else(none)) else(some false)
theorem Hzw.calls (a6:Int) (a7:Option Addr) (a8:Nat) (l1:List Int) (r:Bool) (w:World) (a9:cI w a7 l1) (b4:l1.length≤a8) (h:Hzw.f a6 l1=some r) :
  Calls Try.prog 101 #[.int .i64 a6,.pointer a7] w fun e w'=>e=.returned (.bool r)∧dC w w':=by
 have b5:=aM a9;have b6:=aM b4;clear a9 b4;have H:(if a6≥0 then(if 0 < (l1.length:Int) then(some (decide (a6≤(rd l1 0)))) else(none)) else(some false))=some r:=h
 clear h;by_cases c3:a6≥0
 ·rw[if_pos c3] at H;have b7:decide (0≤a6)=true:=dE c3;clear c3;obtain⟨c4,H⟩:=iO H;have b8:decide (0 < (l1.length:Int))=true:=dE c4;have b9:decide (0 < l1.length)=true:=dE (by omega)
  clear c4;obtain rfl:=Option.some.inj H;have d6:0≤(0:Int):=(by omega)
  have d7:0 < (l1.length:Int):=oE aS
  obtain⟨d8,d9,e6⟩:=Kd.pJ b5.out 0 d6 d7;cases d9
  have e7:(0 < l1.length)=True:=eq_true (by omega)
  (try rw[show((0:Int)).toNat=0 from rfl] at e6)
  (try rw[Addr.add_zero'] at e6)
  replace d6:=eq_true d6;replace d7:=eq_true d7;go_enter Try.func101,Try.ntmps101
  go_wp2
  go_ret
  exact⟨sD,dR⟩
 ·rw[if_neg c3] at H;have b7:decide (0≤a6)=false:=decide_eq_false c3;clear c3;obtain rfl:=Option.some.inj H;go_enter Try.func101,Try.ntmps101
  go_wp2
  go_ret
  exact⟨sD,dR⟩

def Bzj.l0:Nat→List Int→Int→Int→List Int→Option (Bool)
 | 0,_,_,_,_=>none
 | k+1,x7,x8,x9,x910=>if x9 < x8 then(if 0≤x9 then(if x9 < (x7.length:Int) then((Hzw.f (rd x7 x9) x910).bind fun t415=>(if t415=true then(Bzj.l0 k x7 x8 (wrap64 (x9+1)) x910) else(some false))) else(none)) else(none)) else(some true)
def Bzj.f (k:Nat) (l0:List Int) (l1_0:List Int):Option (Bool):=Bzj.l0 k l0 (l0.length:Int) 0 l1_0
theorem Bzj.mono_l:∀ k,(∀ a6 a7 a8 a9,LeO (Bzj.l0 k a6 a7 a8 a9) (Bzj.l0 (k+1) a6 a7 a8 a9))
 | 0=>fun _ _ _ _ r h=>by simp [Bzj.l0] at h
 | k+1=>by
  have ih0:=Bzj.mono_l k
  ·intro a6 a7 a8 a9;unfold Bzj.l0;exact mM
theorem Bzj.mono:∀ a6 a7 k,LeO (Bzj.f k a6 a7) (Bzj.f (k+1) a6 a7):=by
 intro a6 a7 k;have ih0:=Bzj.mono_l k;unfold Bzj.f;exact mM
theorem Bzj.calls (k:Nat) (a6:Option Addr) (a7:Nat) (l0:List Int) (a8:Option Addr) (a9:Nat) (b4:List Int) (r:Bool) (w:World) (b5:cI w a6 l0) (b6:l0.length≤a7) (b7:cI w a8 b4) (b8:b4.length≤a9) (h:Bzj.f k l0 b4=some r) :
  Calls Try.prog 100 #[.slice a6 l0.length a7,.func (.func 101) #[] #[.pointer a8]] w fun e w'=>e=.returned (.bool r)∧dC w w':=by
 have b9:=aM b5;have d6:=aM b6;clear b5 b6;have d7:=aM b7;have d8:=aM b8;clear b7 b8;have H:(Bzj.l0 k l0 (l0.length:Int) 0 b4)=some r:=h;clear h;have H':=aM H;clear H;go_enter Try.func100,Try.ntmps100
 go_wp2
 go_loopg [9] k (fun kq d9 w'=>∃ (e6:Int),d9=.int .i64 e6∧ae (Bzj.l0 kq l0 (l0.length:Int) e6 b4=some r)∧ae (kq≤k)∧dC w w')
 case atStart=>exact⟨(0),sD,H',⟨Nat.le_refl _⟩,dR⟩
 case round =>
  clear H';try clear e7
  obtain⟨e6,rfl,HA,f6,⟨f7,rfl⟩⟩:=hrel;cases gk with
  | zero=>exact absurd HA.out (by simp [Bzj.l0])
  | succ k1 =>
   have H:=HA.out;clear HA;simp only[Bzj.l0] at H;replace H:=iD H;rcases H with⟨f8,H⟩|⟨f8,H⟩
   ·obtain⟨g5,H⟩:=iN H;obtain⟨g8,H⟩:=iN H;obtain⟨g9,j3,H⟩:=bT H;(try dsimp only at H);have j4:=aM H;clear H;obtain⟨j5,j6,j7,j8,j9⟩:=aI b9.out e6;cases j6;go_upto_if 16 with (first|(go_at_call 101;(with_reducible refine(Hzw.calls (rd l0 e6) _ a9 b4 g9 _ ?_ ?_ j3.out).mono ?_);exact cX d7.out;exact d8.out;rintro e w' ⟨rfl,⟨nd,rfl⟩⟩))
    have H:=j4.out;clear j4;by_cases c8:g9=true
    ·subst c8;rw[if_pos rfl] at H;have H':=aM H;clear H;go_wp2
     go_roundg k1
     case measure=>have:=f6.out;omega
     case rel=>exact⟨(wrap64 (e6+1)),sD,H',⟨by have:=f6.out;omega⟩,dR⟩
    ·obtain rfl:=bN c8;rw[if_neg nF] at H
     obtain rfl:=Option.some.inj H;go_wp2
     go_ret
     exact⟨sD,dR⟩
   ·obtain rfl:=Option.some.inj H;go_wp2
    go_ret
    exact⟨sD,dR⟩

def Fzp.f (k:Nat) (l0:List Int) (a1:Int):Option (Bool):=(Bzj.f k l0 [a1]).bind fun t417=>(some t417)
theorem Fzp.mono:∀ a6 a7 k,LeO (Fzp.f k a6 a7) (Fzp.f (k+1) a6 a7):=by
 intro a6 a7 k;unfold Fzp.f;have i0:=@Bzj.mono;exact mM
theorem Fzp.calls (k:Nat) (a6:Option Addr) (a7:Nat) (l0:List Int) (a8:Int) (r:Bool) (w:World) (a9:cI w a6 l0) (b4:l0.length≤a7) (h:Fzp.f k l0 a8=some r) :
  Calls Try.prog 75 #[.slice a6 l0.length a7,.int .i64 a8] w fun e w'=>e=.returned (.bool r)∧bw w w':=by
 have b5:=aM a9;have b6:=aM b4;clear a9 b4;have HB:=aM (Below.refl w.heap.size w);have H:((Bzj.f k l0 [a8]).bind fun b7=>(some b7))=some r:=h
 clear h;replace H:=bS H;obtain⟨b7,b8,H⟩:=H;replace H:(some b7)=some r:=H;have b9:=aM b8;clear b8;obtain rfl:=Option.some.inj H;have hmf_:∀ (fn:Fn) (first cap:Array Value) (w:World),(Instr.makeFunc fn first cap).run Try.prog w=.ok (.func fn first cap) w:=fun _ _ _ _=>rfl
 go_enter Try.func75,Try.ntmps75
 go_wp2_with (first|((with_reducible refine gd 3 rfl ?_);refine bx #[.int .i64 a8] 3 ?_;intro d6 hg d7 d8 hb;have d9:=gA w hg;replace HB:=bB hb;clear hb hg)|((with_reducible refine gc 100 rfl ?_);refine gC 100 (some 7) Try.func100 #[.slice a6 l0.length a7,.func (.func 101) #[] #[.pointer (some ⟨d6,0,none⟩)]] ?_;(with_reducible refine(Bzj.calls k _ _ l0 _ 1 [a8] b7 _ ?_ ?_ ?_ ?_ b9.out).mono ?_);exact cB b5;exact b6.out;exact Kd.AB (kW d8) rfl;exact Nat.le_refl _;rintro e w' ⟨rfl,⟨nd,rfl⟩⟩;refine⟨_,rfl,?_⟩))
 go_ret
 exact⟨eW,pB⟩

def Gzk.f (k:Nat) (l0:List Int) (a1:Int):Option (Int):=(Hzj.f l0 a1).bind fun t418=>(if t418=true then((Fzp.f k l0 1099511627776).bind fun t419=>(if t419=true then(some 0) else(some 1))) else(some 17))
theorem Gzk.mono:∀ a6 a7 k,LeO (Gzk.f k a6 a7) (Gzk.f (k+1) a6 a7):=by
 intro a6 a7 k;unfold Gzk.f;have i0:=@Fzp.mono;exact mM
theorem Gzk.calls (k:Nat) (a6:Option Addr) (a7:Nat) (l0:List Int) (a8:Int) (r:Int) (w:World) (a9:cI w a6 l0) (b4:l0.length≤a7) (h:Gzk.f k l0 a8=some r) :
  Calls Try.prog 43 #[.slice a6 l0.length a7,.int .i64 a8] w fun e w'=>e=.returned (.int .i64 r)∧bw w w':=by
 have b5:=aM a9;have b6:=aM b4;clear a9 b4;have HB:=aM (Below.refl w.heap.size w);have H:((Hzj.f l0 a8).bind fun b7=>(if b7=true then((Fzp.f k l0 1099511627776).bind fun b8=>(if b8=true then(some 0) else(some 1))) else(some 17)))=some r:=h
 clear h;obtain⟨b7,b9,H⟩:=bT H;(try dsimp only at H);have d6:=aM H;clear H;go_enter Try.func43,Try.ntmps43
 go_upto_if 8 with (first|((with_reducible refine gc 74 rfl ?_);refine gC 74 (some 7) Try.func74 #[.slice a6 l0.length a7,.int .i64 a8] ?_;(with_reducible refine(Hzj.calls _ _ l0 a8 b7 _ ?_ ?_ b9.out).mono ?_);exact cX b5.out;exact b6.out;rintro e w' ⟨rfl,⟨nd,rfl⟩⟩;refine⟨_,rfl,?_⟩))
 have H:=d6.out;clear d6;by_cases c5:b7=true
 ·subst c5;rw[if_pos rfl] at H;obtain⟨b8,d7,H⟩:=bT H;(try dsimp only at H);by_cases c7:b8=true
  ·subst c7;rw[if_pos rfl] at H;obtain rfl:=Option.some.inj H;go_wp2_with (first|((with_reducible refine gc 75 rfl ?_);refine gC 75 (some 10) Try.func75 #[.slice a6 l0.length a7,.int .i64 1099511627776] ?_;(with_reducible refine(Fzp.calls k _ _ l0 1099511627776 true _ ?_ ?_ d7.out).mono ?_);exact cB b5;exact b6.out;rintro e d8 ⟨rfl,hb⟩;refine⟨_,rfl,?_⟩;replace HB:=bB hb;clear hb))
   go_ret
   exact⟨eW,pB⟩
  ·obtain rfl:=bN c7;rw[if_neg nF] at H
   obtain rfl:=Option.some.inj H;go_wp2_with (first|((with_reducible refine gc 75 rfl ?_);refine gC 75 (some 10) Try.func75 #[.slice a6 l0.length a7,.int .i64 1099511627776] ?_;(with_reducible refine(Fzp.calls k _ _ l0 1099511627776 false _ ?_ ?_ d7.out).mono ?_);exact cB b5;exact b6.out;rintro e d9 ⟨rfl,hb⟩;refine⟨_,rfl,?_⟩;replace HB:=bB hb;clear hb))
   go_ret
   exact⟨eW,pB⟩
 ·obtain rfl:=bN c5;rw[if_neg nF] at H
  obtain rfl:=Option.some.inj H;go_wp2
  go_ret
  exact⟨eW,pB⟩




def Gzx.f (k:Nat) (a0:Int) (l1:List (List Int)):Option (Bool × List Int × List Int):=if 0 < (l1.length:Int) then(if 0≤a0 then(if a0 < ((lW l1 0).length:Int) then((Dzk.f k (rd (lW l1 0) a0)).bind fun bt423=>(some (bt423.1,bt423.2.1,bt423.2.2))) else(none)) else(none)) else(none)
theorem Gzx.mono:∀ a6 a7 k,LeO (Gzx.f k a6 a7) (Gzx.f (k+1) a6 a7):=by
 intro a6 a7 k;unfold Gzx.f;have i0:=@Dzk.mono;exact mM
theorem Gzx.calls (k:Nat) (a6:Int) (a7:Option Addr) (a8:Nat) (l1:List (List Int)) (a9:Bool) (b4:List Int) (b5:List Int) (w:World) (b6:Kd.C (Kd.slice 3 (Kd.int .i64)) w a7 l1.length l1) (b7:l1.length≤a8) (h:Gzx.f k a6 l1=some (a9,b4,b5)) :
  Calls Try.prog 45 #[.int .i64 a6,.pointer a7] w fun e w'=>∃ v1_ v2_:Value,e=.returned (.agg #[.bool a9,v1_,v2_])∧rI w' w (oV v2_) v1_ b4∧rI w' w (oV v1_) v2_ b5∧bw w w':=by
 have hu33:=Try.underlying33;have b8:=aM b6;have b9:=aM b7;clear b6 b7;have HB:=aM (Below.refl w.heap.size w);have H:(if 0 < (l1.length:Int) then(if 0≤a6 then(if a6 < ((lW l1 0).length:Int) then((Dzk.f k (rd (lW l1 0) a6)).bind fun d6=>(some (d6.1,d6.2.1,d6.2.2))) else(none)) else(none)) else(none))=some (a9,b4,b5):=h
 clear h;by_cases c3:0 < (l1.length:Int)
 ·rw[if_pos c3] at H;have d7:=dE c3;have d8:decide (0 < l1.length)=true:=dE (by omega)
  clear c3;obtain⟨d9,H⟩:=iN H;obtain⟨e6,H⟩:=iN H;replace H:=bS H;obtain⟨⟨e7,f6,f7⟩,f8,H⟩:=H;replace H:(some (e7,f6,f7))=some (a9,b4,b5):=H;have g5:=aM f8;clear f8;obtain⟨rfl,rfl,rfl⟩:=q3 H;go_enter Try.func45,Try.ntmps45
  go_wp2_with (first|((with_reducible refine gd 3 rfl ?_);refine bz 33 ?_;intro g8 hg g9 j3 hb;have j4:=gA w hg;replace HB:=bB hb;clear hb hg;have j6:0≤(0:Int):=(by omega);have j7:0 < (l1.length:Int):=oE aS;obtain⟨j8,j9,l5,l6,l7,l8,l9⟩:=DN b8.out 0 j6 j7;cases l6;have m0:(0 < l1.length)=True:=eq_true (by omega);(try rw[show((0:Int)).toNat=0 from rfl] at l7);(try rw[Addr.add_zero'] at l7);replace l7:=hB HB l7;have m4:=aM l9;have m5:=aM l8;clear l9 l8;replace j6:=eq_true j6;replace j7:=eq_true j7;obtain⟨m6,m7,m8,m9,n0⟩:=aI m4.out a6;cases m7;replace m8:=hB HB m8)|((with_reducible refine gc 34 rfl ?_);refine gC 34 (some 8) Try.func34 #[.int .i64 (rd (lW l1 0) a6)] ?_;(with_reducible refine(Dzk.calls k (rd (lW l1 0) a6) e7 f6 f7 _ g5.out).mono ?_);rintro e n7 ⟨n8,n9,rfl,o0,o8,hb⟩;refine⟨_,rfl,?_⟩;have o9:=rL o0;have p9:=rL o8;replace j3:=kb j3 hb;replace HB:=bB hb;clear hb o0 o8;obtain⟨r6,r7,r8,r9,t4,t5⟩:=bk3 j3;obtain⟨t6,t7,rfl⟩:=Kd.aj o9.out;obtain⟨t8,t9,rfl⟩:=Kd.aj p9.out))
  refine bodyPost_ret (results_cell_row rfl _ _ g8 33 #[.bool e7,.slice t6 f6.length t7,.slice t8 f7.length t9] (0,0) _ rfl (kQ j3) Try.underlying33 rfl (by kernel_rfl)) rfl ?_
  exact⟨_,_,eW,by exact Kd.ah (rT o9 j3) (fun _ hk=>hk),by exact Kd.ah (rT p9 j3) (fun _ hk=>hk),pB⟩
 ·rw[if_neg c3] at H;exact absurd H (by simp)

end Go.Proofs.Ytbnpcplckcipfaa.Print
