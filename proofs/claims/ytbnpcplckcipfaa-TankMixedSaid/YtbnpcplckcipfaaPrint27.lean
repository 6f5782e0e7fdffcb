import Derived.Test.YtbnpcplckcipfaaPrint0
import Derived.Test.YtbnpcplckcipfaaPrint12
import Derived.Test.YtbnpcplckcipfaaPrint15
import Derived.Test.YtbnpcplckcipfaaPrint24
import Derived.Test.YtbnpcplckcipfaaPrint26
namespace Go.Proofs.Ytbnpcplckcipfaa.Print
open Go.RowKit Go.Proofs.YtbnpcplckcipfaaW.PrintWords Go.Proofs.YtbnpcplckcipfaaW.PrintLast Go.Proofs.YtbnpcplckcipfaaW.PrintMore
attribute [local go_sem] max2_int min2_int max_two min_two max_three min_three max_four min_four
set_option linter.unusedVariables false
set_option maxRecDepth 100000
set_option maxHeartbeats 8000000
set_option linter.unusedSimpArgs false

mutual
def Azm.j0:Nat→Bool→Int→List (S33)→Option (Int)
 | 0,_,_,_=>none
 | k+1,x15,x391000,x391001=>if x15=true then(some 1) else(if(x391001.length:Int) < 1 then(Azm.j1 k true x391000 x391001) else(Azm.j1 k (decide ((x391001.length:Int) > 8)) x391000 x391001))
def Azm.j1:Nat→Bool→Int→List (S33)→Option (Int)
 | 0,_,_,_=>none
 | k+1,x25,x391000,x391001=>if x25=true then(some 17) else(Azm.l0 k x391001 (x391001.length:Int) 0 x391000 x391001)
def Azm.l0:Nat→List (S33)→Int→Int→Int→List (S33)→Option (Int)
 | 0,_,_,_,_,_=>none
 | k+1,x27,x28,x29,x391000,x391001=>if x29 < x28 then(if 0≤x29 then(if x29 < (x27.length:Int) then((Ezj.f k ((rd_T33 x27 x29).f0) ((rd_T33 x27 x29).f1) ((rd_T33 x27 x29).f2)).bind fun t393=>(if t393=true then(if(rd_T33 x27 x29).f0=true then(some 1) else(Azm.l0 k x27 x28 (wrap64 (x29+1)) x391000 x391001)) else(some 3))) else(none)) else(none)) else((Dzf.f k x391001).bind fun bt394=>(if bt394.2.2.2=0 then((Czf.f k x391000).bind fun bt403=>((Ezy.f k bt394.1 bt394.2.1 bt394.2.2.1 bt403.1 bt403.2.1 bt403.2.2).bind fun bt410=>(if bt410.2=0 then(if bt410.1 > 0 then(some 8) else(some 0)) else(some bt410.2)))) else(some bt394.2.2.2)))
end
def Azm.f (k:Nat) (a0_0:Int) (l0_1:List (S33)):Option (Int):=if a0_0 < 1 then(Azm.j0 k true a0_0 l0_1) else(Azm.j0 k (decide (a0_0 > 1099511627776)) a0_0 l0_1)
theorem Azm.mono_l:∀ k,(∀ a6 a7 a8,LeO (Azm.j0 k a6 a7 a8) (Azm.j0 (k+1) a6 a7 a8))∧(∀ a6 a7 a8,LeO (Azm.j1 k a6 a7 a8) (Azm.j1 (k+1) a6 a7 a8))∧(∀ a6 a7 a8 a9 b4,LeO (Azm.l0 k a6 a7 a8 a9 b4) (Azm.l0 (k+1) a6 a7 a8 a9 b4))
 | 0=>⟨fun _ _ _ r h=>by simp [Azm.j0] at h,fun _ _ _ r h=>by simp [Azm.j1] at h,fun _ _ _ _ _ r h=>by simp [Azm.l0] at h⟩
 | k+1=>by
  obtain⟨ih0,ih1,ih2⟩:=Azm.mono_l k;have i0:=@Ezy.mono;have i1:=@Dzf.mono;have i2:=@Ezj.mono;have i3:=@Czf.mono;refine⟨?_,?_,?_⟩
  ·intro a6 a7 a8;unfold Azm.j0;exact mM
  ·intro a6 a7 a8;unfold Azm.j1;exact mM
  ·intro a6 a7 a8 a9 b4;unfold Azm.l0;exact mM
theorem Azm.mono:∀ a6 a7 k,LeO (Azm.f k a6 a7) (Azm.f (k+1) a6 a7):=by
 intro a6 a7 k;obtain⟨ih0,ih1,ih2⟩:=Azm.mono_l k;unfold Azm.f;have i0:=@Ezy.mono;have i1:=@Dzf.mono;have i2:=@Ezj.mono;have i3:=@Czf.mono;exact mM
def Azm.T16:Bool × List (List Nat × List Nat):=(true,[([],[]),([],[]),([1],[1]),([2],[2]),([0,3,3],[0,3]),([4],[4]),([5],[5]),([5],[5]),([6,4,0,1,2,3,4,5,6],[6]),([7,8,0,1,2,3,4,5,6,7,8],[7])])
def Azm.B16:List Nat:=[0,0,2,6,15,31,63,63,127,511]
theorem Azm.tab16:rtab .any (opsOf Try.f17 16)=Azm.T16:=by kernel_rfl
theorem Azm.bits16:waitsOk Azm.T16.2 Azm.B16=true:=by kernel_rfl
theorem Azm.calls (k:Nat) (a6:Int) (a7:Option Addr) (a8:Nat) (a9:List (S33)) (r:Int) (w:World) (b4:Kd.C k33 w a7 a9.length a9) (b5:a9.length≤a8) (h:Azm.f k a6 a9=some r) :
  Calls Try.prog 17 #[.agg #[.int .i64 a6,.slice a7 a9.length a8]] w fun e w'=>e=.returned (.int .i64 r)∧bw w w':=by
 have hu24:=Try.underlying24;have hu33:=Try.underlying33;have b6:=aM b4;have b7:=aM b5;clear b4 b5;have HB:=aM (Below.refl w.heap.size w);have H:(if a6 < 1 then(Azm.j0 k true a6 a9) else(Azm.j0 k (decide (a6 > 1099511627776)) a6 a9))=some r:=h
 clear h;have b8:=aM H;clear H;go_enter Try.func17,Try.ntmps17
 go_upto_region 1 with (first|((with_reducible refine gd 1 rfl ?_);refine bxg #[.int .i64 a6,.slice a7 a9.length a8] 24 ?_;intro b9 hg d6 d7 hb;have d8:=gA w hg;replace HB:=bB hb;clear hb hg))
 (try simp only[Act.put,sA,sZ,sC])
 go_cut [15] (fun e6 wc=>∃ (kq:Nat) (e7:Bool),e6=.bool e7∧Aside0 (Azm.j0 kq e7 a6 a9=some r)∧Aside0 (kq≤k)∧Aside0 (wc.heap[b9]?=some (.cells #[.int .i64 a6,(.slice a7 a9.length a8)] 24 (0,0)))∧Aside0 (bw w wc))
 case first =>
  have H:=b8.out;clear b8;replace H:=iD H;rcases H with⟨e8,H⟩|⟨e8,H⟩
  ·(first|rw[e8]|(simp only[i64_w,i32_w];rw[e8])|skip)
   have H':=aM H;clear H;obtain⟨e9,f3,f4,f5⟩:=bk2 d7;go_wp2
   go_meet
   case rel=>exact⟨_,(true),sD,H',⟨by first|omega|exact Nat.le_refl _⟩,⟨by exact kW d7⟩,⟨pB⟩⟩
  ·(first|rw[e8]|(simp only[i64_w,i32_w];rw[e8])|skip)
   have H':=aM H;clear H;obtain⟨f6,f7,f8,f9⟩:=bk2 d7;go_wp2
   go_meet
   case rel=>exact⟨_,(decide (a6 > 1099511627776)),sD,H',⟨by first|omega|exact Nat.le_refl _⟩,⟨by exact kW d7⟩,⟨pB⟩⟩
 case rest =>
  clear b8;try clear g4
  obtain⟨kq,e7,rfl,HA,g5,d7,HB⟩:=hcut;cases kq with
  | zero=>exact absurd HA.out (by simp [Azm.j0])
  | succ g6 =>
   have H:=HA.out;clear HA;simp only[Azm.j0] at H;by_cases c7:e7=true
   ·subst c7;rw[if_pos rfl] at H;obtain rfl:=Option.some.inj H;go_wp2
    go_ret
    exact⟨eW,pB⟩
   ·obtain rfl:=bN c7;rw[if_neg nF] at H
    have g7:=aM H;clear H;go_upto_region 3 with (fail)
    go_cut [25] (fun g8 wc=>∃ (kq:Nat) (g9:Bool),g8=.bool g9∧Aside0 (Azm.j1 kq g9 a6 a9=some r)∧Aside0 (kq≤g6)∧Aside0 (wc.heap[b9]?=some (.cells #[.int .i64 a6,(.slice a7 a9.length a8)] 24 (0,0)))∧Aside0 (bw w wc))
    case first =>
     have H:=g7.out;clear g7;by_cases c9:(a9.length:Int) < 1
     ·rw[if_pos c9] at H;have j3:=dE c9;have j4:decide (a9.length < 1)=true:=dE (by omega)
      clear c9;(first|rw[j3]|(simp only[i64_w,i32_w];rw[j3])|skip)
      have H':=aM H;clear H;obtain⟨j5,j6,j7,j8⟩:=bk2 d7;go_wp2
      go_meet
      case rel=>exact⟨_,(true),sD,H',⟨by have:=g5.out;first|omega|exact Nat.le_refl _⟩,⟨by exact kW d7⟩,⟨pB⟩⟩
     ·rw[if_neg c9] at H;have j3:decide ((a9.length:Int) < 1)=false:=decide_eq_false c9;have j4:decide (a9.length < 1)=false:=decide_eq_false (by omega)
      clear c9;(first|rw[j3]|(simp only[i64_w,i32_w];rw[j3])|skip)
      have H':=aM H;clear H;obtain⟨j9,l5,l6,l7⟩:=bk2 d7;go_wp2
      go_meet
      case rel=>exact⟨_,(decide ((a9.length:Int) > 8)),sD,H',⟨by have:=g5.out;first|omega|exact Nat.le_refl _⟩,⟨by exact kW d7⟩,⟨pB⟩⟩
    case rest =>
     clear g7;try clear g4
     obtain⟨kq,g9,rfl,HA,l8,d7,HB⟩:=hcut;cases kq with
     | zero=>exact absurd HA.out (by simp [Azm.j1])
     | succ l9 =>
      have H:=HA.out;clear HA;simp only[Azm.j1] at H;by_cases m0:g9=true
      ·subst m0;rw[if_pos rfl] at H;obtain rfl:=Option.some.inj H;go_wp2
       go_ret
       exact⟨eW,pB⟩
      ·obtain rfl:=bN m0;rw[if_neg nF] at H
       have H':=aM H;clear H;obtain⟨m4,m5,m6,m7⟩:=bk2 d7;go_wp2
       go_loopg [29] l9 (fun kq m8 w'=>∃ (m9:Int),m8=.int .i64 m9∧Aside0 (Azm.l0 kq a9 (a9.length:Int) m9 a6 a9=some r)∧Aside0 (kq≤l9)∧Aside0 (w'.heap[b9]?=some (.cells #[.int .i64 a6,(.slice a7 a9.length a8)] 24 (0,0)))∧Aside0 (bw w w'))
       case atStart=>exact⟨(0),sD,H',⟨Nat.le_refl _⟩,⟨by exact kW d7⟩,⟨pB⟩⟩
       case round =>
        clear H';try clear g4
        obtain⟨m9,rfl,HA,n0,d7,HB⟩:=hrel;cases gk with
        | zero=>exact absurd HA.out (by simp [Azm.l0])
        | succ k3 =>
         have H:=HA.out;clear HA;simp only[Azm.l0] at H;replace H:=iD H;rcases H with⟨n8,H⟩|⟨n8,H⟩
         ·obtain⟨n9,H⟩:=iN H;obtain⟨o0,H⟩:=iN H;obtain⟨o8,o9,H⟩:=bT H;(try dsimp only at H);have p0:=aM H;clear H;obtain⟨p4,p7,p9,r5,r6,r7,r8,r9,t4,t5,t6,t7,t8⟩:=at_T33 b6.out m9 (oE aS) (oE aS);cases r7
          replace r8:=hB HB r8;replace r9:=hB HB r9;replace t4:=hB HB t4;have t9:=aM t6;have y9:=aM t5;clear t6 t5;have z3:=aM t8;have z4:=aM t7;clear t8 t7;have z5:=eT (m9);have z6:=eU (m9) a9.length;go_upto_if 35 with (first|((with_reducible refine gd 4 rfl ?_);refine bzg 33 ?_;intro z7 hg z8 z9 hb;have B0:=gA w hg;have B9:=nl hg d7;have C0:=ng hg d7;replace d7:=kb d7 hb;replace HB:=bB hb;clear hb hg;have C1:=C0.out;have C2:=B9.out;obtain⟨C3,C4,C6,C7,C8,C9⟩:=bk3 z9)|((with_reducible refine gc 37 rfl ?_);refine gC 37 (some 34) Try.func37 #[.agg #[.bool ((rd_T33 a9 m9).f0),.slice p7 ((rd_T33 a9 m9).f1).length p9,.slice r5 ((rd_T33 a9 m9).f2).length r6]] ?_;(with_reducible refine(Ezj.calls k3 ((rd_T33 a9 m9).f0) _ _ ((rd_T33 a9 m9).f1) _ _ ((rd_T33 a9 m9).f2) o8 _ ?_ ?_ ?_ ?_ o9.out).mono ?_);exact Kd.C_below t9.out pB;exact y9.out;exact Kd.C_below z3.out pB;exact z4.out;rintro e D2 ⟨rfl,hb⟩;refine⟨_,rfl,?_⟩;replace d7:=kF d7 B9 hb;replace z9:=kP (o':=.cells #[.bool ((rd_T33 a9 m9).f0),.slice p7 ((rd_T33 a9 m9).f1).length p9,.slice r5 ((rd_T33 a9 m9).f2).length r6] 33 (0,0)) z9 hb;replace HB:=bB hb;clear hb))
          have H:=p0.out;clear p0;by_cases D3:o8=true
          ·subst D3;rw[if_pos rfl] at H;obtain⟨bq24,hbq24⟩:∃ b_:Bool,b_=((rd_T33 a9 m9).f0):=⟨_,rfl⟩;replace H:(if bq24=true then(some 1) else(Azm.l0 k3 a9 (a9.length:Int) (wrap64 (m9+1)) a6 a9))=some r:=by rw[← hbq24] at H;exact H
           have Nbq24:=aM hbq24;clear hbq24;(try rw[← Nbq24.out])
           (try rw[← Nbq24.out] at z9)
           by_cases D4:bq24=true
           ·subst D4;rw[if_pos rfl] at H;obtain rfl:=Option.some.inj H;have D5:=C0.out;have D6:=B9.out;obtain⟨D7,D8,D9,E0,E1,E2⟩:=bk3 z9;go_wp2
            go_ret
            exact⟨eW,pB⟩
           ·obtain rfl:=bN D4;rw[if_neg nF] at H
            have H':=aM H;clear H;have E3:=C0.out;have E4:=B9.out;obtain⟨E5,E6,E7,E8,E9,F0⟩:=bk3 z9;go_wp2
            go_roundg k3
            case measure=>have:=g5.out;have:=l8.out;have:=n0.out;omega
            case rel=>exact⟨(wrap64 (m9+1)),sD,H',⟨by have:=g5.out;have:=l8.out;have:=n0.out;omega⟩,⟨by exact kW d7⟩,⟨pB⟩⟩
          ·obtain rfl:=bN D3;rw[if_neg nF] at H
           obtain rfl:=Option.some.inj H;go_wp2
           go_ret
           exact⟨eW,pB⟩
         ·obtain⟨⟨F2,F3,F4,F5⟩,F6,H⟩:=bT H;(try dsimp only at H);have F7:=aM H;clear H;obtain⟨F8,F9,G5,G9⟩:=bk2 d7;go_upto_if 46 with (first|((with_reducible refine gc 36 rfl ?_);refine gC 36 (some 42) Try.func36 #[.slice a7 a9.length a8] ?_;(with_reducible refine(Dzf.calls k3 _ _ a9 F2 F3 F4 F5 _ ?_ ?_ F6.out).mono ?_);exact cB b6;exact b7.out;rintro e H5 ⟨H6,H7,rfl,H8,H9,hb⟩;refine⟨_,rfl,?_⟩;have I0:=rL H8;have I3:=rL H9;replace d7:=kb d7 hb;replace HB:=bB hb;clear hb H8 H9)|((with_reducible refine gd 5 rfl ?_);refine bzg 33 ?_;intro I4 hg I5 I6 hb;have I7:=gA w hg;have I9:=nl hg d7;have J0:=ng hg d7;replace I0:=rB I0 hb;replace I3:=rB I3 hb;replace d7:=kb d7 hb;replace HB:=bB hb;clear hb hg;have J1:=J0.out;have J2:=I9.out;obtain⟨J3,J4,J5,J6,J7,J8⟩:=bk3 I6;obtain⟨J9,K0,rfl⟩:=Kd.R_slice I0.out;obtain⟨K1,K2,rfl⟩:=Kd.R_slice I3.out))
          have H:=F7.out;clear F7;replace H:=iE H;rcases H with⟨K4,K5,H⟩|⟨K3,K4,K5,H⟩
          ·(first|rw[K4]|(simp only[i64_w,i32_w];rw[K4])|skip)
           obtain⟨⟨K6,K7,K8⟩,K9,H⟩:=bT H;(try dsimp only at H);obtain⟨⟨L0,L7⟩,L8,H⟩:=bT H;(try dsimp only at H);have L9:=aM H;clear H;try go_wp2
           have n0_:Aside0 (Kd.R (Kd.int .i64) 3 (((I5.setCell ⟨I4,0,none⟩ (.bool F2)).setCell ⟨I4,1,none⟩ (.slice J9 F3.length K0)).setCell ⟨I4,2,none⟩ (.slice K1 F4.length K2)) w.heap.size (fun k_=>oN K1 F4.length K2 k_) (.slice J9 F3.length K0) F3):=⟨by exact Kd.R_mono (rT I0 I6) (fun _ hk=>hk)⟩
           have n1_:Aside0 (Kd.R (Kd.int .i64) 3 (((I5.setCell ⟨I4,0,none⟩ (.bool F2)).setCell ⟨I4,1,none⟩ (.slice J9 F3.length K0)).setCell ⟨I4,2,none⟩ (.slice K1 F4.length K2)) w.heap.size (fun k_=>oN J9 F3.length K0 k_) (.slice K1 F4.length K2) F4):=⟨by exact Kd.R_mono (rT I3 I6) (fun _ hk=>hk)⟩
           have n2_:Aside0 ((((I5.setCell ⟨I4,0,none⟩ (.bool F2)).setCell ⟨I4,1,none⟩ (.slice J9 F3.length K0)).setCell ⟨I4,2,none⟩ (.slice K1 F4.length K2)).heap[b9]?=some (.cells #[.int .i64 a6,.slice a7 a9.length a8] 24 (0,0))):=⟨by exact kf d7 I9⟩
           have n3_:Aside0 ((((I5.setCell ⟨I4,0,none⟩ (.bool F2)).setCell ⟨I4,1,none⟩ (.slice J9 F3.length K0)).setCell ⟨I4,2,none⟩ (.slice K1 F4.length K2)).heap[I4]?=some (.cells #[.bool F2,.slice J9 F3.length K0,.slice K1 F4.length K2] 33 (0,0))):=⟨by exact kQ I6⟩
           have n4_:Aside0 (Below w.heap.size w (((I5.setCell ⟨I4,0,none⟩ (.bool F2)).setCell ⟨I4,1,none⟩ (.slice J9 F3.length K0)).setCell ⟨I4,2,none⟩ (.slice K1 F4.length K2))):=⟨pB⟩;(try clear I0)
           (try clear I3)
           (try clear d7)
           (try clear I6)
           (try clear HB)
           generalize (((I5.setCell ⟨I4,0,none⟩ (.bool F2)).setCell ⟨I4,1,none⟩ (.slice J9 F3.length K0)).setCell ⟨I4,2,none⟩ (.slice K1 F4.length K2))=M0 at n0_ n1_ n2_ n3_ n4_ ⊢;have I0:=n0_;have I3:=n1_;have d7:=n2_;have I6:=n3_;have HB:=n4_;clear n0_ n1_ n2_ n3_ n4_;have n0_:=aM (Kd.R_drew I0.out);have n1_:=aM (Kd.R_drew I3.out);have n2_:=aM (blk_drew d7.out);have n3_:=aM (blk_drew I6.out);have n4_:=aM (below_drew1 HB.out);clear I0 I3 d7 I6 HB;have I0:=n0_;have I3:=n1_;have d7:=n2_;have I6:=n3_;have HB:=n4_;clear n0_ n1_ n2_ n3_ n4_;refine start_ (n:=10) (S:=fun w'=>w'.cell? ⟨I4,0,none⟩=some (.bool F2)∧w'.cell? ⟨I4,1,none⟩=some (.slice J9 F3.length K0)∧w'.cell? ⟨I4,2,none⟩=some (.slice K1 F4.length K2)∧w'.cell? ⟨b9,0,none⟩=some (.int .i64 a6)∧w'.cell? ⟨b9,1,none⟩=some (.slice a7 a9.length a8)) (ds:=[]) (bA 10 0) (by kernel_rfl) rfl rfl ⟨(blk_cell I6.out 0).trans rfl,(blk_cell I6.out 1).trans rfl,(blk_cell I6.out 2).trans rfl,(blk_cell d7.out 0).trans rfl,(blk_cell d7.out 1).trans rfl⟩ (fun hHeld=>?_);refine with_tabW Azm.tab16 Azm.bits16 (fun HT_ HW_=>?_)
           generalize M0.drew=M3 at I0 I3 d7 I6 HB hHeld ⊢;refine pS 1 50 HT_ ?_;refine tU 0 49 HT_ HW_ hHeld ?_;refine tU 2 51 HT_ HW_ hHeld ?_;refine oU 3 (some 52) HT_ fun K hK=>?_
           refine goes_ Try.func34 (by kernel_rfl) rfl #[.int .i64 a6] (by rfl) rfl rfl mA ?_
           with_reducible refine(Czf.calls k3 a6 K6 K7 K8 _ K9.out).mono ?_
           rintro e M4 ⟨M5,M6,rfl,H8,H9,hb⟩;refine⟨_,rfl,?_⟩;have n0_:=rO I0 hb H8 H9
           have n1_:=rO I3 hb H8 H9
           have n2_:=rL (rn (rn H8 I0) I3);have n3_:=rL (rn (rn H9 I0) I3);have n4_:=kb d7 hb;have n5_:=kb I6 hb;have n6_:=bB hb;clear I0 I3 d7 I6 HB;have I0:=n0_;have I3:=n1_;have M7:=n2_;have M8:=n3_;have d7:=n4_;have I6:=n5_;have HB:=n6_;clear n0_ n1_ n2_ n3_ n4_ n5_ n6_;(try clear hb)
           (try clear M9)
           (try clear hk)
           (try clear hi)
           (try clear H8)
           (try clear H9)
           obtain⟨N0,N1,N2⟩:=Kd.R_slice M7.out;(first|subst N2|(injection N2 with f1_ f2_ f3_;have f4_:=f1_.symm;have f5_:=f3_.symm;clear f1_ f2_ f3_;subst f4_;subst f5_))
           obtain⟨N3,N4,N5⟩:=Kd.R_slice M8.out;(first|subst N5|(injection N5 with f1_ f2_ f3_;have f4_:=f1_.symm;have f5_:=f3_.symm;clear f1_ f2_ f3_;subst f4_;subst f5_))
           refine hK.out _ _ ⟨(blk_cell I6.out 0).trans rfl,(blk_cell I6.out 1).trans rfl,(blk_cell I6.out 2).trans rfl,(blk_cell d7.out 0).trans rfl,(blk_cell d7.out 1).trans rfl⟩ (fun hHeld=>?_)
           clear hK K;refine nm 52 ?_;refine oU 4 (some 53) HT_ fun K hK=>?_
           refine goes_ Try.func38 (by kernel_rfl) rfl #[.agg #[.bool F2,.slice J9 F3.length K0,.slice K1 F4.length K2],.agg #[.bool K6,.slice N0 K7.length N1,.slice N3 K8.length N4]] (by rfl) rfl rfl mA ?_
           with_reducible refine(Ezy.calls k3 F2 _ _ F3 _ _ F4 K6 _ _ K7 _ _ K8 L0 L7 _ ?side1 ?side2 ?side3 ?side4 ?side5 ?side6 ?side7 ?side8 L8.out).mono ?_
           (case side1=>exact cR I0)
           (case side2=>exact lR I0)
           (case side3=>exact cR I3)
           (case side4=>exact lR I3)
           (case side5=>exact cR M7)
           (case side6=>exact lR M7)
           (case side7=>exact cR M8)
           (case side8=>exact lR M8)
           rintro e N6 ⟨rfl,hb⟩;refine⟨_,rfl,?_⟩;have n0_:=rB I0 hb;have n1_:=rB I3 hb;have n2_:=rB M7 hb;have n3_:=rB M8 hb;have n4_:=kb d7 hb;have n5_:=kb I6 hb;have n6_:=bB hb;clear I0 I3 M7 M8 d7 I6 HB;have I0:=n0_;have I3:=n1_;have M7:=n2_;have M8:=n3_;have d7:=n4_;have I6:=n5_;have HB:=n6_;clear n0_ n1_ n2_ n3_ n4_ n5_ n6_ hb
           (try clear M9)
           (try clear hk)
           (try clear hi)
           refine hK.out _ _ ⟨(blk_cell I6.out 0).trans rfl,(blk_cell I6.out 1).trans rfl,(blk_cell I6.out 2).trans rfl,(blk_cell d7.out 0).trans rfl,(blk_cell d7.out 1).trans rfl⟩ (fun hHeld=>?_)
           clear hK K;refine nm 53 ?_;refine pS 5 48 HT_ ?_;refine pS 6 54 HT_ ?_;refine pS 7 55 HT_ ?_;refine pS 8 7 HT_ ?_;refine pS 9 6 HT_ ?_;refine done_ (done_of HT_.out (by kernel_rfl)) ?_
           go_upto_if 57 with (fail)
           have H:=L9.out;clear L9;replace H:=iE H;rcases H with⟨N8,N9,H⟩|⟨N7,N8,N9,H⟩
           ·(first|rw[N8]|(simp only[i64_w,i32_w];rw[N8])|skip)
            by_cases O0:L0 > 0
            ·rw[if_pos O0] at H;have O1:decide (0 < L0)=true:=dE O0;clear O0;obtain rfl:=Option.some.inj H;go_wp2
             go_ret
             exact⟨eW,pB⟩
            ·rw[if_neg O0] at H;have O1:decide (0 < L0)=false:=decide_eq_false O0;clear O0;obtain rfl:=Option.some.inj H;go_wp2
             go_ret
             exact⟨eW,pB⟩
           ·(first|rw[N8]|(simp only[i64_w,i32_w];rw[N8])|skip)
            obtain rfl:=Option.some.inj H;go_wp2
            go_ret
            exact⟨eW,pB⟩
          ·(first|rw[K4]|(simp only[i64_w,i32_w];rw[K4])|skip)
           obtain rfl:=Option.some.inj H;go_wp2
           go_ret
           exact⟨eW,pB⟩


def Gzw.f (l0:List Int) (a1:Int):Option (Bool):=if a1≥1 then(if a1≤8 then(some ((l0.length:Int) == a1)) else(some false)) else(some false)
theorem Gzw.calls (a6:Option Addr) (a7:Nat) (l0:List Int) (a8:Int) (r:Bool) (w:World) (a9:cI w a6 l0) (b4:l0.length≤a7) (h:Gzw.f l0 a8=some r) :
  Calls Try.prog 74 #[.slice a6 l0.length a7,.int .i64 a8] w fun e w'=>e=.returned (.bool r)∧Drawn0 w w':=by
 have b5:=aM a9;have b6:=aM b4;clear a9 b4;have H:(if a8≥1 then(if a8≤8 then(some ((l0.length:Int) == a8)) else(some false)) else(some false))=some r:=h
 clear h;by_cases c3:a8≥1
 ·rw[if_pos c3] at H;have b7:decide (1≤a8)=true:=dE c3;clear c3;replace H:=iD H;rcases H with⟨b8,H⟩|⟨b8,H⟩
  ·obtain rfl:=Option.some.inj H;go_enter Try.func74,Try.ntmps74
   go_wp2
   go_ret
   exact⟨sD,dR⟩
  ·obtain rfl:=Option.some.inj H;go_enter Try.func74,Try.ntmps74
   go_wp2
   go_ret
   exact⟨sD,dR⟩
 ·rw[if_neg c3] at H;have b7:decide (1≤a8)=false:=decide_eq_false c3;clear c3;obtain rfl:=Option.some.inj H;go_enter Try.func74,Try.ntmps74
  go_wp2
  go_ret
  exact⟨sD,dR⟩


def Gzy.f (a0:Int) (l1:List Int):Option (Bool):=if a0≥0 then(if 0 < (l1.length:Int) then(some (decide (a0≤(rd l1 0)))) else(none)) else(some false)
theorem Gzy.calls (a6:Int) (a7:Option Addr) (a8:Nat) (l1:List Int) (r:Bool) (w:World) (a9:cI w a7 l1) (b4:l1.length≤a8) (h:Gzy.f a6 l1=some r) :
  Calls Try.prog 101 #[.int .i64 a6,.pointer a7] w fun e w'=>e=.returned (.bool r)∧Drawn0 w w':=by
 have b5:=aM a9;have b6:=aM b4;clear a9 b4;have H:(if a6≥0 then(if 0 < (l1.length:Int) then(some (decide (a6≤(rd l1 0)))) else(none)) else(some false))=some r:=h
 clear h;by_cases c3:a6≥0
 ·rw[if_pos c3] at H;have b7:decide (0≤a6)=true:=dE c3;clear c3;obtain⟨c4,H⟩:=iO H;have b8:decide (0 < (l1.length:Int))=true:=dE c4;have b9:decide (0 < l1.length)=true:=dE (by omega)
  clear c4;obtain rfl:=Option.some.inj H;have d6:0≤(0:Int):=(by omega)
  have d7:0 < (l1.length:Int):=oE aS
  obtain⟨d8,d9,e6⟩:=Kd.at_int b5.out 0 d6 d7;cases d9
  have e7:(0 < l1.length)=True:=eq_true (by omega)
  (try rw[show((0:Int)).toNat=0 from rfl] at e6)
  (try rw[Addr.add_zero'] at e6)
  replace d6:=eq_true d6;replace d7:=eq_true d7;go_enter Try.func101,Try.ntmps101
  go_wp2
  go_ret
  exact⟨sD,dR⟩
 ·rw[if_neg c3] at H;have b7:decide (0≤a6)=false:=decide_eq_false c3;clear c3;obtain rfl:=Option.some.inj H;go_enter Try.func101,Try.ntmps101
  go_wp2
  go_ret
  exact⟨sD,dR⟩

def Azx.l0:Nat→List Int→Int→Int→List Int→Option (Bool)
 | 0,_,_,_,_=>none
 | k+1,x7,x8,x9,x910=>if x9 < x8 then(if 0≤x9 then(if x9 < (x7.length:Int) then((Gzy.f (rd x7 x9) x910).bind fun t415=>(if t415=true then(Azx.l0 k x7 x8 (wrap64 (x9+1)) x910) else(some false))) else(none)) else(none)) else(some true)
def Azx.f (k:Nat) (l0:List Int) (l1_0:List Int):Option (Bool):=Azx.l0 k l0 (l0.length:Int) 0 l1_0
theorem Azx.mono_l:∀ k,(∀ a6 a7 a8 a9,LeO (Azx.l0 k a6 a7 a8 a9) (Azx.l0 (k+1) a6 a7 a8 a9))
 | 0=>fun _ _ _ _ r h=>by simp [Azx.l0] at h
 | k+1=>by
  have ih0:=Azx.mono_l k
  ·intro a6 a7 a8 a9;unfold Azx.l0;exact mM
theorem Azx.mono:∀ a6 a7 k,LeO (Azx.f k a6 a7) (Azx.f (k+1) a6 a7):=by
 intro a6 a7 k;have ih0:=Azx.mono_l k;unfold Azx.f;exact mM
theorem Azx.calls (k:Nat) (a6:Option Addr) (a7:Nat) (l0:List Int) (a8:Option Addr) (a9:Nat) (b4:List Int) (r:Bool) (w:World) (b5:cI w a6 l0) (b6:l0.length≤a7) (b7:cI w a8 b4) (b8:b4.length≤a9) (h:Azx.f k l0 b4=some r) :
  Calls Try.prog 100 #[.slice a6 l0.length a7,.func (.func 101) #[] #[.pointer a8]] w fun e w'=>e=.returned (.bool r)∧Drawn0 w w':=by
 have b9:=aM b5;have d6:=aM b6;clear b5 b6;have d7:=aM b7;have d8:=aM b8;clear b7 b8;have H:(Azx.l0 k l0 (l0.length:Int) 0 b4)=some r:=h;clear h;have H':=aM H;clear H;go_enter Try.func100,Try.ntmps100
 go_wp2
 go_loopg [9] k (fun kq d9 w'=>∃ (e6:Int),d9=.int .i64 e6∧Aside0 (Azx.l0 kq l0 (l0.length:Int) e6 b4=some r)∧Aside0 (kq≤k)∧Drawn0 w w')
 case atStart=>exact⟨(0),sD,H',⟨Nat.le_refl _⟩,dR⟩
 case round =>
  clear H';try clear e7
  obtain⟨e6,rfl,HA,e8,⟨e9,rfl⟩⟩:=hrel;cases gk with
  | zero=>exact absurd HA.out (by simp [Azx.l0])
  | succ k1 =>
   have H:=HA.out;clear HA;simp only[Azx.l0] at H;replace H:=iD H;rcases H with⟨f3,H⟩|⟨f3,H⟩
   ·obtain⟨f4,H⟩:=iN H;obtain⟨f5,H⟩:=iN H;obtain⟨f6,f7,H⟩:=bT H;(try dsimp only at H);have f8:=aM H;clear H;obtain⟨f9,g4,g5,g6,g7⟩:=aI b9.out e6;cases g4;go_upto_if 16 with (first|(go_at_call 101;(with_reducible refine(Gzy.calls (rd l0 e6) _ a9 b4 f6 _ ?_ ?_ f7.out).mono ?_);exact cX d7.out;exact d8.out;rintro e w' ⟨rfl,⟨nd,rfl⟩⟩))
    have H:=f8.out;clear f8;by_cases c8:f6=true
    ·subst c8;rw[if_pos rfl] at H;have H':=aM H;clear H;go_wp2
     go_roundg k1
     case measure=>have:=e8.out;omega
     case rel=>exact⟨(wrap64 (e6+1)),sD,H',⟨by have:=e8.out;omega⟩,dR⟩
    ·obtain rfl:=bN c8;rw[if_neg nF] at H
     obtain rfl:=Option.some.inj H;go_wp2
     go_ret
     exact⟨sD,dR⟩
   ·obtain rfl:=Option.some.inj H;go_wp2
    go_ret
    exact⟨sD,dR⟩

def Fzz.f (k:Nat) (l0:List Int) (a1:Int):Option (Bool):=(Azx.f k l0 [a1]).bind fun t417=>(some t417)
theorem Fzz.mono:∀ a6 a7 k,LeO (Fzz.f k a6 a7) (Fzz.f (k+1) a6 a7):=by
 intro a6 a7 k;unfold Fzz.f;have i0:=@Azx.mono;exact mM
theorem Fzz.calls (k:Nat) (a6:Option Addr) (a7:Nat) (l0:List Int) (a8:Int) (r:Bool) (w:World) (a9:cI w a6 l0) (b4:l0.length≤a7) (h:Fzz.f k l0 a8=some r) :
  Calls Try.prog 75 #[.slice a6 l0.length a7,.int .i64 a8] w fun e w'=>e=.returned (.bool r)∧bw w w':=by
 have b5:=aM a9;have b6:=aM b4;clear a9 b4;have HB:=aM (Below.refl w.heap.size w);have H:((Azx.f k l0 [a8]).bind fun b7=>(some b7))=some r:=h
 clear h;replace H:=bS H;obtain⟨b7,b8,H⟩:=H;replace H:(some b7)=some r:=H;have b9:=aM b8;clear b8;obtain rfl:=Option.some.inj H;have hmf_:∀ (fn:Fn) (first cap:Array Value) (w:World),(Instr.makeFunc fn first cap).run Try.prog w=.ok (.func fn first cap) w:=fun _ _ _ _=>rfl
 go_enter Try.func75,Try.ntmps75
 go_wp2_with (first|((with_reducible refine gd 3 rfl ?_);refine bx #[.int .i64 a8] 3 ?_;intro d6 hg d7 d8 hb;have d9:=gA w hg;replace HB:=bB hb;clear hb hg)|((with_reducible refine gc 100 rfl ?_);refine gC 100 (some 7) Try.func100 #[.slice a6 l0.length a7,.func (.func 101) #[] #[.pointer (some ⟨d6,0,none⟩)]] ?_;(with_reducible refine(Azx.calls k _ _ l0 _ 1 [a8] b7 _ ?_ ?_ ?_ ?_ b9.out).mono ?_);exact cB b5;exact b6.out;exact Kd.cap_C (kW d8) rfl;exact Nat.le_refl _;rintro e w' ⟨rfl,⟨nd,rfl⟩⟩;refine⟨_,rfl,?_⟩))
 go_ret
 exact⟨eW,pB⟩

def Fzx.f (k:Nat) (l0:List Int) (a1:Int):Option (Int):=(Gzw.f l0 a1).bind fun t418=>(if t418=true then((Fzz.f k l0 1099511627776).bind fun t419=>(if t419=true then(some 0) else(some 1))) else(some 17))
theorem Fzx.mono:∀ a6 a7 k,LeO (Fzx.f k a6 a7) (Fzx.f (k+1) a6 a7):=by
 intro a6 a7 k;unfold Fzx.f;have i0:=@Fzz.mono;exact mM
theorem Fzx.calls (k:Nat) (a6:Option Addr) (a7:Nat) (l0:List Int) (a8:Int) (r:Int) (w:World) (a9:cI w a6 l0) (b4:l0.length≤a7) (h:Fzx.f k l0 a8=some r) :
  Calls Try.prog 43 #[.slice a6 l0.length a7,.int .i64 a8] w fun e w'=>e=.returned (.int .i64 r)∧bw w w':=by
 have b5:=aM a9;have b6:=aM b4;clear a9 b4;have HB:=aM (Below.refl w.heap.size w);have H:((Gzw.f l0 a8).bind fun b7=>(if b7=true then((Fzz.f k l0 1099511627776).bind fun b8=>(if b8=true then(some 0) else(some 1))) else(some 17)))=some r:=h
 clear h;obtain⟨b7,b9,H⟩:=bT H;(try dsimp only at H);have d6:=aM H;clear H;go_enter Try.func43,Try.ntmps43
 go_upto_if 8 with (first|((with_reducible refine gc 74 rfl ?_);refine gC 74 (some 7) Try.func74 #[.slice a6 l0.length a7,.int .i64 a8] ?_;(with_reducible refine(Gzw.calls _ _ l0 a8 b7 _ ?_ ?_ b9.out).mono ?_);exact cX b5.out;exact b6.out;rintro e w' ⟨rfl,⟨nd,rfl⟩⟩;refine⟨_,rfl,?_⟩))
 have H:=d6.out;clear d6;by_cases c5:b7=true
 ·subst c5;rw[if_pos rfl] at H;obtain⟨b8,d7,H⟩:=bT H;(try dsimp only at H);by_cases c7:b8=true
  ·subst c7;rw[if_pos rfl] at H;obtain rfl:=Option.some.inj H;go_wp2_with (first|((with_reducible refine gc 75 rfl ?_);refine gC 75 (some 10) Try.func75 #[.slice a6 l0.length a7,.int .i64 1099511627776] ?_;(with_reducible refine(Fzz.calls k _ _ l0 1099511627776 true _ ?_ ?_ d7.out).mono ?_);exact cB b5;exact b6.out;rintro e d8 ⟨rfl,hb⟩;refine⟨_,rfl,?_⟩;replace HB:=bB hb;clear hb))
   go_ret
   exact⟨eW,pB⟩
  ·obtain rfl:=bN c7;rw[if_neg nF] at H
   obtain rfl:=Option.some.inj H;go_wp2_with (first|((with_reducible refine gc 75 rfl ?_);refine gC 75 (some 10) Try.func75 #[.slice a6 l0.length a7,.int .i64 1099511627776] ?_;(with_reducible refine(Fzz.calls k _ _ l0 1099511627776 false _ ?_ ?_ d7.out).mono ?_);exact cB b5;exact b6.out;rintro e d9 ⟨rfl,hb⟩;refine⟨_,rfl,?_⟩;replace HB:=bB hb;clear hb))
   go_ret
   exact⟨eW,pB⟩
 ·obtain rfl:=bN c5;rw[if_neg nF] at H
  obtain rfl:=Option.some.inj H;go_wp2
  go_ret
  exact⟨eW,pB⟩




def Fzp.f (k:Nat) (a0:Int) (l1:List (List Int)):Option (Bool × List Int × List Int):=if 0 < (l1.length:Int) then(if 0≤a0 then(if a0 < ((rd_L2 l1 0).length:Int) then((Czf.f k (rd (rd_L2 l1 0) a0)).bind fun bt423=>(some (bt423.1,bt423.2.1,bt423.2.2))) else(none)) else(none)) else(none)
theorem Fzp.mono:∀ a6 a7 k,LeO (Fzp.f k a6 a7) (Fzp.f (k+1) a6 a7):=by
 intro a6 a7 k;unfold Fzp.f;have i0:=@Czf.mono;exact mM
theorem Fzp.calls (k:Nat) (a6:Int) (a7:Option Addr) (a8:Nat) (l1:List (List Int)) (a9:Bool) (b4:List Int) (b5:List Int) (w:World) (b6:Kd.C (Kd.slice 3 (Kd.int .i64)) w a7 l1.length l1) (b7:l1.length≤a8) (h:Fzp.f k a6 l1=some (a9,b4,b5)) :
  Calls Try.prog 45 #[.int .i64 a6,.pointer a7] w fun e w'=>∃ v1_ v2_:Value,e=.returned (.agg #[.bool a9,v1_,v2_])∧rI w' w (oV v2_) v1_ b4∧rI w' w (oV v1_) v2_ b5∧bw w w':=by
 have hu33:=Try.underlying33;have b8:=aM b6;have b9:=aM b7;clear b6 b7;have HB:=aM (Below.refl w.heap.size w);have H:(if 0 < (l1.length:Int) then(if 0≤a6 then(if a6 < ((rd_L2 l1 0).length:Int) then((Czf.f k (rd (rd_L2 l1 0) a6)).bind fun d6=>(some (d6.1,d6.2.1,d6.2.2))) else(none)) else(none)) else(none))=some (a9,b4,b5):=h
 clear h;by_cases c3:0 < (l1.length:Int)
 ·rw[if_pos c3] at H;have d7:=dE c3;have d8:decide (0 < l1.length)=true:=dE (by omega)
  clear c3;obtain⟨d9,H⟩:=iN H;obtain⟨e6,H⟩:=iN H;replace H:=bS H;obtain⟨⟨e7,e8,e9⟩,f3,H⟩:=H;replace H:(some (e7,e8,e9))=some (a9,b4,b5):=H;have f4:=aM f3;clear f3;obtain⟨rfl,rfl,rfl⟩:=q3 H;go_enter Try.func45,Try.ntmps45
  go_wp2_with (first|((with_reducible refine gd 3 rfl ?_);refine bz 33 ?_;intro f5 hg f6 f7 hb;have f8:=gA w hg;replace HB:=bB hb;clear hb hg;have g4:0≤(0:Int):=(by omega);have g5:0 < (l1.length:Int):=oE aS;obtain⟨g6,g7,g8,g9,j3,j4,j5⟩:=at_L2 b8.out 0 g4 g5;cases g9;have j6:(0 < l1.length)=True:=eq_true (by omega);(try rw[show((0:Int)).toNat=0 from rfl] at j3);(try rw[Addr.add_zero'] at j3);replace j3:=hB HB j3;have j7:=aM j5;have j8:=aM j4;clear j5 j4;replace g4:=eq_true g4;replace g5:=eq_true g5;obtain⟨j9,l5,l6,l7,l8⟩:=aI j7.out a6;cases l5;replace l6:=hB HB l6)|((with_reducible refine gc 34 rfl ?_);refine gC 34 (some 8) Try.func34 #[.int .i64 (rd (rd_L2 l1 0) a6)] ?_;(with_reducible refine(Czf.calls k (rd (rd_L2 l1 0) a6) e7 e8 e9 _ f4.out).mono ?_);rintro e l9 ⟨m0,m4,rfl,m5,m6,hb⟩;refine⟨_,rfl,?_⟩;have m7:=rL m5;have m8:=rL m6;replace f7:=kb f7 hb;replace HB:=bB hb;clear hb m5 m6;obtain⟨m9,n0,n7,n8,n9,o0⟩:=bk3 f7;obtain⟨o8,o9,rfl⟩:=Kd.R_slice m7.out;obtain⟨p0,p4,rfl⟩:=Kd.R_slice m8.out))
  refine bodyPost_ret (results_cell_row rfl _ _ f5 33 #[.bool e7,.slice o8 e8.length o9,.slice p0 e9.length p4] (0,0) _ rfl (kQ f7) Try.underlying33 rfl (by kernel_rfl)) rfl ?_
  exact⟨_,_,eW,by exact Kd.R_mono (rT m7 f7) (fun _ hk=>hk),by exact Kd.R_mono (rT m8 f7) (fun _ hk=>hk),pB⟩
 ·rw[if_neg c3] at H;exact absurd H (by simp)

end Go.Proofs.Ytbnpcplckcipfaa.Print
