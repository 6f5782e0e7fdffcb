import Derived.Test.YtbnpcplckcipfaaPrint0
import Derived.Test.YtbnpcplckcipfaaPrint12
import Derived.Test.YtbnpcplckcipfaaPrint17
import Derived.Test.YtbnpcplckcipfaaPrint24
import Derived.Test.YtbnpcplckcipfaaPrint26
namespace Go.Proofs.Ytbnpcplckcipfaa.Print
open Go.RowKit Go.Proofs.YtbnpcplckcipfaaW.PrintWords Go.Proofs.YtbnpcplckcipfaaW.PrintLast Go.Proofs.YtbnpcplckcipfaaW.PrintMore
attribute [local go_sem] max2_int min2_int max_two min_two max_three min_three max_four min_four
set_option linter.unusedVariables false
set_option maxRecDepth 100000
set_option maxHeartbeats 8000000
set_option linter.unusedSimpArgs false

mutual
def Bzb.j0:Nat→Bool→Int→List (S33)→Option (Int)
 | 0,_,_,_=>none
 | k+1,x15,x391000,x391001=>if x15=true then(some 1) else(if(x391001.length:Int) < 1 then(Bzb.j1 k true x391000 x391001) else(Bzb.j1 k (decide ((x391001.length:Int) > 8)) x391000 x391001))
def Bzb.j1:Nat→Bool→Int→List (S33)→Option (Int)
 | 0,_,_,_=>none
 | k+1,x25,x391000,x391001=>if x25=true then(some 17) else(Bzb.l0 k x391001 (x391001.length:Int) 0 x391000 x391001)
def Bzb.l0:Nat→List (S33)→Int→Int→Int→List (S33)→Option (Int)
 | 0,_,_,_,_,_=>none
 | k+1,x27,x28,x29,x391000,x391001=>if x29 < x28 then(if 0≤x29 then(if x29 < (x27.length:Int) then((Fzy.f k ((rd_T33 x27 x29).f0) ((rd_T33 x27 x29).f1) ((rd_T33 x27 x29).f2)).bind fun t393=>(if t393=true then(if(rd_T33 x27 x29).f0=true then(some 1) else(Bzb.l0 k x27 x28 (wrap64 (x29+1)) x391000 x391001)) else(some 3))) else(none)) else(none)) else((Fzj.f k x391001).bind fun bt394=>(if bt394.2.2.2=0 then((Dzf.f k x391000).bind fun bt403=>((Fzx.f k bt394.1 bt394.2.1 bt394.2.2.1 bt403.1 bt403.2.1 bt403.2.2).bind fun bt410=>(if bt410.2=0 then(if bt410.1 > 0 then(some 8) else(some 0)) else(some bt410.2)))) else(some bt394.2.2.2)))
end
def Bzb.f (k:Nat) (a0_0:Int) (l0_1:List (S33)):Option (Int):=if a0_0 < 1 then(Bzb.j0 k true a0_0 l0_1) else(Bzb.j0 k (decide (a0_0 > 1099511627776)) a0_0 l0_1)
theorem Bzb.mono_l:∀ k,(∀ a6 a7 a8,LeO (Bzb.j0 k a6 a7 a8) (Bzb.j0 (k+1) a6 a7 a8))∧(∀ a6 a7 a8,LeO (Bzb.j1 k a6 a7 a8) (Bzb.j1 (k+1) a6 a7 a8))∧(∀ a6 a7 a8 a9 b4,LeO (Bzb.l0 k a6 a7 a8 a9 b4) (Bzb.l0 (k+1) a6 a7 a8 a9 b4))
 | 0=>⟨fun _ _ _ r h=>by simp [Bzb.j0] at h,fun _ _ _ r h=>by simp [Bzb.j1] at h,fun _ _ _ _ _ r h=>by simp [Bzb.l0] at h⟩
 | k+1=>by
  obtain⟨ih0,ih1,ih2⟩:=Bzb.mono_l k;have i0:=@Fzx.mono;have i1:=@Fzj.mono;have i2:=@Fzy.mono;have i3:=@Dzf.mono;refine⟨?_,?_,?_⟩
  ·intro a6 a7 a8;unfold Bzb.j0;exact mM
  ·intro a6 a7 a8;unfold Bzb.j1;exact mM
  ·intro a6 a7 a8 a9 b4;unfold Bzb.l0;exact mM
theorem Bzb.mono:∀ a6 a7 k,LeO (Bzb.f k a6 a7) (Bzb.f (k+1) a6 a7):=by
 intro a6 a7 k;obtain⟨ih0,ih1,ih2⟩:=Bzb.mono_l k;unfold Bzb.f;have i0:=@Fzx.mono;have i1:=@Fzj.mono;have i2:=@Fzy.mono;have i3:=@Dzf.mono;exact mM
def Bzb.T16:Bool × List (List Nat × List Nat):=(true,[([],[]),([],[]),([1],[1]),([2],[2]),([0,3,3],[0,3]),([4],[4]),([5],[5]),([5],[5]),([6,4,0,1,2,3,4,5,6],[6]),([7,8,0,1,2,3,4,5,6,7,8],[7])])
def Bzb.B16:List Nat:=[0,0,2,6,15,31,63,63,127,511]
theorem Bzb.tab16:rtab .any (opsOf Try.f17 16)=Bzb.T16:=by kernel_rfl
theorem Bzb.bits16:waitsOk Bzb.T16.2 Bzb.B16=true:=by kernel_rfl
theorem Bzb.calls (k:Nat) (a6:Int) (a7:Option Addr) (a8:Nat) (a9:List (S33)) (r:Int) (w:World) (b4:Kd.C k33 w a7 a9.length a9) (b5:a9.length≤a8) (h:Bzb.f k a6 a9=some r) :
  Calls Try.prog 17 #[.agg #[.int .i64 a6,.slice a7 a9.length a8]] w fun e w'=>e=.returned (.int .i64 r)∧bw w w':=by
 have hu24:=Try.underlying24;have hu33:=Try.underlying33;have b6:=aM b4;have b7:=aM b5;clear b4 b5;have HB:=aM (Below.refl w.heap.size w);have H:(if a6 < 1 then(Bzb.j0 k true a6 a9) else(Bzb.j0 k (decide (a6 > 1099511627776)) a6 a9))=some r:=h
 clear h;have b8:=aM H;clear H;go_enter Try.func17,Try.ntmps17
 go_upto_region 1 with (first|((with_reducible refine gd 1 rfl ?_);refine bxg #[.int .i64 a6,.slice a7 a9.length a8] 24 ?_;intro b9 hg d6 d7 hb;have d8:=gA w hg;replace HB:=bB hb;clear hb hg))
 (try simp only[Act.put,sA,sZ,sC])
 go_cut [15] (fun e6 wc=>∃ (kq:Nat) (e7:Bool),e6=.bool e7∧Aside0 (Bzb.j0 kq e7 a6 a9=some r)∧Aside0 (kq≤k)∧Aside0 (wc.heap[b9]?=some (.cells #[.int .i64 a6,(.slice a7 a9.length a8)] 24 (0,0)))∧Aside0 (bw w wc))
 case first =>
  have H:=b8.out;clear b8;replace H:=iD H;rcases H with⟨e8,H⟩|⟨e8,H⟩
  ·(first|rw[e8]|(simp only[i64_w,i32_w];rw[e8])|skip)
   have H':=aM H;clear H;obtain⟨e9,f3,f4,f5⟩:=bk2 d7;go_wp2
   go_meet
   case rel=>exact⟨_,(true),sD,H',⟨by first|omega|exact Nat.le_refl _⟩,⟨by exact kW d7⟩,⟨pB⟩⟩
  ·(first|rw[e8]|(simp only[i64_w,i32_w];rw[e8])|skip)
   have H':=aM H;clear H;obtain⟨f6,f7,f8,f9⟩:=bk2 d7;go_wp2
   go_meet
   case rel=>exact⟨_,(decide (a6 > 1099511627776)),sD,H',⟨by first|omega|exact Nat.le_refl _⟩,⟨by exact kW d7⟩,⟨pB⟩⟩
 case rest =>
  clear b8;try clear g4
  obtain⟨kq,e7,rfl,HA,g5,d7,HB⟩:=hcut;cases kq with
  | zero=>exact absurd HA.out (by simp [Bzb.j0])
  | succ g6 =>
   have H:=HA.out;clear HA;simp only[Bzb.j0] at H;by_cases c7:e7=true
   ·subst c7;rw[if_pos rfl] at H;obtain rfl:=Option.some.inj H;go_wp2
    go_ret
    exact⟨eW,pB⟩
   ·obtain rfl:=bN c7;rw[if_neg nF] at H
    have g7:=aM H;clear H;go_upto_region 3 with (fail)
    go_cut [25] (fun g8 wc=>∃ (kq:Nat) (g9:Bool),g8=.bool g9∧Aside0 (Bzb.j1 kq g9 a6 a9=some r)∧Aside0 (kq≤g6)∧Aside0 (wc.heap[b9]?=some (.cells #[.int .i64 a6,(.slice a7 a9.length a8)] 24 (0,0)))∧Aside0 (bw w wc))
    case first =>
     have H:=g7.out;clear g7;by_cases c9:(a9.length:Int) < 1
     ·rw[if_pos c9] at H;have j3:=dE c9;have j4:decide (a9.length < 1)=true:=dE (by omega)
      clear c9;(first|rw[j3]|(simp only[i64_w,i32_w];rw[j3])|skip)
      have H':=aM H;clear H;obtain⟨j5,j6,j7,j8⟩:=bk2 d7;go_wp2
      go_meet
      case rel=>exact⟨_,(true),sD,H',⟨by have:=g5.out;first|omega|exact Nat.le_refl _⟩,⟨by exact kW d7⟩,⟨pB⟩⟩
     ·rw[if_neg c9] at H;have j3:decide ((a9.length:Int) < 1)=false:=decide_eq_false c9;have j4:decide (a9.length < 1)=false:=decide_eq_false (by omega)
      clear c9;(first|rw[j3]|(simp only[i64_w,i32_w];rw[j3])|skip)
      have H':=aM H;clear H;obtain⟨j9,l5,l6,l7⟩:=bk2 d7;go_wp2
      go_meet
      case rel=>exact⟨_,(decide ((a9.length:Int) > 8)),sD,H',⟨by have:=g5.out;first|omega|exact Nat.le_refl _⟩,⟨by exact kW d7⟩,⟨pB⟩⟩
    case rest =>
     clear g7;try clear g4
     obtain⟨kq,g9,rfl,HA,l8,d7,HB⟩:=hcut;cases kq with
     | zero=>exact absurd HA.out (by simp [Bzb.j1])
     | succ l9 =>
      have H:=HA.out;clear HA;simp only[Bzb.j1] at H;by_cases m0:g9=true
      ·subst m0;rw[if_pos rfl] at H;obtain rfl:=Option.some.inj H;go_wp2
       go_ret
       exact⟨eW,pB⟩
      ·obtain rfl:=bN m0;rw[if_neg nF] at H
       have H':=aM H;clear H;obtain⟨m4,m5,m6,m7⟩:=bk2 d7;go_wp2
       go_loopg [29] l9 (fun kq m8 w'=>∃ (m9:Int),m8=.int .i64 m9∧Aside0 (Bzb.l0 kq a9 (a9.length:Int) m9 a6 a9=some r)∧Aside0 (kq≤l9)∧Aside0 (w'.heap[b9]?=some (.cells #[.int .i64 a6,(.slice a7 a9.length a8)] 24 (0,0)))∧Aside0 (bw w w'))
       case atStart=>exact⟨(0),sD,H',⟨Nat.le_refl _⟩,⟨by exact kW d7⟩,⟨pB⟩⟩
       case round =>
        clear H';try clear g4
        obtain⟨m9,rfl,HA,n0,d7,HB⟩:=hrel;cases gk with
        | zero=>exact absurd HA.out (by simp [Bzb.l0])
        | succ k3 =>
         have H:=HA.out;clear HA;simp only[Bzb.l0] at H;replace H:=iD H;rcases H with⟨n8,H⟩|⟨n8,H⟩
         ·obtain⟨n9,H⟩:=iN H;obtain⟨o0,H⟩:=iN H;obtain⟨o8,o9,H⟩:=bT H;(try dsimp only at H);have p0:=aM H;clear H;obtain⟨p4,p7,p9,r5,r6,r7,r8,r9,t4,t5,t6,t7,t8⟩:=at_T33 b6.out m9 (oE aS) (oE aS);cases r7
          replace r8:=hB HB r8;replace r9:=hB HB r9;replace t4:=hB HB t4;have t9:=aM t6;have z3:=aM t5;clear t6 t5;have z4:=aM t8;have z5:=aM t7;clear t8 t7;have z6:=eT (m9);have z7:=eU (m9) a9.length;go_upto_if 35 with (first|((with_reducible refine gd 4 rfl ?_);refine bzg 33 ?_;intro z8 hg z9 B0 hb;have B5:=gA w hg;have C0:=nl hg d7;have C1:=ng hg d7;replace d7:=kb d7 hb;replace HB:=bB hb;clear hb hg;have C2:=C1.out;have C3:=C0.out;obtain⟨C4,C6,C7,C8,C9,D2⟩:=bk3 B0)|((with_reducible refine gc 37 rfl ?_);refine gC 37 (some 34) Try.func37 #[.agg #[.bool ((rd_T33 a9 m9).f0),.slice p7 ((rd_T33 a9 m9).f1).length p9,.slice r5 ((rd_T33 a9 m9).f2).length r6]] ?_;(with_reducible refine(Fzy.calls k3 ((rd_T33 a9 m9).f0) _ _ ((rd_T33 a9 m9).f1) _ _ ((rd_T33 a9 m9).f2) o8 _ ?_ ?_ ?_ ?_ o9.out).mono ?_);exact Kd.C_below t9.out pB;exact z3.out;exact Kd.C_below z4.out pB;exact z5.out;rintro e D3 ⟨rfl,hb⟩;refine⟨_,rfl,?_⟩;replace d7:=kF d7 C0 hb;replace B0:=kP (o':=.cells #[.bool ((rd_T33 a9 m9).f0),.slice p7 ((rd_T33 a9 m9).f1).length p9,.slice r5 ((rd_T33 a9 m9).f2).length r6] 33 (0,0)) B0 hb;replace HB:=bB hb;clear hb))
          have H:=p0.out;clear p0;by_cases D4:o8=true
          ·subst D4;rw[if_pos rfl] at H;obtain⟨bq24,hbq24⟩:∃ b_:Bool,b_=((rd_T33 a9 m9).f0):=⟨_,rfl⟩;replace H:(if bq24=true then(some 1) else(Bzb.l0 k3 a9 (a9.length:Int) (wrap64 (m9+1)) a6 a9))=some r:=by rw[← hbq24] at H;exact H
           have Nbq24:=aM hbq24;clear hbq24;(try rw[← Nbq24.out])
           (try rw[← Nbq24.out] at B0)
           by_cases D5:bq24=true
           ·subst D5;rw[if_pos rfl] at H;obtain rfl:=Option.some.inj H;have D6:=C1.out;have D7:=C0.out;obtain⟨D8,D9,E0,E1,E2,E3⟩:=bk3 B0;go_wp2
            go_ret
            exact⟨eW,pB⟩
           ·obtain rfl:=bN D5;rw[if_neg nF] at H
            have H':=aM H;clear H;have E4:=C1.out;have E5:=C0.out;obtain⟨E6,E7,E8,E9,F0,F2⟩:=bk3 B0;go_wp2
            go_roundg k3
            case measure=>have:=g5.out;have:=l8.out;have:=n0.out;omega
            case rel=>exact⟨(wrap64 (m9+1)),sD,H',⟨by have:=g5.out;have:=l8.out;have:=n0.out;omega⟩,⟨by exact kW d7⟩,⟨pB⟩⟩
          ·obtain rfl:=bN D4;rw[if_neg nF] at H
           obtain rfl:=Option.some.inj H;go_wp2
           go_ret
           exact⟨eW,pB⟩
         ·obtain⟨⟨F3,F4,F5,F6⟩,F7,H⟩:=bT H;(try dsimp only at H);have F8:=aM H;clear H;obtain⟨F9,G5,G9,H5⟩:=bk2 d7;go_upto_if 46 with (first|((with_reducible refine gc 36 rfl ?_);refine gC 36 (some 42) Try.func36 #[.slice a7 a9.length a8] ?_;(with_reducible refine(Fzj.calls k3 _ _ a9 F3 F4 F5 F6 _ ?_ ?_ F7.out).mono ?_);exact cB b6;exact b7.out;rintro e H6 ⟨H7,H8,rfl,H9,I0,hb⟩;refine⟨_,rfl,?_⟩;have I3:=rL H9;have I4:=rL I0;replace d7:=kb d7 hb;replace HB:=bB hb;clear hb H9 I0)|((with_reducible refine gd 5 rfl ?_);refine bzg 33 ?_;intro I5 hg I6 I7 hb;have I8:=gA w hg;have J0:=nl hg d7;have J1:=ng hg d7;replace I3:=rB I3 hb;replace I4:=rB I4 hb;replace d7:=kb d7 hb;replace HB:=bB hb;clear hb hg;have J2:=J1.out;have J3:=J0.out;obtain⟨J4,J5,J6,J7,J8,J9⟩:=bk3 I7;obtain⟨K0,K1,rfl⟩:=Kd.R_slice I3.out;obtain⟨K2,K3,rfl⟩:=Kd.R_slice I4.out))
          have H:=F8.out;clear F8;replace H:=iE H;rcases H with⟨K5,K6,H⟩|⟨K4,K5,K6,H⟩
          ·(first|rw[K5]|(simp only[i64_w,i32_w];rw[K5])|skip)
           obtain⟨⟨K7,K8,K9⟩,L0,H⟩:=bT H;(try dsimp only at H);obtain⟨⟨L7,L8⟩,L9,H⟩:=bT H;(try dsimp only at H);have M0:=aM H;clear H;try go_wp2
           have n0_:Aside0 (Kd.R (Kd.int .i64) 3 (((I6.setCell ⟨I5,0,none⟩ (.bool F3)).setCell ⟨I5,1,none⟩ (.slice K0 F4.length K1)).setCell ⟨I5,2,none⟩ (.slice K2 F5.length K3)) w.heap.size (fun k_=>oN K2 F5.length K3 k_) (.slice K0 F4.length K1) F4):=⟨by exact Kd.R_mono (rT I3 I7) (fun _ hk=>hk)⟩
           have n1_:Aside0 (Kd.R (Kd.int .i64) 3 (((I6.setCell ⟨I5,0,none⟩ (.bool F3)).setCell ⟨I5,1,none⟩ (.slice K0 F4.length K1)).setCell ⟨I5,2,none⟩ (.slice K2 F5.length K3)) w.heap.size (fun k_=>oN K0 F4.length K1 k_) (.slice K2 F5.length K3) F5):=⟨by exact Kd.R_mono (rT I4 I7) (fun _ hk=>hk)⟩
           have n2_:Aside0 ((((I6.setCell ⟨I5,0,none⟩ (.bool F3)).setCell ⟨I5,1,none⟩ (.slice K0 F4.length K1)).setCell ⟨I5,2,none⟩ (.slice K2 F5.length K3)).heap[b9]?=some (.cells #[.int .i64 a6,.slice a7 a9.length a8] 24 (0,0))):=⟨by exact kf d7 J0⟩
           have n3_:Aside0 ((((I6.setCell ⟨I5,0,none⟩ (.bool F3)).setCell ⟨I5,1,none⟩ (.slice K0 F4.length K1)).setCell ⟨I5,2,none⟩ (.slice K2 F5.length K3)).heap[I5]?=some (.cells #[.bool F3,.slice K0 F4.length K1,.slice K2 F5.length K3] 33 (0,0))):=⟨by exact kQ I7⟩
           have n4_:Aside0 (Below w.heap.size w (((I6.setCell ⟨I5,0,none⟩ (.bool F3)).setCell ⟨I5,1,none⟩ (.slice K0 F4.length K1)).setCell ⟨I5,2,none⟩ (.slice K2 F5.length K3))):=⟨pB⟩;(try clear I3)
           (try clear I4)
           (try clear d7)
           (try clear I7)
           (try clear HB)
           generalize (((I6.setCell ⟨I5,0,none⟩ (.bool F3)).setCell ⟨I5,1,none⟩ (.slice K0 F4.length K1)).setCell ⟨I5,2,none⟩ (.slice K2 F5.length K3))=M3 at n0_ n1_ n2_ n3_ n4_ ⊢;have I3:=n0_;have I4:=n1_;have d7:=n2_;have I7:=n3_;have HB:=n4_;clear n0_ n1_ n2_ n3_ n4_;have n0_:=aM (Kd.R_drew I3.out);have n1_:=aM (Kd.R_drew I4.out);have n2_:=aM (blk_drew d7.out);have n3_:=aM (blk_drew I7.out);have n4_:=aM (below_drew1 HB.out);clear I3 I4 d7 I7 HB;have I3:=n0_;have I4:=n1_;have d7:=n2_;have I7:=n3_;have HB:=n4_;clear n0_ n1_ n2_ n3_ n4_;refine start_ (n:=10) (S:=fun w'=>w'.cell? ⟨I5,0,none⟩=some (.bool F3)∧w'.cell? ⟨I5,1,none⟩=some (.slice K0 F4.length K1)∧w'.cell? ⟨I5,2,none⟩=some (.slice K2 F5.length K3)∧w'.cell? ⟨b9,0,none⟩=some (.int .i64 a6)∧w'.cell? ⟨b9,1,none⟩=some (.slice a7 a9.length a8)) (ds:=[]) (bA 10 0) (by kernel_rfl) rfl rfl ⟨(blk_cell I7.out 0).trans rfl,(blk_cell I7.out 1).trans rfl,(blk_cell I7.out 2).trans rfl,(blk_cell d7.out 0).trans rfl,(blk_cell d7.out 1).trans rfl⟩ (fun hHeld=>?_);refine with_tabW Bzb.tab16 Bzb.bits16 (fun HT_ HW_=>?_)
           generalize M3.drew=M4 at I3 I4 d7 I7 HB hHeld ⊢;refine pS 1 50 HT_ ?_;refine tU 0 49 HT_ HW_ hHeld ?_;refine tU 2 51 HT_ HW_ hHeld ?_;refine oU 3 (some 52) HT_ fun K hK=>?_
           refine goes_ Try.func34 (by kernel_rfl) rfl #[.int .i64 a6] (by rfl) rfl rfl mA ?_
           with_reducible refine(Dzf.calls k3 a6 K7 K8 K9 _ L0.out).mono ?_
           rintro e M5 ⟨M6,M7,rfl,H9,I0,hb⟩;refine⟨_,rfl,?_⟩;have n0_:=rO I3 hb H9 I0
           have n1_:=rO I4 hb H9 I0
           have n2_:=rL (rn (rn H9 I3) I4);have n3_:=rL (rn (rn I0 I3) I4);have n4_:=kb d7 hb;have n5_:=kb I7 hb;have n6_:=bB hb;clear I3 I4 d7 I7 HB;have I3:=n0_;have I4:=n1_;have M8:=n2_;have M9:=n3_;have d7:=n4_;have I7:=n5_;have HB:=n6_;clear n0_ n1_ n2_ n3_ n4_ n5_ n6_;(try clear hb)
           (try clear N0)
           (try clear hk)
           (try clear hi)
           (try clear H9)
           (try clear I0)
           obtain⟨N1,N2,N3⟩:=Kd.R_slice M8.out;(first|subst N3|(injection N3 with f1_ f2_ f3_;have f4_:=f1_.symm;have f5_:=f3_.symm;clear f1_ f2_ f3_;subst f4_;subst f5_))
           obtain⟨N4,N5,N6⟩:=Kd.R_slice M9.out;(first|subst N6|(injection N6 with f1_ f2_ f3_;have f4_:=f1_.symm;have f5_:=f3_.symm;clear f1_ f2_ f3_;subst f4_;subst f5_))
           refine hK.out _ _ ⟨(blk_cell I7.out 0).trans rfl,(blk_cell I7.out 1).trans rfl,(blk_cell I7.out 2).trans rfl,(blk_cell d7.out 0).trans rfl,(blk_cell d7.out 1).trans rfl⟩ (fun hHeld=>?_)
           clear hK K;refine nm 52 ?_;refine oU 4 (some 53) HT_ fun K hK=>?_
           refine goes_ Try.func38 (by kernel_rfl) rfl #[.agg #[.bool F3,.slice K0 F4.length K1,.slice K2 F5.length K3],.agg #[.bool K7,.slice N1 K8.length N2,.slice N4 K9.length N5]] (by rfl) rfl rfl mA ?_
           with_reducible refine(Fzx.calls k3 F3 _ _ F4 _ _ F5 K7 _ _ K8 _ _ K9 L7 L8 _ ?side1 ?side2 ?side3 ?side4 ?side5 ?side6 ?side7 ?side8 L9.out).mono ?_
           (case side1=>exact cR I3)
           (case side2=>exact lR I3)
           (case side3=>exact cR I4)
           (case side4=>exact lR I4)
           (case side5=>exact cR M8)
           (case side6=>exact lR M8)
           (case side7=>exact cR M9)
           (case side8=>exact lR M9)
           rintro e N7 ⟨rfl,hb⟩;refine⟨_,rfl,?_⟩;have n0_:=rB I3 hb;have n1_:=rB I4 hb;have n2_:=rB M8 hb;have n3_:=rB M9 hb;have n4_:=kb d7 hb;have n5_:=kb I7 hb;have n6_:=bB hb;clear I3 I4 M8 M9 d7 I7 HB;have I3:=n0_;have I4:=n1_;have M8:=n2_;have M9:=n3_;have d7:=n4_;have I7:=n5_;have HB:=n6_;clear n0_ n1_ n2_ n3_ n4_ n5_ n6_ hb
           (try clear N0)
           (try clear hk)
           (try clear hi)
           refine hK.out _ _ ⟨(blk_cell I7.out 0).trans rfl,(blk_cell I7.out 1).trans rfl,(blk_cell I7.out 2).trans rfl,(blk_cell d7.out 0).trans rfl,(blk_cell d7.out 1).trans rfl⟩ (fun hHeld=>?_)
           clear hK K;refine nm 53 ?_;refine pS 5 48 HT_ ?_;refine pS 6 54 HT_ ?_;refine pS 7 55 HT_ ?_;refine pS 8 7 HT_ ?_;refine pS 9 6 HT_ ?_;refine done_ (done_of HT_.out (by kernel_rfl)) ?_
           go_upto_if 57 with (fail)
           have H:=M0.out;clear M0;replace H:=iE H;rcases H with⟨N9,O0,H⟩|⟨N8,N9,O0,H⟩
           ·(first|rw[N9]|(simp only[i64_w,i32_w];rw[N9])|skip)
            by_cases O1:L7 > 0
            ·rw[if_pos O1] at H;have O2:decide (0 < L7)=true:=dE O1;clear O1;obtain rfl:=Option.some.inj H;go_wp2
             go_ret
             exact⟨eW,pB⟩
            ·rw[if_neg O1] at H;have O2:decide (0 < L7)=false:=decide_eq_false O1;clear O1;obtain rfl:=Option.some.inj H;go_wp2
             go_ret
             exact⟨eW,pB⟩
           ·(first|rw[N9]|(simp only[i64_w,i32_w];rw[N9])|skip)
            obtain rfl:=Option.some.inj H;go_wp2
            go_ret
            exact⟨eW,pB⟩
          ·(first|rw[K5]|(simp only[i64_w,i32_w];rw[K5])|skip)
           obtain rfl:=Option.some.inj H;go_wp2
           go_ret
           exact⟨eW,pB⟩


def Hzk.f (l0:List Int) (a1:Int):Option (Bool):=if a1≥1 then(if a1≤8 then(some ((l0.length:Int) == a1)) else(some false)) else(some false)
theorem Hzk.calls (a6:Option Addr) (a7:Nat) (l0:List Int) (a8:Int) (r:Bool) (w:World) (a9:cI w a6 l0) (b4:l0.length≤a7) (h:Hzk.f l0 a8=some r) :
  Calls Try.prog 74 #[.slice a6 l0.length a7,.int .i64 a8] w fun e w'=>e=.returned (.bool r)∧Drawn0 w w':=by
 have b5:=aM a9;have b6:=aM b4;clear a9 b4;have H:(if a8≥1 then(if a8≤8 then(some ((l0.length:Int) == a8)) else(some false)) else(some false))=some r:=h
 clear h;by_cases c3:a8≥1
 ·rw[if_pos c3] at H;have b7:decide (1≤a8)=true:=dE c3;clear c3;replace H:=iD H;rcases H with⟨b8,H⟩|⟨b8,H⟩
  ·obtain rfl:=Option.some.inj H;go_enter Try.func74,Try.ntmps74
   go_wp2
   go_ret
   exact⟨sD,dR⟩
  ·obtain rfl:=Option.some.inj H;go_enter Try.func74,Try.ntmps74
   go_wp2
   go_ret
   exact⟨sD,dR⟩
 ·rw[if_neg c3] at H;have b7:decide (1≤a8)=false:=decide_eq_false c3;clear c3;obtain rfl:=Option.some.inj H;go_enter Try.func74,Try.ntmps74
  go_wp2
  go_ret
  exact⟨sD,dR⟩


def Hzx.f (a0:Int) (l1:List Int):Option (Bool):=if a0≥0 then(if 0 < (l1.length:Int) then(some (decide (a0≤(rd l1 0)))) else(none)) else(some false)
theorem Hzx.calls (a6:Int) (a7:Option Addr) (a8:Nat) (l1:List Int) (r:Bool) (w:World) (a9:cI w a7 l1) (b4:l1.length≤a8) (h:Hzx.f a6 l1=some r) :
  Calls Try.prog 101 #[.int .i64 a6,.pointer a7] w fun e w'=>e=.returned (.bool r)∧Drawn0 w w':=by
 have b5:=aM a9;have b6:=aM b4;clear a9 b4;have H:(if a6≥0 then(if 0 < (l1.length:Int) then(some (decide (a6≤(rd l1 0)))) else(none)) else(some false))=some r:=h
 clear h;by_cases c3:a6≥0
 ·rw[if_pos c3] at H;have b7:decide (0≤a6)=true:=dE c3;clear c3;obtain⟨c4,H⟩:=iO H;have b8:decide (0 < (l1.length:Int))=true:=dE c4;have b9:decide (0 < l1.length)=true:=dE (by omega)
  clear c4;obtain rfl:=Option.some.inj H;have d6:0≤(0:Int):=(by omega)
  have d7:0 < (l1.length:Int):=oE aS
  obtain⟨d8,d9,e6⟩:=Kd.at_int b5.out 0 d6 d7;cases d9
  have e7:(0 < l1.length)=True:=eq_true (by omega)
  (try rw[show((0:Int)).toNat=0 from rfl] at e6)
  (try rw[Addr.add_zero'] at e6)
  replace d6:=eq_true d6;replace d7:=eq_true d7;go_enter Try.func101,Try.ntmps101
  go_wp2
  go_ret
  exact⟨sD,dR⟩
 ·rw[if_neg c3] at H;have b7:decide (0≤a6)=false:=decide_eq_false c3;clear c3;obtain rfl:=Option.some.inj H;go_enter Try.func101,Try.ntmps101
  go_wp2
  go_ret
  exact⟨sD,dR⟩

def Bzj.l0:Nat→List Int→Int→Int→List Int→Option (Bool)
 | 0,_,_,_,_=>none
 | k+1,x7,x8,x9,x910=>if x9 < x8 then(if 0≤x9 then(if x9 < (x7.length:Int) then((Hzx.f (rd x7 x9) x910).bind fun t415=>(if t415=true then(Bzj.l0 k x7 x8 (wrap64 (x9+1)) x910) else(some false))) else(none)) else(none)) else(some true)
def Bzj.f (k:Nat) (l0:List Int) (l1_0:List Int):Option (Bool):=Bzj.l0 k l0 (l0.length:Int) 0 l1_0
theorem Bzj.mono_l:∀ k,(∀ a6 a7 a8 a9,LeO (Bzj.l0 k a6 a7 a8 a9) (Bzj.l0 (k+1) a6 a7 a8 a9))
 | 0=>fun _ _ _ _ r h=>by simp [Bzj.l0] at h
 | k+1=>by
  have ih0:=Bzj.mono_l k
  ·intro a6 a7 a8 a9;unfold Bzj.l0;exact mM
theorem Bzj.mono:∀ a6 a7 k,LeO (Bzj.f k a6 a7) (Bzj.f (k+1) a6 a7):=by
 intro a6 a7 k;have ih0:=Bzj.mono_l k;unfold Bzj.f;exact mM
theorem Bzj.calls (k:Nat) (a6:Option Addr) (a7:Nat) (l0:List Int) (a8:Option Addr) (a9:Nat) (b4:List Int) (r:Bool) (w:World) (b5:cI w a6 l0) (b6:l0.length≤a7) (b7:cI w a8 b4) (b8:b4.length≤a9) (h:Bzj.f k l0 b4=some r) :
  Calls Try.prog 100 #[.slice a6 l0.length a7,.func (.func 101) #[] #[.pointer a8]] w fun e w'=>e=.returned (.bool r)∧Drawn0 w w':=by
 have b9:=aM b5;have d6:=aM b6;clear b5 b6;have d7:=aM b7;have d8:=aM b8;clear b7 b8;have H:(Bzj.l0 k l0 (l0.length:Int) 0 b4)=some r:=h;clear h;have H':=aM H;clear H;go_enter Try.func100,Try.ntmps100
 go_wp2
 go_loopg [9] k (fun kq d9 w'=>∃ (e6:Int),d9=.int .i64 e6∧Aside0 (Bzj.l0 kq l0 (l0.length:Int) e6 b4=some r)∧Aside0 (kq≤k)∧Drawn0 w w')
 case atStart=>exact⟨(0),sD,H',⟨Nat.le_refl _⟩,dR⟩
 case round =>
  clear H';try clear e7
  obtain⟨e6,rfl,HA,e8,⟨e9,rfl⟩⟩:=hrel;cases gk with
  | zero=>exact absurd HA.out (by simp [Bzj.l0])
  | succ k1 =>
   have H:=HA.out;clear HA;simp only[Bzj.l0] at H;replace H:=iD H;rcases H with⟨f3,H⟩|⟨f3,H⟩
   ·obtain⟨f4,H⟩:=iN H;obtain⟨f5,H⟩:=iN H;obtain⟨f6,f7,H⟩:=bT H;(try dsimp only at H);have f8:=aM H;clear H;obtain⟨f9,g4,g5,g6,g7⟩:=aI b9.out e6;cases g4;go_upto_if 16 with (first|(go_at_call 101;(with_reducible refine(Hzx.calls (rd l0 e6) _ a9 b4 f6 _ ?_ ?_ f7.out).mono ?_);exact cX d7.out;exact d8.out;rintro e w' ⟨rfl,⟨nd,rfl⟩⟩))
    have H:=f8.out;clear f8;by_cases c8:f6=true
    ·subst c8;rw[if_pos rfl] at H;have H':=aM H;clear H;go_wp2
     go_roundg k1
     case measure=>have:=e8.out;omega
     case rel=>exact⟨(wrap64 (e6+1)),sD,H',⟨by have:=e8.out;omega⟩,dR⟩
    ·obtain rfl:=bN c8;rw[if_neg nF] at H
     obtain rfl:=Option.some.inj H;go_wp2
     go_ret
     exact⟨sD,dR⟩
   ·obtain rfl:=Option.some.inj H;go_wp2
    go_ret
    exact⟨sD,dR⟩

def Gzj.f (k:Nat) (l0:List Int) (a1:Int):Option (Bool):=(Bzj.f k l0 [a1]).bind fun t417=>(some t417)
theorem Gzj.mono:∀ a6 a7 k,LeO (Gzj.f k a6 a7) (Gzj.f (k+1) a6 a7):=by
 intro a6 a7 k;unfold Gzj.f;have i0:=@Bzj.mono;exact mM
theorem Gzj.calls (k:Nat) (a6:Option Addr) (a7:Nat) (l0:List Int) (a8:Int) (r:Bool) (w:World) (a9:cI w a6 l0) (b4:l0.length≤a7) (h:Gzj.f k l0 a8=some r) :
  Calls Try.prog 75 #[.slice a6 l0.length a7,.int .i64 a8] w fun e w'=>e=.returned (.bool r)∧bw w w':=by
 have b5:=aM a9;have b6:=aM b4;clear a9 b4;have HB:=aM (Below.refl w.heap.size w);have H:((Bzj.f k l0 [a8]).bind fun b7=>(some b7))=some r:=h
 clear h;replace H:=bS H;obtain⟨b7,b8,H⟩:=H;replace H:(some b7)=some r:=H;have b9:=aM b8;clear b8;obtain rfl:=Option.some.inj H;have hmf_:∀ (fn:Fn) (first cap:Array Value) (w:World),(Instr.makeFunc fn first cap).run Try.prog w=.ok (.func fn first cap) w:=fun _ _ _ _=>rfl
 go_enter Try.func75,Try.ntmps75
 go_wp2_with (first|((with_reducible refine gd 3 rfl ?_);refine bx #[.int .i64 a8] 3 ?_;intro d6 hg d7 d8 hb;have d9:=gA w hg;replace HB:=bB hb;clear hb hg)|((with_reducible refine gc 100 rfl ?_);refine gC 100 (some 7) Try.func100 #[.slice a6 l0.length a7,.func (.func 101) #[] #[.pointer (some ⟨d6,0,none⟩)]] ?_;(with_reducible refine(Bzj.calls k _ _ l0 _ 1 [a8] b7 _ ?_ ?_ ?_ ?_ b9.out).mono ?_);exact cB b5;exact b6.out;exact Kd.cap_C (kW d8) rfl;exact Nat.le_refl _;rintro e w' ⟨rfl,⟨nd,rfl⟩⟩;refine⟨_,rfl,?_⟩))
 go_ret
 exact⟨eW,pB⟩

def Gzm.f (k:Nat) (l0:List Int) (a1:Int):Option (Int):=(Hzk.f l0 a1).bind fun t418=>(if t418=true then((Gzj.f k l0 1099511627776).bind fun t419=>(if t419=true then(some 0) else(some 1))) else(some 17))
theorem Gzm.mono:∀ a6 a7 k,LeO (Gzm.f k a6 a7) (Gzm.f (k+1) a6 a7):=by
 intro a6 a7 k;unfold Gzm.f;have i0:=@Gzj.mono;exact mM
theorem Gzm.calls (k:Nat) (a6:Option Addr) (a7:Nat) (l0:List Int) (a8:Int) (r:Int) (w:World) (a9:cI w a6 l0) (b4:l0.length≤a7) (h:Gzm.f k l0 a8=some r) :
  Calls Try.prog 43 #[.slice a6 l0.length a7,.int .i64 a8] w fun e w'=>e=.returned (.int .i64 r)∧bw w w':=by
 have b5:=aM a9;have b6:=aM b4;clear a9 b4;have HB:=aM (Below.refl w.heap.size w);have H:((Hzk.f l0 a8).bind fun b7=>(if b7=true then((Gzj.f k l0 1099511627776).bind fun b8=>(if b8=true then(some 0) else(some 1))) else(some 17)))=some r:=h
 clear h;obtain⟨b7,b9,H⟩:=bT H;(try dsimp only at H);have d6:=aM H;clear H;go_enter Try.func43,Try.ntmps43
 go_upto_if 8 with (first|((with_reducible refine gc 74 rfl ?_);refine gC 74 (some 7) Try.func74 #[.slice a6 l0.length a7,.int .i64 a8] ?_;(with_reducible refine(Hzk.calls _ _ l0 a8 b7 _ ?_ ?_ b9.out).mono ?_);exact cX b5.out;exact b6.out;rintro e w' ⟨rfl,⟨nd,rfl⟩⟩;refine⟨_,rfl,?_⟩))
 have H:=d6.out;clear d6;by_cases c5:b7=true
 ·subst c5;rw[if_pos rfl] at H;obtain⟨b8,d7,H⟩:=bT H;(try dsimp only at H);by_cases c7:b8=true
  ·subst c7;rw[if_pos rfl] at H;obtain rfl:=Option.some.inj H;go_wp2_with (first|((with_reducible refine gc 75 rfl ?_);refine gC 75 (some 10) Try.func75 #[.slice a6 l0.length a7,.int .i64 1099511627776] ?_;(with_reducible refine(Gzj.calls k _ _ l0 1099511627776 true _ ?_ ?_ d7.out).mono ?_);exact cB b5;exact b6.out;rintro e d8 ⟨rfl,hb⟩;refine⟨_,rfl,?_⟩;replace HB:=bB hb;clear hb))
   go_ret
   exact⟨eW,pB⟩
  ·obtain rfl:=bN c7;rw[if_neg nF] at H
   obtain rfl:=Option.some.inj H;go_wp2_with (first|((with_reducible refine gc 75 rfl ?_);refine gC 75 (some 10) Try.func75 #[.slice a6 l0.length a7,.int .i64 1099511627776] ?_;(with_reducible refine(Gzj.calls k _ _ l0 1099511627776 false _ ?_ ?_ d7.out).mono ?_);exact cB b5;exact b6.out;rintro e d9 ⟨rfl,hb⟩;refine⟨_,rfl,?_⟩;replace HB:=bB hb;clear hb))
   go_ret
   exact⟨eW,pB⟩
 ·obtain rfl:=bN c5;rw[if_neg nF] at H
  obtain rfl:=Option.some.inj H;go_wp2
  go_ret
  exact⟨eW,pB⟩




def Gzb.f (k:Nat) (a0:Int) (l1:List (List Int)):Option (Bool × List Int × List Int):=if 0 < (l1.length:Int) then(if 0≤a0 then(if a0 < ((rd_L2 l1 0).length:Int) then((Dzf.f k (rd (rd_L2 l1 0) a0)).bind fun bt423=>(some (bt423.1,bt423.2.1,bt423.2.2))) else(none)) else(none)) else(none)
theorem Gzb.mono:∀ a6 a7 k,LeO (Gzb.f k a6 a7) (Gzb.f (k+1) a6 a7):=by
 intro a6 a7 k;unfold Gzb.f;have i0:=@Dzf.mono;exact mM
theorem Gzb.calls (k:Nat) (a6:Int) (a7:Option Addr) (a8:Nat) (l1:List (List Int)) (a9:Bool) (b4:List Int) (b5:List Int) (w:World) (b6:Kd.C (Kd.slice 3 (Kd.int .i64)) w a7 l1.length l1) (b7:l1.length≤a8) (h:Gzb.f k a6 l1=some (a9,b4,b5)) :
  Calls Try.prog 45 #[.int .i64 a6,.pointer a7] w fun e w'=>∃ v1_ v2_:Value,e=.returned (.agg #[.bool a9,v1_,v2_])∧rI w' w (oV v2_) v1_ b4∧rI w' w (oV v1_) v2_ b5∧bw w w':=by
 have hu33:=Try.underlying33;have b8:=aM b6;have b9:=aM b7;clear b6 b7;have HB:=aM (Below.refl w.heap.size w);have H:(if 0 < (l1.length:Int) then(if 0≤a6 then(if a6 < ((rd_L2 l1 0).length:Int) then((Dzf.f k (rd (rd_L2 l1 0) a6)).bind fun d6=>(some (d6.1,d6.2.1,d6.2.2))) else(none)) else(none)) else(none))=some (a9,b4,b5):=h
 clear h;by_cases c3:0 < (l1.length:Int)
 ·rw[if_pos c3] at H;have d7:=dE c3;have d8:decide (0 < l1.length)=true:=dE (by omega)
  clear c3;obtain⟨d9,H⟩:=iN H;obtain⟨e6,H⟩:=iN H;replace H:=bS H;obtain⟨⟨e7,e8,e9⟩,f3,H⟩:=H;replace H:(some (e7,e8,e9))=some (a9,b4,b5):=H;have f4:=aM f3;clear f3;obtain⟨rfl,rfl,rfl⟩:=q3 H;go_enter Try.func45,Try.ntmps45
  go_wp2_with (first|((with_reducible refine gd 3 rfl ?_);refine bz 33 ?_;intro f5 hg f6 f7 hb;have f8:=gA w hg;replace HB:=bB hb;clear hb hg;have g4:0≤(0:Int):=(by omega);have g5:0 < (l1.length:Int):=oE aS;obtain⟨g6,g7,g8,g9,j3,j4,j5⟩:=at_L2 b8.out 0 g4 g5;cases g9;have j6:(0 < l1.length)=True:=eq_true (by omega);(try rw[show((0:Int)).toNat=0 from rfl] at j3);(try rw[Addr.add_zero'] at j3);replace j3:=hB HB j3;have j7:=aM j5;have j8:=aM j4;clear j5 j4;replace g4:=eq_true g4;replace g5:=eq_true g5;obtain⟨j9,l5,l6,l7,l8⟩:=aI j7.out a6;cases l5;replace l6:=hB HB l6)|((with_reducible refine gc 34 rfl ?_);refine gC 34 (some 8) Try.func34 #[.int .i64 (rd (rd_L2 l1 0) a6)] ?_;(with_reducible refine(Dzf.calls k (rd (rd_L2 l1 0) a6) e7 e8 e9 _ f4.out).mono ?_);rintro e l9 ⟨m0,m4,rfl,m5,m6,hb⟩;refine⟨_,rfl,?_⟩;have m7:=rL m5;have m8:=rL m6;replace f7:=kb f7 hb;replace HB:=bB hb;clear hb m5 m6;obtain⟨m9,n0,n7,n8,n9,o0⟩:=bk3 f7;obtain⟨o8,o9,rfl⟩:=Kd.R_slice m7.out;obtain⟨p0,p4,rfl⟩:=Kd.R_slice m8.out))
  refine bodyPost_ret (results_cell_row rfl _ _ f5 33 #[.bool e7,.slice o8 e8.length o9,.slice p0 e9.length p4] (0,0) _ rfl (kQ f7) Try.underlying33 rfl (by kernel_rfl)) rfl ?_
  exact⟨_,_,eW,by exact Kd.R_mono (rT m7 f7) (fun _ hk=>hk),by exact Kd.R_mono (rT m8 f7) (fun _ hk=>hk),pB⟩
 ·rw[if_neg c3] at H;exact absurd H (by simp)

end Go.Proofs.Ytbnpcplckcipfaa.Print
