import Derived.Test.YtbnpcplckcipfaaPrint0
namespace Go.Proofs.Ytbnpcplckcipfaa.Print
open Go.RowKit Go.Proofs.YtbnpcplckcipfaaW.PrintWords Go.Proofs.YtbnpcplckcipfaaW.PrintLast Go.Proofs.YtbnpcplckcipfaaW.PrintMore
attribute [local go_sem] dF dG eB eD dm dn dH dI
set_option linter.unusedVariables false
set_option maxRecDepth 100000
set_option maxHeartbeats 8000000
set_option linter.unusedSimpArgs false

def Dzz.l0:Nat→List Int→Int→List Int→Int→Int→Option (List Int × List Int)
 | 0,_,_,_,_,_=>none
 | k+1,x0,x1,x6,x7,x8=>if x8≥0 then(if 0≤x8 then(if x8 < (x0.length:Int) then(if x1=0 then(none) else(if x8 < (x6.length:Int) then(Dzz.l0 k x0 x1 (x6.set (x8:Int).toNat (wrap64 (Int.tdiv (wrap64 ((wrap64 (x7 * 1000000000))+(rd x0 x8))) x1))) (Int.tmod (wrap64 ((wrap64 (x7 * 1000000000))+(rd x0 x8))) x1) (wrap64 (x8 - 1))) else(none))) else(none)) else(none)) else((Bzy.f k x6).bind fun t128=>((Bzy.f k (([x7]:List Int))).bind fun t134=>(some (t128,t134))))
def Dzz.f (k:Nat) (l0:List Int) (a1:Int):Option (List Int × List Int):=if 0≤(l0.length:Int) then(if((l0.length:Int):Int).toNat≤35184372088832 then(Dzz.l0 k l0 a1 (List.replicate ((l0.length:Int):Int).toNat 0) 0 (wrap64 ((l0.length:Int) - 1))) else(none)) else(none)
theorem Dzz.mono_l:∀ k,(∀ a6 a7 a8 a9 b4,LeO (Dzz.l0 k a6 a7 a8 a9 b4) (Dzz.l0 (k+1) a6 a7 a8 a9 b4))
 | 0=>fun _ _ _ _ _ r h=>by simp [Dzz.l0] at h
 | k+1=>by
  have ih0:=Dzz.mono_l k
  ·intro a6 a7 a8 a9 b4;unfold Dzz.l0;have i0:=@Bzy.mono;exact mM
theorem Dzz.mono:∀ a6 a7 k,LeO (Dzz.f k a6 a7) (Dzz.f (k+1) a6 a7):=by
 intro a6 a7 k;have ih0:=Dzz.mono_l k;unfold Dzz.f;have i0:=@Bzy.mono;exact mM
def Dzz.T7:Bool × List (List Nat × List Nat):=(true,[([],[]),([],[]),([],[]),([],[]),([2,3],[2,3]),([],[]),([],[]),([5,6],[5,6]),([0,1,0,1,2,3,4],[0,1]),([8,4,0,1,2,3,4],[4,8]),([7,9,0,1,2,3,4,5,6,7,8,9],[7])])
def Dzz.B7:List Nat:=[0,0,0,0,12,0,0,96,31,287,1023]
theorem Dzz.ES:ik .any (opsOf Try.f111 7)=Dzz.T7:=by kernel_rfl
theorem Dzz.EH:gM Dzz.T7.2 Dzz.B7=true:=by kernel_rfl
theorem Dzz.calls (k:Nat) (a6:Option Addr) (a7:Nat) (l0:List Int) (a8:Int) (a9:List Int) (b4:List Int) (w:World) (b5:cI w a6 l0) (b6:l0.length≤a7) (h:Dzz.f k l0 a8=some (a9,b4)) :
  Calls Try.prog 111 #[.slice a6 l0.length a7,.int .i64 a8] w fun e w'=>∃ v0_ v1_:Value,e=.returned (.tuple #[v0_,v1_])∧rI w' w (oV v1_) v0_ a9∧rI w' w (oV v0_) v1_ b4∧bw w w':=by
 have b7:=aM b5;have b8:=aM b6;clear b5 b6;have HB:=aM (Below.refl w.heap.size w);have H:(if 0≤(l0.length:Int) then(if((l0.length:Int):Int).toNat≤35184372088832 then(Dzz.l0 k l0 a8 (List.replicate ((l0.length:Int):Int).toNat 0) 0 (wrap64 ((l0.length:Int) - 1))) else(none)) else(none))=some (a9,b4):=h
 clear h;by_cases c3:0≤(l0.length:Int)
 ·rw[if_pos c3] at H;have b9:=eq_true c3;have d6:=dE c3;clear c3;obtain⟨c4,H⟩:=iO H;have d7:=eq_true c4;have d8:decide (((l0.length:Int):Int).toNat≤35184372088832)=true:=dE c4;clear c4;obtain⟨d9,e6⟩:∃ y_:List Int,y_=(List.replicate ((l0.length:Int):Int).toNat 0):=⟨_,rfl⟩;replace H:(Dzz.l0 k l0 a8 d9 0 (wrap64 ((l0.length:Int) - 1)))=some (a9,b4):=yE e6 H
  have e7:=aM e6;clear e6;have H':=aM H;clear H;go_enter Try.func111,Try.ntmps111
  go_wp2_with (first|((with_reducible refine dY (N:=12) rfl ?_);refine Kd.kz (Kd.int .i64) _ 3 rfl (N:=12) rfl 30 _ _ rfl (l0.length:Int) rfl rfl Try.underlying30 (.int .i64 0) 8 info3 rfl (by decide) (by omega) 0 (ok:=fun _=>True) (okp:=fun _=>True) rfl (fun _ hk=>hk) trivial (oE aS) (Nat.le_trans (Nat.mul_le_mul_right _ (oE aS:(l0.length:Int).toNat≤35184372088832)) (by omega)) (Below.refl _ _) (Nat.le_refl _) ?_;intro f6 f7 f8 hb hg_ hnew_;clear hg_ hnew_;replace f8:=rY e7 f8;have g5:=rL f8;replace HB:=bB hb;clear hb f8))
  go_loopg [7,8] k (fun kq g8 g9 w'=>∃ (j3:List Int) (j4:Int) (j5:Int),g8=.int .i64 j4∧g9=.int .i64 j5∧ae (Dzz.l0 kq l0 a8 j3 j4 j5=some (a9,b4))∧ae (kq≤k)∧ae (rI w' w (fun _=>True) f6 j3)∧ae (bw w w'))
  case atStart=>exact⟨(d9),(0),(wrap64 ((l0.length:Int) - 1)),sD,sD,H',⟨Nat.le_refl _⟩,⟨rX g5.out⟩,⟨pB⟩⟩
  case round =>
   clear H';try clear j6
   obtain⟨j3,j4,j5,rfl,rfl,HA,j7,j8,HB⟩:=hrel;cases gk with
   | zero=>exact absurd HA.out (by simp [Dzz.l0])
   | succ k1 =>
    have H:=HA.out;clear HA;simp only[Dzz.l0] at H;by_cases c7:j5≥0
    ·rw[if_pos c7] at H;have j9:decide (0≤j5)=true:=dE c7;clear c7;obtain⟨l5,H⟩:=iN H;obtain⟨l6,H⟩:=iN H;obtain⟨c10,H⟩:=iM H;have l7:(a8 == 0)=false:=beq_eq_false_iff_ne.mpr c10;have l8:(a8 != 0)=true:=bne_iff_ne.mpr c10;obtain⟨l9,H⟩:=iN H;obtain⟨m0,m4⟩:∃ y_:List Int,y_=(j3.set (j5:Int).toNat (wrap64 (Int.tdiv (wrap64 ((wrap64 (j4 * 1000000000))+(rd l0 j5))) a8))):=⟨_,rfl⟩;replace H:(Dzz.l0 k1 l0 a8 m0 (Int.tmod (wrap64 ((wrap64 (j4 * 1000000000))+(rd l0 j5))) a8) (wrap64 (j5 - 1)))=some (a9,b4):=yE m4 H
     have m5:=aM m4;clear m4;have H':=aM H;clear H;obtain⟨m6,m7,m8,m9,n0⟩:=aI b7.out j5;cases m7
     replace m8:=hB HB m8;try go_wp2
     have n0_:=aM (Kd.eZ j8.out);have n1_:=aM (dA HB.out);clear j8 HB;have j8:=n0_;have HB:=n1_;clear n0_ n1_;have n7:0≤(j5:Int):=oE aS
     have n8:(j5:Int) < ((j3.length:Int):Int):=oE aS
     obtain⟨n9,o0,o8,o9,p9,r6,r7⟩:=Kd.fu j8.out (by omega)
     (first|cases o8|(injection o8 with ea_ en_ ec_;(first|subst ea_|(injection ea_ with ea_;subst ea_));subst ec_;clear en_))
     have r8:=aM o9;have r9:=aM r7;clear o9 p9 r7;obtain⟨t4,t5⟩:=Kd.bU 0 j8.out (j5:Int) n7 n8;replace n7:=eq_true n7;replace n8:=eq_true n8;have t6:=Kd.BP j8.out (j5:Int) (wrap64 (Int.tdiv (wrap64 ((wrap64 (j4 * 1000000000))+(rd l0 j5))) a8));rw[← m5.out] at t6;have t7:=aM t6;clear t6;refine gz (n:=11) (S:=fun w'=>True) (ds:=[9]) (bA 11 0) (by kernel_rfl) rfl rfl trivial (fun hHeld=>?_);refine fF Dzz.ES Dzz.EH (fun HT_ HW_=>?_)
     generalize wr.drew=t8 at j8 HB r9 t7 t5 t4 hHeld ⊢;refine pS 0 27 HT_ ?_;refine pS 1 28 HT_ ?_;refine pS 2 29 HT_ ?_;refine pS 3 30 HT_ ?_;refine pS 4 31 HT_ ?_;refine pS 5 32 HT_ ?_;refine pS 6 33 HT_ ?_;refine pS 7 34 HT_ ?_;refine pS 8 35 HT_ ?_;refine lU 9 none HT_ fun K hK=>?_
     refine iY (w1:=?_) (by rfl) rfl ?_ ?_
     rotate_left
     ·go_simp
      rfl
     refine hK.out _ _ ?_;clear hK K;refine pS 10 7 HT_ ?_;refine gZ (il HT_.out (by kernel_rfl)) ?_
     try go_wp2
     go_roundg k1
     case measure=>have:=j7.out;omega
     case rel=>exact⟨(m0),(Int.tmod (wrap64 ((wrap64 (j4 * 1000000000))+(rd l0 j5))) a8),(wrap64 (j5 - 1)),sD,sD,H',⟨by have:=j7.out;omega⟩,⟨rX t7.out⟩,⟨pB⟩⟩
    ·rw[if_neg c7] at H;have j9:decide (0≤j5)=false:=decide_eq_false c7;clear c7;obtain⟨t9,z3,H⟩:=bT H;(try dsimp only at H);obtain⟨z4,z5⟩:∃ y_:List Int,y_=(([j4]:List Int)):=⟨_,rfl⟩;replace H:((Bzy.f k1 z4).bind fun z6=>(some (t9,z6)))=some (a9,b4):=yE z5 H
     have z7:=aM z5;clear z5;replace H:=bS H;obtain⟨z6,z8,H⟩:=H;replace H:(some (t9,z6))=some (a9,b4):=H;have z9:=aM z8;clear z8;obtain⟨rfl,rfl⟩:=q2 H;obtain⟨B0,B5,rfl⟩:=Kd.aj j8.out;go_wp2_with (first|((with_reducible refine gc 92 rfl ?_);refine gC 92 (some 37) Try.func92 #[.slice B0 j3.length B5] ?_;(with_reducible refine(Bzy.calls k1 (fun k_=>some k_=(.slice B0 j3.length B5:Value).ownBlock) (.slice B0 j3.length B5) j3 t9 w _ ?_ ?_ z3.out).mono ?_);exact pB;exact Kd.dJ rfl j8.out;rintro e B9 ⟨C0,rfl,C1,hb,hkp⟩;refine⟨_,rfl,?_⟩;have C2:=aM (Kd.ah (ok':=fun k_=>True) C1 (fun k_ hk_=>trivial));replace HB:=aM (hb);clear j8 hb hkp C1)|((with_reducible refine gd 39 rfl ?_);refine iL 39 [j4] ?_;intro C3 C4 C6 hb;replace C6:=rY z7 C6;have C7:=rL (rn C6 C2);replace C2:=rE C2 C6 hb;replace HB:=bB hb;clear hb C6;obtain⟨C8,C9,rfl⟩:=Kd.aj C7.out)|((with_reducible refine gc 92 rfl ?_);refine gC 92 (some 40) Try.func92 #[.slice C8 z4.length C9] ?_;(with_reducible refine(Bzy.calls k1 (fun k_=>some k_=(.slice C8 z4.length C9:Value).ownBlock) (.slice C8 z4.length C9) z4 z6 w _ ?_ ?_ z9.out).mono ?_);exact pB;exact Kd.dJ rfl C7.out;rintro e D4 ⟨D5,rfl,C1,hb,hkp⟩;refine⟨_,rfl,?_⟩;have D6:=aM (Kd.ah (ok':=fun k_=>oV C0 k_) C1 (fun k_ hk_=>Or.elim hk_ (fun hs_=>fun e_=>(((C2.out).1 k_ e_.symm).2) hs_) (fun hn_=>(Kd.fresh' (Kd.dS (rX C2.out)) k_ hn_))));replace C2:=aM (Kd.ah (ok':=fun k_=>oV D5 k_) (Kd.gX (C2.out) hkp (fun k_ hk_ hs_=>(hk_.2) hs_)) (fun k_ hk_=>fun e_=>Or.elim (C1.1 k_ e_.symm) (fun hs_=>hk_.2.1 hs_) (fun hn_=>Nat.not_le.2 hk_.2.2 hn_)));replace HB:=aM (hb);clear C7 hb hkp C1))
     go_ret2
     exact⟨_,_,eW,rX C2.out,rX D6.out,pB⟩
 ·rw[if_neg c3] at H;exact absurd H (by simp)


def Dzy.l0:Nat→List Int→Int→List Int→Int→Int→Int→Option (List Int)
 | 0,_,_,_,_,_,_=>none
 | k+1,x0,x1,x5,x6,x14,x15=>if x15 < x14 then(if 0≤x15 then(if x15 < (x0.length:Int) then(if x15 < (x5.length:Int) then(Dzy.l0 k x0 x1 (x5.set (x15:Int).toNat (Int.tmod (wrap64 ((wrap64 ((rd x0 x15) * x1))+x6)) 1000000000)) (wrap64 (Int.tdiv (wrap64 ((wrap64 ((rd x0 x15) * x1))+x6)) 1000000000)) x14 (wrap64 (x15+1))) else(none)) else(none)) else(none)) else(if 0≤(x0.length:Int) then(if(x0.length:Int) < (x5.length:Int) then(some (x5.set ((x0.length:Int):Int).toNat x6)) else(none)) else(none))
def Dzy.f (k:Nat) (l0:List Int) (a1:Int):Option (List Int):=if 0≤(wrap64 ((l0.length:Int)+1)) then(if(wrap64 ((l0.length:Int)+1):Int).toNat≤35184372088832 then(Dzy.l0 k l0 a1 (List.replicate (wrap64 ((l0.length:Int)+1):Int).toNat 0) 0 (l0.length:Int) 0) else(none)) else(none)
theorem Dzy.mono_l:∀ k,(∀ a6 a7 a8 a9 b4 b5,LeO (Dzy.l0 k a6 a7 a8 a9 b4 b5) (Dzy.l0 (k+1) a6 a7 a8 a9 b4 b5))
 | 0=>fun _ _ _ _ _ _ r h=>by simp [Dzy.l0] at h
 | k+1=>by
  have ih0:=Dzy.mono_l k
  ·intro a6 a7 a8 a9 b4 b5;unfold Dzy.l0;exact mM
theorem Dzy.mono:∀ a6 a7 k,LeO (Dzy.f k a6 a7) (Dzy.f (k+1) a6 a7):=by
 intro a6 a7 k;have ih0:=Dzy.mono_l k;unfold Dzy.f;exact mM
theorem Dzy.calls (k:Nat) (a6:Option Addr) (a7:Nat) (l0:List Int) (a8:Int) (r:List Int) (w:World) (a9:cI w a6 l0) (b4:l0.length≤a7) (h:Dzy.f k l0 a8=some r) :
  Calls Try.prog 113 #[.slice a6 l0.length a7,.int .i64 a8] w fun e w'=>∃ v0_:Value,e=.returned (v0_)∧rI w' w (fun _=>True) v0_ r∧bw w w':=by
 have b5:=aM a9;have b6:=aM b4;clear a9 b4;have HB:=aM (Below.refl w.heap.size w);have H:(if 0≤(wrap64 ((l0.length:Int)+1)) then(if(wrap64 ((l0.length:Int)+1):Int).toNat≤35184372088832 then(Dzy.l0 k l0 a8 (List.replicate (wrap64 ((l0.length:Int)+1):Int).toNat 0) 0 (l0.length:Int) 0) else(none)) else(none))=some r:=h
 clear h;obtain⟨b7,b8⟩:∃ j_:Int,(wrap64 ((l0.length:Int)+1))=j_:=⟨_,rfl⟩;replace H:(if 0≤(b7) then(if(b7:Int).toNat≤35184372088832 then(Dzy.l0 k l0 a8 (List.replicate (b7:Int).toNat 0) 0 (l0.length:Int) 0) else(none)) else(none))=some r:=by first|(rw[b8] at H;exact H)|(simp only[b8] at H ⊢;exact H)
 have b9:(IntKind.i64.wrap ((l0.length:Int)+1))=b7:=(aH _).trans b8;by_cases c4:0≤(b7)
 ·rw[if_pos c4] at H;have d6:=eq_true c4;have d7:=dE c4;clear c4;obtain⟨c5,H⟩:=iO H;have d8:=eq_true c5;have d9:decide ((b7:Int).toNat≤35184372088832)=true:=dE c5;clear c5;obtain⟨e6,e7⟩:∃ y_:List Int,y_=(List.replicate (b7:Int).toNat 0):=⟨_,rfl⟩;replace H:(Dzy.l0 k l0 a8 e6 0 (l0.length:Int) 0)=some r:=yE e7 H
  have f6:=aM e7;clear e7;have H':=aM H;clear H;go_enter Try.func113,Try.ntmps113
  go_wp2_with (first|((with_reducible refine dY (N:=12) rfl ?_);refine Kd.kz (Kd.int .i64) _ 3 rfl (N:=12) rfl 30 _ _ rfl b7 rfl rfl Try.underlying30 (.int .i64 0) 8 info3 rfl (by decide) (by omega) 0 (ok:=fun _=>True) (okp:=fun _=>True) rfl (fun _ hk=>hk) trivial (oE aS) (Nat.le_trans (Nat.mul_le_mul_right _ (oE aS:b7.toNat≤35184372088832)) (by omega)) (Below.refl _ _) (Nat.le_refl _) ?_;intro f7 f8 g5 hb hg_ hnew_;clear hg_ hnew_;replace g5:=rY f6 g5;have g8:=rL g5;replace HB:=bB hb;clear hb g5))
  go_loopg [6,15] k (fun kq g9 j3 w'=>∃ (j4:List Int) (j5:Int) (j6:Int),g9=.int .i64 j5∧j3=.int .i64 j6∧ae (Dzy.l0 kq l0 a8 j4 j5 (l0.length:Int) j6=some r)∧ae (kq≤k)∧ae (rI w' w (fun _=>True) f7 j4)∧ae (bw w w'))
  case atStart=>exact⟨(e6),(0),(0),sD,sD,H',⟨Nat.le_refl _⟩,⟨rX g8.out⟩,⟨pB⟩⟩
  case round =>
   clear H';try clear j7
   obtain⟨j4,j5,j6,rfl,rfl,HA,j8,j9,HB⟩:=hrel;cases gk with
   | zero=>exact absurd HA.out (by simp [Dzy.l0])
   | succ k1 =>
    have H:=HA.out;clear HA;simp only[Dzy.l0] at H;replace H:=iD H;rcases H with⟨l5,H⟩|⟨l5,H⟩
    ·obtain⟨l6,H⟩:=iN H;obtain⟨l7,H⟩:=iN H;obtain⟨l8,H⟩:=iN H;obtain⟨l9,m0⟩:∃ y_:List Int,y_=(j4.set (j6:Int).toNat (Int.tmod (wrap64 ((wrap64 ((rd l0 j6) * a8))+j5)) 1000000000)):=⟨_,rfl⟩;replace H:(Dzy.l0 k1 l0 a8 l9 (wrap64 (Int.tdiv (wrap64 ((wrap64 ((rd l0 j6) * a8))+j5)) 1000000000)) (l0.length:Int) (wrap64 (j6+1)))=some r:=yE m0 H
     have m4:=aM m0;clear m0;have H':=aM H;clear H;obtain⟨m5,m6,m7,m8,m9⟩:=aI b5.out j6;cases m6
     replace m7:=hB HB m7;have n0:0≤(j6:Int):=oE aS
     have n7:(j6:Int) < ((j4.length:Int):Int):=oE aS
     obtain⟨n8,n9,o0,o8,o9,p9,r6⟩:=Kd.fu j9.out (by omega)
     (first|cases o0|(injection o0 with ea_ en_ ec_;(first|subst ea_|(injection ea_ with ea_;subst ea_));subst ec_;clear en_))
     have r7:=aM o8;have r8:=aM r6;clear o8 o9 r6;obtain⟨r9,t4⟩:=Kd.bU 0 j9.out (j6:Int) n0 n7;replace n0:=eq_true n0;replace n7:=eq_true n7;have t5:=Kd.dX j9.out (j6:Int) (Int.tmod (wrap64 ((wrap64 ((rd l0 j6) * a8))+j5)) 1000000000);go_wp2_with (first|((with_reducible refine bH (t:=3) (p:=32) rfl ?_);refine aZ (t:=3) (p:=32) (v:=?vo_w14) (w1:=(wr.setCell ⟨n8,(j6:Int).toNat,none⟩ (.int .i64 (Int.tmod (wrap64 ((wrap64 ((rd l0 j6) * a8))+j5)) 1000000000)))) ?hg ?ho ?hn ?hr ?_;(case ho=>rfl);(case hg=>rfl);(case hn=>rfl);(case hr=>first|(go_simp;done)|(go_simp;rfl));intro t6 hw;have hg:wr.grownBy t6 (some n8):=(by rw[hw];exact t5.2);have hp_:rI t6 w (fun _=>True) (.slice (some ⟨n8,0,none⟩) j4.length n9) l9:=(by rw[hw,m4.out];exact t5.1);clear t5;replace j9:=aM (hp_);replace HB:=aM ((by rw[hw];exact cZ (HB.out) r7.out:bw w t6));clear hg hw hp_))
     go_roundg k1
     case measure=>have:=j8.out;omega
     case rel=>exact⟨(l9),(wrap64 (Int.tdiv (wrap64 ((wrap64 ((rd l0 j6) * a8))+j5)) 1000000000)),(wrap64 (j6+1)),sD,sD,H',⟨by have:=j8.out;omega⟩,⟨rX j9.out⟩,⟨pB⟩⟩
    ·obtain⟨t7,H⟩:=iO H;have t8:decide (0≤(l0.length:Int))=true:=dE t7;have t9:decide (0≤l0.length)=true:=dE (by omega)
     clear t7;obtain⟨z3,H⟩:=iO H;have z4:decide ((l0.length:Int) < (j4.length:Int))=true:=dE z3;have z5:decide (l0.length < j4.length)=true:=dE (Int.ofNat_lt.mp z3);clear z3;obtain⟨z6,z7⟩:∃ y_:List Int,y_=(j4.set ((l0.length:Int):Int).toNat j5):=⟨_,rfl⟩;replace H:(some z6)=some r:=yE z7 H
     have z8:=aM z7;clear z7;obtain rfl:=Option.some.inj H;have z9:0≤((l0.length:Int):Int):=oE aS
     have B0:((l0.length:Int):Int) < ((j4.length:Int):Int):=oE aS
     obtain⟨B5,B9,C0,C1,C2,C3,C4⟩:=Kd.fu j9.out (by omega)
     (first|cases C0|(injection C0 with ea_ en_ ec_;(first|subst ea_|(injection ea_ with ea_;subst ea_));subst ec_;clear en_))
     have C6:=aM C1;have C7:=aM C4;clear C1 C2 C4;obtain⟨C8,C9⟩:=Kd.bU 0 j9.out ((l0.length:Int):Int) z9 B0;(try simp only[Int.toNat_natCast] at C8)
     (try simp only[Int.toNat_natCast] at C9)
     replace z9:=eq_true z9;replace B0:=eq_true B0;have D4:=Kd.dX j9.out ((l0.length:Int):Int) j5;go_wp2_with (first|((with_reducible refine bH (t:=3) (p:=38) rfl ?_);refine aZ (t:=3) (p:=38) (v:=?vo_w19) (w1:=(wr.setCell ⟨B5,((l0.length:Int):Int).toNat,none⟩ (.int .i64 j5))) ?hg ?ho ?hn ?hr ?_;(case ho=>rfl);(case hg=>rfl);(case hn=>rfl);(case hr=>first|(go_simp;done)|(go_simp;rfl));intro D5 hw;have hg:wr.grownBy D5 (some B5):=(by rw[hw];exact D4.2);have hp_:rI D5 w (fun _=>True) (.slice (some ⟨B5,0,none⟩) j4.length B9) z6:=(by rw[hw,z8.out];exact D4.1);clear D4;replace j9:=aM (hp_);replace HB:=aM ((by rw[hw];exact cZ (HB.out) C6.out:bw w D5));clear hg hw hp_))
     go_ret
     exact⟨_,by first|rfl|(simp [bv,bC] <;> rfl)|(simp only[← b8];first|rfl|(simp [bv,bC] <;> rfl))|(simp [*,bv,bC] <;> rfl),rX j9.out,pB⟩
 ·rw[if_neg c4] at H;exact absurd H (by simp)


mutual
def Czm.l0:Nat→List Int→List Int→Int→Int→Int→Int→Option (Int)
 | 0,_,_,_,_,_,_=>none
 | k+1,x0,x1,x5,x6,x8,x9=>if x8≥1000000000 then(Czm.j1 k x0 x1 x5 x6 x8 x9 true) else(if 0≤(wrap64 (x6 - 1)) then(if(wrap64 (x6 - 1)) < (x1.length:Int) then(if 0≤(wrap64 (x5 - 2)) then(if(wrap64 (x5 - 2)) < (x0.length:Int) then(Czm.j1 k x0 x1 x5 x6 x8 x9 (decide ((wrap64 (x8 * (rd x1 (wrap64 (x6 - 1))))) > (wrap64 ((wrap64 (x9 * 1000000000))+(rd x0 (wrap64 (x5 - 2)))))))) else(none)) else(none)) else(none)) else(none))
def Czm.j1:Nat→List Int→List Int→Int→Int→Int→Int→Bool→Option (Int)
 | 0,_,_,_,_,_,_,_=>none
 | k+1,x0,x1,x5,x6,x8,x9,x58=>if x58=true then(if 0≤x6 then(if x6 < (x1.length:Int) then(if(wrap64 (x9+(rd x1 x6)))≥1000000000 then(some (wrap64 (x8 - 1))) else(Czm.l0 k x0 x1 x5 x6 (wrap64 (x8 - 1)) (wrap64 (x9+(rd x1 x6))))) else(none)) else(none)) else(some x8)
end
def Czm.f (k:Nat) (l0:List Int) (l1:List Int):Option (Int):=if 0≤(wrap64 ((l0.length:Int) - 1)) then(if(wrap64 ((l0.length:Int) - 1)) < (l0.length:Int) then(if 0≤(wrap64 ((wrap64 ((l0.length:Int) - 1)) - 1)) then(if(wrap64 ((wrap64 ((l0.length:Int) - 1)) - 1)) < (l0.length:Int) then(if 0≤(wrap64 ((l1.length:Int) - 1)) then(if(wrap64 ((l1.length:Int) - 1)) < (l1.length:Int) then(if(rd l1 (wrap64 ((l1.length:Int) - 1)))=0 then(none) else(Czm.l0 k l0 l1 (wrap64 ((l0.length:Int) - 1)) (wrap64 ((l1.length:Int) - 1)) (wrap64 (Int.tdiv (wrap64 ((wrap64 ((rd l0 (wrap64 ((l0.length:Int) - 1))) * 1000000000))+(rd l0 (wrap64 ((wrap64 ((l0.length:Int) - 1)) - 1))))) (rd l1 (wrap64 ((l1.length:Int) - 1))))) (Int.tmod (wrap64 ((wrap64 ((rd l0 (wrap64 ((l0.length:Int) - 1))) * 1000000000))+(rd l0 (wrap64 ((wrap64 ((l0.length:Int) - 1)) - 1))))) (rd l1 (wrap64 ((l1.length:Int) - 1)))))) else(none)) else(none)) else(none)) else(none)) else(none)) else(none)
theorem Czm.mono_l:∀ k,(∀ a6 a7 a8 a9 b4 b5,LeO (Czm.l0 k a6 a7 a8 a9 b4 b5) (Czm.l0 (k+1) a6 a7 a8 a9 b4 b5))∧(∀ a6 a7 a8 a9 b4 b5 b6,LeO (Czm.j1 k a6 a7 a8 a9 b4 b5 b6) (Czm.j1 (k+1) a6 a7 a8 a9 b4 b5 b6))
 | 0=>⟨fun _ _ _ _ _ _ r h=>by simp [Czm.l0] at h,fun _ _ _ _ _ _ _ r h=>by simp [Czm.j1] at h⟩
 | k+1=>by
  obtain⟨ih0,ih1⟩:=Czm.mono_l k;refine⟨?_,?_⟩
  ·intro a6 a7 a8 a9 b4 b5;unfold Czm.l0;exact mM
  ·intro a6 a7 a8 a9 b4 b5 b6;unfold Czm.j1;exact mM
theorem Czm.mono:∀ a6 a7 k,LeO (Czm.f k a6 a7) (Czm.f (k+1) a6 a7):=by
 intro a6 a7 k;obtain⟨ih0,ih1⟩:=Czm.mono_l k;unfold Czm.f;exact mM
theorem Czm.calls (k:Nat) (a6:Option Addr) (a7:Nat) (l0:List Int) (a8:Option Addr) (a9:Nat) (l1:List Int) (r:Int) (w:World) (b4:cI w a6 l0) (b5:l0.length≤a7) (b6:cI w a8 l1) (b7:l1.length≤a9) (h:Czm.f k l0 l1=some r) :
  Calls Try.prog 114 #[.slice a6 l0.length a7,.slice a8 l1.length a9] w fun e w'=>e=.returned (.int .i64 r)∧dC w w':=by
 have b8:=aM b4;have b9:=aM b5;clear b4 b5;have d6:=aM b6;have d7:=aM b7;clear b6 b7;have H:(if 0≤(wrap64 ((l0.length:Int) - 1)) then(if(wrap64 ((l0.length:Int) - 1)) < (l0.length:Int) then(if 0≤(wrap64 ((wrap64 ((l0.length:Int) - 1)) - 1)) then(if(wrap64 ((wrap64 ((l0.length:Int) - 1)) - 1)) < (l0.length:Int) then(if 0≤(wrap64 ((l1.length:Int) - 1)) then(if(wrap64 ((l1.length:Int) - 1)) < (l1.length:Int) then(if(rd l1 (wrap64 ((l1.length:Int) - 1)))=0 then(none) else(Czm.l0 k l0 l1 (wrap64 ((l0.length:Int) - 1)) (wrap64 ((l1.length:Int) - 1)) (wrap64 (Int.tdiv (wrap64 ((wrap64 ((rd l0 (wrap64 ((l0.length:Int) - 1))) * 1000000000))+(rd l0 (wrap64 ((wrap64 ((l0.length:Int) - 1)) - 1))))) (rd l1 (wrap64 ((l1.length:Int) - 1))))) (Int.tmod (wrap64 ((wrap64 ((rd l0 (wrap64 ((l0.length:Int) - 1))) * 1000000000))+(rd l0 (wrap64 ((wrap64 ((l0.length:Int) - 1)) - 1))))) (rd l1 (wrap64 ((l1.length:Int) - 1)))))) else(none)) else(none)) else(none)) else(none)) else(none)) else(none))=some r:=h
 clear h;obtain⟨d8,d9⟩:∃ j_:Int,(wrap64 ((l0.length:Int) - 1))=j_:=⟨_,rfl⟩;replace H:(if 0≤(d8) then(if(d8) < (l0.length:Int) then(if 0≤(wrap64 ((d8) - 1)) then(if(wrap64 ((d8) - 1)) < (l0.length:Int) then(if 0≤(wrap64 ((l1.length:Int) - 1)) then(if(wrap64 ((l1.length:Int) - 1)) < (l1.length:Int) then(if(rd l1 (wrap64 ((l1.length:Int) - 1)))=0 then(none) else(Czm.l0 k l0 l1 d8 (wrap64 ((l1.length:Int) - 1)) (wrap64 (Int.tdiv (wrap64 ((wrap64 ((rd l0 (d8)) * 1000000000))+(rd l0 (wrap64 ((d8) - 1))))) (rd l1 (wrap64 ((l1.length:Int) - 1))))) (Int.tmod (wrap64 ((wrap64 ((rd l0 (d8)) * 1000000000))+(rd l0 (wrap64 ((d8) - 1))))) (rd l1 (wrap64 ((l1.length:Int) - 1)))))) else(none)) else(none)) else(none)) else(none)) else(none)) else(none))=some r:=by first|(rw[d9] at H;exact H)|(simp only[d9] at H ⊢;exact H)
 have e6:(IntKind.i64.wrap ((l0.length:Int) - 1))=d8:=(aH _).trans d9;by_cases c4:0≤(d8)
 ·rw[if_pos c4] at H;have e7:=dE c4;clear c4;obtain⟨f6,H⟩:=iN H;obtain⟨f7,f8⟩:∃ j_:Int,(wrap64 ((d8) - 1))=j_:=⟨_,rfl⟩;replace H:(if 0≤(f7) then(if(f7) < (l0.length:Int) then(if 0≤(wrap64 ((l1.length:Int) - 1)) then(if(wrap64 ((l1.length:Int) - 1)) < (l1.length:Int) then(if(rd l1 (wrap64 ((l1.length:Int) - 1)))=0 then(none) else(Czm.l0 k l0 l1 d8 (wrap64 ((l1.length:Int) - 1)) (wrap64 (Int.tdiv (wrap64 ((wrap64 ((rd l0 (d8)) * 1000000000))+(rd l0 (f7)))) (rd l1 (wrap64 ((l1.length:Int) - 1))))) (Int.tmod (wrap64 ((wrap64 ((rd l0 (d8)) * 1000000000))+(rd l0 (f7)))) (rd l1 (wrap64 ((l1.length:Int) - 1)))))) else(none)) else(none)) else(none)) else(none))=some r:=by first|(rw[f8] at H;exact H)|(simp only[f8] at H ⊢;exact H)
  have g5:(IntKind.i64.wrap ((d8) - 1))=f7:=(aH _).trans f8;obtain⟨g8,H⟩:=iN H;obtain⟨g9,H⟩:=iN H;obtain⟨j3,j4⟩:∃ j_:Int,(wrap64 ((l1.length:Int) - 1))=j_:=⟨_,rfl⟩;replace H:(if 0≤(j3) then(if(j3) < (l1.length:Int) then(if(rd l1 (j3))=0 then(none) else(Czm.l0 k l0 l1 d8 j3 (wrap64 (Int.tdiv (wrap64 ((wrap64 ((rd l0 (d8)) * 1000000000))+(rd l0 (f7)))) (rd l1 (j3)))) (Int.tmod (wrap64 ((wrap64 ((rd l0 (d8)) * 1000000000))+(rd l0 (f7)))) (rd l1 (j3))))) else(none)) else(none))=some r:=by first|(rw[j4] at H;exact H)|(simp only[j4] at H ⊢;exact H)
  have j5:(IntKind.i64.wrap ((l1.length:Int) - 1))=j3:=(aH _).trans j4;obtain⟨j6,H⟩:=iN H;obtain⟨j7,H⟩:=iN H;obtain⟨j8,H⟩:=iM H;have j9:((rd l1 (j3)) == 0)=false:=beq_eq_false_iff_ne.mpr j8;have l5:((rd l1 (j3)) != 0)=true:=bne_iff_ne.mpr j8;have H':=aM H;clear H;obtain⟨l6,l7,l8,l9,m0⟩:=aI b8.out (d8);cases l7;obtain⟨m4,m5,m6,m7,m8⟩:=aI b8.out (f7);obtain rfl:l6=m4:=(by injection m5);obtain⟨m9,n0,n7,n8,n9⟩:=aI d6.out (j3);cases n0;obtain⟨o0,o8,o9,p9,r6⟩:=aI d6.out (j3);obtain rfl:m9=o0:=(by injection o8);go_enter Try.func114,Try.ntmps114
  go_wp2
  repeat(go_quiet (fail);try go_wp2)
  go_loopg [8,9] k (fun kq r7 r8 w'=>∃ (r9:Int) (t4:Int),r7=.int .i64 r9∧r8=.int .i64 t4∧ae (Czm.l0 kq l0 l1 d8 j3 r9 t4=some r)∧ae (kq≤k)∧dC w w')
  case atStart=>exact⟨(wrap64 (Int.tdiv (wrap64 ((wrap64 ((rd l0 (d8)) * 1000000000))+(rd l0 (f7)))) (rd l1 (j3)))),(Int.tmod (wrap64 ((wrap64 ((rd l0 (d8)) * 1000000000))+(rd l0 (f7)))) (rd l1 (j3))),(by first|rfl|(simp;done)|(simp only[← d9,← f8,← j4] <;> (first|rfl|simp))|(simp [*];done)),(by first|rfl|(simp;done)|(simp only[← d9,← f8,← j4] <;> (first|rfl|simp))|(simp [*];done)),H',⟨Nat.le_refl _⟩,dR⟩
  case round =>
   clear H';try clear a9
   obtain⟨r9,t4,rfl,rfl,HA,t5,⟨t6,rfl⟩⟩:=hrel;cases gk with
   | zero=>exact absurd HA.out (by simp [Czm.l0])
   | succ k1 =>
    have H:=HA.out;clear HA;simp only[Czm.l0] at H;have t7:=aM H;clear H;go_upto_region 4 with (fail)
    repeat(go_quiet (fail);go_upto_region 4 with (fail))
    go_cut [58] (fun t8 wc=>∃ (kq:Nat) (t9:Bool),t8=.bool t9∧ae (Czm.j1 kq l0 l1 d8 j3 r9 t4 t9=some r)∧ae (kq≤k1)∧dC w wc)
    case first =>
     have H:=t7.out;clear t7;by_cases z3:r9≥1000000000
     ·rw[if_pos z3] at H;have z4:decide (1000000000≤r9)=true:=dE z3;clear z3;(first|rw[z4]|(simp only[aH,bg];rw[z4])|skip)
      have H':=aM H;clear H;go_wp2
      repeat(go_quiet (fail);try go_wp2)
      go_meet
      case rel=>exact⟨_,(true),sD,H',⟨by have:=t5.out;first|omega|exact Nat.le_refl _⟩,dR⟩
     ·rw[if_neg z3] at H;have z4:decide (1000000000≤r9)=false:=decide_eq_false z3;clear z3;(first|rw[z4]|(simp only[aH,bg];rw[z4])|skip)
      obtain⟨z5,z6⟩:∃ j_:Int,(wrap64 (j3 - 1))=j_:=⟨_,rfl⟩;replace H:(if 0≤(z5) then(if(z5) < (l1.length:Int) then(if 0≤(wrap64 (d8 - 2)) then(if(wrap64 (d8 - 2)) < (l0.length:Int) then(Czm.j1 k1 l0 l1 d8 j3 r9 t4 (decide ((wrap64 (r9 * (rd l1 (z5)))) > (wrap64 ((wrap64 (t4 * 1000000000))+(rd l0 (wrap64 (d8 - 2)))))))) else(none)) else(none)) else(none)) else(none))=some r:=by first|(rw[z6] at H;exact H)|(simp only[z6] at H ⊢;exact H)
      have z7:(IntKind.i64.wrap (j3 - 1))=z5:=(aH _).trans z6;obtain⟨z8,H⟩:=iN H;obtain⟨z9,H⟩:=iN H;obtain⟨B0,B5⟩:∃ j_:Int,(wrap64 (d8 - 2))=j_:=⟨_,rfl⟩;replace H:(if 0≤(B0) then(if(B0) < (l0.length:Int) then(Czm.j1 k1 l0 l1 d8 j3 r9 t4 (decide ((wrap64 (r9 * (rd l1 (z5)))) > (wrap64 ((wrap64 (t4 * 1000000000))+(rd l0 (B0))))))) else(none)) else(none))=some r:=by first|(rw[B5] at H;exact H)|(simp only[B5] at H ⊢;exact H)
      have B9:(IntKind.i64.wrap (d8 - 2))=B0:=(aH _).trans B5;obtain⟨C0,H⟩:=iN H;obtain⟨C1,H⟩:=iN H;have H':=aM H;clear H;obtain⟨C2,C3,C4,C6,C7⟩:=aI d6.out (z5);obtain rfl:m9=C2:=(by injection C3);obtain⟨C8,C9,D4,D5,D6⟩:=aI b8.out (B0);obtain rfl:l6=C8:=(by injection C9);go_wp2
      repeat(go_quiet (fail);try go_wp2)
      go_meet
      case rel=>exact⟨_,(decide ((wrap64 (r9 * (rd l1 (z5)))) > (wrap64 ((wrap64 (t4 * 1000000000))+(rd l0 (B0)))))),(by first|rfl|(simp;done)|(simp only[← z6,← B5] <;> (first|rfl|simp))|(simp [*];done)),H',⟨by have:=t5.out;first|omega|exact Nat.le_refl _⟩,dR⟩
    case rest =>
     clear t7;try clear a9
     obtain⟨kq,t9,rfl,HA,D7,⟨mc12,rfl⟩⟩:=hcut;cases kq with
     | zero=>exact absurd HA.out (by simp [Czm.j1])
     | succ D8 =>
      have H:=HA.out;clear HA;simp only[Czm.j1] at H;by_cases D9:t9=true
      ·subst D9;rw[if_pos rfl] at H;obtain⟨E0,H⟩:=iN H;obtain⟨E1,H⟩:=iN H;by_cases E2:(wrap64 (t4+(rd l1 j3)))≥1000000000
       ·rw[if_pos E2] at H;have E3:decide (1000000000≤(wrap64 (t4+(rd l1 j3))))=true:=dE E2;have E4:decide (1000000000≤(IntKind.i64.wrap (t4+(rd l1 j3))))=true:=by have h_:=E3;first|exact h_|(simp only[aH];exact h_)
        clear E2;obtain rfl:=Option.some.inj H;obtain⟨E5,E6,E7,E8,E9⟩:=aI d6.out j3;obtain rfl:m9=E5:=(by injection E6);go_wp2
        repeat(go_quiet (fail);try go_wp2)
        go_ret
        exact⟨by first|rfl|(simp;done)|(simp only[← d9,← f8,← j4] <;> (first|rfl|simp))|(simp [*];done),dR⟩
       ·rw[if_neg E2] at H;have E3:decide (1000000000≤(wrap64 (t4+(rd l1 j3))))=false:=decide_eq_false E2;have E4:decide (1000000000≤(IntKind.i64.wrap (t4+(rd l1 j3))))=false:=by have h_:=E3;first|exact h_|(simp only[aH];exact h_)
        clear E2;have H':=aM H;clear H;obtain⟨E5,E6,E7,E8,E9⟩:=aI d6.out j3;obtain rfl:m9=E5:=(by injection E6);go_wp2
        repeat(go_quiet (fail);try go_wp2)
        go_roundg D8
        case measure=>have:=t5.out;have:=D7.out;omega
        case rel=>exact⟨(wrap64 (r9 - 1)),(wrap64 (t4+(rd l1 j3))),sD,(by first|rfl|(simp;done)|(simp only[← j4] <;> (first|rfl|simp))|(simp [*];done)),H',⟨by have:=t5.out;have:=D7.out;omega⟩,dR⟩
      ·obtain rfl:=bN D9;rw[if_neg nF] at H
       obtain rfl:=Option.some.inj H;go_wp2
       repeat(go_quiet (fail);try go_wp2)
       go_ret
       exact⟨by first|rfl|(simp;done)|(simp only[← d9,← f8,← j4] <;> (first|rfl|simp))|(simp [*];done),dR⟩
 ·rw[if_neg c4] at H;exact absurd H (by simp)


def Czk.l0:Nat→List Int→List Int→Int→Int→Int→Int→Option (Bool × List Int)
 | 0,_,_,_,_,_,_=>none
 | k+1,x0,x1,x2,x7,x11,x12=>if x12 < x11 then(if 0≤x12 then(if x12 < (x0.length:Int) then(if x12 < (x1.length:Int) then(if(wrap64 ((wrap64 ((rd x0 x12) - x7)) - (wrap64 (x2 * (rd x1 x12))))) < 0 then(Czk.l0 k (x0.set (x12:Int).toNat (wrap64 ((wrap64 ((wrap64 ((rd x0 x12) - x7)) - (wrap64 (x2 * (rd x1 x12)))))+(wrap64 ((wrap64 (Int.tdiv (wrap64 ((wrap64 ((wrap64 (-(wrap64 ((wrap64 ((rd x0 x12) - x7)) - (wrap64 (x2 * (rd x1 x12)))))))+1000000000)) - 1)) 1000000000)) * 1000000000))))) x1 x2 (wrap64 (Int.tdiv (wrap64 ((wrap64 ((wrap64 (-(wrap64 ((wrap64 ((rd x0 x12) - x7)) - (wrap64 (x2 * (rd x1 x12)))))))+1000000000)) - 1)) 1000000000)) x11 (wrap64 (x12+1))) else(Czk.l0 k (x0.set (x12:Int).toNat (wrap64 ((wrap64 ((rd x0 x12) - x7)) - (wrap64 (x2 * (rd x1 x12)))))) x1 x2 0 x11 (wrap64 (x12+1)))) else(if(wrap64 ((rd x0 x12) - x7)) < 0 then(Czk.l0 k (x0.set (x12:Int).toNat (wrap64 ((wrap64 ((rd x0 x12) - x7))+(wrap64 ((wrap64 (Int.tdiv (wrap64 ((wrap64 ((wrap64 (-(wrap64 ((rd x0 x12) - x7))))+1000000000)) - 1)) 1000000000)) * 1000000000))))) x1 x2 (wrap64 (Int.tdiv (wrap64 ((wrap64 ((wrap64 (-(wrap64 ((rd x0 x12) - x7))))+1000000000)) - 1)) 1000000000)) x11 (wrap64 (x12+1))) else(Czk.l0 k (x0.set (x12:Int).toNat (wrap64 ((rd x0 x12) - x7))) x1 x2 0 x11 (wrap64 (x12+1))))) else(none)) else(none)) else(some (decide (x7 > 0),x0))
def Czk.f (k:Nat) (l0:List Int) (l1:List Int) (a2:Int):Option (Bool × List Int):=Czk.l0 k l0 l1 a2 0 (l0.length:Int) 0
theorem Czk.mono_l:∀ k,(∀ a6 a7 a8 a9 b4 b5,LeO (Czk.l0 k a6 a7 a8 a9 b4 b5) (Czk.l0 (k+1) a6 a7 a8 a9 b4 b5))
 | 0=>fun _ _ _ _ _ _ r h=>by simp [Czk.l0] at h
 | k+1=>by
  have ih0:=Czk.mono_l k
  ·intro a6 a7 a8 a9 b4 b5;unfold Czk.l0;exact mM
theorem Czk.mono:∀ a6 a7 a8 k,LeO (Czk.f k a6 a7 a8) (Czk.f (k+1) a6 a7 a8):=by
 intro a6 a7 a8 k;have ih0:=Czk.mono_l k;unfold Czk.f;exact mM
theorem Czk.calls (k:Nat) (a6:Nat→Prop) (u9000_:Value) (l0:List Int) (a7:Option Addr) (a8:Nat) (l1:List Int) (a9:Int) (b4:Bool) (b5:List Int) (b6 w:World) (hB:Below b6.heap.size b6 w) (b7:Kd.R (Kd.int .i64) 3 w b6.heap.size a6 u9000_ l0) (b8:∀ W_,Kept w W_ (fun k_=>a6 k_)→cI W_ a7 l1) (b9:l1.length≤a8) (h:Czk.f k l0 l1 a9=some (b4,b5)) :
  Calls Try.prog 115 #[u9000_,.slice a7 l1.length a8,.int .i64 a9] w fun e w'=>e=.returned (.bool b4)∧Kd.R (Kd.int .i64) 3 w' b6.heap.size (fun k_=>(a6 k_∨w.heap.size≤k_)) u9000_ b5∧Below b6.heap.size b6 w'∧Kept w w' (fun k_=>a6 k_):=by
 have d6:=aM (show Kd.R (Kd.int .i64) 3 w b6.heap.size (fun k_=>(a6 k_∨w.heap.size≤k_)) u9000_ l0 from Kd.ah b7 (fun k_ hk=>(.inl hk)))
 have d7:=aM b8;have d8:=aM b9;clear b8 b9;have HK:=aM (Kept.refl w (fun k_=>a6 k_))
 have HW0:=aM hB.size;have HB:=aM hB;clear hB;have H:(Czk.l0 k l0 l1 a9 0 (l0.length:Int) 0)=some (b4,b5):=h;clear h;have H':=aM H;clear H;obtain⟨d9,e6,rfl⟩:=Kd.aj d6.out;go_enter Try.func115,Try.ntmps115
 go_wp2
 go_loopg [7,12] k (fun kq e7 f6 w'=>∃ (f7:List Int) (f8:Int) (g5:Int),e7=.int .i64 f8∧f6=.int .i64 g5∧ae (Czk.l0 kq f7 l1 a9 f8 (l0.length:Int) g5=some (b4,b5))∧ae (kq≤k)∧ae (Kd.R (Kd.int .i64) 3 w' b6.heap.size (fun k_=>(a6 k_∨w.heap.size≤k_)) (.slice d9 l0.length e6) f7)∧ae (Kept w w' (fun k_=>a6 k_))∧ae (Below b6.heap.size b6 w'))
 case atStart=>exact⟨(l0),(0),(0),sD,sD,H',⟨Nat.le_refl _⟩,⟨rX d6.out⟩,⟨kK HK⟩,⟨pB⟩⟩
 case round =>
  clear H';try clear a8
  obtain⟨f7,f8,g5,rfl,rfl,HA,g8,g9,HK,HB⟩:=hrel;have j3:=(Kd.ax g9.out).1;rw[j3] at g9;(try simp only[j3])
  cases gk with
  | zero=>exact absurd HA.out (by simp [Czk.l0])
  | succ k1 =>
   have H:=HA.out;clear HA;simp only[Czk.l0] at H;by_cases c5:g5 < (l0.length:Int)
   ·rw[if_pos c5] at H;have j4:=dE c5;have j5:=j4;(try simp only[j3] at j5)
    clear c5;obtain⟨j6,H⟩:=iN H;obtain⟨c7,H⟩:=iO H;have j7:decide (g5 < (f7.length:Int))=true:=dE c7;have j8:=j7;(try simp only[j3] at j8)
    clear c7;by_cases c8:g5 < (l1.length:Int)
    ·rw[if_pos c8] at H;have j9:=dE c8;have l5:=j9;(try simp only[j3] at l5)
     clear c8;by_cases c9:(wrap64 ((wrap64 ((rd f7 g5) - f8)) - (wrap64 (a9 * (rd l1 g5))))) < 0
     ·rw[if_pos c9] at H;have l6:decide ((wrap64 ((wrap64 ((rd f7 g5) - f8)) - (wrap64 (a9 * (rd l1 g5))))) < 0)=true:=dE c9;have l7:decide ((IntKind.i64.wrap ((IntKind.i64.wrap ((rd f7 g5) - f8)) - (IntKind.i64.wrap (a9 * (rd l1 g5))))) < 0)=true:=by have h_:=l6;first|exact h_|(simp only[aH];exact h_)
      clear c9;obtain⟨l8,l9⟩:∃ y_:List Int,y_=(f7.set (g5:Int).toNat (wrap64 ((wrap64 ((wrap64 ((rd f7 g5) - f8)) - (wrap64 (a9 * (rd l1 g5)))))+(wrap64 ((wrap64 (Int.tdiv (wrap64 ((wrap64 ((wrap64 (-(wrap64 ((wrap64 ((rd f7 g5) - f8)) - (wrap64 (a9 * (rd l1 g5)))))))+1000000000)) - 1)) 1000000000)) * 1000000000))))):=⟨_,rfl⟩;replace H:(Czk.l0 k1 l8 l1 a9 (wrap64 (Int.tdiv (wrap64 ((wrap64 ((wrap64 (-(wrap64 ((wrap64 ((rd f7 g5) - f8)) - (wrap64 (a9 * (rd l1 g5)))))))+1000000000)) - 1)) 1000000000)) (l0.length:Int) (wrap64 (g5+1)))=some (b4,b5):=yE l9 H
      have m0:=aM l9;clear l9;have H':=aM H;clear H;obtain⟨m4,m5,m6,m7,m8⟩:=aI (Kd.ax g9.out).2.2 g5;cases m5;obtain⟨m9,n0,n7,n8,n9⟩:=aI (Kd.jl d7.out HK.out) g5;cases n0;have o0:0≤(g5:Int):=oE aS
      have o8:(g5:Int) < ((f7.length:Int):Int):=oE aS
      obtain⟨o9,p9,r6,r7,r8,r9,t4⟩:=Kd.fu g9.out (by omega)
      (first|cases r6|(injection r6 with ea_ en_ ec_;(first|subst ea_|(injection ea_ with ea_;subst ea_));subst ec_;clear en_))
      have t5:=aM r7;have t6:=aM t4;clear r7 r8 t4;have HMgo10:=aM (show(a6 o9∨w.heap.size≤o9) from(g9.out.1 _ rfl))
      (first|simp only[add_plain] at m6|skip)
      obtain⟨t7,t8⟩:=Kd.bU 0 g9.out (g5:Int) o0 o8;replace o0:=eq_true o0;replace o8:=eq_true o8;have t9:=Kd.dX g9.out (g5:Int) (wrap64 ((wrap64 ((wrap64 ((rd f7 g5) - f8)) - (wrap64 (a9 * (rd l1 g5)))))+(wrap64 ((wrap64 (Int.tdiv (wrap64 ((wrap64 ((wrap64 (-(wrap64 ((wrap64 ((rd f7 g5) - f8)) - (wrap64 (a9 * (rd l1 g5)))))))+1000000000)) - 1)) 1000000000)) * 1000000000))));go_wp2_with (first|((with_reducible refine bH (t:=3) (p:=47) rfl ?_);refine aZ (t:=3) (p:=47) (v:=?vo_w12) (w1:=(wr.setCell ⟨o9,(g5:Int).toNat,none⟩ (.int .i64 (wrap64 ((wrap64 ((wrap64 ((rd f7 g5) - f8)) - (wrap64 (a9 * (rd l1 g5)))))+(wrap64 ((wrap64 (Int.tdiv (wrap64 ((wrap64 ((wrap64 (-(wrap64 ((wrap64 ((rd f7 g5) - f8)) - (wrap64 (a9 * (rd l1 g5)))))))+1000000000)) - 1)) 1000000000)) * 1000000000))))))) ?hg ?ho ?hn ?hr ?_;(case ho=>rfl);(case hg=>rfl);(case hn=>rfl);(case hr=>first|(go_simp;done)|(go_simp;rfl));intro z3 hw;have hg:wr.grownBy z3 (some o9):=(by rw[hw];exact t9.2);have hp_:Kd.R (Kd.int .i64) 3 z3 b6.heap.size (fun k_=>(a6 k_∨w.heap.size≤k_)) (.slice (some ⟨o9,0,none⟩) f7.length e6) l8:=(by rw[hw,m0.out];exact t9.1);clear t9;replace HK:=aM (Kept.of_grown (S:=(fun k_=>a6 k_)) hg (kK HK) (fun k_ e_=>(g9.out.1 k_ e_)));replace g9:=aM (hp_);replace HB:=aM ((by rw[hw];exact cZ (HB.out) t5.out:Below b6.heap.size b6 z3));clear hg hw hp_))
      (try simp only[← j3])
      go_roundg k1
      case measure=>have:=g8.out;omega
      case rel=>exact⟨(l8),(wrap64 (Int.tdiv (wrap64 ((wrap64 ((wrap64 (-(wrap64 ((wrap64 ((rd f7 g5) - f8)) - (wrap64 (a9 * (rd l1 g5)))))))+1000000000)) - 1)) 1000000000)),(wrap64 (g5+1)),sD,sD,H',⟨by have:=g8.out;omega⟩,⟨by(try simp only[j3]);(with_reducible repeat(first|apply Kd.fE|apply Kd.fo|apply Kd.eZ));exact g9.out⟩,⟨kK HK⟩,⟨pB⟩⟩
     ·rw[if_neg c9] at H;have l6:decide ((wrap64 ((wrap64 ((rd f7 g5) - f8)) - (wrap64 (a9 * (rd l1 g5))))) < 0)=false:=decide_eq_false c9;have l7:decide ((IntKind.i64.wrap ((IntKind.i64.wrap ((rd f7 g5) - f8)) - (IntKind.i64.wrap (a9 * (rd l1 g5))))) < 0)=false:=by have h_:=l6;first|exact h_|(simp only[aH];exact h_)
      clear c9;obtain⟨z4,z5⟩:∃ y_:List Int,y_=(f7.set (g5:Int).toNat (wrap64 ((wrap64 ((rd f7 g5) - f8)) - (wrap64 (a9 * (rd l1 g5)))))):=⟨_,rfl⟩;replace H:(Czk.l0 k1 z4 l1 a9 0 (l0.length:Int) (wrap64 (g5+1)))=some (b4,b5):=yE z5 H
      have z6:=aM z5;clear z5;have H':=aM H;clear H;obtain⟨m4,m5,m6,m7,m8⟩:=aI (Kd.ax g9.out).2.2 g5;cases m5;obtain⟨m9,n0,n7,n8,n9⟩:=aI (Kd.jl d7.out HK.out) g5;cases n0;have z7:0≤(g5:Int):=oE aS
      have z8:(g5:Int) < ((f7.length:Int):Int):=oE aS
      obtain⟨z9,B0,B5,B9,C0,C1,C2⟩:=Kd.fu g9.out (by omega)
      (first|cases B5|(injection B5 with ea_ en_ ec_;(first|subst ea_|(injection ea_ with ea_;subst ea_));subst ec_;clear en_))
      have C3:=aM B9;have C4:=aM C2;clear B9 C0 C2;have HMgo13:=aM (show(a6 z9∨w.heap.size≤z9) from(g9.out.1 _ rfl))
      (first|simp only[add_plain] at m6|skip)
      obtain⟨C6,C7⟩:=Kd.bU 0 g9.out (g5:Int) z7 z8;replace z7:=eq_true z7;replace z8:=eq_true z8;have C8:=Kd.dX g9.out (g5:Int) (wrap64 ((wrap64 ((rd f7 g5) - f8)) - (wrap64 (a9 * (rd l1 g5)))));go_wp2_with (first|((with_reducible refine bH (t:=3) (p:=47) rfl ?_);refine aZ (t:=3) (p:=47) (v:=?vo_w15) (w1:=(wr.setCell ⟨z9,(g5:Int).toNat,none⟩ (.int .i64 (wrap64 ((wrap64 ((rd f7 g5) - f8)) - (wrap64 (a9 * (rd l1 g5)))))))) ?hg ?ho ?hn ?hr ?_;(case ho=>rfl);(case hg=>rfl);(case hn=>rfl);(case hr=>first|(go_simp;done)|(go_simp;rfl));intro C9 hw;have hg:wr.grownBy C9 (some z9):=(by rw[hw];exact C8.2);have hp_:Kd.R (Kd.int .i64) 3 C9 b6.heap.size (fun k_=>(a6 k_∨w.heap.size≤k_)) (.slice (some ⟨z9,0,none⟩) f7.length e6) z4:=(by rw[hw,z6.out];exact C8.1);clear C8;replace HK:=aM (Kept.of_grown (S:=(fun k_=>a6 k_)) hg (kK HK) (fun k_ e_=>(g9.out.1 k_ e_)));replace g9:=aM (hp_);replace HB:=aM ((by rw[hw];exact cZ (HB.out) C3.out:Below b6.heap.size b6 C9));clear hg hw hp_))
      (try simp only[← j3])
      go_roundg k1
      case measure=>have:=g8.out;omega
      case rel=>exact⟨(z4),(0),(wrap64 (g5+1)),sD,sD,H',⟨by have:=g8.out;omega⟩,⟨by(try simp only[j3]);(with_reducible repeat(first|apply Kd.fE|apply Kd.fo|apply Kd.eZ));exact g9.out⟩,⟨kK HK⟩,⟨pB⟩⟩
    ·rw[if_neg c8] at H;have j9:decide (g5 < (l1.length:Int))=false:=decide_eq_false c8;have l5:=j9;(try simp only[j3] at l5)
     clear c8;by_cases D4:(wrap64 ((rd f7 g5) - f8)) < 0
     ·rw[if_pos D4] at H;have D5:decide ((wrap64 ((rd f7 g5) - f8)) < 0)=true:=dE D4;have D6:decide ((IntKind.i64.wrap ((rd f7 g5) - f8)) < 0)=true:=by have h_:=D5;first|exact h_|(simp only[aH];exact h_)
      clear D4;obtain⟨D7,D8⟩:∃ y_:List Int,y_=(f7.set (g5:Int).toNat (wrap64 ((wrap64 ((rd f7 g5) - f8))+(wrap64 ((wrap64 (Int.tdiv (wrap64 ((wrap64 ((wrap64 (-(wrap64 ((rd f7 g5) - f8))))+1000000000)) - 1)) 1000000000)) * 1000000000))))):=⟨_,rfl⟩;replace H:(Czk.l0 k1 D7 l1 a9 (wrap64 (Int.tdiv (wrap64 ((wrap64 ((wrap64 (-(wrap64 ((rd f7 g5) - f8))))+1000000000)) - 1)) 1000000000)) (l0.length:Int) (wrap64 (g5+1)))=some (b4,b5):=yE D8 H
      have D9:=aM D8;clear D8;have H':=aM H;clear H;obtain⟨m4,m5,m6,m7,m8⟩:=aI (Kd.ax g9.out).2.2 g5;cases m5;have E0:0≤(g5:Int):=oE aS
      have E1:(g5:Int) < ((f7.length:Int):Int):=oE aS
      obtain⟨E2,E3,E4,E5,E6,E7,E8⟩:=Kd.fu g9.out (by omega)
      (first|cases E4|(injection E4 with ea_ en_ ec_;(first|subst ea_|(injection ea_ with ea_;subst ea_));subst ec_;clear en_))
      have E9:=aM E5;have F0:=aM E8;clear E5 E6 E8;have HMgo17:=aM (show(a6 E2∨w.heap.size≤E2) from(g9.out.1 _ rfl))
      (first|simp only[add_plain] at m6|skip)
      obtain⟨F2,F3⟩:=Kd.bU 0 g9.out (g5:Int) E0 E1;replace E0:=eq_true E0;replace E1:=eq_true E1;have F4:=Kd.dX g9.out (g5:Int) (wrap64 ((wrap64 ((rd f7 g5) - f8))+(wrap64 ((wrap64 (Int.tdiv (wrap64 ((wrap64 ((wrap64 (-(wrap64 ((rd f7 g5) - f8))))+1000000000)) - 1)) 1000000000)) * 1000000000))));go_wp2_with (first|((with_reducible refine bH (t:=3) (p:=47) rfl ?_);refine aZ (t:=3) (p:=47) (v:=?vo_w19) (w1:=(wr.setCell ⟨E2,(g5:Int).toNat,none⟩ (.int .i64 (wrap64 ((wrap64 ((rd f7 g5) - f8))+(wrap64 ((wrap64 (Int.tdiv (wrap64 ((wrap64 ((wrap64 (-(wrap64 ((rd f7 g5) - f8))))+1000000000)) - 1)) 1000000000)) * 1000000000))))))) ?hg ?ho ?hn ?hr ?_;(case ho=>rfl);(case hg=>rfl);(case hn=>rfl);(case hr=>first|(go_simp;done)|(go_simp;rfl));intro F5 hw;have hg:wr.grownBy F5 (some E2):=(by rw[hw];exact F4.2);have hp_:Kd.R (Kd.int .i64) 3 F5 b6.heap.size (fun k_=>(a6 k_∨w.heap.size≤k_)) (.slice (some ⟨E2,0,none⟩) f7.length e6) D7:=(by rw[hw,D9.out];exact F4.1);clear F4;replace HK:=aM (Kept.of_grown (S:=(fun k_=>a6 k_)) hg (kK HK) (fun k_ e_=>(g9.out.1 k_ e_)));replace g9:=aM (hp_);replace HB:=aM ((by rw[hw];exact cZ (HB.out) E9.out:Below b6.heap.size b6 F5));clear hg hw hp_))
      (try simp only[← j3])
      go_roundg k1
      case measure=>have:=g8.out;omega
      case rel=>exact⟨(D7),(wrap64 (Int.tdiv (wrap64 ((wrap64 ((wrap64 (-(wrap64 ((rd f7 g5) - f8))))+1000000000)) - 1)) 1000000000)),(wrap64 (g5+1)),sD,sD,H',⟨by have:=g8.out;omega⟩,⟨by(try simp only[j3]);(with_reducible repeat(first|apply Kd.fE|apply Kd.fo|apply Kd.eZ));exact g9.out⟩,⟨kK HK⟩,⟨pB⟩⟩
     ·rw[if_neg D4] at H;have D5:decide ((wrap64 ((rd f7 g5) - f8)) < 0)=false:=decide_eq_false D4;have D6:decide ((IntKind.i64.wrap ((rd f7 g5) - f8)) < 0)=false:=by have h_:=D5;first|exact h_|(simp only[aH];exact h_)
      clear D4;obtain⟨F6,F7⟩:∃ y_:List Int,y_=(f7.set (g5:Int).toNat (wrap64 ((rd f7 g5) - f8))):=⟨_,rfl⟩;replace H:(Czk.l0 k1 F6 l1 a9 0 (l0.length:Int) (wrap64 (g5+1)))=some (b4,b5):=yE F7 H
      have F8:=aM F7;clear F7;have H':=aM H;clear H;obtain⟨m4,m5,m6,m7,m8⟩:=aI (Kd.ax g9.out).2.2 g5;cases m5;have F9:0≤(g5:Int):=oE aS
      have G5:(g5:Int) < ((f7.length:Int):Int):=oE aS
      obtain⟨G9,H5,H6,H7,H8,H9,I0⟩:=Kd.fu g9.out (by omega)
      (first|cases H6|(injection H6 with ea_ en_ ec_;(first|subst ea_|(injection ea_ with ea_;subst ea_));subst ec_;clear en_))
      have I3:=aM H7;have I4:=aM I0;clear H7 H8 I0;have HMgo20:=aM (show(a6 G9∨w.heap.size≤G9) from(g9.out.1 _ rfl))
      (first|simp only[add_plain] at m6|skip)
      obtain⟨I5,I6⟩:=Kd.bU 0 g9.out (g5:Int) F9 G5;replace F9:=eq_true F9;replace G5:=eq_true G5;have I7:=Kd.dX g9.out (g5:Int) (wrap64 ((rd f7 g5) - f8));go_wp2_with (first|((with_reducible refine bH (t:=3) (p:=47) rfl ?_);refine aZ (t:=3) (p:=47) (v:=?vo_w22) (w1:=(wr.setCell ⟨G9,(g5:Int).toNat,none⟩ (.int .i64 (wrap64 ((rd f7 g5) - f8))))) ?hg ?ho ?hn ?hr ?_;(case ho=>rfl);(case hg=>rfl);(case hn=>rfl);(case hr=>first|(go_simp;done)|(go_simp;rfl));intro I8 hw;have hg:wr.grownBy I8 (some G9):=(by rw[hw];exact I7.2);have hp_:Kd.R (Kd.int .i64) 3 I8 b6.heap.size (fun k_=>(a6 k_∨w.heap.size≤k_)) (.slice (some ⟨G9,0,none⟩) f7.length e6) F6:=(by rw[hw,F8.out];exact I7.1);clear I7;replace HK:=aM (Kept.of_grown (S:=(fun k_=>a6 k_)) hg (kK HK) (fun k_ e_=>(g9.out.1 k_ e_)));replace g9:=aM (hp_);replace HB:=aM ((by rw[hw];exact cZ (HB.out) I3.out:Below b6.heap.size b6 I8));clear hg hw hp_))
      (try simp only[← j3])
      go_roundg k1
      case measure=>have:=g8.out;omega
      case rel=>exact⟨(F6),(0),(wrap64 (g5+1)),sD,sD,H',⟨by have:=g8.out;omega⟩,⟨by(try simp only[j3]);(with_reducible repeat(first|apply Kd.fE|apply Kd.fo|apply Kd.eZ));exact g9.out⟩,⟨kK HK⟩,⟨pB⟩⟩
   ·rw[if_neg c5] at H;have j4:decide (g5 < (l0.length:Int))=false:=decide_eq_false c5;have j5:=j4;(try simp only[j3] at j5)
    clear c5;obtain⟨rfl,rfl⟩:=q2 H;go_wp2
    go_ret
    exact⟨eW,(by first|exact(rX g9.out)|(simp only[j3];exact(rX g9.out))),pB,kK HK⟩


def Dzj.l0:Nat→List Int→List Int→Int→Int→Int→Option (List Int)
 | 0,_,_,_,_,_=>none
 | k+1,x0,x1,x4,x8,x9=>if x9 < x8 then(if 0≤x9 then(if x9 < (x0.length:Int) then(if x9 < (x1.length:Int) then(Dzj.l0 k (x0.set (x9:Int).toNat (Int.tmod (wrap64 ((wrap64 ((rd x0 x9)+x4))+(rd x1 x9))) 1000000000)) x1 (wrap64 (Int.tdiv (wrap64 ((wrap64 ((rd x0 x9)+x4))+(rd x1 x9))) 1000000000)) x8 (wrap64 (x9+1))) else(Dzj.l0 k (x0.set (x9:Int).toNat (Int.tmod (wrap64 ((rd x0 x9)+x4)) 1000000000)) x1 (wrap64 (Int.tdiv (wrap64 ((rd x0 x9)+x4)) 1000000000)) x8 (wrap64 (x9+1)))) else(none)) else(none)) else(some x0)
def Dzj.f (k:Nat) (l0:List Int) (l1:List Int):Option (List Int):=Dzj.l0 k l0 l1 0 (l0.length:Int) 0
theorem Dzj.mono_l:∀ k,(∀ a6 a7 a8 a9 b4,LeO (Dzj.l0 k a6 a7 a8 a9 b4) (Dzj.l0 (k+1) a6 a7 a8 a9 b4))
 | 0=>fun _ _ _ _ _ r h=>by simp [Dzj.l0] at h
 | k+1=>by
  have ih0:=Dzj.mono_l k
  ·intro a6 a7 a8 a9 b4;unfold Dzj.l0;exact mM
theorem Dzj.mono:∀ a6 a7 k,LeO (Dzj.f k a6 a7) (Dzj.f (k+1) a6 a7):=by
 intro a6 a7 k;have ih0:=Dzj.mono_l k;unfold Dzj.f;exact mM
theorem Dzj.calls (k:Nat) (a6:Nat→Prop) (u9000_:Value) (l0:List Int) (a7:Option Addr) (a8:Nat) (l1:List Int) (r:List Int) (a9 w:World) (hB:Below a9.heap.size a9 w) (b4:Kd.R (Kd.int .i64) 3 w a9.heap.size a6 u9000_ l0) (b5:∀ W_,Kept w W_ (fun k_=>a6 k_)→cI W_ a7 l1) (b6:l1.length≤a8) (h:Dzj.f k l0 l1=some r) :
  Calls Try.prog 116 #[u9000_,.slice a7 l1.length a8] w fun e w'=>e=.returned (.tuple #[])∧Kd.R (Kd.int .i64) 3 w' a9.heap.size (fun k_=>(a6 k_∨w.heap.size≤k_)) u9000_ r∧Below a9.heap.size a9 w'∧Kept w w' (fun k_=>a6 k_):=by
 have b7:=aM (show Kd.R (Kd.int .i64) 3 w a9.heap.size (fun k_=>(a6 k_∨w.heap.size≤k_)) u9000_ l0 from Kd.ah b4 (fun k_ hk=>(.inl hk)))
 have b8:=aM b5;have b9:=aM b6;clear b5 b6;have HK:=aM (Kept.refl w (fun k_=>a6 k_))
 have HW0:=aM hB.size;have HB:=aM hB;clear hB;have H:(Dzj.l0 k l0 l1 0 (l0.length:Int) 0)=some r:=h;clear h;have H':=aM H;clear H;obtain⟨d6,d7,rfl⟩:=Kd.aj b7.out;go_enter Try.func116,Try.ntmps116
 go_wp2
 go_loopg [4,9] k (fun kq d8 d9 w'=>∃ (e6:List Int) (e7:Int) (f6:Int),d8=.int .i64 e7∧d9=.int .i64 f6∧ae (Dzj.l0 kq e6 l1 e7 (l0.length:Int) f6=some r)∧ae (kq≤k)∧ae (Kd.R (Kd.int .i64) 3 w' a9.heap.size (fun k_=>(a6 k_∨w.heap.size≤k_)) (.slice d6 l0.length d7) e6)∧ae (Kept w w' (fun k_=>a6 k_))∧ae (Below a9.heap.size a9 w'))
 case atStart=>exact⟨(l0),(0),(0),sD,sD,H',⟨Nat.le_refl _⟩,⟨rX b7.out⟩,⟨kK HK⟩,⟨pB⟩⟩
 case round =>
  clear H';try clear a8
  obtain⟨e6,e7,f6,rfl,rfl,HA,f7,f8,HK,HB⟩:=hrel;have g5:=(Kd.ax f8.out).1;rw[g5] at f8;(try simp only[g5])
  cases gk with
  | zero=>exact absurd HA.out (by simp [Dzj.l0])
  | succ k1 =>
   have H:=HA.out;clear HA;simp only[Dzj.l0] at H;by_cases c4:f6 < (l0.length:Int)
   ·rw[if_pos c4] at H;have g8:=dE c4;have g9:=g8;(try simp only[g5] at g9)
    clear c4;obtain⟨j3,H⟩:=iN H;obtain⟨c6,H⟩:=iO H;have j4:decide (f6 < (e6.length:Int))=true:=dE c6;have j5:=j4;(try simp only[g5] at j5)
    clear c6;by_cases c7:f6 < (l1.length:Int)
    ·rw[if_pos c7] at H;have j6:=dE c7;have j7:=j6;(try simp only[g5] at j7)
     clear c7;obtain⟨j8,j9⟩:∃ y_:List Int,y_=(e6.set (f6:Int).toNat (Int.tmod (wrap64 ((wrap64 ((rd e6 f6)+e7))+(rd l1 f6))) 1000000000)):=⟨_,rfl⟩;replace H:(Dzj.l0 k1 j8 l1 (wrap64 (Int.tdiv (wrap64 ((wrap64 ((rd e6 f6)+e7))+(rd l1 f6))) 1000000000)) (l0.length:Int) (wrap64 (f6+1)))=some r:=yE j9 H
     have l5:=aM j9;clear j9;have H':=aM H;clear H;obtain⟨l6,l7,l8,l9,m0⟩:=aI (Kd.ax f8.out).2.2 f6;cases l7;obtain⟨m4,m5,m6,m7,m8⟩:=aI (Kd.jl b8.out HK.out) f6;cases m5;have m9:0≤(f6:Int):=oE aS
     have q8:(f6:Int) < ((e6.length:Int):Int):=oE aS
     obtain⟨n0,n7,n8,n9,o0,o8,o9⟩:=Kd.fu f8.out (by omega)
     (first|cases n8|(injection n8 with ea_ en_ ec_;(first|subst ea_|(injection ea_ with ea_;subst ea_));subst ec_;clear en_))
     have p9:=aM n9;have r6:=aM o9;clear n9 o0 o9;have HMgo8:=aM (show(a6 n0∨w.heap.size≤n0) from(f8.out.1 _ rfl))
     (first|simp only[add_plain] at l8|skip)
     obtain⟨r7,r8⟩:=Kd.bU 0 f8.out (f6:Int) m9 q8;replace m9:=eq_true m9;replace q8:=eq_true q8;have r9:=Kd.dX f8.out (f6:Int) (Int.tmod (wrap64 ((wrap64 ((rd e6 f6)+e7))+(rd l1 f6))) 1000000000);go_wp2_with (first|((with_reducible refine bH (t:=3) (p:=34) rfl ?_);refine aZ (t:=3) (p:=34) (v:=?vo_w10) (w1:=(wr.setCell ⟨n0,(f6:Int).toNat,none⟩ (.int .i64 (Int.tmod (wrap64 ((wrap64 ((rd e6 f6)+e7))+(rd l1 f6))) 1000000000)))) ?hg ?ho ?hn ?hr ?_;(case ho=>rfl);(case hg=>rfl);(case hn=>rfl);(case hr=>first|(go_simp;done)|(go_simp;rfl));intro t4 hw;have hg:wr.grownBy t4 (some n0):=(by rw[hw];exact r9.2);have hp_:Kd.R (Kd.int .i64) 3 t4 a9.heap.size (fun k_=>(a6 k_∨w.heap.size≤k_)) (.slice (some ⟨n0,0,none⟩) e6.length d7) j8:=(by rw[hw,l5.out];exact r9.1);clear r9;replace HK:=aM (Kept.of_grown (S:=(fun k_=>a6 k_)) hg (kK HK) (fun k_ e_=>(f8.out.1 k_ e_)));replace f8:=aM (hp_);replace HB:=aM ((by rw[hw];exact cZ (HB.out) p9.out:Below a9.heap.size a9 t4));clear hg hw hp_))
     (try simp only[← g5])
     go_roundg k1
     case measure=>have:=f7.out;omega
     case rel=>exact⟨(j8),(wrap64 (Int.tdiv (wrap64 ((wrap64 ((rd e6 f6)+e7))+(rd l1 f6))) 1000000000)),(wrap64 (f6+1)),sD,sD,H',⟨by have:=f7.out;omega⟩,⟨by(try simp only[g5]);(with_reducible repeat(first|apply Kd.fE|apply Kd.fo|apply Kd.eZ));exact f8.out⟩,⟨kK HK⟩,⟨pB⟩⟩
    ·rw[if_neg c7] at H;have j6:decide (f6 < (l1.length:Int))=false:=decide_eq_false c7;have j7:=j6;(try simp only[g5] at j7)
     clear c7;obtain⟨t5,t6⟩:∃ y_:List Int,y_=(e6.set (f6:Int).toNat (Int.tmod (wrap64 ((rd e6 f6)+e7)) 1000000000)):=⟨_,rfl⟩;replace H:(Dzj.l0 k1 t5 l1 (wrap64 (Int.tdiv (wrap64 ((rd e6 f6)+e7)) 1000000000)) (l0.length:Int) (wrap64 (f6+1)))=some r:=yE t6 H
     have t7:=aM t6;clear t6;have H':=aM H;clear H;obtain⟨l6,l7,l8,l9,m0⟩:=aI (Kd.ax f8.out).2.2 f6;cases l7;have t8:0≤(f6:Int):=oE aS
     have t9:(f6:Int) < ((e6.length:Int):Int):=oE aS
     obtain⟨z3,z4,z5,z6,z7,z8,z9⟩:=Kd.fu f8.out (by omega)
     (first|cases z5|(injection z5 with ea_ en_ ec_;(first|subst ea_|(injection ea_ with ea_;subst ea_));subst ec_;clear en_))
     have B0:=aM z6;have B5:=aM z9;clear z6 z7 z9;have HMgo11:=aM (show(a6 z3∨w.heap.size≤z3) from(f8.out.1 _ rfl))
     (first|simp only[add_plain] at l8|skip)
     obtain⟨B9,C0⟩:=Kd.bU 0 f8.out (f6:Int) t8 t9;replace t8:=eq_true t8;replace t9:=eq_true t9;have C1:=Kd.dX f8.out (f6:Int) (Int.tmod (wrap64 ((rd e6 f6)+e7)) 1000000000);go_wp2_with (first|((with_reducible refine bH (t:=3) (p:=34) rfl ?_);refine aZ (t:=3) (p:=34) (v:=?vo_w13) (w1:=(wr.setCell ⟨z3,(f6:Int).toNat,none⟩ (.int .i64 (Int.tmod (wrap64 ((rd e6 f6)+e7)) 1000000000)))) ?hg ?ho ?hn ?hr ?_;(case ho=>rfl);(case hg=>rfl);(case hn=>rfl);(case hr=>first|(go_simp;done)|(go_simp;rfl));intro C2 hw;have hg:wr.grownBy C2 (some z3):=(by rw[hw];exact C1.2);have hp_:Kd.R (Kd.int .i64) 3 C2 a9.heap.size (fun k_=>(a6 k_∨w.heap.size≤k_)) (.slice (some ⟨z3,0,none⟩) e6.length d7) t5:=(by rw[hw,t7.out];exact C1.1);clear C1;replace HK:=aM (Kept.of_grown (S:=(fun k_=>a6 k_)) hg (kK HK) (fun k_ e_=>(f8.out.1 k_ e_)));replace f8:=aM (hp_);replace HB:=aM ((by rw[hw];exact cZ (HB.out) B0.out:Below a9.heap.size a9 C2));clear hg hw hp_))
     (try simp only[← g5])
     go_roundg k1
     case measure=>have:=f7.out;omega
     case rel=>exact⟨(t5),(wrap64 (Int.tdiv (wrap64 ((rd e6 f6)+e7)) 1000000000)),(wrap64 (f6+1)),sD,sD,H',⟨by have:=f7.out;omega⟩,⟨by(try simp only[g5]);(with_reducible repeat(first|apply Kd.fE|apply Kd.fo|apply Kd.eZ));exact f8.out⟩,⟨kK HK⟩,⟨pB⟩⟩
   ·rw[if_neg c4] at H;have g8:decide (f6 < (l0.length:Int))=false:=decide_eq_false c4;have g9:=g8;(try simp only[g5] at g9)
    clear c4;obtain rfl:=Option.some.inj H;go_wp2
    first|go_end0|((try simp only[Exit.inBlock,Exit.then]);refine bodyPost_ret (results_none rfl _ _ _) rfl ?_)
    exact⟨eW,(by first|exact(rX f8.out)|(simp only[g5];exact(rX f8.out))),pB,kK HK⟩

end Go.Proofs.Ytbnpcplckcipfaa.Print
