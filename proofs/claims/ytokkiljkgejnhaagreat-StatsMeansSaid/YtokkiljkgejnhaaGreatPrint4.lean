import Derived.Test.YtokkiljkgejnhaaGreatPrint0
namespace Go.Proofs.YtokkiljkgejnhaaGreat.Print
open Go.RowKit Go.Proofs.YtokkiljkgejnhaaGreatW.PrintWords Go.Proofs.YtokkiljkgejnhaaGreatW.PrintLast Go.Proofs.YtokkiljkgejnhaaGreatW.PrintMore
attribute [local go_sem] max2_int min2_int max_two min_two max_three min_three max_four min_four
set_option linter.unusedVariables false
set_option maxRecDepth 100000
set_option maxHeartbeats 8000000
set_option linter.unusedSimpArgs false

def Dzp.l0:Nat→List Int→Int→List Int→Int→Int→Option (List Int × List Int)
 | 0,_,_,_,_,_=>none
 | k+1,x0,x1,x6,x7,x8=>if x8≥0 then(if 0≤x8 then(if x8 < (x0.length:Int) then(if x1=0 then(none) else(if x8 < (x6.length:Int) then(Dzp.l0 k x0 x1 (x6.set (x8:Int).toNat (wrap64 (Int.tdiv (wrap64 ((wrap64 (x7 * 1000000000))+(rd x0 x8))) x1))) (Int.tmod (wrap64 ((wrap64 (x7 * 1000000000))+(rd x0 x8))) x1) (wrap64 (x8 - 1))) else(none))) else(none)) else(none)) else((Bzf.f k x6).bind fun t132=>((Bzf.f k (([x7]:List Int))).bind fun t138=>(some (t132,t138))))
def Dzp.f (k:Nat) (l0:List Int) (a1:Int):Option (List Int × List Int):=if 0≤(l0.length:Int) then(if((l0.length:Int):Int).toNat≤35184372088832 then(Dzp.l0 k l0 a1 (List.replicate ((l0.length:Int):Int).toNat 0) 0 (wrap64 ((l0.length:Int) - 1))) else(none)) else(none)
theorem Dzp.mono_l:∀ k,(∀ a6 a7 a8 b4 b5,LeO (Dzp.l0 k a6 a7 a8 b4 b5) (Dzp.l0 (k+1) a6 a7 a8 b4 b5))
 | 0=>fun _ _ _ _ _ r h=>by simp [Dzp.l0] at h
 | k+1=>by
  have ih0:=Dzp.mono_l k
  ·intro a6 a7 a8 b4 b5;unfold Dzp.l0;have i0:=@Bzf.mono;exact mM
theorem Dzp.mono:∀ a6 a7 k,LeO (Dzp.f k a6 a7) (Dzp.f (k+1) a6 a7):=by
 intro a6 a7 k;have ih0:=Dzp.mono_l k;unfold Dzp.f;have i0:=@Bzf.mono;exact mM
def Dzp.T7:Bool × List (List Nat × List Nat):=(true,[([],[]),([],[]),([],[]),([],[]),([2,3],[2,3]),([],[]),([],[]),([5,6],[5,6]),([0,1,0,1,2,3,4],[0,1]),([8,4,0,1,2,3,4],[4,8]),([7,9,0,1,2,3,4,5,6,7,8,9],[7])])
def Dzp.B7:List Nat:=[0,0,0,0,12,0,0,96,31,287,1023]
theorem Dzp.tab7:rtab .any (opsOf Tryz.f103 7)=Dzp.T7:=by kernel_rfl
theorem Dzp.bits7:waitsOk Dzp.T7.2 Dzp.B7=true:=by kernel_rfl
theorem Dzp.calls (k:Nat) (a6:Option Addr) (a7:Nat) (l0:List Int) (a8:Int) (b4:List Int) (b5:List Int) (w:World) (b6:Kd.C (Kd.int .i64) w a6 l0.length l0) (b7:l0.length≤a7) (h:Dzp.f k l0 a8=some (b4,b5)) :
  Calls Tryz.prog 103 #[.slice a6 l0.length a7,.int .i64 a8] w fun e w'=>∃ v0_ v1_:Value,e=.returned (.tuple #[v0_,v1_])∧Kd.R (Kd.int .i64) 3 w' w.heap.size (fun k_=>some k_≠(v1_:Value).ownBlock) v0_ b4∧Kd.R (Kd.int .i64) 3 w' w.heap.size (fun k_=>some k_≠(v0_:Value).ownBlock) v1_ b5∧Below w.heap.size w w':=by
 have b8:=aM b6;have b9:=aM b7;clear b6 b7;have HB:=aM (Below.refl w.heap.size w);have H:(if 0≤(l0.length:Int) then(if((l0.length:Int):Int).toNat≤35184372088832 then(Dzp.l0 k l0 a8 (List.replicate ((l0.length:Int):Int).toNat 0) 0 (wrap64 ((l0.length:Int) - 1))) else(none)) else(none))=some (b4,b5):=h
 clear h;by_cases c3:0≤(l0.length:Int)
 ·rw[if_pos c3] at H;have d0:=eq_true c3;have d6:=dE c3;clear c3;obtain⟨c4,H⟩:=iO H;have d7:=eq_true c4;have d8:decide (((l0.length:Int):Int).toNat≤35184372088832)=true:=dE c4;clear c4;obtain⟨d9,e6⟩:∃ y_:List Int,y_=(List.replicate ((l0.length:Int):Int).toNat 0):=⟨_,rfl⟩;replace H:(Dzp.l0 k l0 a8 d9 0 (wrap64 ((l0.length:Int) - 1)))=some (b4,b5):=yE e6 H
  have e7:=aM e6;clear e6;have H':=aM H;clear H;go_enter Tryz.func103,Tryz.ntmps103
  go_wp2_with (first|((with_reducible refine gate_dst (N:=12) rfl ?_);refine Kd.R_make (Kd.int .i64) _ 3 rfl (N:=12) rfl 22 _ _ rfl (l0.length:Int) rfl rfl Tryz.underlying22 (.int .i64 0) 8 info3 rfl (by decide) (by omega) 0 (ok:=fun _=>True) (okp:=fun _=>True) rfl (fun _ hk=>hk) trivial (oE aS) (Nat.le_trans (Nat.mul_le_mul_right _ (oE aS:(l0.length:Int).toNat≤35184372088832)) (by omega)) (Below.refl _ _) (Nat.le_refl _) ?_;intro e8 e9 f3 hb hg_ hnew_;clear hg_ hnew_;replace f3:=rY e7 f3;have f4:=rL f3;replace HB:=bB hb;clear hb f3))
  go_loopg [7,8] k (fun kq f6 f9 w'=>∃ (g4:List Int) (g5:Int) (g6:Int),f6=.int .i64 g5∧f9=.int .i64 g6∧Aside0 (Dzp.l0 kq l0 a8 g4 g5 g6=some (b4,b5))∧Aside0 (kq≤k)∧Aside0 (Kd.R (Kd.int .i64) 3 w' w.heap.size (fun _=>True) e8 g4)∧Aside0 (Below w.heap.size w w'))
  case atStart=>exact⟨(d9),(0),(wrap64 ((l0.length:Int) - 1)),sD,sD,H',⟨Nat.le_refl _⟩,⟨rX f4.out⟩,⟨pB⟩⟩
  case round =>
   clear H';try clear g7
   obtain⟨g4,g5,g6,rfl,rfl,HA,g8,g9,HB⟩:=hrel;cases gk with
   | zero=>exact absurd HA.out (by simp [Dzp.l0])
   | succ k1 =>
    have H:=HA.out;clear HA;simp only[Dzp.l0] at H;by_cases c7:g6≥0
    ·rw[if_pos c7] at H;have j3:decide (0≤g6)=true:=dE c7;clear c7;obtain⟨j4,H⟩:=iN H;obtain⟨j5,H⟩:=iN H;obtain⟨c10,H⟩:=iM H;have j6:(a8 == 0)=false:=beq_eq_false_iff_ne.mpr c10;have j7:(a8 != 0)=true:=bne_iff_ne.mpr c10;obtain⟨j8,H⟩:=iN H;obtain⟨j9,l5⟩:∃ y_:List Int,y_=(g4.set (g6:Int).toNat (wrap64 (Int.tdiv (wrap64 ((wrap64 (g5 * 1000000000))+(rd l0 g6))) a8))):=⟨_,rfl⟩;replace H:(Dzp.l0 k1 l0 a8 j9 (Int.tmod (wrap64 ((wrap64 (g5 * 1000000000))+(rd l0 g6))) a8) (wrap64 (g6 - 1)))=some (b4,b5):=yE l5 H
     have l6:=aM l5;clear l5;have H':=aM H;clear H;obtain⟨l7,l8,l9,m0,m3⟩:=aI b8.out g6;cases l8
     replace l9:=hB HB l9;try go_wp2
     have n0_:=aM (Kd.R_drew g9.out);have n1_:=aM (below_drew1 HB.out);clear g9 HB;have g9:=n0_;have HB:=n1_;clear n0_ n1_;have m4:0≤(g6:Int):=oE aS
     have m5:(g6:Int) < ((g4.length:Int):Int):=oE aS
     obtain⟨m6,m7,m8,m9,n0,n6,n7⟩:=Kd.R_form g9.out (by omega)
     (first|cases m8|(injection m8 with ea_ en_ ec_;(first|subst ea_|(injection ea_ with ea_;subst ea_));subst ec_;clear en_))
     have n8:=aM m9;have n9:=aM n7;clear m9 n0 n7;obtain⟨o0,o8⟩:=Kd.R_celln 0 g9.out (g6:Int) m4 m5;replace m4:=eq_true m4;replace m5:=eq_true m5;have o9:=Kd.R_putn g9.out (g6:Int) (wrap64 (Int.tdiv (wrap64 ((wrap64 (g5 * 1000000000))+(rd l0 g6))) a8));rw[← l6.out] at o9;have p0:=aM o9;clear o9;refine start_ (n:=11) (S:=fun w'=>True) (ds:=[9]) (bA 11 0) (by kernel_rfl) rfl rfl trivial (fun hHeld=>?_);refine with_tabW Dzp.tab7 Dzp.bits7 (fun HT_ HW_=>?_)
     generalize wr.drew=p3 at g9 HB n9 p0 o8 o0 hHeld ⊢;refine pS 0 27 HT_ ?_;refine pS 1 28 HT_ ?_;refine pS 2 29 HT_ ?_;refine pS 3 30 HT_ ?_;refine pS 4 31 HT_ ?_;refine pS 5 32 HT_ ?_;refine pS 6 33 HT_ ?_;refine pS 7 34 HT_ ?_;refine pS 8 35 HT_ ?_;refine lU 9 none HT_ fun K hK=>?_
     refine skip_ (w1:=?_) (by rfl) rfl ?_ ?_
     rotate_left
     ·go_simp
      rfl
     refine hK.out _ _ ?_;clear hK K;refine pS 10 7 HT_ ?_;refine done_ (done_of HT_.out (by kernel_rfl)) ?_
     try go_wp2
     go_roundg k1
     case measure=>have:=g8.out;omega
     case rel=>exact⟨(j9),(Int.tmod (wrap64 ((wrap64 (g5 * 1000000000))+(rd l0 g6))) a8),(wrap64 (g6 - 1)),sD,sD,H',⟨by have:=g8.out;omega⟩,⟨rX p0.out⟩,⟨pB⟩⟩
    ·rw[if_neg c7] at H;have j3:decide (0≤g6)=false:=decide_eq_false c7;clear c7;obtain⟨p4,p5,H⟩:=bT H;(try dsimp only at H);obtain⟨r5,r6⟩:∃ y_:List Int,y_=(([g5]:List Int)):=⟨_,rfl⟩;replace H:((Bzf.f k1 r5).bind fun r7=>(some (p4,r7)))=some (b4,b5):=yE r6 H
     have r8:=aM r6;clear r6;replace H:=bS H;obtain⟨r7,r9,H⟩:=H;replace H:(some (p4,r7))=some (b4,b5):=H;have t6:=aM r9;clear r9;obtain⟨rfl,rfl⟩:=q2 H;obtain⟨t7,t8,rfl⟩:=Kd.R_slice g9.out;go_wp2_with (first|((with_reducible refine gc 80 rfl ?_);refine gC 80 (some 37) Tryz.func80 #[.slice t7 g4.length t8] ?_;(with_reducible refine(Bzf.calls k1 (fun k_=>some k_=(.slice t7 g4.length t8:Value).ownBlock) (.slice t7 g4.length t8) g4 p4 w _ ?_ ?_ p5.out).mono ?_);exact pB;exact Kd.R_tight rfl g9.out;rintro e z1 ⟨z2,rfl,z6,hb,hkp⟩;refine⟨_,rfl,?_⟩;have z7:=aM (Kd.R_mono (ok':=fun k_=>True) z6 (fun k_ hk_=>trivial));replace HB:=aM (hb);clear g9 hb hkp z6)|((with_reducible refine gd 39 rfl ?_);refine iL 39 [g5] ?_;intro z8 B0 B5 hb;replace B5:=rY r8 B5;have B6:=rL (rn B5 z7);replace z7:=rE z7 B5 hb;replace HB:=bB hb;clear hb B5;obtain⟨B8,B9,rfl⟩:=Kd.R_slice B6.out)|((with_reducible refine gc 80 rfl ?_);refine gC 80 (some 40) Tryz.func80 #[.slice B8 r5.length B9] ?_;(with_reducible refine(Bzf.calls k1 (fun k_=>some k_=(.slice B8 r5.length B9:Value).ownBlock) (.slice B8 r5.length B9) r5 r7 w _ ?_ ?_ t6.out).mono ?_);exact pB;exact Kd.R_tight rfl B6.out;rintro e C0 ⟨C1,rfl,z6,hb,hkp⟩;refine⟨_,rfl,?_⟩;have C2:=aM (Kd.R_mono (ok':=fun k_=>some k_≠(z2:Value).ownBlock) z6 (fun k_ hk_=>Or.elim hk_ (fun hs_=>fun e_=>(((z7.out).1 k_ e_.symm).2) hs_) (fun hn_=>(Kd.fresh' (Kd.R_lt (rX z7.out)) k_ hn_))));replace z7:=aM (Kd.R_mono (ok':=fun k_=>some k_≠(C1:Value).ownBlock) (Kd.R_keptB (z7.out) hkp (fun k_ hk_ hs_=>(hk_.2) hs_)) (fun k_ hk_=>fun e_=>Or.elim (z6.1 k_ e_.symm) (fun hs_=>hk_.2.1 hs_) (fun hn_=>Nat.not_le.2 hk_.2.2 hn_)));replace HB:=aM (hb);clear B6 hb hkp z6))
     go_ret2
     exact⟨_,_,eW,rX z7.out,rX C2.out,pB⟩
 ·rw[if_neg c3] at H;exact absurd H (by simp)


def Ezj.l0:Nat→List Int→Int→List Int→Int→Int→Int→Option (List Int)
 | 0,_,_,_,_,_,_=>none
 | k+1,x0,x1,x5,x6,x14,x15=>if x15 < x14 then(if 0≤x15 then(if x15 < (x0.length:Int) then(if x15 < (x5.length:Int) then(Ezj.l0 k x0 x1 (x5.set (x15:Int).toNat (Int.tmod (wrap64 ((wrap64 ((rd x0 x15) * x1))+x6)) 1000000000)) (wrap64 (Int.tdiv (wrap64 ((wrap64 ((rd x0 x15) * x1))+x6)) 1000000000)) x14 (wrap64 (x15+1))) else(none)) else(none)) else(none)) else(if 0≤(x0.length:Int) then(if(x0.length:Int) < (x5.length:Int) then(some (x5.set ((x0.length:Int):Int).toNat x6)) else(none)) else(none))
def Ezj.f (k:Nat) (l0:List Int) (a1:Int):Option (List Int):=if 0≤(wrap64 ((l0.length:Int)+1)) then(if(wrap64 ((l0.length:Int)+1):Int).toNat≤35184372088832 then(Ezj.l0 k l0 a1 (List.replicate (wrap64 ((l0.length:Int)+1):Int).toNat 0) 0 (l0.length:Int) 0) else(none)) else(none)
theorem Ezj.mono_l:∀ k,(∀ a6 a7 a8 b4 b5 b6,LeO (Ezj.l0 k a6 a7 a8 b4 b5 b6) (Ezj.l0 (k+1) a6 a7 a8 b4 b5 b6))
 | 0=>fun _ _ _ _ _ _ r h=>by simp [Ezj.l0] at h
 | k+1=>by
  have ih0:=Ezj.mono_l k
  ·intro a6 a7 a8 b4 b5 b6;unfold Ezj.l0;exact mM
theorem Ezj.mono:∀ a6 a7 k,LeO (Ezj.f k a6 a7) (Ezj.f (k+1) a6 a7):=by
 intro a6 a7 k;have ih0:=Ezj.mono_l k;unfold Ezj.f;exact mM
theorem Ezj.calls (k:Nat) (a6:Option Addr) (a7:Nat) (l0:List Int) (a8:Int) (r:List Int) (w:World) (b4:Kd.C (Kd.int .i64) w a6 l0.length l0) (b5:l0.length≤a7) (h:Ezj.f k l0 a8=some r) :
  Calls Tryz.prog 112 #[.slice a6 l0.length a7,.int .i64 a8] w fun e w'=>∃ v0_:Value,e=.returned (v0_)∧Kd.R (Kd.int .i64) 3 w' w.heap.size (fun _=>True) v0_ r∧Below w.heap.size w w':=by
 have b6:=aM b4;have b7:=aM b5;clear b4 b5;have HB:=aM (Below.refl w.heap.size w);have H:(if 0≤(wrap64 ((l0.length:Int)+1)) then(if(wrap64 ((l0.length:Int)+1):Int).toNat≤35184372088832 then(Ezj.l0 k l0 a8 (List.replicate (wrap64 ((l0.length:Int)+1):Int).toNat 0) 0 (l0.length:Int) 0) else(none)) else(none))=some r:=h
 clear h;obtain⟨b8,b9⟩:∃ j_:Int,(wrap64 ((l0.length:Int)+1))=j_:=⟨_,rfl⟩;replace H:(if 0≤(b8) then(if(b8:Int).toNat≤35184372088832 then(Ezj.l0 k l0 a8 (List.replicate (b8:Int).toNat 0) 0 (l0.length:Int) 0) else(none)) else(none))=some r:=by first|(rw[b9] at H;exact H)|(simp only[b9] at H ⊢;exact H)
 have d0:(IntKind.i64.wrap ((l0.length:Int)+1))=b8:=(i64_w _).trans b9;by_cases c4:0≤(b8)
 ·rw[if_pos c4] at H;have d6:=eq_true c4;have d7:=dE c4;clear c4;obtain⟨c5,H⟩:=iO H;have d8:=eq_true c5;have d9:decide ((b8:Int).toNat≤35184372088832)=true:=dE c5;clear c5;obtain⟨e6,e7⟩:∃ y_:List Int,y_=(List.replicate (b8:Int).toNat 0):=⟨_,rfl⟩;replace H:(Ezj.l0 k l0 a8 e6 0 (l0.length:Int) 0)=some r:=yE e7 H
  have e8:=aM e7;clear e7;have H':=aM H;clear H;go_enter Tryz.func112,Tryz.ntmps112
  go_wp2_with (first|((with_reducible refine gate_dst (N:=12) rfl ?_);refine Kd.R_make (Kd.int .i64) _ 3 rfl (N:=12) rfl 22 _ _ rfl b8 rfl rfl Tryz.underlying22 (.int .i64 0) 8 info3 rfl (by decide) (by omega) 0 (ok:=fun _=>True) (okp:=fun _=>True) rfl (fun _ hk=>hk) trivial (oE aS) (Nat.le_trans (Nat.mul_le_mul_right _ (oE aS:b8.toNat≤35184372088832)) (by omega)) (Below.refl _ _) (Nat.le_refl _) ?_;intro e9 f3 f4 hb hg_ hnew_;clear hg_ hnew_;replace f4:=rY e8 f4;have f6:=rL f4;replace HB:=bB hb;clear hb f4))
  go_loopg [6,15] k (fun kq f9 g4 w'=>∃ (g5:List Int) (g6:Int) (g7:Int),f9=.int .i64 g6∧g4=.int .i64 g7∧Aside0 (Ezj.l0 kq l0 a8 g5 g6 (l0.length:Int) g7=some r)∧Aside0 (kq≤k)∧Aside0 (Kd.R (Kd.int .i64) 3 w' w.heap.size (fun _=>True) e9 g5)∧Aside0 (Below w.heap.size w w'))
  case atStart=>exact⟨(e6),(0),(0),sD,sD,H',⟨Nat.le_refl _⟩,⟨rX f6.out⟩,⟨pB⟩⟩
  case round =>
   clear H';try clear g8
   obtain⟨g5,g6,g7,rfl,rfl,HA,g9,j3,HB⟩:=hrel;cases gk with
   | zero=>exact absurd HA.out (by simp [Ezj.l0])
   | succ k1 =>
    have H:=HA.out;clear HA;simp only[Ezj.l0] at H;by_cases c8:g7 < (l0.length:Int)
    ·rw[if_pos c8] at H;have j4:=dE c8;clear c8;obtain⟨j5,H⟩:=iN H;obtain⟨j6,H⟩:=iN H;obtain⟨j7,H⟩:=iN H;obtain⟨j8,j9⟩:∃ y_:List Int,y_=(g5.set (g7:Int).toNat (Int.tmod (wrap64 ((wrap64 ((rd l0 g7) * a8))+g6)) 1000000000)):=⟨_,rfl⟩;replace H:(Ezj.l0 k1 l0 a8 j8 (wrap64 (Int.tdiv (wrap64 ((wrap64 ((rd l0 g7) * a8))+g6)) 1000000000)) (l0.length:Int) (wrap64 (g7+1)))=some r:=yE j9 H
     have l5:=aM j9;clear j9;have H':=aM H;clear H;obtain⟨l6,l7,l8,l9,m0⟩:=aI b6.out g7;cases l7
     replace l8:=hB HB l8;have m3:0≤(g7:Int):=oE aS
     have m4:(g7:Int) < ((g5.length:Int):Int):=oE aS
     obtain⟨m5,m6,m7,m8,m9,n0,n6⟩:=Kd.R_form j3.out (by omega)
     (first|cases m7|(injection m7 with ea_ en_ ec_;(first|subst ea_|(injection ea_ with ea_;subst ea_));subst ec_;clear en_))
     have n7:=aM m8;have n8:=aM n6;clear m8 m9 n6;obtain⟨n9,o0⟩:=Kd.R_celln 0 j3.out (g7:Int) m3 m4;replace m3:=eq_true m3;replace m4:=eq_true m4;have o8:=Kd.R_putg j3.out (g7:Int) (Int.tmod (wrap64 ((wrap64 ((rd l0 g7) * a8))+g6)) 1000000000);go_wp2_with (first|((with_reducible refine gate_store (t:=3) (p:=32) rfl ?_);refine store_event (t:=3) (p:=32) (v:=?vo_w14) (w1:=(wr.setCell ⟨m5,(g7:Int).toNat,none⟩ (.int .i64 (Int.tmod (wrap64 ((wrap64 ((rd l0 g7) * a8))+g6)) 1000000000)))) ?hg ?ho ?hn ?hr ?_;(case ho=>rfl);(case hg=>rfl);(case hn=>rfl);(case hr=>first|(go_simp;done)|(go_simp;rfl));intro o9 hw;have hg:wr.grownBy o9 (some m5):=(by rw[hw];exact o8.2);have hp_:Kd.R (Kd.int .i64) 3 o9 w.heap.size (fun _=>True) (.slice (some ⟨m5,0,none⟩) g5.length m6) j8:=(by rw[hw,l5.out];exact o8.1);clear o8;replace j3:=aM (hp_);replace HB:=aM ((by rw[hw];exact below_set (HB.out) n7.out:Below w.heap.size w o9));clear hg hw hp_))
     go_roundg k1
     case measure=>have:=g9.out;omega
     case rel=>exact⟨(j8),(wrap64 (Int.tdiv (wrap64 ((wrap64 ((rd l0 g7) * a8))+g6)) 1000000000)),(wrap64 (g7+1)),sD,sD,H',⟨by have:=g9.out;omega⟩,⟨rX j3.out⟩,⟨pB⟩⟩
    ·rw[if_neg c8] at H;have j4:decide (g7 < (l0.length:Int))=false:=decide_eq_false c8;clear c8;obtain⟨p0,H⟩:=iO H;have p3:decide (0≤(l0.length:Int))=true:=dE p0;have p4:decide (0≤l0.length)=true:=dE (by omega)
     clear p0;obtain⟨p5,H⟩:=iO H;have r5:decide ((l0.length:Int) < (g5.length:Int))=true:=dE p5;have r6:decide (l0.length < g5.length)=true:=dE (Int.ofNat_lt.mp p5);clear p5;obtain⟨r7,r8⟩:∃ y_:List Int,y_=(g5.set ((l0.length:Int):Int).toNat g6):=⟨_,rfl⟩;replace H:(some r7)=some r:=yE r8 H
     have r9:=aM r8;clear r8;obtain rfl:=Option.some.inj H;have t6:0≤((l0.length:Int):Int):=oE aS
     have t7:((l0.length:Int):Int) < ((g5.length:Int):Int):=oE aS
     obtain⟨t8,z1,z2,z6,z7,z8,B0⟩:=Kd.R_form j3.out (by omega)
     (first|cases z2|(injection z2 with ea_ en_ ec_;(first|subst ea_|(injection ea_ with ea_;subst ea_));subst ec_;clear en_))
     have B5:=aM z6;have B6:=aM B0;clear z6 z7 B0;obtain⟨B8,B9⟩:=Kd.R_celln 0 j3.out ((l0.length:Int):Int) t6 t7;(try simp only[Int.toNat_natCast] at B8)
     (try simp only[Int.toNat_natCast] at B9)
     replace t6:=eq_true t6;replace t7:=eq_true t7;have C0:=Kd.R_putg j3.out ((l0.length:Int):Int) g6;go_wp2_with (first|((with_reducible refine gate_store (t:=3) (p:=38) rfl ?_);refine store_event (t:=3) (p:=38) (v:=?vo_w19) (w1:=(wr.setCell ⟨t8,((l0.length:Int):Int).toNat,none⟩ (.int .i64 g6))) ?hg ?ho ?hn ?hr ?_;(case ho=>rfl);(case hg=>rfl);(case hn=>rfl);(case hr=>first|(go_simp;done)|(go_simp;rfl));intro C1 hw;have hg:wr.grownBy C1 (some t8):=(by rw[hw];exact C0.2);have hp_:Kd.R (Kd.int .i64) 3 C1 w.heap.size (fun _=>True) (.slice (some ⟨t8,0,none⟩) g5.length z1) r7:=(by rw[hw,r9.out];exact C0.1);clear C0;replace j3:=aM (hp_);replace HB:=aM ((by rw[hw];exact below_set (HB.out) B5.out:Below w.heap.size w C1));clear hg hw hp_))
     go_ret
     exact⟨_,by first|rfl|(simp [errW_none,errW_some] <;> rfl)|(simp only[← b9];first|rfl|(simp [errW_none,errW_some] <;> rfl))|(simp [*,errW_none,errW_some] <;> rfl),rX j3.out,pB⟩
 ·rw[if_neg c4] at H;exact absurd H (by simp)


mutual
def Dzx.l0:Nat→List Int→List Int→Int→Int→Int→Int→Option (Int)
 | 0,_,_,_,_,_,_=>none
 | k+1,x0,x1,x5,x6,x8,x9=>if x8≥1000000000 then(Dzx.j1 k x0 x1 x5 x6 x8 x9 true) else(if 0≤(wrap64 (x6 - 1)) then(if(wrap64 (x6 - 1)) < (x1.length:Int) then(if 0≤(wrap64 (x5 - 2)) then(if(wrap64 (x5 - 2)) < (x0.length:Int) then(Dzx.j1 k x0 x1 x5 x6 x8 x9 (decide ((wrap64 (x8 * (rd x1 (wrap64 (x6 - 1))))) > (wrap64 ((wrap64 (x9 * 1000000000))+(rd x0 (wrap64 (x5 - 2)))))))) else(none)) else(none)) else(none)) else(none))
def Dzx.j1:Nat→List Int→List Int→Int→Int→Int→Int→Bool→Option (Int)
 | 0,_,_,_,_,_,_,_=>none
 | k+1,x0,x1,x5,x6,x8,x9,x58=>if x58=true then(if 0≤x6 then(if x6 < (x1.length:Int) then(if(wrap64 (x9+(rd x1 x6)))≥1000000000 then(some (wrap64 (x8 - 1))) else(Dzx.l0 k x0 x1 x5 x6 (wrap64 (x8 - 1)) (wrap64 (x9+(rd x1 x6))))) else(none)) else(none)) else(some x8)
end
def Dzx.f (k:Nat) (l0:List Int) (l1:List Int):Option (Int):=if 0≤(wrap64 ((l0.length:Int) - 1)) then(if(wrap64 ((l0.length:Int) - 1)) < (l0.length:Int) then(if 0≤(wrap64 ((wrap64 ((l0.length:Int) - 1)) - 1)) then(if(wrap64 ((wrap64 ((l0.length:Int) - 1)) - 1)) < (l0.length:Int) then(if 0≤(wrap64 ((l1.length:Int) - 1)) then(if(wrap64 ((l1.length:Int) - 1)) < (l1.length:Int) then(if(rd l1 (wrap64 ((l1.length:Int) - 1)))=0 then(none) else(Dzx.l0 k l0 l1 (wrap64 ((l0.length:Int) - 1)) (wrap64 ((l1.length:Int) - 1)) (wrap64 (Int.tdiv (wrap64 ((wrap64 ((rd l0 (wrap64 ((l0.length:Int) - 1))) * 1000000000))+(rd l0 (wrap64 ((wrap64 ((l0.length:Int) - 1)) - 1))))) (rd l1 (wrap64 ((l1.length:Int) - 1))))) (Int.tmod (wrap64 ((wrap64 ((rd l0 (wrap64 ((l0.length:Int) - 1))) * 1000000000))+(rd l0 (wrap64 ((wrap64 ((l0.length:Int) - 1)) - 1))))) (rd l1 (wrap64 ((l1.length:Int) - 1)))))) else(none)) else(none)) else(none)) else(none)) else(none)) else(none)
theorem Dzx.mono_l:∀ k,(∀ a6 a7 a8 b4 b5 b6,LeO (Dzx.l0 k a6 a7 a8 b4 b5 b6) (Dzx.l0 (k+1) a6 a7 a8 b4 b5 b6))∧(∀ a6 a7 a8 b4 b5 b6 b7,LeO (Dzx.j1 k a6 a7 a8 b4 b5 b6 b7) (Dzx.j1 (k+1) a6 a7 a8 b4 b5 b6 b7))
 | 0=>⟨fun _ _ _ _ _ _ r h=>by simp [Dzx.l0] at h,fun _ _ _ _ _ _ _ r h=>by simp [Dzx.j1] at h⟩
 | k+1=>by
  obtain⟨ih0,ih1⟩:=Dzx.mono_l k;refine⟨?_,?_⟩
  ·intro a6 a7 a8 b4 b5 b6;unfold Dzx.l0;exact mM
  ·intro a6 a7 a8 b4 b5 b6 b7;unfold Dzx.j1;exact mM
theorem Dzx.mono:∀ a6 a7 k,LeO (Dzx.f k a6 a7) (Dzx.f (k+1) a6 a7):=by
 intro a6 a7 k;obtain⟨ih0,ih1⟩:=Dzx.mono_l k;unfold Dzx.f;exact mM
theorem Dzx.calls (k:Nat) (a6:Option Addr) (a7:Nat) (l0:List Int) (a8:Option Addr) (b4:Nat) (l1:List Int) (r:Int) (w:World) (b5:Kd.C (Kd.int .i64) w a6 l0.length l0) (b6:l0.length≤a7) (b7:Kd.C (Kd.int .i64) w a8 l1.length l1) (b8:l1.length≤b4) (h:Dzx.f k l0 l1=some r) :
  Calls Tryz.prog 113 #[.slice a6 l0.length a7,.slice a8 l1.length b4] w fun e w'=>e=.returned (.int .i64 r)∧Drawn0 w w':=by
 have b9:=aM b5;have d0:=aM b6;clear b5 b6;have d6:=aM b7;have d7:=aM b8;clear b7 b8;have H:(if 0≤(wrap64 ((l0.length:Int) - 1)) then(if(wrap64 ((l0.length:Int) - 1)) < (l0.length:Int) then(if 0≤(wrap64 ((wrap64 ((l0.length:Int) - 1)) - 1)) then(if(wrap64 ((wrap64 ((l0.length:Int) - 1)) - 1)) < (l0.length:Int) then(if 0≤(wrap64 ((l1.length:Int) - 1)) then(if(wrap64 ((l1.length:Int) - 1)) < (l1.length:Int) then(if(rd l1 (wrap64 ((l1.length:Int) - 1)))=0 then(none) else(Dzx.l0 k l0 l1 (wrap64 ((l0.length:Int) - 1)) (wrap64 ((l1.length:Int) - 1)) (wrap64 (Int.tdiv (wrap64 ((wrap64 ((rd l0 (wrap64 ((l0.length:Int) - 1))) * 1000000000))+(rd l0 (wrap64 ((wrap64 ((l0.length:Int) - 1)) - 1))))) (rd l1 (wrap64 ((l1.length:Int) - 1))))) (Int.tmod (wrap64 ((wrap64 ((rd l0 (wrap64 ((l0.length:Int) - 1))) * 1000000000))+(rd l0 (wrap64 ((wrap64 ((l0.length:Int) - 1)) - 1))))) (rd l1 (wrap64 ((l1.length:Int) - 1)))))) else(none)) else(none)) else(none)) else(none)) else(none)) else(none))=some r:=h
 clear h;obtain⟨d8,d9⟩:∃ j_:Int,(wrap64 ((l0.length:Int) - 1))=j_:=⟨_,rfl⟩;replace H:(if 0≤(d8) then(if(d8) < (l0.length:Int) then(if 0≤(wrap64 ((d8) - 1)) then(if(wrap64 ((d8) - 1)) < (l0.length:Int) then(if 0≤(wrap64 ((l1.length:Int) - 1)) then(if(wrap64 ((l1.length:Int) - 1)) < (l1.length:Int) then(if(rd l1 (wrap64 ((l1.length:Int) - 1)))=0 then(none) else(Dzx.l0 k l0 l1 d8 (wrap64 ((l1.length:Int) - 1)) (wrap64 (Int.tdiv (wrap64 ((wrap64 ((rd l0 (d8)) * 1000000000))+(rd l0 (wrap64 ((d8) - 1))))) (rd l1 (wrap64 ((l1.length:Int) - 1))))) (Int.tmod (wrap64 ((wrap64 ((rd l0 (d8)) * 1000000000))+(rd l0 (wrap64 ((d8) - 1))))) (rd l1 (wrap64 ((l1.length:Int) - 1)))))) else(none)) else(none)) else(none)) else(none)) else(none)) else(none))=some r:=by first|(rw[d9] at H;exact H)|(simp only[d9] at H ⊢;exact H)
 have e6:(IntKind.i64.wrap ((l0.length:Int) - 1))=d8:=(i64_w _).trans d9;by_cases c4:0≤(d8)
 ·rw[if_pos c4] at H;have e7:=dE c4;clear c4;obtain⟨e8,H⟩:=iN H;obtain⟨e9,f3⟩:∃ j_:Int,(wrap64 ((d8) - 1))=j_:=⟨_,rfl⟩;replace H:(if 0≤(e9) then(if(e9) < (l0.length:Int) then(if 0≤(wrap64 ((l1.length:Int) - 1)) then(if(wrap64 ((l1.length:Int) - 1)) < (l1.length:Int) then(if(rd l1 (wrap64 ((l1.length:Int) - 1)))=0 then(none) else(Dzx.l0 k l0 l1 d8 (wrap64 ((l1.length:Int) - 1)) (wrap64 (Int.tdiv (wrap64 ((wrap64 ((rd l0 (d8)) * 1000000000))+(rd l0 (e9)))) (rd l1 (wrap64 ((l1.length:Int) - 1))))) (Int.tmod (wrap64 ((wrap64 ((rd l0 (d8)) * 1000000000))+(rd l0 (e9)))) (rd l1 (wrap64 ((l1.length:Int) - 1)))))) else(none)) else(none)) else(none)) else(none))=some r:=by first|(rw[f3] at H;exact H)|(simp only[f3] at H ⊢;exact H)
  have f4:(IntKind.i64.wrap ((d8) - 1))=e9:=(i64_w _).trans f3;obtain⟨f6,H⟩:=iN H;obtain⟨f9,H⟩:=iN H;obtain⟨g4,g5⟩:∃ j_:Int,(wrap64 ((l1.length:Int) - 1))=j_:=⟨_,rfl⟩;replace H:(if 0≤(g4) then(if(g4) < (l1.length:Int) then(if(rd l1 (g4))=0 then(none) else(Dzx.l0 k l0 l1 d8 g4 (wrap64 (Int.tdiv (wrap64 ((wrap64 ((rd l0 (d8)) * 1000000000))+(rd l0 (e9)))) (rd l1 (g4)))) (Int.tmod (wrap64 ((wrap64 ((rd l0 (d8)) * 1000000000))+(rd l0 (e9)))) (rd l1 (g4))))) else(none)) else(none))=some r:=by first|(rw[g5] at H;exact H)|(simp only[g5] at H ⊢;exact H)
  have g6:(IntKind.i64.wrap ((l1.length:Int) - 1))=g4:=(i64_w _).trans g5;obtain⟨g7,H⟩:=iN H;obtain⟨g8,H⟩:=iN H;obtain⟨g9,H⟩:=iM H;have j3:((rd l1 (g4)) == 0)=false:=beq_eq_false_iff_ne.mpr g9;have j4:((rd l1 (g4)) != 0)=true:=bne_iff_ne.mpr g9;have H':=aM H;clear H;obtain⟨j5,j6,j7,j8,j9⟩:=aI b9.out (d8);cases j6;obtain⟨l5,l6,l7,l8,l9⟩:=aI b9.out (e9);obtain rfl:j5=l5:=(by injection l6);obtain⟨m0,m3,m4,m5,m6⟩:=aI d6.out (g4);cases m3;obtain⟨m7,m8,m9,n0,n6⟩:=aI d6.out (g4);obtain rfl:m0=m7:=(by injection m8);go_enter Tryz.func113,Tryz.ntmps113
  go_wp2
  repeat(go_quiet (fail);try go_wp2)
  go_loopg [8,9] k (fun kq n7 n8 w'=>∃ (n9:Int) (o0:Int),n7=.int .i64 n9∧n8=.int .i64 o0∧Aside0 (Dzx.l0 kq l0 l1 d8 g4 n9 o0=some r)∧Aside0 (kq≤k)∧Drawn0 w w')
  case atStart=>exact⟨(wrap64 (Int.tdiv (wrap64 ((wrap64 ((rd l0 (d8)) * 1000000000))+(rd l0 (e9)))) (rd l1 (g4)))),(Int.tmod (wrap64 ((wrap64 ((rd l0 (d8)) * 1000000000))+(rd l0 (e9)))) (rd l1 (g4))),(by first|rfl|(simp;done)|(simp only[← d9,← f3,← g5] <;> (first|rfl|simp))|(simp [*];done)),(by first|rfl|(simp;done)|(simp only[← d9,← f3,← g5] <;> (first|rfl|simp))|(simp [*];done)),H',⟨Nat.le_refl _⟩,dR⟩
  case round =>
   clear H';try clear b4
   obtain⟨n9,o0,rfl,rfl,HA,o8,⟨o9,rfl⟩⟩:=hrel;cases gk with
   | zero=>exact absurd HA.out (by simp [Dzx.l0])
   | succ k1 =>
    have H:=HA.out;clear HA;simp only[Dzx.l0] at H;have p0:=aM H;clear H;go_upto_region 4 with (fail)
    repeat(go_quiet (fail);go_upto_region 4 with (fail))
    go_cut [58] (fun p3 wc=>∃ (kq:Nat) (p4:Bool),p3=.bool p4∧Aside0 (Dzx.j1 kq l0 l1 d8 g4 n9 o0 p4=some r)∧Aside0 (kq≤k1)∧Drawn0 w wc)
    case first =>
     have H:=p0.out;clear p0;by_cases p5:n9≥1000000000
     ·rw[if_pos p5] at H;have r5:decide (1000000000≤n9)=true:=dE p5;clear p5;(first|rw[r5]|(simp only[i64_w,i32_w];rw[r5])|skip)
      have H':=aM H;clear H;go_wp2
      repeat(go_quiet (fail);try go_wp2)
      go_meet
      case rel=>exact⟨_,(true),sD,H',⟨by have:=o8.out;first|omega|exact Nat.le_refl _⟩,dR⟩
     ·rw[if_neg p5] at H;have r5:decide (1000000000≤n9)=false:=decide_eq_false p5;clear p5;(first|rw[r5]|(simp only[i64_w,i32_w];rw[r5])|skip)
      obtain⟨r6,r7⟩:∃ j_:Int,(wrap64 (g4 - 1))=j_:=⟨_,rfl⟩;replace H:(if 0≤(r6) then(if(r6) < (l1.length:Int) then(if 0≤(wrap64 (d8 - 2)) then(if(wrap64 (d8 - 2)) < (l0.length:Int) then(Dzx.j1 k1 l0 l1 d8 g4 n9 o0 (decide ((wrap64 (n9 * (rd l1 (r6)))) > (wrap64 ((wrap64 (o0 * 1000000000))+(rd l0 (wrap64 (d8 - 2)))))))) else(none)) else(none)) else(none)) else(none))=some r:=by first|(rw[r7] at H;exact H)|(simp only[r7] at H ⊢;exact H)
      have r8:(IntKind.i64.wrap (g4 - 1))=r6:=(i64_w _).trans r7;obtain⟨r9,H⟩:=iN H;obtain⟨t6,H⟩:=iN H;obtain⟨t7,t8⟩:∃ j_:Int,(wrap64 (d8 - 2))=j_:=⟨_,rfl⟩;replace H:(if 0≤(t7) then(if(t7) < (l0.length:Int) then(Dzx.j1 k1 l0 l1 d8 g4 n9 o0 (decide ((wrap64 (n9 * (rd l1 (r6)))) > (wrap64 ((wrap64 (o0 * 1000000000))+(rd l0 (t7))))))) else(none)) else(none))=some r:=by first|(rw[t8] at H;exact H)|(simp only[t8] at H ⊢;exact H)
      have z1:(IntKind.i64.wrap (d8 - 2))=t7:=(i64_w _).trans t8;obtain⟨z2,H⟩:=iN H;obtain⟨z6,H⟩:=iN H;have H':=aM H;clear H;obtain⟨z7,z8,B0,B5,B6⟩:=aI d6.out (r6);obtain rfl:m0=z7:=(by injection z8);obtain⟨B8,B9,C0,C1,C2⟩:=aI b9.out (t7);obtain rfl:j5=B8:=(by injection B9);go_wp2
      repeat(go_quiet (fail);try go_wp2)
      go_meet
      case rel=>exact⟨_,(decide ((wrap64 (n9 * (rd l1 (r6)))) > (wrap64 ((wrap64 (o0 * 1000000000))+(rd l0 (t7)))))),(by first|rfl|(simp;done)|(simp only[← r7,← t8] <;> (first|rfl|simp))|(simp [*];done)),H',⟨by have:=o8.out;first|omega|exact Nat.le_refl _⟩,dR⟩
    case rest =>
     clear p0;try clear b4
     obtain⟨kq,p4,rfl,HA,C3,⟨mc12,rfl⟩⟩:=hcut;cases kq with
     | zero=>exact absurd HA.out (by simp [Dzx.j1])
     | succ C4 =>
      have H:=HA.out;clear HA;simp only[Dzx.j1] at H;by_cases C6:p4=true
      ·subst C6;rw[if_pos rfl] at H;obtain⟨C7,H⟩:=iN H;obtain⟨C8,H⟩:=iN H;by_cases C9:(wrap64 (o0+(rd l1 g4)))≥1000000000
       ·rw[if_pos C9] at H;have D0:decide (1000000000≤(wrap64 (o0+(rd l1 g4))))=true:=dE C9;have D1:decide (1000000000≤(IntKind.i64.wrap (o0+(rd l1 g4))))=true:=by have h_:=D0;first|exact h_|(simp only[i64_w];exact h_)
        clear C9;obtain rfl:=Option.some.inj H;obtain⟨D2,D3,D4,D5,D6⟩:=aI d6.out g4;obtain rfl:m0=D2:=(by injection D3);go_wp2
        repeat(go_quiet (fail);try go_wp2)
        go_ret
        exact⟨by first|rfl|(simp;done)|(simp only[← d9,← f3,← g5] <;> (first|rfl|simp))|(simp [*];done),dR⟩
       ·rw[if_neg C9] at H;have D0:decide (1000000000≤(wrap64 (o0+(rd l1 g4))))=false:=decide_eq_false C9;have D1:decide (1000000000≤(IntKind.i64.wrap (o0+(rd l1 g4))))=false:=by have h_:=D0;first|exact h_|(simp only[i64_w];exact h_)
        clear C9;have H':=aM H;clear H;obtain⟨D2,D3,D4,D5,D6⟩:=aI d6.out g4;obtain rfl:m0=D2:=(by injection D3);go_wp2
        repeat(go_quiet (fail);try go_wp2)
        go_roundg C4
        case measure=>have:=o8.out;have:=C3.out;omega
        case rel=>exact⟨(wrap64 (n9 - 1)),(wrap64 (o0+(rd l1 g4))),sD,(by first|rfl|(simp;done)|(simp only[← g5] <;> (first|rfl|simp))|(simp [*];done)),H',⟨by have:=o8.out;have:=C3.out;omega⟩,dR⟩
      ·obtain rfl:=bN C6;rw[if_neg nF] at H
       obtain rfl:=Option.some.inj H;go_wp2
       repeat(go_quiet (fail);try go_wp2)
       go_ret
       exact⟨by first|rfl|(simp;done)|(simp only[← d9,← f3,← g5] <;> (first|rfl|simp))|(simp [*];done),dR⟩
 ·rw[if_neg c4] at H;exact absurd H (by simp)


def Dzk.l0:Nat→List Int→List Int→Int→Int→Int→Int→Option (Bool × List Int)
 | 0,_,_,_,_,_,_=>none
 | k+1,x0,x1,x2,x7,x11,x12=>if x12 < x11 then(if 0≤x12 then(if x12 < (x0.length:Int) then(if x12 < (x1.length:Int) then(if(wrap64 ((wrap64 ((rd x0 x12) - x7)) - (wrap64 (x2 * (rd x1 x12))))) < 0 then(Dzk.l0 k (x0.set (x12:Int).toNat (wrap64 ((wrap64 ((wrap64 ((rd x0 x12) - x7)) - (wrap64 (x2 * (rd x1 x12)))))+(wrap64 ((wrap64 (Int.tdiv (wrap64 ((wrap64 ((wrap64 (-(wrap64 ((wrap64 ((rd x0 x12) - x7)) - (wrap64 (x2 * (rd x1 x12)))))))+1000000000)) - 1)) 1000000000)) * 1000000000))))) x1 x2 (wrap64 (Int.tdiv (wrap64 ((wrap64 ((wrap64 (-(wrap64 ((wrap64 ((rd x0 x12) - x7)) - (wrap64 (x2 * (rd x1 x12)))))))+1000000000)) - 1)) 1000000000)) x11 (wrap64 (x12+1))) else(Dzk.l0 k (x0.set (x12:Int).toNat (wrap64 ((wrap64 ((rd x0 x12) - x7)) - (wrap64 (x2 * (rd x1 x12)))))) x1 x2 0 x11 (wrap64 (x12+1)))) else(if(wrap64 ((rd x0 x12) - x7)) < 0 then(Dzk.l0 k (x0.set (x12:Int).toNat (wrap64 ((wrap64 ((rd x0 x12) - x7))+(wrap64 ((wrap64 (Int.tdiv (wrap64 ((wrap64 ((wrap64 (-(wrap64 ((rd x0 x12) - x7))))+1000000000)) - 1)) 1000000000)) * 1000000000))))) x1 x2 (wrap64 (Int.tdiv (wrap64 ((wrap64 ((wrap64 (-(wrap64 ((rd x0 x12) - x7))))+1000000000)) - 1)) 1000000000)) x11 (wrap64 (x12+1))) else(Dzk.l0 k (x0.set (x12:Int).toNat (wrap64 ((rd x0 x12) - x7))) x1 x2 0 x11 (wrap64 (x12+1))))) else(none)) else(none)) else(some (decide (x7 > 0),x0))
def Dzk.f (k:Nat) (l0:List Int) (l1:List Int) (a2:Int):Option (Bool × List Int):=Dzk.l0 k l0 l1 a2 0 (l0.length:Int) 0
theorem Dzk.mono_l:∀ k,(∀ a6 a7 a8 b4 b5 b6,LeO (Dzk.l0 k a6 a7 a8 b4 b5 b6) (Dzk.l0 (k+1) a6 a7 a8 b4 b5 b6))
 | 0=>fun _ _ _ _ _ _ r h=>by simp [Dzk.l0] at h
 | k+1=>by
  have ih0:=Dzk.mono_l k
  ·intro a6 a7 a8 b4 b5 b6;unfold Dzk.l0;exact mM
theorem Dzk.mono:∀ a6 a7 a8 k,LeO (Dzk.f k a6 a7 a8) (Dzk.f (k+1) a6 a7 a8):=by
 intro a6 a7 a8 k;have ih0:=Dzk.mono_l k;unfold Dzk.f;exact mM
theorem Dzk.calls (k:Nat) (a6:Nat→Prop) (u9000_:Value) (l0:List Int) (a7:Option Addr) (a8:Nat) (l1:List Int) (b4:Int) (b5:Bool) (b6:List Int) (b7 w:World) (hB:Below b7.heap.size b7 w) (b8:Kd.R (Kd.int .i64) 3 w b7.heap.size a6 u9000_ l0) (b9:∀ W_,Kept w W_ (fun k_=>a6 k_)→Kd.C (Kd.int .i64) W_ a7 l1.length l1) (d0:l1.length≤a8) (h:Dzk.f k l0 l1 b4=some (b5,b6)) :
  Calls Tryz.prog 114 #[u9000_,.slice a7 l1.length a8,.int .i64 b4] w fun e w'=>e=.returned (.bool b5)∧Kd.R (Kd.int .i64) 3 w' b7.heap.size (fun k_=>(a6 k_∨w.heap.size≤k_)) u9000_ b6∧Below b7.heap.size b7 w'∧Kept w w' (fun k_=>a6 k_):=by
 have d6:=aM (show Kd.R (Kd.int .i64) 3 w b7.heap.size (fun k_=>(a6 k_∨w.heap.size≤k_)) u9000_ l0 from Kd.R_mono b8 (fun k_ hk=>(.inl hk)))
 have d7:=aM b9;have d8:=aM d0;clear b9 d0;have HK:=aM (Kept.refl w (fun k_=>a6 k_))
 have HW0:=aM hB.size;have HB:=aM hB;clear hB;have H:(Dzk.l0 k l0 l1 b4 0 (l0.length:Int) 0)=some (b5,b6):=h;clear h;have H':=aM H;clear H;obtain⟨d9,e6,rfl⟩:=Kd.R_slice d6.out;go_enter Tryz.func114,Tryz.ntmps114
 go_wp2
 go_loopg [7,12] k (fun kq e7 e8 w'=>∃ (e9:List Int) (f3:Int) (f4:Int),e7=.int .i64 f3∧e8=.int .i64 f4∧Aside0 (Dzk.l0 kq e9 l1 b4 f3 (l0.length:Int) f4=some (b5,b6))∧Aside0 (kq≤k)∧Aside0 (Kd.R (Kd.int .i64) 3 w' b7.heap.size (fun k_=>(a6 k_∨w.heap.size≤k_)) (.slice d9 l0.length e6) e9)∧Aside0 (Kept w w' (fun k_=>a6 k_))∧Aside0 (Below b7.heap.size b7 w'))
 case atStart=>exact⟨(l0),(0),(0),sD,sD,H',⟨Nat.le_refl _⟩,⟨rX d6.out⟩,⟨kK HK⟩,⟨pB⟩⟩
 case round =>
  clear H';try clear a8
  obtain⟨e9,f3,f4,rfl,rfl,HA,f6,f9,HK,HB⟩:=hrel;have g4:=(Kd.R_reads' f9.out).1;rw[g4] at f9;(try simp only[g4])
  cases gk with
  | zero=>exact absurd HA.out (by simp [Dzk.l0])
  | succ k1 =>
   have H:=HA.out;clear HA;simp only[Dzk.l0] at H;by_cases c5:f4 < (l0.length:Int)
   ·rw[if_pos c5] at H;have g5:=dE c5;have g6:=g5;(try simp only[g4] at g6)
    clear c5;obtain⟨g7,H⟩:=iN H;obtain⟨c7,H⟩:=iO H;have g8:decide (f4 < (e9.length:Int))=true:=dE c7;have g9:=g8;(try simp only[g4] at g9)
    clear c7;by_cases c8:f4 < (l1.length:Int)
    ·rw[if_pos c8] at H;have j3:=dE c8;have j4:=j3;(try simp only[g4] at j4)
     clear c8;by_cases c9:(wrap64 ((wrap64 ((rd e9 f4) - f3)) - (wrap64 (b4 * (rd l1 f4))))) < 0
     ·rw[if_pos c9] at H;have j5:decide ((wrap64 ((wrap64 ((rd e9 f4) - f3)) - (wrap64 (b4 * (rd l1 f4))))) < 0)=true:=dE c9;have j6:decide ((IntKind.i64.wrap ((IntKind.i64.wrap ((rd e9 f4) - f3)) - (IntKind.i64.wrap (b4 * (rd l1 f4))))) < 0)=true:=by have h_:=j5;first|exact h_|(simp only[i64_w];exact h_)
      clear c9;obtain⟨j7,j8⟩:∃ y_:List Int,y_=(e9.set (f4:Int).toNat (wrap64 ((wrap64 ((wrap64 ((rd e9 f4) - f3)) - (wrap64 (b4 * (rd l1 f4)))))+(wrap64 ((wrap64 (Int.tdiv (wrap64 ((wrap64 ((wrap64 (-(wrap64 ((wrap64 ((rd e9 f4) - f3)) - (wrap64 (b4 * (rd l1 f4)))))))+1000000000)) - 1)) 1000000000)) * 1000000000))))):=⟨_,rfl⟩;replace H:(Dzk.l0 k1 j7 l1 b4 (wrap64 (Int.tdiv (wrap64 ((wrap64 ((wrap64 (-(wrap64 ((wrap64 ((rd e9 f4) - f3)) - (wrap64 (b4 * (rd l1 f4)))))))+1000000000)) - 1)) 1000000000)) (l0.length:Int) (wrap64 (f4+1)))=some (b5,b6):=yE j8 H
      have j9:=aM j8;clear j8;have H':=aM H;clear H;obtain⟨l5,l6,l7,l8,l9⟩:=aI (Kd.R_reads' f9.out).2.2 f4;cases l6;obtain⟨m0,m3,m4,m5,m6⟩:=aI (Kd.C_kept_now d7.out HK.out) f4;cases m3;have m7:0≤(f4:Int):=oE aS
      have m8:(f4:Int) < ((e9.length:Int):Int):=oE aS
      obtain⟨m9,n0,n6,n7,n8,n9,o0⟩:=Kd.R_form f9.out (by omega)
      (first|cases n6|(injection n6 with ea_ en_ ec_;(first|subst ea_|(injection ea_ with ea_;subst ea_));subst ec_;clear en_))
      have o8:=aM n7;have o9:=aM o0;clear n7 n8 o0;have HMgo10:=aM (show(a6 m9∨w.heap.size≤m9) from(f9.out.1 _ rfl))
      (first|simp only[add_plain] at l7|skip)
      obtain⟨p0,p3⟩:=Kd.R_celln 0 f9.out (f4:Int) m7 m8;replace m7:=eq_true m7;replace m8:=eq_true m8;have p4:=Kd.R_putg f9.out (f4:Int) (wrap64 ((wrap64 ((wrap64 ((rd e9 f4) - f3)) - (wrap64 (b4 * (rd l1 f4)))))+(wrap64 ((wrap64 (Int.tdiv (wrap64 ((wrap64 ((wrap64 (-(wrap64 ((wrap64 ((rd e9 f4) - f3)) - (wrap64 (b4 * (rd l1 f4)))))))+1000000000)) - 1)) 1000000000)) * 1000000000))));go_wp2_with (first|((with_reducible refine gate_store (t:=3) (p:=47) rfl ?_);refine store_event (t:=3) (p:=47) (v:=?vo_w12) (w1:=(wr.setCell ⟨m9,(f4:Int).toNat,none⟩ (.int .i64 (wrap64 ((wrap64 ((wrap64 ((rd e9 f4) - f3)) - (wrap64 (b4 * (rd l1 f4)))))+(wrap64 ((wrap64 (Int.tdiv (wrap64 ((wrap64 ((wrap64 (-(wrap64 ((wrap64 ((rd e9 f4) - f3)) - (wrap64 (b4 * (rd l1 f4)))))))+1000000000)) - 1)) 1000000000)) * 1000000000))))))) ?hg ?ho ?hn ?hr ?_;(case ho=>rfl);(case hg=>rfl);(case hn=>rfl);(case hr=>first|(go_simp;done)|(go_simp;rfl));intro p5 hw;have hg:wr.grownBy p5 (some m9):=(by rw[hw];exact p4.2);have hp_:Kd.R (Kd.int .i64) 3 p5 b7.heap.size (fun k_=>(a6 k_∨w.heap.size≤k_)) (.slice (some ⟨m9,0,none⟩) e9.length e6) j7:=(by rw[hw,j9.out];exact p4.1);clear p4;replace HK:=aM (Kept.of_grown (S:=(fun k_=>a6 k_)) hg (kK HK) (fun k_ e_=>(f9.out.1 k_ e_)));replace f9:=aM (hp_);replace HB:=aM ((by rw[hw];exact below_set (HB.out) o8.out:Below b7.heap.size b7 p5));clear hg hw hp_))
      (try simp only[← g4])
      go_roundg k1
      case measure=>have:=f6.out;omega
      case rel=>exact⟨(j7),(wrap64 (Int.tdiv (wrap64 ((wrap64 ((wrap64 (-(wrap64 ((wrap64 ((rd e9 f4) - f3)) - (wrap64 (b4 * (rd l1 f4)))))))+1000000000)) - 1)) 1000000000)),(wrap64 (f4+1)),sD,sD,H',⟨by have:=f6.out;omega⟩,⟨by(try simp only[g4]);(with_reducible repeat(first|apply Kd.R_alloc|apply Kd.R_drewN|apply Kd.R_drew));exact f9.out⟩,⟨kK HK⟩,⟨pB⟩⟩
     ·rw[if_neg c9] at H;have j5:decide ((wrap64 ((wrap64 ((rd e9 f4) - f3)) - (wrap64 (b4 * (rd l1 f4))))) < 0)=false:=decide_eq_false c9;have j6:decide ((IntKind.i64.wrap ((IntKind.i64.wrap ((rd e9 f4) - f3)) - (IntKind.i64.wrap (b4 * (rd l1 f4))))) < 0)=false:=by have h_:=j5;first|exact h_|(simp only[i64_w];exact h_)
      clear c9;obtain⟨r5,r6⟩:∃ y_:List Int,y_=(e9.set (f4:Int).toNat (wrap64 ((wrap64 ((rd e9 f4) - f3)) - (wrap64 (b4 * (rd l1 f4)))))):=⟨_,rfl⟩;replace H:(Dzk.l0 k1 r5 l1 b4 0 (l0.length:Int) (wrap64 (f4+1)))=some (b5,b6):=yE r6 H
      have r7:=aM r6;clear r6;have H':=aM H;clear H;obtain⟨l5,l6,l7,l8,l9⟩:=aI (Kd.R_reads' f9.out).2.2 f4;cases l6;obtain⟨m0,m3,m4,m5,m6⟩:=aI (Kd.C_kept_now d7.out HK.out) f4;cases m3;have r8:0≤(f4:Int):=oE aS
      have r9:(f4:Int) < ((e9.length:Int):Int):=oE aS
      obtain⟨t6,t7,t8,z1,z2,z6,z7⟩:=Kd.R_form f9.out (by omega)
      (first|cases t8|(injection t8 with ea_ en_ ec_;(first|subst ea_|(injection ea_ with ea_;subst ea_));subst ec_;clear en_))
      have z8:=aM z1;have B0:=aM z7;clear z1 z2 z7;have HMgo13:=aM (show(a6 t6∨w.heap.size≤t6) from(f9.out.1 _ rfl))
      (first|simp only[add_plain] at l7|skip)
      obtain⟨B5,B6⟩:=Kd.R_celln 0 f9.out (f4:Int) r8 r9;replace r8:=eq_true r8;replace r9:=eq_true r9;have B8:=Kd.R_putg f9.out (f4:Int) (wrap64 ((wrap64 ((rd e9 f4) - f3)) - (wrap64 (b4 * (rd l1 f4)))));go_wp2_with (first|((with_reducible refine gate_store (t:=3) (p:=47) rfl ?_);refine store_event (t:=3) (p:=47) (v:=?vo_w15) (w1:=(wr.setCell ⟨t6,(f4:Int).toNat,none⟩ (.int .i64 (wrap64 ((wrap64 ((rd e9 f4) - f3)) - (wrap64 (b4 * (rd l1 f4)))))))) ?hg ?ho ?hn ?hr ?_;(case ho=>rfl);(case hg=>rfl);(case hn=>rfl);(case hr=>first|(go_simp;done)|(go_simp;rfl));intro B9 hw;have hg:wr.grownBy B9 (some t6):=(by rw[hw];exact B8.2);have hp_:Kd.R (Kd.int .i64) 3 B9 b7.heap.size (fun k_=>(a6 k_∨w.heap.size≤k_)) (.slice (some ⟨t6,0,none⟩) e9.length e6) r5:=(by rw[hw,r7.out];exact B8.1);clear B8;replace HK:=aM (Kept.of_grown (S:=(fun k_=>a6 k_)) hg (kK HK) (fun k_ e_=>(f9.out.1 k_ e_)));replace f9:=aM (hp_);replace HB:=aM ((by rw[hw];exact below_set (HB.out) z8.out:Below b7.heap.size b7 B9));clear hg hw hp_))
      (try simp only[← g4])
      go_roundg k1
      case measure=>have:=f6.out;omega
      case rel=>exact⟨(r5),(0),(wrap64 (f4+1)),sD,sD,H',⟨by have:=f6.out;omega⟩,⟨by(try simp only[g4]);(with_reducible repeat(first|apply Kd.R_alloc|apply Kd.R_drewN|apply Kd.R_drew));exact f9.out⟩,⟨kK HK⟩,⟨pB⟩⟩
    ·rw[if_neg c8] at H;have j3:decide (f4 < (l1.length:Int))=false:=decide_eq_false c8;have j4:=j3;(try simp only[g4] at j4)
     clear c8;by_cases C0:(wrap64 ((rd e9 f4) - f3)) < 0
     ·rw[if_pos C0] at H;have C1:decide ((wrap64 ((rd e9 f4) - f3)) < 0)=true:=dE C0;have C2:decide ((IntKind.i64.wrap ((rd e9 f4) - f3)) < 0)=true:=by have h_:=C1;first|exact h_|(simp only[i64_w];exact h_)
      clear C0;obtain⟨C3,C4⟩:∃ y_:List Int,y_=(e9.set (f4:Int).toNat (wrap64 ((wrap64 ((rd e9 f4) - f3))+(wrap64 ((wrap64 (Int.tdiv (wrap64 ((wrap64 ((wrap64 (-(wrap64 ((rd e9 f4) - f3))))+1000000000)) - 1)) 1000000000)) * 1000000000))))):=⟨_,rfl⟩;replace H:(Dzk.l0 k1 C3 l1 b4 (wrap64 (Int.tdiv (wrap64 ((wrap64 ((wrap64 (-(wrap64 ((rd e9 f4) - f3))))+1000000000)) - 1)) 1000000000)) (l0.length:Int) (wrap64 (f4+1)))=some (b5,b6):=yE C4 H
      have C6:=aM C4;clear C4;have H':=aM H;clear H;obtain⟨l5,l6,l7,l8,l9⟩:=aI (Kd.R_reads' f9.out).2.2 f4;cases l6;have C7:0≤(f4:Int):=oE aS
      have C8:(f4:Int) < ((e9.length:Int):Int):=oE aS
      obtain⟨C9,D0,D1,D2,D3,D4,D5⟩:=Kd.R_form f9.out (by omega)
      (first|cases D1|(injection D1 with ea_ en_ ec_;(first|subst ea_|(injection ea_ with ea_;subst ea_));subst ec_;clear en_))
      have D6:=aM D2;have D7:=aM D5;clear D2 D3 D5;have HMgo17:=aM (show(a6 C9∨w.heap.size≤C9) from(f9.out.1 _ rfl))
      (first|simp only[add_plain] at l7|skip)
      obtain⟨D8,D9⟩:=Kd.R_celln 0 f9.out (f4:Int) C7 C8;replace C7:=eq_true C7;replace C8:=eq_true C8;have E0:=Kd.R_putg f9.out (f4:Int) (wrap64 ((wrap64 ((rd e9 f4) - f3))+(wrap64 ((wrap64 (Int.tdiv (wrap64 ((wrap64 ((wrap64 (-(wrap64 ((rd e9 f4) - f3))))+1000000000)) - 1)) 1000000000)) * 1000000000))));go_wp2_with (first|((with_reducible refine gate_store (t:=3) (p:=47) rfl ?_);refine store_event (t:=3) (p:=47) (v:=?vo_w19) (w1:=(wr.setCell ⟨C9,(f4:Int).toNat,none⟩ (.int .i64 (wrap64 ((wrap64 ((rd e9 f4) - f3))+(wrap64 ((wrap64 (Int.tdiv (wrap64 ((wrap64 ((wrap64 (-(wrap64 ((rd e9 f4) - f3))))+1000000000)) - 1)) 1000000000)) * 1000000000))))))) ?hg ?ho ?hn ?hr ?_;(case ho=>rfl);(case hg=>rfl);(case hn=>rfl);(case hr=>first|(go_simp;done)|(go_simp;rfl));intro E1 hw;have hg:wr.grownBy E1 (some C9):=(by rw[hw];exact E0.2);have hp_:Kd.R (Kd.int .i64) 3 E1 b7.heap.size (fun k_=>(a6 k_∨w.heap.size≤k_)) (.slice (some ⟨C9,0,none⟩) e9.length e6) C3:=(by rw[hw,C6.out];exact E0.1);clear E0;replace HK:=aM (Kept.of_grown (S:=(fun k_=>a6 k_)) hg (kK HK) (fun k_ e_=>(f9.out.1 k_ e_)));replace f9:=aM (hp_);replace HB:=aM ((by rw[hw];exact below_set (HB.out) D6.out:Below b7.heap.size b7 E1));clear hg hw hp_))
      (try simp only[← g4])
      go_roundg k1
      case measure=>have:=f6.out;omega
      case rel=>exact⟨(C3),(wrap64 (Int.tdiv (wrap64 ((wrap64 ((wrap64 (-(wrap64 ((rd e9 f4) - f3))))+1000000000)) - 1)) 1000000000)),(wrap64 (f4+1)),sD,sD,H',⟨by have:=f6.out;omega⟩,⟨by(try simp only[g4]);(with_reducible repeat(first|apply Kd.R_alloc|apply Kd.R_drewN|apply Kd.R_drew));exact f9.out⟩,⟨kK HK⟩,⟨pB⟩⟩
     ·rw[if_neg C0] at H;have C1:decide ((wrap64 ((rd e9 f4) - f3)) < 0)=false:=decide_eq_false C0;have C2:decide ((IntKind.i64.wrap ((rd e9 f4) - f3)) < 0)=false:=by have h_:=C1;first|exact h_|(simp only[i64_w];exact h_)
      clear C0;obtain⟨E2,E3⟩:∃ y_:List Int,y_=(e9.set (f4:Int).toNat (wrap64 ((rd e9 f4) - f3))):=⟨_,rfl⟩;replace H:(Dzk.l0 k1 E2 l1 b4 0 (l0.length:Int) (wrap64 (f4+1)))=some (b5,b6):=yE E3 H
      have E4:=aM E3;clear E3;have H':=aM H;clear H;obtain⟨l5,l6,l7,l8,l9⟩:=aI (Kd.R_reads' f9.out).2.2 f4;cases l6;have E5:0≤(f4:Int):=oE aS
      have E6:(f4:Int) < ((e9.length:Int):Int):=oE aS
      obtain⟨E7,E8,E9,F0,F1,F2,F3⟩:=Kd.R_form f9.out (by omega)
      (first|cases E9|(injection E9 with ea_ en_ ec_;(first|subst ea_|(injection ea_ with ea_;subst ea_));subst ec_;clear en_))
      have F4:=aM F0;have F5:=aM F3;clear F0 F1 F3;have HMgo20:=aM (show(a6 E7∨w.heap.size≤E7) from(f9.out.1 _ rfl))
      (first|simp only[add_plain] at l7|skip)
      obtain⟨F6,F7⟩:=Kd.R_celln 0 f9.out (f4:Int) E5 E6;replace E5:=eq_true E5;replace E6:=eq_true E6;have F8:=Kd.R_putg f9.out (f4:Int) (wrap64 ((rd e9 f4) - f3));go_wp2_with (first|((with_reducible refine gate_store (t:=3) (p:=47) rfl ?_);refine store_event (t:=3) (p:=47) (v:=?vo_w22) (w1:=(wr.setCell ⟨E7,(f4:Int).toNat,none⟩ (.int .i64 (wrap64 ((rd e9 f4) - f3))))) ?hg ?ho ?hn ?hr ?_;(case ho=>rfl);(case hg=>rfl);(case hn=>rfl);(case hr=>first|(go_simp;done)|(go_simp;rfl));intro F9 hw;have hg:wr.grownBy F9 (some E7):=(by rw[hw];exact F8.2);have hp_:Kd.R (Kd.int .i64) 3 F9 b7.heap.size (fun k_=>(a6 k_∨w.heap.size≤k_)) (.slice (some ⟨E7,0,none⟩) e9.length e6) E2:=(by rw[hw,E4.out];exact F8.1);clear F8;replace HK:=aM (Kept.of_grown (S:=(fun k_=>a6 k_)) hg (kK HK) (fun k_ e_=>(f9.out.1 k_ e_)));replace f9:=aM (hp_);replace HB:=aM ((by rw[hw];exact below_set (HB.out) F4.out:Below b7.heap.size b7 F9));clear hg hw hp_))
      (try simp only[← g4])
      go_roundg k1
      case measure=>have:=f6.out;omega
      case rel=>exact⟨(E2),(0),(wrap64 (f4+1)),sD,sD,H',⟨by have:=f6.out;omega⟩,⟨by(try simp only[g4]);(with_reducible repeat(first|apply Kd.R_alloc|apply Kd.R_drewN|apply Kd.R_drew));exact f9.out⟩,⟨kK HK⟩,⟨pB⟩⟩
   ·rw[if_neg c5] at H;have g5:decide (f4 < (l0.length:Int))=false:=decide_eq_false c5;have g6:=g5;(try simp only[g4] at g6)
    clear c5;obtain⟨rfl,rfl⟩:=q2 H;go_wp2
    go_ret
    exact⟨eW,(by first|exact(rX f9.out)|(simp only[g4];exact(rX f9.out))),pB,kK HK⟩


def Dzb.l0:Nat→List Int→List Int→Int→Int→Int→Option (List Int)
 | 0,_,_,_,_,_=>none
 | k+1,x0,x1,x4,x8,x9=>if x9 < x8 then(if 0≤x9 then(if x9 < (x0.length:Int) then(if x9 < (x1.length:Int) then(Dzb.l0 k (x0.set (x9:Int).toNat (Int.tmod (wrap64 ((wrap64 ((rd x0 x9)+x4))+(rd x1 x9))) 1000000000)) x1 (wrap64 (Int.tdiv (wrap64 ((wrap64 ((rd x0 x9)+x4))+(rd x1 x9))) 1000000000)) x8 (wrap64 (x9+1))) else(Dzb.l0 k (x0.set (x9:Int).toNat (Int.tmod (wrap64 ((rd x0 x9)+x4)) 1000000000)) x1 (wrap64 (Int.tdiv (wrap64 ((rd x0 x9)+x4)) 1000000000)) x8 (wrap64 (x9+1)))) else(none)) else(none)) else(some x0)
def Dzb.f (k:Nat) (l0:List Int) (l1:List Int):Option (List Int):=Dzb.l0 k l0 l1 0 (l0.length:Int) 0
theorem Dzb.mono_l:∀ k,(∀ a6 a7 a8 b4 b5,LeO (Dzb.l0 k a6 a7 a8 b4 b5) (Dzb.l0 (k+1) a6 a7 a8 b4 b5))
 | 0=>fun _ _ _ _ _ r h=>by simp [Dzb.l0] at h
 | k+1=>by
  have ih0:=Dzb.mono_l k
  ·intro a6 a7 a8 b4 b5;unfold Dzb.l0;exact mM
theorem Dzb.mono:∀ a6 a7 k,LeO (Dzb.f k a6 a7) (Dzb.f (k+1) a6 a7):=by
 intro a6 a7 k;have ih0:=Dzb.mono_l k;unfold Dzb.f;exact mM
theorem Dzb.calls (k:Nat) (a6:Nat→Prop) (u9000_:Value) (l0:List Int) (a7:Option Addr) (a8:Nat) (l1:List Int) (r:List Int) (b4 w:World) (hB:Below b4.heap.size b4 w) (b5:Kd.R (Kd.int .i64) 3 w b4.heap.size a6 u9000_ l0) (b6:∀ W_,Kept w W_ (fun k_=>a6 k_)→Kd.C (Kd.int .i64) W_ a7 l1.length l1) (b7:l1.length≤a8) (h:Dzb.f k l0 l1=some r) :
  Calls Tryz.prog 115 #[u9000_,.slice a7 l1.length a8] w fun e w'=>e=.returned (.tuple #[])∧Kd.R (Kd.int .i64) 3 w' b4.heap.size (fun k_=>(a6 k_∨w.heap.size≤k_)) u9000_ r∧Below b4.heap.size b4 w'∧Kept w w' (fun k_=>a6 k_):=by
 have b8:=aM (show Kd.R (Kd.int .i64) 3 w b4.heap.size (fun k_=>(a6 k_∨w.heap.size≤k_)) u9000_ l0 from Kd.R_mono b5 (fun k_ hk=>(.inl hk)))
 have b9:=aM b6;have d0:=aM b7;clear b6 b7;have HK:=aM (Kept.refl w (fun k_=>a6 k_))
 have HW0:=aM hB.size;have HB:=aM hB;clear hB;have H:(Dzb.l0 k l0 l1 0 (l0.length:Int) 0)=some r:=h;clear h;have H':=aM H;clear H;obtain⟨d6,d7,rfl⟩:=Kd.R_slice b8.out;go_enter Tryz.func115,Tryz.ntmps115
 go_wp2
 go_loopg [4,9] k (fun kq d8 d9 w'=>∃ (e6:List Int) (e7:Int) (e8:Int),d8=.int .i64 e7∧d9=.int .i64 e8∧Aside0 (Dzb.l0 kq e6 l1 e7 (l0.length:Int) e8=some r)∧Aside0 (kq≤k)∧Aside0 (Kd.R (Kd.int .i64) 3 w' b4.heap.size (fun k_=>(a6 k_∨w.heap.size≤k_)) (.slice d6 l0.length d7) e6)∧Aside0 (Kept w w' (fun k_=>a6 k_))∧Aside0 (Below b4.heap.size b4 w'))
 case atStart=>exact⟨(l0),(0),(0),sD,sD,H',⟨Nat.le_refl _⟩,⟨rX b8.out⟩,⟨kK HK⟩,⟨pB⟩⟩
 case round =>
  clear H';try clear a8
  obtain⟨e6,e7,e8,rfl,rfl,HA,e9,f3,HK,HB⟩:=hrel;have f4:=(Kd.R_reads' f3.out).1;rw[f4] at f3;(try simp only[f4])
  cases gk with
  | zero=>exact absurd HA.out (by simp [Dzb.l0])
  | succ k1 =>
   have H:=HA.out;clear HA;simp only[Dzb.l0] at H;by_cases c4:e8 < (l0.length:Int)
   ·rw[if_pos c4] at H;have f6:=dE c4;have f9:=f6;(try simp only[f4] at f9)
    clear c4;obtain⟨g4,H⟩:=iN H;obtain⟨c6,H⟩:=iO H;have g5:decide (e8 < (e6.length:Int))=true:=dE c6;have g6:=g5;(try simp only[f4] at g6)
    clear c6;by_cases c7:e8 < (l1.length:Int)
    ·rw[if_pos c7] at H;have g7:=dE c7;have g8:=g7;(try simp only[f4] at g8)
     clear c7;obtain⟨g9,j3⟩:∃ y_:List Int,y_=(e6.set (e8:Int).toNat (Int.tmod (wrap64 ((wrap64 ((rd e6 e8)+e7))+(rd l1 e8))) 1000000000)):=⟨_,rfl⟩;replace H:(Dzb.l0 k1 g9 l1 (wrap64 (Int.tdiv (wrap64 ((wrap64 ((rd e6 e8)+e7))+(rd l1 e8))) 1000000000)) (l0.length:Int) (wrap64 (e8+1)))=some r:=yE j3 H
     have j4:=aM j3;clear j3;have H':=aM H;clear H;obtain⟨j5,j6,j7,j8,j9⟩:=aI (Kd.R_reads' f3.out).2.2 e8;cases j6;obtain⟨l5,l6,l7,l8,l9⟩:=aI (Kd.C_kept_now b9.out HK.out) e8;cases l6;have m0:0≤(e8:Int):=oE aS
     have q8:(e8:Int) < ((e6.length:Int):Int):=oE aS
     obtain⟨m3,m4,m5,m6,m7,m8,m9⟩:=Kd.R_form f3.out (by omega)
     (first|cases m5|(injection m5 with ea_ en_ ec_;(first|subst ea_|(injection ea_ with ea_;subst ea_));subst ec_;clear en_))
     have n0:=aM m6;have n6:=aM m9;clear m6 m7 m9;have HMgo8:=aM (show(a6 m3∨w.heap.size≤m3) from(f3.out.1 _ rfl))
     (first|simp only[add_plain] at j7|skip)
     obtain⟨n7,n8⟩:=Kd.R_celln 0 f3.out (e8:Int) m0 q8;replace m0:=eq_true m0;replace q8:=eq_true q8;have n9:=Kd.R_putg f3.out (e8:Int) (Int.tmod (wrap64 ((wrap64 ((rd e6 e8)+e7))+(rd l1 e8))) 1000000000);go_wp2_with (first|((with_reducible refine gate_store (t:=3) (p:=34) rfl ?_);refine store_event (t:=3) (p:=34) (v:=?vo_w10) (w1:=(wr.setCell ⟨m3,(e8:Int).toNat,none⟩ (.int .i64 (Int.tmod (wrap64 ((wrap64 ((rd e6 e8)+e7))+(rd l1 e8))) 1000000000)))) ?hg ?ho ?hn ?hr ?_;(case ho=>rfl);(case hg=>rfl);(case hn=>rfl);(case hr=>first|(go_simp;done)|(go_simp;rfl));intro o0 hw;have hg:wr.grownBy o0 (some m3):=(by rw[hw];exact n9.2);have hp_:Kd.R (Kd.int .i64) 3 o0 b4.heap.size (fun k_=>(a6 k_∨w.heap.size≤k_)) (.slice (some ⟨m3,0,none⟩) e6.length d7) g9:=(by rw[hw,j4.out];exact n9.1);clear n9;replace HK:=aM (Kept.of_grown (S:=(fun k_=>a6 k_)) hg (kK HK) (fun k_ e_=>(f3.out.1 k_ e_)));replace f3:=aM (hp_);replace HB:=aM ((by rw[hw];exact below_set (HB.out) n0.out:Below b4.heap.size b4 o0));clear hg hw hp_))
     (try simp only[← f4])
     go_roundg k1
     case measure=>have:=e9.out;omega
     case rel=>exact⟨(g9),(wrap64 (Int.tdiv (wrap64 ((wrap64 ((rd e6 e8)+e7))+(rd l1 e8))) 1000000000)),(wrap64 (e8+1)),sD,sD,H',⟨by have:=e9.out;omega⟩,⟨by(try simp only[f4]);(with_reducible repeat(first|apply Kd.R_alloc|apply Kd.R_drewN|apply Kd.R_drew));exact f3.out⟩,⟨kK HK⟩,⟨pB⟩⟩
    ·rw[if_neg c7] at H;have g7:decide (e8 < (l1.length:Int))=false:=decide_eq_false c7;have g8:=g7;(try simp only[f4] at g8)
     clear c7;obtain⟨o8,o9⟩:∃ y_:List Int,y_=(e6.set (e8:Int).toNat (Int.tmod (wrap64 ((rd e6 e8)+e7)) 1000000000)):=⟨_,rfl⟩;replace H:(Dzb.l0 k1 o8 l1 (wrap64 (Int.tdiv (wrap64 ((rd e6 e8)+e7)) 1000000000)) (l0.length:Int) (wrap64 (e8+1)))=some r:=yE o9 H
     have p0:=aM o9;clear o9;have H':=aM H;clear H;obtain⟨j5,j6,j7,j8,j9⟩:=aI (Kd.R_reads' f3.out).2.2 e8;cases j6;have p3:0≤(e8:Int):=oE aS
     have p4:(e8:Int) < ((e6.length:Int):Int):=oE aS
     obtain⟨p5,r5,r6,r7,r8,r9,t6⟩:=Kd.R_form f3.out (by omega)
     (first|cases r6|(injection r6 with ea_ en_ ec_;(first|subst ea_|(injection ea_ with ea_;subst ea_));subst ec_;clear en_))
     have t7:=aM r7;have t8:=aM t6;clear r7 r8 t6;have HMgo11:=aM (show(a6 p5∨w.heap.size≤p5) from(f3.out.1 _ rfl))
     (first|simp only[add_plain] at j7|skip)
     obtain⟨z1,z2⟩:=Kd.R_celln 0 f3.out (e8:Int) p3 p4;replace p3:=eq_true p3;replace p4:=eq_true p4;have z6:=Kd.R_putg f3.out (e8:Int) (Int.tmod (wrap64 ((rd e6 e8)+e7)) 1000000000);go_wp2_with (first|((with_reducible refine gate_store (t:=3) (p:=34) rfl ?_);refine store_event (t:=3) (p:=34) (v:=?vo_w13) (w1:=(wr.setCell ⟨p5,(e8:Int).toNat,none⟩ (.int .i64 (Int.tmod (wrap64 ((rd e6 e8)+e7)) 1000000000)))) ?hg ?ho ?hn ?hr ?_;(case ho=>rfl);(case hg=>rfl);(case hn=>rfl);(case hr=>first|(go_simp;done)|(go_simp;rfl));intro z7 hw;have hg:wr.grownBy z7 (some p5):=(by rw[hw];exact z6.2);have hp_:Kd.R (Kd.int .i64) 3 z7 b4.heap.size (fun k_=>(a6 k_∨w.heap.size≤k_)) (.slice (some ⟨p5,0,none⟩) e6.length d7) o8:=(by rw[hw,p0.out];exact z6.1);clear z6;replace HK:=aM (Kept.of_grown (S:=(fun k_=>a6 k_)) hg (kK HK) (fun k_ e_=>(f3.out.1 k_ e_)));replace f3:=aM (hp_);replace HB:=aM ((by rw[hw];exact below_set (HB.out) t7.out:Below b4.heap.size b4 z7));clear hg hw hp_))
     (try simp only[← f4])
     go_roundg k1
     case measure=>have:=e9.out;omega
     case rel=>exact⟨(o8),(wrap64 (Int.tdiv (wrap64 ((rd e6 e8)+e7)) 1000000000)),(wrap64 (e8+1)),sD,sD,H',⟨by have:=e9.out;omega⟩,⟨by(try simp only[f4]);(with_reducible repeat(first|apply Kd.R_alloc|apply Kd.R_drewN|apply Kd.R_drew));exact f3.out⟩,⟨kK HK⟩,⟨pB⟩⟩
   ·rw[if_neg c4] at H;have f6:decide (e8 < (l0.length:Int))=false:=decide_eq_false c4;have f9:=f6;(try simp only[f4] at f9)
    clear c4;obtain rfl:=Option.some.inj H;go_wp2
    first|go_end0|((try simp only[Exit.inBlock,Exit.then]);refine bodyPost_ret (results_none rfl _ _ _) rfl ?_)
    exact⟨eW,(by first|exact(rX f3.out)|(simp only[f4];exact(rX f3.out))),pB,kK HK⟩

end Go.Proofs.YtokkiljkgejnhaaGreat.Print
