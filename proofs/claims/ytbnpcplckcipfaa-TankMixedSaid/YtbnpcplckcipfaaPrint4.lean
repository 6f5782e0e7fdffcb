import Derived.Test.YtbnpcplckcipfaaPrint0
namespace Go.Proofs.Ytbnpcplckcipfaa.Print
open Go.RowKit Go.Proofs.YtbnpcplckcipfaaW.PrintWords Go.Proofs.YtbnpcplckcipfaaW.PrintLast Go.Proofs.YtbnpcplckcipfaaW.PrintMore
attribute [local go_sem] max2_int min2_int max_two min_two max_three min_three max_four min_four
set_option linter.unusedVariables false
set_option maxRecDepth 100000
set_option maxHeartbeats 8000000
set_option linter.unusedSimpArgs false

def Czy.l0:Nat→List Int→Int→List Int→Int→Int→Option (List Int × List Int)
 | 0,_,_,_,_,_=>none
 | k+1,x0,x1,x6,x7,x8=>if x8≥0 then(if 0≤x8 then(if x8 < (x0.length:Int) then(if x1=0 then(none) else(if x8 < (x6.length:Int) then(Czy.l0 k x0 x1 (x6.set (x8:Int).toNat (wrap64 (Int.tdiv (wrap64 ((wrap64 (x7 * 1000000000))+(rd x0 x8))) x1))) (Int.tmod (wrap64 ((wrap64 (x7 * 1000000000))+(rd x0 x8))) x1) (wrap64 (x8 - 1))) else(none))) else(none)) else(none)) else((Azb.f k x6).bind fun t128=>((Azb.f k (([x7]:List Int))).bind fun t134=>(some (t128,t134))))
def Czy.f (k:Nat) (l0:List Int) (a1:Int):Option (List Int × List Int):=if 0≤(l0.length:Int) then(if((l0.length:Int):Int).toNat≤35184372088832 then(Czy.l0 k l0 a1 (List.replicate ((l0.length:Int):Int).toNat 0) 0 (wrap64 ((l0.length:Int) - 1))) else(none)) else(none)
theorem Czy.mono_l:∀ k,(∀ a6 a7 a8 a9 b4,LeO (Czy.l0 k a6 a7 a8 a9 b4) (Czy.l0 (k+1) a6 a7 a8 a9 b4))
 | 0=>fun _ _ _ _ _ r h=>by simp [Czy.l0] at h
 | k+1=>by
  have ih0:=Czy.mono_l k
  ·intro a6 a7 a8 a9 b4;unfold Czy.l0;have i0:=@Azb.mono;exact mM
theorem Czy.mono:∀ a6 a7 k,LeO (Czy.f k a6 a7) (Czy.f (k+1) a6 a7):=by
 intro a6 a7 k;have ih0:=Czy.mono_l k;unfold Czy.f;have i0:=@Azb.mono;exact mM
def Czy.T7:Bool × List (List Nat × List Nat):=(true,[([],[]),([],[]),([],[]),([],[]),([2,3],[2,3]),([],[]),([],[]),([5,6],[5,6]),([0,1,0,1,2,3,4],[0,1]),([8,4,0,1,2,3,4],[4,8]),([7,9,0,1,2,3,4,5,6,7,8,9],[7])])
def Czy.B7:List Nat:=[0,0,0,0,12,0,0,96,31,287,1023]
theorem Czy.tab7:rtab .any (opsOf Try.f111 7)=Czy.T7:=by kernel_rfl
theorem Czy.bits7:waitsOk Czy.T7.2 Czy.B7=true:=by kernel_rfl
theorem Czy.calls (k:Nat) (a6:Option Addr) (a7:Nat) (l0:List Int) (a8:Int) (a9:List Int) (b4:List Int) (w:World) (b5:cI w a6 l0) (b6:l0.length≤a7) (h:Czy.f k l0 a8=some (a9,b4)) :
  Calls Try.prog 111 #[.slice a6 l0.length a7,.int .i64 a8] w fun e w'=>∃ v0_ v1_:Value,e=.returned (.tuple #[v0_,v1_])∧rI w' w (oV v1_) v0_ a9∧rI w' w (oV v0_) v1_ b4∧bw w w':=by
 have b7:=aM b5;have b8:=aM b6;clear b5 b6;have HB:=aM (Below.refl w.heap.size w);have H:(if 0≤(l0.length:Int) then(if((l0.length:Int):Int).toNat≤35184372088832 then(Czy.l0 k l0 a8 (List.replicate ((l0.length:Int):Int).toNat 0) 0 (wrap64 ((l0.length:Int) - 1))) else(none)) else(none))=some (a9,b4):=h
 clear h;by_cases c3:0≤(l0.length:Int)
 ·rw[if_pos c3] at H;have b9:=eq_true c3;have d6:=dE c3;clear c3;obtain⟨c4,H⟩:=iO H;have d7:=eq_true c4;have d8:decide (((l0.length:Int):Int).toNat≤35184372088832)=true:=dE c4;clear c4;obtain⟨d9,e6⟩:∃ y_:List Int,y_=(List.replicate ((l0.length:Int):Int).toNat 0):=⟨_,rfl⟩;replace H:(Czy.l0 k l0 a8 d9 0 (wrap64 ((l0.length:Int) - 1)))=some (a9,b4):=yE e6 H
  have e7:=aM e6;clear e6;have H':=aM H;clear H;go_enter Try.func111,Try.ntmps111
  go_wp2_with (first|((with_reducible refine gate_dst (N:=12) rfl ?_);refine Kd.R_make (Kd.int .i64) _ 3 rfl (N:=12) rfl 30 _ _ rfl (l0.length:Int) rfl rfl Try.underlying30 (.int .i64 0) 8 info3 rfl (by decide) (by omega) 0 (ok:=fun _=>True) (okp:=fun _=>True) rfl (fun _ hk=>hk) trivial (oE aS) (Nat.le_trans (Nat.mul_le_mul_right _ (oE aS:(l0.length:Int).toNat≤35184372088832)) (by omega)) (Below.refl _ _) (Nat.le_refl _) ?_;intro e8 e9 f3 hb hg_ hnew_;clear hg_ hnew_;replace f3:=rY e7 f3;have f4:=rL f3;replace HB:=bB hb;clear hb f3))
  go_loopg [7,8] k (fun kq f5 f6 w'=>∃ (f7:List Int) (f8:Int) (f9:Int),f5=.int .i64 f8∧f6=.int .i64 f9∧Aside0 (Czy.l0 kq l0 a8 f7 f8 f9=some (a9,b4))∧Aside0 (kq≤k)∧Aside0 (rI w' w (fun _=>True) e8 f7)∧Aside0 (bw w w'))
  case atStart=>exact⟨(d9),(0),(wrap64 ((l0.length:Int) - 1)),sD,sD,H',⟨Nat.le_refl _⟩,⟨rX f4.out⟩,⟨pB⟩⟩
  case round =>
   clear H';try clear g4
   obtain⟨f7,f8,f9,rfl,rfl,HA,g5,g6,HB⟩:=hrel;cases gk with
   | zero=>exact absurd HA.out (by simp [Czy.l0])
   | succ k1 =>
    have H:=HA.out;clear HA;simp only[Czy.l0] at H;by_cases c7:f9≥0
    ·rw[if_pos c7] at H;have g7:decide (0≤f9)=true:=dE c7;clear c7;obtain⟨g8,H⟩:=iN H;obtain⟨g9,H⟩:=iN H;obtain⟨c10,H⟩:=iM H;have j3:(a8 == 0)=false:=beq_eq_false_iff_ne.mpr c10;have j4:(a8 != 0)=true:=bne_iff_ne.mpr c10;obtain⟨j5,H⟩:=iN H;obtain⟨j6,j7⟩:∃ y_:List Int,y_=(f7.set (f9:Int).toNat (wrap64 (Int.tdiv (wrap64 ((wrap64 (f8 * 1000000000))+(rd l0 f9))) a8))):=⟨_,rfl⟩;replace H:(Czy.l0 k1 l0 a8 j6 (Int.tmod (wrap64 ((wrap64 (f8 * 1000000000))+(rd l0 f9))) a8) (wrap64 (f9 - 1)))=some (a9,b4):=yE j7 H
     have j8:=aM j7;clear j7;have H':=aM H;clear H;obtain⟨j9,l5,l6,l7,l8⟩:=aI b7.out f9;cases l5
     replace l6:=hB HB l6;try go_wp2
     have n0_:=aM (Kd.R_drew g6.out);have n1_:=aM (below_drew1 HB.out);clear g6 HB;have g6:=n0_;have HB:=n1_;clear n0_ n1_;have l9:0≤(f9:Int):=oE aS
     have m0:(f9:Int) < ((f7.length:Int):Int):=oE aS
     obtain⟨m4,m5,m6,m7,m8,m9,n0⟩:=Kd.R_form g6.out (by omega)
     (first|cases m6|(injection m6 with ea_ en_ ec_;(first|subst ea_|(injection ea_ with ea_;subst ea_));subst ec_;clear en_))
     have n7:=aM m7;have n8:=aM n0;clear m7 m8 n0;obtain⟨n9,o0⟩:=Kd.R_celln 0 g6.out (f9:Int) l9 m0;replace l9:=eq_true l9;replace m0:=eq_true m0;have o8:=Kd.R_putn g6.out (f9:Int) (wrap64 (Int.tdiv (wrap64 ((wrap64 (f8 * 1000000000))+(rd l0 f9))) a8));rw[← j8.out] at o8;have o9:=aM o8;clear o8;refine start_ (n:=11) (S:=fun w'=>True) (ds:=[9]) (bA 11 0) (by kernel_rfl) rfl rfl trivial (fun hHeld=>?_);refine with_tabW Czy.tab7 Czy.bits7 (fun HT_ HW_=>?_)
     generalize wr.drew=p0 at g6 HB n8 o9 o0 n9 hHeld ⊢;refine pS 0 27 HT_ ?_;refine pS 1 28 HT_ ?_;refine pS 2 29 HT_ ?_;refine pS 3 30 HT_ ?_;refine pS 4 31 HT_ ?_;refine pS 5 32 HT_ ?_;refine pS 6 33 HT_ ?_;refine pS 7 34 HT_ ?_;refine pS 8 35 HT_ ?_;refine lU 9 none HT_ fun K hK=>?_
     refine skip_ (w1:=?_) (by rfl) rfl ?_ ?_
     rotate_left
     ·go_simp
      rfl
     refine hK.out _ _ ?_;clear hK K;refine pS 10 7 HT_ ?_;refine done_ (done_of HT_.out (by kernel_rfl)) ?_
     try go_wp2
     go_roundg k1
     case measure=>have:=g5.out;omega
     case rel=>exact⟨(j6),(Int.tmod (wrap64 ((wrap64 (f8 * 1000000000))+(rd l0 f9))) a8),(wrap64 (f9 - 1)),sD,sD,H',⟨by have:=g5.out;omega⟩,⟨rX o9.out⟩,⟨pB⟩⟩
    ·rw[if_neg c7] at H;have g7:decide (0≤f9)=false:=decide_eq_false c7;clear c7;obtain⟨p4,p7,H⟩:=bT H;(try dsimp only at H);obtain⟨p9,r5⟩:∃ y_:List Int,y_=(([f8]:List Int)):=⟨_,rfl⟩;replace H:((Azb.f k1 p9).bind fun r6=>(some (p4,r6)))=some (a9,b4):=yE r5 H
     have r7:=aM r5;clear r5;replace H:=bS H;obtain⟨r6,r8,H⟩:=H;replace H:(some (p4,r6))=some (a9,b4):=H;have r9:=aM r8;clear r8;obtain⟨rfl,rfl⟩:=q2 H;obtain⟨t4,t5,rfl⟩:=Kd.R_slice g6.out;go_wp2_with (first|((with_reducible refine gc 92 rfl ?_);refine gC 92 (some 37) Try.func92 #[.slice t4 f7.length t5] ?_;(with_reducible refine(Azb.calls k1 (fun k_=>some k_=(.slice t4 f7.length t5:Value).ownBlock) (.slice t4 f7.length t5) f7 p4 w _ ?_ ?_ p7.out).mono ?_);exact pB;exact Kd.R_tight rfl g6.out;rintro e t6 ⟨t7,rfl,t8,hb,hkp⟩;refine⟨_,rfl,?_⟩;have t9:=aM (Kd.R_mono (ok':=fun k_=>True) t8 (fun k_ hk_=>trivial));replace HB:=aM (hb);clear g6 hb hkp t8)|((with_reducible refine gd 39 rfl ?_);refine iL 39 [f8] ?_;intro y9 z3 z4 hb;replace z4:=rY r7 z4;have z5:=rL (rn z4 t9);replace t9:=rE t9 z4 hb;replace HB:=bB hb;clear hb z4;obtain⟨z6,z7,rfl⟩:=Kd.R_slice z5.out)|((with_reducible refine gc 92 rfl ?_);refine gC 92 (some 40) Try.func92 #[.slice z6 p9.length z7] ?_;(with_reducible refine(Azb.calls k1 (fun k_=>some k_=(.slice z6 p9.length z7:Value).ownBlock) (.slice z6 p9.length z7) p9 r6 w _ ?_ ?_ r9.out).mono ?_);exact pB;exact Kd.R_tight rfl z5.out;rintro e z8 ⟨z9,rfl,t8,hb,hkp⟩;refine⟨_,rfl,?_⟩;have B0:=aM (Kd.R_mono (ok':=fun k_=>oV t7 k_) t8 (fun k_ hk_=>Or.elim hk_ (fun hs_=>fun e_=>(((t9.out).1 k_ e_.symm).2) hs_) (fun hn_=>(Kd.fresh' (Kd.R_lt (rX t9.out)) k_ hn_))));replace t9:=aM (Kd.R_mono (ok':=fun k_=>oV z9 k_) (Kd.R_keptB (t9.out) hkp (fun k_ hk_ hs_=>(hk_.2) hs_)) (fun k_ hk_=>fun e_=>Or.elim (t8.1 k_ e_.symm) (fun hs_=>hk_.2.1 hs_) (fun hn_=>Nat.not_le.2 hk_.2.2 hn_)));replace HB:=aM (hb);clear z5 hb hkp t8))
     go_ret2
     exact⟨_,_,eW,rX t9.out,rX B0.out,pB⟩
 ·rw[if_neg c3] at H;exact absurd H (by simp)


def Czm.l0:Nat→List Int→Int→List Int→Int→Int→Int→Option (List Int)
 | 0,_,_,_,_,_,_=>none
 | k+1,x0,x1,x5,x6,x14,x15=>if x15 < x14 then(if 0≤x15 then(if x15 < (x0.length:Int) then(if x15 < (x5.length:Int) then(Czm.l0 k x0 x1 (x5.set (x15:Int).toNat (Int.tmod (wrap64 ((wrap64 ((rd x0 x15) * x1))+x6)) 1000000000)) (wrap64 (Int.tdiv (wrap64 ((wrap64 ((rd x0 x15) * x1))+x6)) 1000000000)) x14 (wrap64 (x15+1))) else(none)) else(none)) else(none)) else(if 0≤(x0.length:Int) then(if(x0.length:Int) < (x5.length:Int) then(some (x5.set ((x0.length:Int):Int).toNat x6)) else(none)) else(none))
def Czm.f (k:Nat) (l0:List Int) (a1:Int):Option (List Int):=if 0≤(wrap64 ((l0.length:Int)+1)) then(if(wrap64 ((l0.length:Int)+1):Int).toNat≤35184372088832 then(Czm.l0 k l0 a1 (List.replicate (wrap64 ((l0.length:Int)+1):Int).toNat 0) 0 (l0.length:Int) 0) else(none)) else(none)
theorem Czm.mono_l:∀ k,(∀ a6 a7 a8 a9 b4 b5,LeO (Czm.l0 k a6 a7 a8 a9 b4 b5) (Czm.l0 (k+1) a6 a7 a8 a9 b4 b5))
 | 0=>fun _ _ _ _ _ _ r h=>by simp [Czm.l0] at h
 | k+1=>by
  have ih0:=Czm.mono_l k
  ·intro a6 a7 a8 a9 b4 b5;unfold Czm.l0;exact mM
theorem Czm.mono:∀ a6 a7 k,LeO (Czm.f k a6 a7) (Czm.f (k+1) a6 a7):=by
 intro a6 a7 k;have ih0:=Czm.mono_l k;unfold Czm.f;exact mM
theorem Czm.calls (k:Nat) (a6:Option Addr) (a7:Nat) (l0:List Int) (a8:Int) (r:List Int) (w:World) (a9:cI w a6 l0) (b4:l0.length≤a7) (h:Czm.f k l0 a8=some r) :
  Calls Try.prog 113 #[.slice a6 l0.length a7,.int .i64 a8] w fun e w'=>∃ v0_:Value,e=.returned (v0_)∧rI w' w (fun _=>True) v0_ r∧bw w w':=by
 have b5:=aM a9;have b6:=aM b4;clear a9 b4;have HB:=aM (Below.refl w.heap.size w);have H:(if 0≤(wrap64 ((l0.length:Int)+1)) then(if(wrap64 ((l0.length:Int)+1):Int).toNat≤35184372088832 then(Czm.l0 k l0 a8 (List.replicate (wrap64 ((l0.length:Int)+1):Int).toNat 0) 0 (l0.length:Int) 0) else(none)) else(none))=some r:=h
 clear h;obtain⟨b7,b8⟩:∃ j_:Int,(wrap64 ((l0.length:Int)+1))=j_:=⟨_,rfl⟩;replace H:(if 0≤(b7) then(if(b7:Int).toNat≤35184372088832 then(Czm.l0 k l0 a8 (List.replicate (b7:Int).toNat 0) 0 (l0.length:Int) 0) else(none)) else(none))=some r:=by first|(rw[b8] at H;exact H)|(simp only[b8] at H ⊢;exact H)
 have b9:(IntKind.i64.wrap ((l0.length:Int)+1))=b7:=(i64_w _).trans b8;by_cases c4:0≤(b7)
 ·rw[if_pos c4] at H;have d6:=eq_true c4;have d7:=dE c4;clear c4;obtain⟨c5,H⟩:=iO H;have d8:=eq_true c5;have d9:decide ((b7:Int).toNat≤35184372088832)=true:=dE c5;clear c5;obtain⟨e6,e7⟩:∃ y_:List Int,y_=(List.replicate (b7:Int).toNat 0):=⟨_,rfl⟩;replace H:(Czm.l0 k l0 a8 e6 0 (l0.length:Int) 0)=some r:=yE e7 H
  have e8:=aM e7;clear e7;have H':=aM H;clear H;go_enter Try.func113,Try.ntmps113
  go_wp2_with (first|((with_reducible refine gate_dst (N:=12) rfl ?_);refine Kd.R_make (Kd.int .i64) _ 3 rfl (N:=12) rfl 30 _ _ rfl b7 rfl rfl Try.underlying30 (.int .i64 0) 8 info3 rfl (by decide) (by omega) 0 (ok:=fun _=>True) (okp:=fun _=>True) rfl (fun _ hk=>hk) trivial (oE aS) (Nat.le_trans (Nat.mul_le_mul_right _ (oE aS:b7.toNat≤35184372088832)) (by omega)) (Below.refl _ _) (Nat.le_refl _) ?_;intro e9 f3 f4 hb hg_ hnew_;clear hg_ hnew_;replace f4:=rY e8 f4;have f5:=rL f4;replace HB:=bB hb;clear hb f4))
  go_loopg [6,15] k (fun kq f6 f7 w'=>∃ (f8:List Int) (f9:Int) (g4:Int),f6=.int .i64 f9∧f7=.int .i64 g4∧Aside0 (Czm.l0 kq l0 a8 f8 f9 (l0.length:Int) g4=some r)∧Aside0 (kq≤k)∧Aside0 (rI w' w (fun _=>True) e9 f8)∧Aside0 (bw w w'))
  case atStart=>exact⟨(e6),(0),(0),sD,sD,H',⟨Nat.le_refl _⟩,⟨rX f5.out⟩,⟨pB⟩⟩
  case round =>
   clear H';try clear g5
   obtain⟨f8,f9,g4,rfl,rfl,HA,g6,g7,HB⟩:=hrel;cases gk with
   | zero=>exact absurd HA.out (by simp [Czm.l0])
   | succ k1 =>
    have H:=HA.out;clear HA;simp only[Czm.l0] at H;replace H:=iD H;rcases H with⟨g8,H⟩|⟨g8,H⟩
    ·obtain⟨g9,H⟩:=iN H;obtain⟨j3,H⟩:=iN H;obtain⟨j4,H⟩:=iN H;obtain⟨j5,j6⟩:∃ y_:List Int,y_=(f8.set (g4:Int).toNat (Int.tmod (wrap64 ((wrap64 ((rd l0 g4) * a8))+f9)) 1000000000)):=⟨_,rfl⟩;replace H:(Czm.l0 k1 l0 a8 j5 (wrap64 (Int.tdiv (wrap64 ((wrap64 ((rd l0 g4) * a8))+f9)) 1000000000)) (l0.length:Int) (wrap64 (g4+1)))=some r:=yE j6 H
     have j7:=aM j6;clear j6;have H':=aM H;clear H;obtain⟨j8,j9,l5,l6,l7⟩:=aI b5.out g4;cases j9
     replace l5:=hB HB l5;have l8:0≤(g4:Int):=oE aS
     have l9:(g4:Int) < ((f8.length:Int):Int):=oE aS
     obtain⟨m0,m4,m5,m6,m7,m8,m9⟩:=Kd.R_form g7.out (by omega)
     (first|cases m5|(injection m5 with ea_ en_ ec_;(first|subst ea_|(injection ea_ with ea_;subst ea_));subst ec_;clear en_))
     have n0:=aM m6;have n7:=aM m9;clear m6 m7 m9;obtain⟨n8,n9⟩:=Kd.R_celln 0 g7.out (g4:Int) l8 l9;replace l8:=eq_true l8;replace l9:=eq_true l9;have o0:=Kd.R_putg g7.out (g4:Int) (Int.tmod (wrap64 ((wrap64 ((rd l0 g4) * a8))+f9)) 1000000000);go_wp2_with (first|((with_reducible refine gate_store (t:=3) (p:=32) rfl ?_);refine store_event (t:=3) (p:=32) (v:=?vo_w14) (w1:=(wr.setCell ⟨m0,(g4:Int).toNat,none⟩ (.int .i64 (Int.tmod (wrap64 ((wrap64 ((rd l0 g4) * a8))+f9)) 1000000000)))) ?hg ?ho ?hn ?hr ?_;(case ho=>rfl);(case hg=>rfl);(case hn=>rfl);(case hr=>first|(go_simp;done)|(go_simp;rfl));intro o8 hw;have hg:wr.grownBy o8 (some m0):=(by rw[hw];exact o0.2);have hp_:rI o8 w (fun _=>True) (.slice (some ⟨m0,0,none⟩) f8.length m4) j5:=(by rw[hw,j7.out];exact o0.1);clear o0;replace g7:=aM (hp_);replace HB:=aM ((by rw[hw];exact below_set (HB.out) n0.out:bw w o8));clear hg hw hp_))
     go_roundg k1
     case measure=>have:=g6.out;omega
     case rel=>exact⟨(j5),(wrap64 (Int.tdiv (wrap64 ((wrap64 ((rd l0 g4) * a8))+f9)) 1000000000)),(wrap64 (g4+1)),sD,sD,H',⟨by have:=g6.out;omega⟩,⟨rX g7.out⟩,⟨pB⟩⟩
    ·obtain⟨o9,H⟩:=iO H;have p0:decide (0≤(l0.length:Int))=true:=dE o9;have p4:decide (0≤l0.length)=true:=dE (by omega)
     clear o9;obtain⟨p7,H⟩:=iO H;have p9:decide ((l0.length:Int) < (f8.length:Int))=true:=dE p7;have r5:decide (l0.length < f8.length)=true:=dE (Int.ofNat_lt.mp p7);clear p7;obtain⟨r6,r7⟩:∃ y_:List Int,y_=(f8.set ((l0.length:Int):Int).toNat f9):=⟨_,rfl⟩;replace H:(some r6)=some r:=yE r7 H
     have r8:=aM r7;clear r7;obtain rfl:=Option.some.inj H;have r9:0≤((l0.length:Int):Int):=oE aS
     have t4:((l0.length:Int):Int) < ((f8.length:Int):Int):=oE aS
     obtain⟨t5,t6,t7,t8,t9,y9,z3⟩:=Kd.R_form g7.out (by omega)
     (first|cases t7|(injection t7 with ea_ en_ ec_;(first|subst ea_|(injection ea_ with ea_;subst ea_));subst ec_;clear en_))
     have z4:=aM t8;have z5:=aM z3;clear t8 t9 z3;obtain⟨z6,z7⟩:=Kd.R_celln 0 g7.out ((l0.length:Int):Int) r9 t4;(try simp only[Int.toNat_natCast] at z6)
     (try simp only[Int.toNat_natCast] at z7)
     replace r9:=eq_true r9;replace t4:=eq_true t4;have z8:=Kd.R_putg g7.out ((l0.length:Int):Int) f9;go_wp2_with (first|((with_reducible refine gate_store (t:=3) (p:=38) rfl ?_);refine store_event (t:=3) (p:=38) (v:=?vo_w19) (w1:=(wr.setCell ⟨t5,((l0.length:Int):Int).toNat,none⟩ (.int .i64 f9))) ?hg ?ho ?hn ?hr ?_;(case ho=>rfl);(case hg=>rfl);(case hn=>rfl);(case hr=>first|(go_simp;done)|(go_simp;rfl));intro z9 hw;have hg:wr.grownBy z9 (some t5):=(by rw[hw];exact z8.2);have hp_:rI z9 w (fun _=>True) (.slice (some ⟨t5,0,none⟩) f8.length t6) r6:=(by rw[hw,r8.out];exact z8.1);clear z8;replace g7:=aM (hp_);replace HB:=aM ((by rw[hw];exact below_set (HB.out) z4.out:bw w z9));clear hg hw hp_))
     go_ret
     exact⟨_,by first|rfl|(simp [errW_none,errW_some] <;> rfl)|(simp only[← b8];first|rfl|(simp [errW_none,errW_some] <;> rfl))|(simp [*,errW_none,errW_some] <;> rfl),rX g7.out,pB⟩
 ·rw[if_neg c4] at H;exact absurd H (by simp)


mutual
def Czw.l0:Nat→List Int→List Int→Int→Int→Int→Int→Option (Int)
 | 0,_,_,_,_,_,_=>none
 | k+1,x0,x1,x5,x6,x8,x9=>if x8≥1000000000 then(Czw.j1 k x0 x1 x5 x6 x8 x9 true) else(if 0≤(wrap64 (x6 - 1)) then(if(wrap64 (x6 - 1)) < (x1.length:Int) then(if 0≤(wrap64 (x5 - 2)) then(if(wrap64 (x5 - 2)) < (x0.length:Int) then(Czw.j1 k x0 x1 x5 x6 x8 x9 (decide ((wrap64 (x8 * (rd x1 (wrap64 (x6 - 1))))) > (wrap64 ((wrap64 (x9 * 1000000000))+(rd x0 (wrap64 (x5 - 2)))))))) else(none)) else(none)) else(none)) else(none))
def Czw.j1:Nat→List Int→List Int→Int→Int→Int→Int→Bool→Option (Int)
 | 0,_,_,_,_,_,_,_=>none
 | k+1,x0,x1,x5,x6,x8,x9,x58=>if x58=true then(if 0≤x6 then(if x6 < (x1.length:Int) then(if(wrap64 (x9+(rd x1 x6)))≥1000000000 then(some (wrap64 (x8 - 1))) else(Czw.l0 k x0 x1 x5 x6 (wrap64 (x8 - 1)) (wrap64 (x9+(rd x1 x6))))) else(none)) else(none)) else(some x8)
end
def Czw.f (k:Nat) (l0:List Int) (l1:List Int):Option (Int):=if 0≤(wrap64 ((l0.length:Int) - 1)) then(if(wrap64 ((l0.length:Int) - 1)) < (l0.length:Int) then(if 0≤(wrap64 ((wrap64 ((l0.length:Int) - 1)) - 1)) then(if(wrap64 ((wrap64 ((l0.length:Int) - 1)) - 1)) < (l0.length:Int) then(if 0≤(wrap64 ((l1.length:Int) - 1)) then(if(wrap64 ((l1.length:Int) - 1)) < (l1.length:Int) then(if(rd l1 (wrap64 ((l1.length:Int) - 1)))=0 then(none) else(Czw.l0 k l0 l1 (wrap64 ((l0.length:Int) - 1)) (wrap64 ((l1.length:Int) - 1)) (wrap64 (Int.tdiv (wrap64 ((wrap64 ((rd l0 (wrap64 ((l0.length:Int) - 1))) * 1000000000))+(rd l0 (wrap64 ((wrap64 ((l0.length:Int) - 1)) - 1))))) (rd l1 (wrap64 ((l1.length:Int) - 1))))) (Int.tmod (wrap64 ((wrap64 ((rd l0 (wrap64 ((l0.length:Int) - 1))) * 1000000000))+(rd l0 (wrap64 ((wrap64 ((l0.length:Int) - 1)) - 1))))) (rd l1 (wrap64 ((l1.length:Int) - 1)))))) else(none)) else(none)) else(none)) else(none)) else(none)) else(none)
theorem Czw.mono_l:∀ k,(∀ a6 a7 a8 a9 b4 b5,LeO (Czw.l0 k a6 a7 a8 a9 b4 b5) (Czw.l0 (k+1) a6 a7 a8 a9 b4 b5))∧(∀ a6 a7 a8 a9 b4 b5 b6,LeO (Czw.j1 k a6 a7 a8 a9 b4 b5 b6) (Czw.j1 (k+1) a6 a7 a8 a9 b4 b5 b6))
 | 0=>⟨fun _ _ _ _ _ _ r h=>by simp [Czw.l0] at h,fun _ _ _ _ _ _ _ r h=>by simp [Czw.j1] at h⟩
 | k+1=>by
  obtain⟨ih0,ih1⟩:=Czw.mono_l k;refine⟨?_,?_⟩
  ·intro a6 a7 a8 a9 b4 b5;unfold Czw.l0;exact mM
  ·intro a6 a7 a8 a9 b4 b5 b6;unfold Czw.j1;exact mM
theorem Czw.mono:∀ a6 a7 k,LeO (Czw.f k a6 a7) (Czw.f (k+1) a6 a7):=by
 intro a6 a7 k;obtain⟨ih0,ih1⟩:=Czw.mono_l k;unfold Czw.f;exact mM
theorem Czw.calls (k:Nat) (a6:Option Addr) (a7:Nat) (l0:List Int) (a8:Option Addr) (a9:Nat) (l1:List Int) (r:Int) (w:World) (b4:cI w a6 l0) (b5:l0.length≤a7) (b6:cI w a8 l1) (b7:l1.length≤a9) (h:Czw.f k l0 l1=some r) :
  Calls Try.prog 114 #[.slice a6 l0.length a7,.slice a8 l1.length a9] w fun e w'=>e=.returned (.int .i64 r)∧Drawn0 w w':=by
 have b8:=aM b4;have b9:=aM b5;clear b4 b5;have d6:=aM b6;have d7:=aM b7;clear b6 b7;have H:(if 0≤(wrap64 ((l0.length:Int) - 1)) then(if(wrap64 ((l0.length:Int) - 1)) < (l0.length:Int) then(if 0≤(wrap64 ((wrap64 ((l0.length:Int) - 1)) - 1)) then(if(wrap64 ((wrap64 ((l0.length:Int) - 1)) - 1)) < (l0.length:Int) then(if 0≤(wrap64 ((l1.length:Int) - 1)) then(if(wrap64 ((l1.length:Int) - 1)) < (l1.length:Int) then(if(rd l1 (wrap64 ((l1.length:Int) - 1)))=0 then(none) else(Czw.l0 k l0 l1 (wrap64 ((l0.length:Int) - 1)) (wrap64 ((l1.length:Int) - 1)) (wrap64 (Int.tdiv (wrap64 ((wrap64 ((rd l0 (wrap64 ((l0.length:Int) - 1))) * 1000000000))+(rd l0 (wrap64 ((wrap64 ((l0.length:Int) - 1)) - 1))))) (rd l1 (wrap64 ((l1.length:Int) - 1))))) (Int.tmod (wrap64 ((wrap64 ((rd l0 (wrap64 ((l0.length:Int) - 1))) * 1000000000))+(rd l0 (wrap64 ((wrap64 ((l0.length:Int) - 1)) - 1))))) (rd l1 (wrap64 ((l1.length:Int) - 1)))))) else(none)) else(none)) else(none)) else(none)) else(none)) else(none))=some r:=h
 clear h;obtain⟨d8,d9⟩:∃ j_:Int,(wrap64 ((l0.length:Int) - 1))=j_:=⟨_,rfl⟩;replace H:(if 0≤(d8) then(if(d8) < (l0.length:Int) then(if 0≤(wrap64 ((d8) - 1)) then(if(wrap64 ((d8) - 1)) < (l0.length:Int) then(if 0≤(wrap64 ((l1.length:Int) - 1)) then(if(wrap64 ((l1.length:Int) - 1)) < (l1.length:Int) then(if(rd l1 (wrap64 ((l1.length:Int) - 1)))=0 then(none) else(Czw.l0 k l0 l1 d8 (wrap64 ((l1.length:Int) - 1)) (wrap64 (Int.tdiv (wrap64 ((wrap64 ((rd l0 (d8)) * 1000000000))+(rd l0 (wrap64 ((d8) - 1))))) (rd l1 (wrap64 ((l1.length:Int) - 1))))) (Int.tmod (wrap64 ((wrap64 ((rd l0 (d8)) * 1000000000))+(rd l0 (wrap64 ((d8) - 1))))) (rd l1 (wrap64 ((l1.length:Int) - 1)))))) else(none)) else(none)) else(none)) else(none)) else(none)) else(none))=some r:=by first|(rw[d9] at H;exact H)|(simp only[d9] at H ⊢;exact H)
 have e6:(IntKind.i64.wrap ((l0.length:Int) - 1))=d8:=(i64_w _).trans d9;by_cases c4:0≤(d8)
 ·rw[if_pos c4] at H;have e7:=dE c4;clear c4;obtain⟨e8,H⟩:=iN H;obtain⟨e9,f3⟩:∃ j_:Int,(wrap64 ((d8) - 1))=j_:=⟨_,rfl⟩;replace H:(if 0≤(e9) then(if(e9) < (l0.length:Int) then(if 0≤(wrap64 ((l1.length:Int) - 1)) then(if(wrap64 ((l1.length:Int) - 1)) < (l1.length:Int) then(if(rd l1 (wrap64 ((l1.length:Int) - 1)))=0 then(none) else(Czw.l0 k l0 l1 d8 (wrap64 ((l1.length:Int) - 1)) (wrap64 (Int.tdiv (wrap64 ((wrap64 ((rd l0 (d8)) * 1000000000))+(rd l0 (e9)))) (rd l1 (wrap64 ((l1.length:Int) - 1))))) (Int.tmod (wrap64 ((wrap64 ((rd l0 (d8)) * 1000000000))+(rd l0 (e9)))) (rd l1 (wrap64 ((l1.length:Int) - 1)))))) else(none)) else(none)) else(none)) else(none))=some r:=by first|(rw[f3] at H;exact H)|(simp only[f3] at H ⊢;exact H)
  have f4:(IntKind.i64.wrap ((d8) - 1))=e9:=(i64_w _).trans f3;obtain⟨f5,H⟩:=iN H;obtain⟨f6,H⟩:=iN H;obtain⟨f7,f8⟩:∃ j_:Int,(wrap64 ((l1.length:Int) - 1))=j_:=⟨_,rfl⟩;replace H:(if 0≤(f7) then(if(f7) < (l1.length:Int) then(if(rd l1 (f7))=0 then(none) else(Czw.l0 k l0 l1 d8 f7 (wrap64 (Int.tdiv (wrap64 ((wrap64 ((rd l0 (d8)) * 1000000000))+(rd l0 (e9)))) (rd l1 (f7)))) (Int.tmod (wrap64 ((wrap64 ((rd l0 (d8)) * 1000000000))+(rd l0 (e9)))) (rd l1 (f7))))) else(none)) else(none))=some r:=by first|(rw[f8] at H;exact H)|(simp only[f8] at H ⊢;exact H)
  have f9:(IntKind.i64.wrap ((l1.length:Int) - 1))=f7:=(i64_w _).trans f8;obtain⟨g4,H⟩:=iN H;obtain⟨g5,H⟩:=iN H;obtain⟨g6,H⟩:=iM H;have g7:((rd l1 (f7)) == 0)=false:=beq_eq_false_iff_ne.mpr g6;have g8:((rd l1 (f7)) != 0)=true:=bne_iff_ne.mpr g6;have H':=aM H;clear H;obtain⟨g9,j3,j4,j5,j6⟩:=aI b8.out (d8);cases j3;obtain⟨j7,j8,j9,l5,l6⟩:=aI b8.out (e9);obtain rfl:g9=j7:=(by injection j8);obtain⟨l7,l8,l9,m0,m4⟩:=aI d6.out (f7);cases l8;obtain⟨m5,m6,m7,m8,m9⟩:=aI d6.out (f7);obtain rfl:l7=m5:=(by injection m6);go_enter Try.func114,Try.ntmps114
  go_wp2
  repeat(go_quiet (fail);try go_wp2)
  go_loopg [8,9] k (fun kq n0 n7 w'=>∃ (n8:Int) (n9:Int),n0=.int .i64 n8∧n7=.int .i64 n9∧Aside0 (Czw.l0 kq l0 l1 d8 f7 n8 n9=some r)∧Aside0 (kq≤k)∧Drawn0 w w')
  case atStart=>exact⟨(wrap64 (Int.tdiv (wrap64 ((wrap64 ((rd l0 (d8)) * 1000000000))+(rd l0 (e9)))) (rd l1 (f7)))),(Int.tmod (wrap64 ((wrap64 ((rd l0 (d8)) * 1000000000))+(rd l0 (e9)))) (rd l1 (f7))),(by first|rfl|(simp;done)|(simp only[← d9,← f3,← f8] <;> (first|rfl|simp))|(simp [*];done)),(by first|rfl|(simp;done)|(simp only[← d9,← f3,← f8] <;> (first|rfl|simp))|(simp [*];done)),H',⟨Nat.le_refl _⟩,dR⟩
  case round =>
   clear H';try clear a9
   obtain⟨n8,n9,rfl,rfl,HA,o0,⟨o8,rfl⟩⟩:=hrel;cases gk with
   | zero=>exact absurd HA.out (by simp [Czw.l0])
   | succ k1 =>
    have H:=HA.out;clear HA;simp only[Czw.l0] at H;have o9:=aM H;clear H;go_upto_region 4 with (fail)
    repeat(go_quiet (fail);go_upto_region 4 with (fail))
    go_cut [58] (fun p0 wc=>∃ (kq:Nat) (p4:Bool),p0=.bool p4∧Aside0 (Czw.j1 kq l0 l1 d8 f7 n8 n9 p4=some r)∧Aside0 (kq≤k1)∧Drawn0 w wc)
    case first =>
     have H:=o9.out;clear o9;by_cases p7:n8≥1000000000
     ·rw[if_pos p7] at H;have p9:decide (1000000000≤n8)=true:=dE p7;clear p7;(first|rw[p9]|(simp only[i64_w,i32_w];rw[p9])|skip)
      have H':=aM H;clear H;go_wp2
      repeat(go_quiet (fail);try go_wp2)
      go_meet
      case rel=>exact⟨_,(true),sD,H',⟨by have:=o0.out;first|omega|exact Nat.le_refl _⟩,dR⟩
     ·rw[if_neg p7] at H;have p9:decide (1000000000≤n8)=false:=decide_eq_false p7;clear p7;(first|rw[p9]|(simp only[i64_w,i32_w];rw[p9])|skip)
      obtain⟨r5,r6⟩:∃ j_:Int,(wrap64 (f7 - 1))=j_:=⟨_,rfl⟩;replace H:(if 0≤(r5) then(if(r5) < (l1.length:Int) then(if 0≤(wrap64 (d8 - 2)) then(if(wrap64 (d8 - 2)) < (l0.length:Int) then(Czw.j1 k1 l0 l1 d8 f7 n8 n9 (decide ((wrap64 (n8 * (rd l1 (r5)))) > (wrap64 ((wrap64 (n9 * 1000000000))+(rd l0 (wrap64 (d8 - 2)))))))) else(none)) else(none)) else(none)) else(none))=some r:=by first|(rw[r6] at H;exact H)|(simp only[r6] at H ⊢;exact H)
      have r7:(IntKind.i64.wrap (f7 - 1))=r5:=(i64_w _).trans r6;obtain⟨r8,H⟩:=iN H;obtain⟨r9,H⟩:=iN H;obtain⟨t4,t5⟩:∃ j_:Int,(wrap64 (d8 - 2))=j_:=⟨_,rfl⟩;replace H:(if 0≤(t4) then(if(t4) < (l0.length:Int) then(Czw.j1 k1 l0 l1 d8 f7 n8 n9 (decide ((wrap64 (n8 * (rd l1 (r5)))) > (wrap64 ((wrap64 (n9 * 1000000000))+(rd l0 (t4))))))) else(none)) else(none))=some r:=by first|(rw[t5] at H;exact H)|(simp only[t5] at H ⊢;exact H)
      have t6:(IntKind.i64.wrap (d8 - 2))=t4:=(i64_w _).trans t5;obtain⟨t7,H⟩:=iN H;obtain⟨t8,H⟩:=iN H;have H':=aM H;clear H;obtain⟨t9,y9,z3,z4,z5⟩:=aI d6.out (r5);obtain rfl:l7=t9:=(by injection y9);obtain⟨z6,z7,z8,z9,B0⟩:=aI b8.out (t4);obtain rfl:g9=z6:=(by injection z7);go_wp2
      repeat(go_quiet (fail);try go_wp2)
      go_meet
      case rel=>exact⟨_,(decide ((wrap64 (n8 * (rd l1 (r5)))) > (wrap64 ((wrap64 (n9 * 1000000000))+(rd l0 (t4)))))),(by first|rfl|(simp;done)|(simp only[← r6,← t5] <;> (first|rfl|simp))|(simp [*];done)),H',⟨by have:=o0.out;first|omega|exact Nat.le_refl _⟩,dR⟩
    case rest =>
     clear o9;try clear a9
     obtain⟨kq,p4,rfl,HA,B5,⟨mc12,rfl⟩⟩:=hcut;cases kq with
     | zero=>exact absurd HA.out (by simp [Czw.j1])
     | succ B9 =>
      have H:=HA.out;clear HA;simp only[Czw.j1] at H;by_cases C0:p4=true
      ·subst C0;rw[if_pos rfl] at H;obtain⟨C1,H⟩:=iN H;obtain⟨C2,H⟩:=iN H;by_cases C3:(wrap64 (n9+(rd l1 f7)))≥1000000000
       ·rw[if_pos C3] at H;have C4:decide (1000000000≤(wrap64 (n9+(rd l1 f7))))=true:=dE C3;have C6:decide (1000000000≤(IntKind.i64.wrap (n9+(rd l1 f7))))=true:=by have h_:=C4;first|exact h_|(simp only[i64_w];exact h_)
        clear C3;obtain rfl:=Option.some.inj H;obtain⟨C7,C8,C9,D2,D3⟩:=aI d6.out f7;obtain rfl:l7=C7:=(by injection C8);go_wp2
        repeat(go_quiet (fail);try go_wp2)
        go_ret
        exact⟨by first|rfl|(simp;done)|(simp only[← d9,← f3,← f8] <;> (first|rfl|simp))|(simp [*];done),dR⟩
       ·rw[if_neg C3] at H;have C4:decide (1000000000≤(wrap64 (n9+(rd l1 f7))))=false:=decide_eq_false C3;have C6:decide (1000000000≤(IntKind.i64.wrap (n9+(rd l1 f7))))=false:=by have h_:=C4;first|exact h_|(simp only[i64_w];exact h_)
        clear C3;have H':=aM H;clear H;obtain⟨C7,C8,C9,D2,D3⟩:=aI d6.out f7;obtain rfl:l7=C7:=(by injection C8);go_wp2
        repeat(go_quiet (fail);try go_wp2)
        go_roundg B9
        case measure=>have:=o0.out;have:=B5.out;omega
        case rel=>exact⟨(wrap64 (n8 - 1)),(wrap64 (n9+(rd l1 f7))),sD,(by first|rfl|(simp;done)|(simp only[← f8] <;> (first|rfl|simp))|(simp [*];done)),H',⟨by have:=o0.out;have:=B5.out;omega⟩,dR⟩
      ·obtain rfl:=bN C0;rw[if_neg nF] at H
       obtain rfl:=Option.some.inj H;go_wp2
       repeat(go_quiet (fail);try go_wp2)
       go_ret
       exact⟨by first|rfl|(simp;done)|(simp only[← d9,← f3,← f8] <;> (first|rfl|simp))|(simp [*];done),dR⟩
 ·rw[if_neg c4] at H;exact absurd H (by simp)


def Czz.l0:Nat→List Int→List Int→Int→Int→Int→Int→Option (Bool × List Int)
 | 0,_,_,_,_,_,_=>none
 | k+1,x0,x1,x2,x7,x11,x12=>if x12 < x11 then(if 0≤x12 then(if x12 < (x0.length:Int) then(if x12 < (x1.length:Int) then(if(wrap64 ((wrap64 ((rd x0 x12) - x7)) - (wrap64 (x2 * (rd x1 x12))))) < 0 then(Czz.l0 k (x0.set (x12:Int).toNat (wrap64 ((wrap64 ((wrap64 ((rd x0 x12) - x7)) - (wrap64 (x2 * (rd x1 x12)))))+(wrap64 ((wrap64 (Int.tdiv (wrap64 ((wrap64 ((wrap64 (-(wrap64 ((wrap64 ((rd x0 x12) - x7)) - (wrap64 (x2 * (rd x1 x12)))))))+1000000000)) - 1)) 1000000000)) * 1000000000))))) x1 x2 (wrap64 (Int.tdiv (wrap64 ((wrap64 ((wrap64 (-(wrap64 ((wrap64 ((rd x0 x12) - x7)) - (wrap64 (x2 * (rd x1 x12)))))))+1000000000)) - 1)) 1000000000)) x11 (wrap64 (x12+1))) else(Czz.l0 k (x0.set (x12:Int).toNat (wrap64 ((wrap64 ((rd x0 x12) - x7)) - (wrap64 (x2 * (rd x1 x12)))))) x1 x2 0 x11 (wrap64 (x12+1)))) else(if(wrap64 ((rd x0 x12) - x7)) < 0 then(Czz.l0 k (x0.set (x12:Int).toNat (wrap64 ((wrap64 ((rd x0 x12) - x7))+(wrap64 ((wrap64 (Int.tdiv (wrap64 ((wrap64 ((wrap64 (-(wrap64 ((rd x0 x12) - x7))))+1000000000)) - 1)) 1000000000)) * 1000000000))))) x1 x2 (wrap64 (Int.tdiv (wrap64 ((wrap64 ((wrap64 (-(wrap64 ((rd x0 x12) - x7))))+1000000000)) - 1)) 1000000000)) x11 (wrap64 (x12+1))) else(Czz.l0 k (x0.set (x12:Int).toNat (wrap64 ((rd x0 x12) - x7))) x1 x2 0 x11 (wrap64 (x12+1))))) else(none)) else(none)) else(some (decide (x7 > 0),x0))
def Czz.f (k:Nat) (l0:List Int) (l1:List Int) (a2:Int):Option (Bool × List Int):=Czz.l0 k l0 l1 a2 0 (l0.length:Int) 0
theorem Czz.mono_l:∀ k,(∀ a6 a7 a8 a9 b4 b5,LeO (Czz.l0 k a6 a7 a8 a9 b4 b5) (Czz.l0 (k+1) a6 a7 a8 a9 b4 b5))
 | 0=>fun _ _ _ _ _ _ r h=>by simp [Czz.l0] at h
 | k+1=>by
  have ih0:=Czz.mono_l k
  ·intro a6 a7 a8 a9 b4 b5;unfold Czz.l0;exact mM
theorem Czz.mono:∀ a6 a7 a8 k,LeO (Czz.f k a6 a7 a8) (Czz.f (k+1) a6 a7 a8):=by
 intro a6 a7 a8 k;have ih0:=Czz.mono_l k;unfold Czz.f;exact mM
theorem Czz.calls (k:Nat) (a6:Nat→Prop) (u9000_:Value) (l0:List Int) (a7:Option Addr) (a8:Nat) (l1:List Int) (a9:Int) (b4:Bool) (b5:List Int) (b6 w:World) (hB:Below b6.heap.size b6 w) (b7:Kd.R (Kd.int .i64) 3 w b6.heap.size a6 u9000_ l0) (b8:∀ W_,Kept w W_ (fun k_=>a6 k_)→cI W_ a7 l1) (b9:l1.length≤a8) (h:Czz.f k l0 l1 a9=some (b4,b5)) :
  Calls Try.prog 115 #[u9000_,.slice a7 l1.length a8,.int .i64 a9] w fun e w'=>e=.returned (.bool b4)∧Kd.R (Kd.int .i64) 3 w' b6.heap.size (fun k_=>(a6 k_∨w.heap.size≤k_)) u9000_ b5∧Below b6.heap.size b6 w'∧Kept w w' (fun k_=>a6 k_):=by
 have d6:=aM (show Kd.R (Kd.int .i64) 3 w b6.heap.size (fun k_=>(a6 k_∨w.heap.size≤k_)) u9000_ l0 from Kd.R_mono b7 (fun k_ hk=>(.inl hk)))
 have d7:=aM b8;have d8:=aM b9;clear b8 b9;have HK:=aM (Kept.refl w (fun k_=>a6 k_))
 have HW0:=aM hB.size;have HB:=aM hB;clear hB;have H:(Czz.l0 k l0 l1 a9 0 (l0.length:Int) 0)=some (b4,b5):=h;clear h;have H':=aM H;clear H;obtain⟨d9,e6,rfl⟩:=Kd.R_slice d6.out;go_enter Try.func115,Try.ntmps115
 go_wp2
 go_loopg [7,12] k (fun kq e7 e8 w'=>∃ (e9:List Int) (f3:Int) (f4:Int),e7=.int .i64 f3∧e8=.int .i64 f4∧Aside0 (Czz.l0 kq e9 l1 a9 f3 (l0.length:Int) f4=some (b4,b5))∧Aside0 (kq≤k)∧Aside0 (Kd.R (Kd.int .i64) 3 w' b6.heap.size (fun k_=>(a6 k_∨w.heap.size≤k_)) (.slice d9 l0.length e6) e9)∧Aside0 (Kept w w' (fun k_=>a6 k_))∧Aside0 (Below b6.heap.size b6 w'))
 case atStart=>exact⟨(l0),(0),(0),sD,sD,H',⟨Nat.le_refl _⟩,⟨rX d6.out⟩,⟨kK HK⟩,⟨pB⟩⟩
 case round =>
  clear H';try clear a8
  obtain⟨e9,f3,f4,rfl,rfl,HA,f5,f6,HK,HB⟩:=hrel;have f7:=(Kd.R_reads' f6.out).1;rw[f7] at f6;(try simp only[f7])
  cases gk with
  | zero=>exact absurd HA.out (by simp [Czz.l0])
  | succ k1 =>
   have H:=HA.out;clear HA;simp only[Czz.l0] at H;by_cases c5:f4 < (l0.length:Int)
   ·rw[if_pos c5] at H;have f8:=dE c5;have f9:=f8;(try simp only[f7] at f9)
    clear c5;obtain⟨g4,H⟩:=iN H;obtain⟨c7,H⟩:=iO H;have g5:decide (f4 < (e9.length:Int))=true:=dE c7;have g6:=g5;(try simp only[f7] at g6)
    clear c7;by_cases c8:f4 < (l1.length:Int)
    ·rw[if_pos c8] at H;have g7:=dE c8;have g8:=g7;(try simp only[f7] at g8)
     clear c8;by_cases c9:(wrap64 ((wrap64 ((rd e9 f4) - f3)) - (wrap64 (a9 * (rd l1 f4))))) < 0
     ·rw[if_pos c9] at H;have g9:decide ((wrap64 ((wrap64 ((rd e9 f4) - f3)) - (wrap64 (a9 * (rd l1 f4))))) < 0)=true:=dE c9;have j3:decide ((IntKind.i64.wrap ((IntKind.i64.wrap ((rd e9 f4) - f3)) - (IntKind.i64.wrap (a9 * (rd l1 f4))))) < 0)=true:=by have h_:=g9;first|exact h_|(simp only[i64_w];exact h_)
      clear c9;obtain⟨j4,j5⟩:∃ y_:List Int,y_=(e9.set (f4:Int).toNat (wrap64 ((wrap64 ((wrap64 ((rd e9 f4) - f3)) - (wrap64 (a9 * (rd l1 f4)))))+(wrap64 ((wrap64 (Int.tdiv (wrap64 ((wrap64 ((wrap64 (-(wrap64 ((wrap64 ((rd e9 f4) - f3)) - (wrap64 (a9 * (rd l1 f4)))))))+1000000000)) - 1)) 1000000000)) * 1000000000))))):=⟨_,rfl⟩;replace H:(Czz.l0 k1 j4 l1 a9 (wrap64 (Int.tdiv (wrap64 ((wrap64 ((wrap64 (-(wrap64 ((wrap64 ((rd e9 f4) - f3)) - (wrap64 (a9 * (rd l1 f4)))))))+1000000000)) - 1)) 1000000000)) (l0.length:Int) (wrap64 (f4+1)))=some (b4,b5):=yE j5 H
      have j6:=aM j5;clear j5;have H':=aM H;clear H;obtain⟨j7,j8,j9,l5,l6⟩:=aI (Kd.R_reads' f6.out).2.2 f4;cases j8;obtain⟨l7,l8,l9,m0,m4⟩:=aI (Kd.C_kept_now d7.out HK.out) f4;cases l8;have m5:0≤(f4:Int):=oE aS
      have m6:(f4:Int) < ((e9.length:Int):Int):=oE aS
      obtain⟨m7,m8,m9,n0,n7,n8,n9⟩:=Kd.R_form f6.out (by omega)
      (first|cases m9|(injection m9 with ea_ en_ ec_;(first|subst ea_|(injection ea_ with ea_;subst ea_));subst ec_;clear en_))
      have o0:=aM n0;have o8:=aM n9;clear n0 n7 n9;have HMgo10:=aM (show(a6 m7∨w.heap.size≤m7) from(f6.out.1 _ rfl))
      (first|simp only[add_plain] at j9|skip)
      obtain⟨o9,p0⟩:=Kd.R_celln 0 f6.out (f4:Int) m5 m6;replace m5:=eq_true m5;replace m6:=eq_true m6;have p4:=Kd.R_putg f6.out (f4:Int) (wrap64 ((wrap64 ((wrap64 ((rd e9 f4) - f3)) - (wrap64 (a9 * (rd l1 f4)))))+(wrap64 ((wrap64 (Int.tdiv (wrap64 ((wrap64 ((wrap64 (-(wrap64 ((wrap64 ((rd e9 f4) - f3)) - (wrap64 (a9 * (rd l1 f4)))))))+1000000000)) - 1)) 1000000000)) * 1000000000))));go_wp2_with (first|((with_reducible refine gate_store (t:=3) (p:=47) rfl ?_);refine store_event (t:=3) (p:=47) (v:=?vo_w12) (w1:=(wr.setCell ⟨m7,(f4:Int).toNat,none⟩ (.int .i64 (wrap64 ((wrap64 ((wrap64 ((rd e9 f4) - f3)) - (wrap64 (a9 * (rd l1 f4)))))+(wrap64 ((wrap64 (Int.tdiv (wrap64 ((wrap64 ((wrap64 (-(wrap64 ((wrap64 ((rd e9 f4) - f3)) - (wrap64 (a9 * (rd l1 f4)))))))+1000000000)) - 1)) 1000000000)) * 1000000000))))))) ?hg ?ho ?hn ?hr ?_;(case ho=>rfl);(case hg=>rfl);(case hn=>rfl);(case hr=>first|(go_simp;done)|(go_simp;rfl));intro p7 hw;have hg:wr.grownBy p7 (some m7):=(by rw[hw];exact p4.2);have hp_:Kd.R (Kd.int .i64) 3 p7 b6.heap.size (fun k_=>(a6 k_∨w.heap.size≤k_)) (.slice (some ⟨m7,0,none⟩) e9.length e6) j4:=(by rw[hw,j6.out];exact p4.1);clear p4;replace HK:=aM (Kept.of_grown (S:=(fun k_=>a6 k_)) hg (kK HK) (fun k_ e_=>(f6.out.1 k_ e_)));replace f6:=aM (hp_);replace HB:=aM ((by rw[hw];exact below_set (HB.out) o0.out:Below b6.heap.size b6 p7));clear hg hw hp_))
      (try simp only[← f7])
      go_roundg k1
      case measure=>have:=f5.out;omega
      case rel=>exact⟨(j4),(wrap64 (Int.tdiv (wrap64 ((wrap64 ((wrap64 (-(wrap64 ((wrap64 ((rd e9 f4) - f3)) - (wrap64 (a9 * (rd l1 f4)))))))+1000000000)) - 1)) 1000000000)),(wrap64 (f4+1)),sD,sD,H',⟨by have:=f5.out;omega⟩,⟨by(try simp only[f7]);(with_reducible repeat(first|apply Kd.R_alloc|apply Kd.R_drewN|apply Kd.R_drew));exact f6.out⟩,⟨kK HK⟩,⟨pB⟩⟩
     ·rw[if_neg c9] at H;have g9:decide ((wrap64 ((wrap64 ((rd e9 f4) - f3)) - (wrap64 (a9 * (rd l1 f4))))) < 0)=false:=decide_eq_false c9;have j3:decide ((IntKind.i64.wrap ((IntKind.i64.wrap ((rd e9 f4) - f3)) - (IntKind.i64.wrap (a9 * (rd l1 f4))))) < 0)=false:=by have h_:=g9;first|exact h_|(simp only[i64_w];exact h_)
      clear c9;obtain⟨p9,r5⟩:∃ y_:List Int,y_=(e9.set (f4:Int).toNat (wrap64 ((wrap64 ((rd e9 f4) - f3)) - (wrap64 (a9 * (rd l1 f4)))))):=⟨_,rfl⟩;replace H:(Czz.l0 k1 p9 l1 a9 0 (l0.length:Int) (wrap64 (f4+1)))=some (b4,b5):=yE r5 H
      have r6:=aM r5;clear r5;have H':=aM H;clear H;obtain⟨j7,j8,j9,l5,l6⟩:=aI (Kd.R_reads' f6.out).2.2 f4;cases j8;obtain⟨l7,l8,l9,m0,m4⟩:=aI (Kd.C_kept_now d7.out HK.out) f4;cases l8;have r7:0≤(f4:Int):=oE aS
      have r8:(f4:Int) < ((e9.length:Int):Int):=oE aS
      obtain⟨r9,t4,t5,t6,t7,t8,t9⟩:=Kd.R_form f6.out (by omega)
      (first|cases t5|(injection t5 with ea_ en_ ec_;(first|subst ea_|(injection ea_ with ea_;subst ea_));subst ec_;clear en_))
      have y9:=aM t6;have z3:=aM t9;clear t6 t7 t9;have HMgo13:=aM (show(a6 r9∨w.heap.size≤r9) from(f6.out.1 _ rfl))
      (first|simp only[add_plain] at j9|skip)
      obtain⟨z4,z5⟩:=Kd.R_celln 0 f6.out (f4:Int) r7 r8;replace r7:=eq_true r7;replace r8:=eq_true r8;have z6:=Kd.R_putg f6.out (f4:Int) (wrap64 ((wrap64 ((rd e9 f4) - f3)) - (wrap64 (a9 * (rd l1 f4)))));go_wp2_with (first|((with_reducible refine gate_store (t:=3) (p:=47) rfl ?_);refine store_event (t:=3) (p:=47) (v:=?vo_w15) (w1:=(wr.setCell ⟨r9,(f4:Int).toNat,none⟩ (.int .i64 (wrap64 ((wrap64 ((rd e9 f4) - f3)) - (wrap64 (a9 * (rd l1 f4)))))))) ?hg ?ho ?hn ?hr ?_;(case ho=>rfl);(case hg=>rfl);(case hn=>rfl);(case hr=>first|(go_simp;done)|(go_simp;rfl));intro z7 hw;have hg:wr.grownBy z7 (some r9):=(by rw[hw];exact z6.2);have hp_:Kd.R (Kd.int .i64) 3 z7 b6.heap.size (fun k_=>(a6 k_∨w.heap.size≤k_)) (.slice (some ⟨r9,0,none⟩) e9.length e6) p9:=(by rw[hw,r6.out];exact z6.1);clear z6;replace HK:=aM (Kept.of_grown (S:=(fun k_=>a6 k_)) hg (kK HK) (fun k_ e_=>(f6.out.1 k_ e_)));replace f6:=aM (hp_);replace HB:=aM ((by rw[hw];exact below_set (HB.out) y9.out:Below b6.heap.size b6 z7));clear hg hw hp_))
      (try simp only[← f7])
      go_roundg k1
      case measure=>have:=f5.out;omega
      case rel=>exact⟨(p9),(0),(wrap64 (f4+1)),sD,sD,H',⟨by have:=f5.out;omega⟩,⟨by(try simp only[f7]);(with_reducible repeat(first|apply Kd.R_alloc|apply Kd.R_drewN|apply Kd.R_drew));exact f6.out⟩,⟨kK HK⟩,⟨pB⟩⟩
    ·rw[if_neg c8] at H;have g7:decide (f4 < (l1.length:Int))=false:=decide_eq_false c8;have g8:=g7;(try simp only[f7] at g8)
     clear c8;by_cases z8:(wrap64 ((rd e9 f4) - f3)) < 0
     ·rw[if_pos z8] at H;have z9:decide ((wrap64 ((rd e9 f4) - f3)) < 0)=true:=dE z8;have B0:decide ((IntKind.i64.wrap ((rd e9 f4) - f3)) < 0)=true:=by have h_:=z9;first|exact h_|(simp only[i64_w];exact h_)
      clear z8;obtain⟨B5,B9⟩:∃ y_:List Int,y_=(e9.set (f4:Int).toNat (wrap64 ((wrap64 ((rd e9 f4) - f3))+(wrap64 ((wrap64 (Int.tdiv (wrap64 ((wrap64 ((wrap64 (-(wrap64 ((rd e9 f4) - f3))))+1000000000)) - 1)) 1000000000)) * 1000000000))))):=⟨_,rfl⟩;replace H:(Czz.l0 k1 B5 l1 a9 (wrap64 (Int.tdiv (wrap64 ((wrap64 ((wrap64 (-(wrap64 ((rd e9 f4) - f3))))+1000000000)) - 1)) 1000000000)) (l0.length:Int) (wrap64 (f4+1)))=some (b4,b5):=yE B9 H
      have C0:=aM B9;clear B9;have H':=aM H;clear H;obtain⟨j7,j8,j9,l5,l6⟩:=aI (Kd.R_reads' f6.out).2.2 f4;cases j8;have C1:0≤(f4:Int):=oE aS
      have C2:(f4:Int) < ((e9.length:Int):Int):=oE aS
      obtain⟨C3,C4,C6,C7,C8,C9,D2⟩:=Kd.R_form f6.out (by omega)
      (first|cases C6|(injection C6 with ea_ en_ ec_;(first|subst ea_|(injection ea_ with ea_;subst ea_));subst ec_;clear en_))
      have D3:=aM C7;have D4:=aM D2;clear C7 C8 D2;have HMgo17:=aM (show(a6 C3∨w.heap.size≤C3) from(f6.out.1 _ rfl))
      (first|simp only[add_plain] at j9|skip)
      obtain⟨D5,D6⟩:=Kd.R_celln 0 f6.out (f4:Int) C1 C2;replace C1:=eq_true C1;replace C2:=eq_true C2;have D7:=Kd.R_putg f6.out (f4:Int) (wrap64 ((wrap64 ((rd e9 f4) - f3))+(wrap64 ((wrap64 (Int.tdiv (wrap64 ((wrap64 ((wrap64 (-(wrap64 ((rd e9 f4) - f3))))+1000000000)) - 1)) 1000000000)) * 1000000000))));go_wp2_with (first|((with_reducible refine gate_store (t:=3) (p:=47) rfl ?_);refine store_event (t:=3) (p:=47) (v:=?vo_w19) (w1:=(wr.setCell ⟨C3,(f4:Int).toNat,none⟩ (.int .i64 (wrap64 ((wrap64 ((rd e9 f4) - f3))+(wrap64 ((wrap64 (Int.tdiv (wrap64 ((wrap64 ((wrap64 (-(wrap64 ((rd e9 f4) - f3))))+1000000000)) - 1)) 1000000000)) * 1000000000))))))) ?hg ?ho ?hn ?hr ?_;(case ho=>rfl);(case hg=>rfl);(case hn=>rfl);(case hr=>first|(go_simp;done)|(go_simp;rfl));intro D8 hw;have hg:wr.grownBy D8 (some C3):=(by rw[hw];exact D7.2);have hp_:Kd.R (Kd.int .i64) 3 D8 b6.heap.size (fun k_=>(a6 k_∨w.heap.size≤k_)) (.slice (some ⟨C3,0,none⟩) e9.length e6) B5:=(by rw[hw,C0.out];exact D7.1);clear D7;replace HK:=aM (Kept.of_grown (S:=(fun k_=>a6 k_)) hg (kK HK) (fun k_ e_=>(f6.out.1 k_ e_)));replace f6:=aM (hp_);replace HB:=aM ((by rw[hw];exact below_set (HB.out) D3.out:Below b6.heap.size b6 D8));clear hg hw hp_))
      (try simp only[← f7])
      go_roundg k1
      case measure=>have:=f5.out;omega
      case rel=>exact⟨(B5),(wrap64 (Int.tdiv (wrap64 ((wrap64 ((wrap64 (-(wrap64 ((rd e9 f4) - f3))))+1000000000)) - 1)) 1000000000)),(wrap64 (f4+1)),sD,sD,H',⟨by have:=f5.out;omega⟩,⟨by(try simp only[f7]);(with_reducible repeat(first|apply Kd.R_alloc|apply Kd.R_drewN|apply Kd.R_drew));exact f6.out⟩,⟨kK HK⟩,⟨pB⟩⟩
     ·rw[if_neg z8] at H;have z9:decide ((wrap64 ((rd e9 f4) - f3)) < 0)=false:=decide_eq_false z8;have B0:decide ((IntKind.i64.wrap ((rd e9 f4) - f3)) < 0)=false:=by have h_:=z9;first|exact h_|(simp only[i64_w];exact h_)
      clear z8;obtain⟨D9,E0⟩:∃ y_:List Int,y_=(e9.set (f4:Int).toNat (wrap64 ((rd e9 f4) - f3))):=⟨_,rfl⟩;replace H:(Czz.l0 k1 D9 l1 a9 0 (l0.length:Int) (wrap64 (f4+1)))=some (b4,b5):=yE E0 H
      have E1:=aM E0;clear E0;have H':=aM H;clear H;obtain⟨j7,j8,j9,l5,l6⟩:=aI (Kd.R_reads' f6.out).2.2 f4;cases j8;have E2:0≤(f4:Int):=oE aS
      have E3:(f4:Int) < ((e9.length:Int):Int):=oE aS
      obtain⟨E4,E5,E6,E7,E8,E9,F0⟩:=Kd.R_form f6.out (by omega)
      (first|cases E6|(injection E6 with ea_ en_ ec_;(first|subst ea_|(injection ea_ with ea_;subst ea_));subst ec_;clear en_))
      have F2:=aM E7;have F3:=aM F0;clear E7 E8 F0;have HMgo20:=aM (show(a6 E4∨w.heap.size≤E4) from(f6.out.1 _ rfl))
      (first|simp only[add_plain] at j9|skip)
      obtain⟨F4,F5⟩:=Kd.R_celln 0 f6.out (f4:Int) E2 E3;replace E2:=eq_true E2;replace E3:=eq_true E3;have F6:=Kd.R_putg f6.out (f4:Int) (wrap64 ((rd e9 f4) - f3));go_wp2_with (first|((with_reducible refine gate_store (t:=3) (p:=47) rfl ?_);refine store_event (t:=3) (p:=47) (v:=?vo_w22) (w1:=(wr.setCell ⟨E4,(f4:Int).toNat,none⟩ (.int .i64 (wrap64 ((rd e9 f4) - f3))))) ?hg ?ho ?hn ?hr ?_;(case ho=>rfl);(case hg=>rfl);(case hn=>rfl);(case hr=>first|(go_simp;done)|(go_simp;rfl));intro F7 hw;have hg:wr.grownBy F7 (some E4):=(by rw[hw];exact F6.2);have hp_:Kd.R (Kd.int .i64) 3 F7 b6.heap.size (fun k_=>(a6 k_∨w.heap.size≤k_)) (.slice (some ⟨E4,0,none⟩) e9.length e6) D9:=(by rw[hw,E1.out];exact F6.1);clear F6;replace HK:=aM (Kept.of_grown (S:=(fun k_=>a6 k_)) hg (kK HK) (fun k_ e_=>(f6.out.1 k_ e_)));replace f6:=aM (hp_);replace HB:=aM ((by rw[hw];exact below_set (HB.out) F2.out:Below b6.heap.size b6 F7));clear hg hw hp_))
      (try simp only[← f7])
      go_roundg k1
      case measure=>have:=f5.out;omega
      case rel=>exact⟨(D9),(0),(wrap64 (f4+1)),sD,sD,H',⟨by have:=f5.out;omega⟩,⟨by(try simp only[f7]);(with_reducible repeat(first|apply Kd.R_alloc|apply Kd.R_drewN|apply Kd.R_drew));exact f6.out⟩,⟨kK HK⟩,⟨pB⟩⟩
   ·rw[if_neg c5] at H;have f8:decide (f4 < (l0.length:Int))=false:=decide_eq_false c5;have f9:=f8;(try simp only[f7] at f9)
    clear c5;obtain⟨rfl,rfl⟩:=q2 H;go_wp2
    go_ret
    exact⟨eW,(by first|exact(rX f6.out)|(simp only[f7];exact(rX f6.out))),pB,kK HK⟩


def Czx.l0:Nat→List Int→List Int→Int→Int→Int→Option (List Int)
 | 0,_,_,_,_,_=>none
 | k+1,x0,x1,x4,x8,x9=>if x9 < x8 then(if 0≤x9 then(if x9 < (x0.length:Int) then(if x9 < (x1.length:Int) then(Czx.l0 k (x0.set (x9:Int).toNat (Int.tmod (wrap64 ((wrap64 ((rd x0 x9)+x4))+(rd x1 x9))) 1000000000)) x1 (wrap64 (Int.tdiv (wrap64 ((wrap64 ((rd x0 x9)+x4))+(rd x1 x9))) 1000000000)) x8 (wrap64 (x9+1))) else(Czx.l0 k (x0.set (x9:Int).toNat (Int.tmod (wrap64 ((rd x0 x9)+x4)) 1000000000)) x1 (wrap64 (Int.tdiv (wrap64 ((rd x0 x9)+x4)) 1000000000)) x8 (wrap64 (x9+1)))) else(none)) else(none)) else(some x0)
def Czx.f (k:Nat) (l0:List Int) (l1:List Int):Option (List Int):=Czx.l0 k l0 l1 0 (l0.length:Int) 0
theorem Czx.mono_l:∀ k,(∀ a6 a7 a8 a9 b4,LeO (Czx.l0 k a6 a7 a8 a9 b4) (Czx.l0 (k+1) a6 a7 a8 a9 b4))
 | 0=>fun _ _ _ _ _ r h=>by simp [Czx.l0] at h
 | k+1=>by
  have ih0:=Czx.mono_l k
  ·intro a6 a7 a8 a9 b4;unfold Czx.l0;exact mM
theorem Czx.mono:∀ a6 a7 k,LeO (Czx.f k a6 a7) (Czx.f (k+1) a6 a7):=by
 intro a6 a7 k;have ih0:=Czx.mono_l k;unfold Czx.f;exact mM
theorem Czx.calls (k:Nat) (a6:Nat→Prop) (u9000_:Value) (l0:List Int) (a7:Option Addr) (a8:Nat) (l1:List Int) (r:List Int) (a9 w:World) (hB:Below a9.heap.size a9 w) (b4:Kd.R (Kd.int .i64) 3 w a9.heap.size a6 u9000_ l0) (b5:∀ W_,Kept w W_ (fun k_=>a6 k_)→cI W_ a7 l1) (b6:l1.length≤a8) (h:Czx.f k l0 l1=some r) :
  Calls Try.prog 116 #[u9000_,.slice a7 l1.length a8] w fun e w'=>e=.returned (.tuple #[])∧Kd.R (Kd.int .i64) 3 w' a9.heap.size (fun k_=>(a6 k_∨w.heap.size≤k_)) u9000_ r∧Below a9.heap.size a9 w'∧Kept w w' (fun k_=>a6 k_):=by
 have b7:=aM (show Kd.R (Kd.int .i64) 3 w a9.heap.size (fun k_=>(a6 k_∨w.heap.size≤k_)) u9000_ l0 from Kd.R_mono b4 (fun k_ hk=>(.inl hk)))
 have b8:=aM b5;have b9:=aM b6;clear b5 b6;have HK:=aM (Kept.refl w (fun k_=>a6 k_))
 have HW0:=aM hB.size;have HB:=aM hB;clear hB;have H:(Czx.l0 k l0 l1 0 (l0.length:Int) 0)=some r:=h;clear h;have H':=aM H;clear H;obtain⟨d6,d7,rfl⟩:=Kd.R_slice b7.out;go_enter Try.func116,Try.ntmps116
 go_wp2
 go_loopg [4,9] k (fun kq d8 d9 w'=>∃ (e6:List Int) (e7:Int) (e8:Int),d8=.int .i64 e7∧d9=.int .i64 e8∧Aside0 (Czx.l0 kq e6 l1 e7 (l0.length:Int) e8=some r)∧Aside0 (kq≤k)∧Aside0 (Kd.R (Kd.int .i64) 3 w' a9.heap.size (fun k_=>(a6 k_∨w.heap.size≤k_)) (.slice d6 l0.length d7) e6)∧Aside0 (Kept w w' (fun k_=>a6 k_))∧Aside0 (Below a9.heap.size a9 w'))
 case atStart=>exact⟨(l0),(0),(0),sD,sD,H',⟨Nat.le_refl _⟩,⟨rX b7.out⟩,⟨kK HK⟩,⟨pB⟩⟩
 case round =>
  clear H';try clear a8
  obtain⟨e6,e7,e8,rfl,rfl,HA,e9,f3,HK,HB⟩:=hrel;have f4:=(Kd.R_reads' f3.out).1;rw[f4] at f3;(try simp only[f4])
  cases gk with
  | zero=>exact absurd HA.out (by simp [Czx.l0])
  | succ k1 =>
   have H:=HA.out;clear HA;simp only[Czx.l0] at H;by_cases c4:e8 < (l0.length:Int)
   ·rw[if_pos c4] at H;have f5:=dE c4;have f6:=f5;(try simp only[f4] at f6)
    clear c4;obtain⟨f7,H⟩:=iN H;obtain⟨c6,H⟩:=iO H;have f8:decide (e8 < (e6.length:Int))=true:=dE c6;have f9:=f8;(try simp only[f4] at f9)
    clear c6;by_cases c7:e8 < (l1.length:Int)
    ·rw[if_pos c7] at H;have g4:=dE c7;have g5:=g4;(try simp only[f4] at g5)
     clear c7;obtain⟨g6,g7⟩:∃ y_:List Int,y_=(e6.set (e8:Int).toNat (Int.tmod (wrap64 ((wrap64 ((rd e6 e8)+e7))+(rd l1 e8))) 1000000000)):=⟨_,rfl⟩;replace H:(Czx.l0 k1 g6 l1 (wrap64 (Int.tdiv (wrap64 ((wrap64 ((rd e6 e8)+e7))+(rd l1 e8))) 1000000000)) (l0.length:Int) (wrap64 (e8+1)))=some r:=yE g7 H
     have g8:=aM g7;clear g7;have H':=aM H;clear H;obtain⟨g9,j3,j4,j5,j6⟩:=aI (Kd.R_reads' f3.out).2.2 e8;cases j3;obtain⟨j7,j8,j9,l5,l6⟩:=aI (Kd.C_kept_now b8.out HK.out) e8;cases j8;have l7:0≤(e8:Int):=oE aS
     have q8:(e8:Int) < ((e6.length:Int):Int):=oE aS
     obtain⟨l8,l9,m0,m4,m5,m6,m7⟩:=Kd.R_form f3.out (by omega)
     (first|cases m0|(injection m0 with ea_ en_ ec_;(first|subst ea_|(injection ea_ with ea_;subst ea_));subst ec_;clear en_))
     have m8:=aM m4;have m9:=aM m7;clear m4 m5 m7;have HMgo8:=aM (show(a6 l8∨w.heap.size≤l8) from(f3.out.1 _ rfl))
     (first|simp only[add_plain] at j4|skip)
     obtain⟨n0,n7⟩:=Kd.R_celln 0 f3.out (e8:Int) l7 q8;replace l7:=eq_true l7;replace q8:=eq_true q8;have n8:=Kd.R_putg f3.out (e8:Int) (Int.tmod (wrap64 ((wrap64 ((rd e6 e8)+e7))+(rd l1 e8))) 1000000000);go_wp2_with (first|((with_reducible refine gate_store (t:=3) (p:=34) rfl ?_);refine store_event (t:=3) (p:=34) (v:=?vo_w10) (w1:=(wr.setCell ⟨l8,(e8:Int).toNat,none⟩ (.int .i64 (Int.tmod (wrap64 ((wrap64 ((rd e6 e8)+e7))+(rd l1 e8))) 1000000000)))) ?hg ?ho ?hn ?hr ?_;(case ho=>rfl);(case hg=>rfl);(case hn=>rfl);(case hr=>first|(go_simp;done)|(go_simp;rfl));intro n9 hw;have hg:wr.grownBy n9 (some l8):=(by rw[hw];exact n8.2);have hp_:Kd.R (Kd.int .i64) 3 n9 a9.heap.size (fun k_=>(a6 k_∨w.heap.size≤k_)) (.slice (some ⟨l8,0,none⟩) e6.length d7) g6:=(by rw[hw,g8.out];exact n8.1);clear n8;replace HK:=aM (Kept.of_grown (S:=(fun k_=>a6 k_)) hg (kK HK) (fun k_ e_=>(f3.out.1 k_ e_)));replace f3:=aM (hp_);replace HB:=aM ((by rw[hw];exact below_set (HB.out) m8.out:Below a9.heap.size a9 n9));clear hg hw hp_))
     (try simp only[← f4])
     go_roundg k1
     case measure=>have:=e9.out;omega
     case rel=>exact⟨(g6),(wrap64 (Int.tdiv (wrap64 ((wrap64 ((rd e6 e8)+e7))+(rd l1 e8))) 1000000000)),(wrap64 (e8+1)),sD,sD,H',⟨by have:=e9.out;omega⟩,⟨by(try simp only[f4]);(with_reducible repeat(first|apply Kd.R_alloc|apply Kd.R_drewN|apply Kd.R_drew));exact f3.out⟩,⟨kK HK⟩,⟨pB⟩⟩
    ·rw[if_neg c7] at H;have g4:decide (e8 < (l1.length:Int))=false:=decide_eq_false c7;have g5:=g4;(try simp only[f4] at g5)
     clear c7;obtain⟨o0,o8⟩:∃ y_:List Int,y_=(e6.set (e8:Int).toNat (Int.tmod (wrap64 ((rd e6 e8)+e7)) 1000000000)):=⟨_,rfl⟩;replace H:(Czx.l0 k1 o0 l1 (wrap64 (Int.tdiv (wrap64 ((rd e6 e8)+e7)) 1000000000)) (l0.length:Int) (wrap64 (e8+1)))=some r:=yE o8 H
     have o9:=aM o8;clear o8;have H':=aM H;clear H;obtain⟨g9,j3,j4,j5,j6⟩:=aI (Kd.R_reads' f3.out).2.2 e8;cases j3;have p0:0≤(e8:Int):=oE aS
     have p4:(e8:Int) < ((e6.length:Int):Int):=oE aS
     obtain⟨p7,p9,r5,r6,r7,r8,r9⟩:=Kd.R_form f3.out (by omega)
     (first|cases r5|(injection r5 with ea_ en_ ec_;(first|subst ea_|(injection ea_ with ea_;subst ea_));subst ec_;clear en_))
     have t4:=aM r6;have t5:=aM r9;clear r6 r7 r9;have HMgo11:=aM (show(a6 p7∨w.heap.size≤p7) from(f3.out.1 _ rfl))
     (first|simp only[add_plain] at j4|skip)
     obtain⟨t6,t7⟩:=Kd.R_celln 0 f3.out (e8:Int) p0 p4;replace p0:=eq_true p0;replace p4:=eq_true p4;have t8:=Kd.R_putg f3.out (e8:Int) (Int.tmod (wrap64 ((rd e6 e8)+e7)) 1000000000);go_wp2_with (first|((with_reducible refine gate_store (t:=3) (p:=34) rfl ?_);refine store_event (t:=3) (p:=34) (v:=?vo_w13) (w1:=(wr.setCell ⟨p7,(e8:Int).toNat,none⟩ (.int .i64 (Int.tmod (wrap64 ((rd e6 e8)+e7)) 1000000000)))) ?hg ?ho ?hn ?hr ?_;(case ho=>rfl);(case hg=>rfl);(case hn=>rfl);(case hr=>first|(go_simp;done)|(go_simp;rfl));intro t9 hw;have hg:wr.grownBy t9 (some p7):=(by rw[hw];exact t8.2);have hp_:Kd.R (Kd.int .i64) 3 t9 a9.heap.size (fun k_=>(a6 k_∨w.heap.size≤k_)) (.slice (some ⟨p7,0,none⟩) e6.length d7) o0:=(by rw[hw,o9.out];exact t8.1);clear t8;replace HK:=aM (Kept.of_grown (S:=(fun k_=>a6 k_)) hg (kK HK) (fun k_ e_=>(f3.out.1 k_ e_)));replace f3:=aM (hp_);replace HB:=aM ((by rw[hw];exact below_set (HB.out) t4.out:Below a9.heap.size a9 t9));clear hg hw hp_))
     (try simp only[← f4])
     go_roundg k1
     case measure=>have:=e9.out;omega
     case rel=>exact⟨(o0),(wrap64 (Int.tdiv (wrap64 ((rd e6 e8)+e7)) 1000000000)),(wrap64 (e8+1)),sD,sD,H',⟨by have:=e9.out;omega⟩,⟨by(try simp only[f4]);(with_reducible repeat(first|apply Kd.R_alloc|apply Kd.R_drewN|apply Kd.R_drew));exact f3.out⟩,⟨kK HK⟩,⟨pB⟩⟩
   ·rw[if_neg c4] at H;have f5:decide (e8 < (l0.length:Int))=false:=decide_eq_false c4;have f6:=f5;(try simp only[f4] at f6)
    clear c4;obtain rfl:=Option.some.inj H;go_wp2
    first|go_end0|((try simp only[Exit.inBlock,Exit.then]);refine bodyPost_ret (results_none rfl _ _ _) rfl ?_)
    exact⟨eW,(by first|exact(rX f3.out)|(simp only[f4];exact(rX f3.out))),pB,kK HK⟩

end Go.Proofs.Ytbnpcplckcipfaa.Print
