import Derived.Test.YtnklckihalhlmaaPrint0
import Derived.Test.YtnklckihalhlmaaPrint16
namespace Go.Proofs.Ytnklckihalhlmaa.Print
open Go.RowKit Go.Proofs.YtnklckihalhlmaaW.PrintWords Go.Proofs.YtnklckihalhlmaaW.PrintLast Go.Proofs.YtnklckihalhlmaaW.PrintMore
attribute [local go_sem] max2_int min2_int max_two min_two max_three min_three max_four min_four
set_option linter.unusedVariables false
set_option maxRecDepth 100000
set_option maxHeartbeats 8000000
set_option linter.unusedSimpArgs false

def Dzk.l0:Nat→List Int→Int→List Int→Int→Int→Option (List Int × List Int)
 | 0,_,_,_,_,_=>none
 | k+1,x0,x1,x6,x7,x8=>if x8≥0 then(if 0≤x8 then(if x8 < (x0.length:Int) then(if x1=0 then(none) else(if x8 < (x6.length:Int) then(Dzk.l0 k x0 x1 (x6.set (x8:Int).toNat (wrap64 (Int.tdiv (wrap64 ((wrap64 (x7 * 1000000000))+(rd x0 x8))) x1))) (Int.tmod (wrap64 ((wrap64 (x7 * 1000000000))+(rd x0 x8))) x1) (wrap64 (x8 - 1))) else(none))) else(none)) else(none)) else((Czj.f k x6).bind fun t279=>((Czj.f k (([x7]:List Int))).bind fun t285=>(some (t279,t285))))
def Dzk.f (k:Nat) (l0:List Int) (a1:Int):Option (List Int × List Int):=if 0≤(l0.length:Int) then(if((l0.length:Int):Int).toNat≤35184372088832 then(Dzk.l0 k l0 a1 (List.replicate ((l0.length:Int):Int).toNat 0) 0 (wrap64 ((l0.length:Int) - 1))) else(none)) else(none)
theorem Dzk.mono_l:∀ k,(∀ a6 a7 a8 a9 b3,LeO (Dzk.l0 k a6 a7 a8 a9 b3) (Dzk.l0 (k+1) a6 a7 a8 a9 b3))
 | 0=>fun _ _ _ _ _ r h=>by simp [Dzk.l0] at h
 | k+1=>by
  have ih0:=Dzk.mono_l k
  ·intro a6 a7 a8 a9 b3;unfold Dzk.l0;have i0:=@Czj.mono;exact mM
theorem Dzk.mono:∀ a6 a7 k,LeO (Dzk.f k a6 a7) (Dzk.f (k+1) a6 a7):=by
 intro a6 a7 k;have ih0:=Dzk.mono_l k;unfold Dzk.f;have i0:=@Czj.mono;exact mM
def Dzk.T7:Bool × List (List Nat × List Nat):=(true,[([],[]),([],[]),([],[]),([],[]),([2,3],[2,3]),([],[]),([],[]),([5,6],[5,6]),([0,1,0,1,2,3,4],[0,1]),([8,4,0,1,2,3,4],[4,8]),([7,9,0,1,2,3,4,5,6,7,8,9],[7])])
def Dzk.B7:List Nat:=[0,0,0,0,12,0,0,96,31,287,1023]
theorem Dzk.tab7:rtab .any (opsOf Try.f99 7)=Dzk.T7:=by kernel_rfl
theorem Dzk.bits7:waitsOk Dzk.T7.2 Dzk.B7=true:=by kernel_rfl
theorem Dzk.calls (k:Nat) (a6:Option Addr) (a7:Nat) (l0:List Int) (a8:Int) (a9:List Int) (b3:List Int) (w:World) (b4:Kd.C (Kd.int .i64) w a6 l0.length l0) (b5:l0.length≤a7) (h:Dzk.f k l0 a8=some (a9,b3)) :
  Calls Try.prog 99 #[.slice a6 l0.length a7,.int .i64 a8] w fun e w'=>∃ v0_ v1_:Value,e=.returned (.tuple #[v0_,v1_])∧Kd.R (Kd.int .i64) 3 w' w.heap.size (fun k_=>some k_≠(v1_:Value).ownBlock) v0_ a9∧Kd.R (Kd.int .i64) 3 w' w.heap.size (fun k_=>some k_≠(v0_:Value).ownBlock) v1_ b3∧Below w.heap.size w w':=by
 have b6:=aM b4;have b7:=aM b5;clear b4 b5;have HB:=aM (Below.refl w.heap.size w);have H:(if 0≤(l0.length:Int) then(if((l0.length:Int):Int).toNat≤35184372088832 then(Dzk.l0 k l0 a8 (List.replicate ((l0.length:Int):Int).toNat 0) 0 (wrap64 ((l0.length:Int) - 1))) else(none)) else(none))=some (a9,b3):=h
 clear h;by_cases c3:0≤(l0.length:Int)
 ·rw[if_pos c3] at H;have b8:=eq_true c3;have b9:=dE c3;clear c3;obtain⟨c4,H⟩:=iO H;have d0:=eq_true c4;have d1:decide (((l0.length:Int):Int).toNat≤35184372088832)=true:=dE c4;clear c4;obtain⟨d3,d4⟩:∃ y_:List Int,y_=(List.replicate ((l0.length:Int):Int).toNat 0):=⟨_,rfl⟩;replace H:(Dzk.l0 k l0 a8 d3 0 (wrap64 ((l0.length:Int) - 1)))=some (a9,b3):=yE d4 H
  have d5:=aM d4;clear d4;have H':=aM H;clear H;go_enter Try.func99,Try.ntmps99
  go_wp2_with (first|((with_reducible refine gate_dst (N:=12) rfl ?_);refine Kd.R_make (Kd.int .i64) _ 3 rfl (N:=12) rfl 34 _ _ rfl (l0.length:Int) rfl rfl Try.underlying34 (.int .i64 0) 8 info3 rfl (by decide) (by omega) 0 (ok:=fun _=>True) (okp:=fun _=>True) rfl (fun _ hk=>hk) trivial (oE aS) (Nat.le_trans (Nat.mul_le_mul_right _ (oE aS:(l0.length:Int).toNat≤35184372088832)) (by omega)) (Below.refl _ _) (Nat.le_refl _) ?_;intro d6 d7 d8 hb hg_ hnew_;clear hg_ hnew_;replace d8:=rY d5 d8;have d9:=rL d8;replace HB:=bB hb;clear hb d8))
  go_loopg [7,8] k (fun kq e6 e7 w'=>∃ (e8:List Int) (f3:Int) (f4:Int),e6=.int .i64 f3∧e7=.int .i64 f4∧Aside0 (Dzk.l0 kq l0 a8 e8 f3 f4=some (a9,b3))∧Aside0 (kq≤k)∧Aside0 (Kd.R (Kd.int .i64) 3 w' w.heap.size (fun _=>True) d6 e8)∧Aside0 (Below w.heap.size w w'))
  case atStart=>exact⟨(d3),(0),(wrap64 ((l0.length:Int) - 1)),sD,sD,H',⟨Nat.le_refl _⟩,⟨rX d9.out⟩,⟨pB⟩⟩
  case round =>
   clear H';try clear p2
   obtain⟨e8,f3,f4,rfl,rfl,HA,f5,f6,HB⟩:=hrel;cases gk with
   | zero=>exact absurd HA.out (by simp [Dzk.l0])
   | succ k1 =>
    have H:=HA.out;clear HA;simp only[Dzk.l0] at H;by_cases c7:f4≥0
    ·rw[if_pos c7] at H;have f7:decide (0≤f4)=true:=dE c7;clear c7;obtain⟨f8,H⟩:=iN H;obtain⟨f9,H⟩:=iN H;obtain⟨c10,H⟩:=iM H;have g6:(a8 == 0)=false:=beq_eq_false_iff_ne.mpr c10;have g7:(a8 != 0)=true:=bne_iff_ne.mpr c10;obtain⟨g8,H⟩:=iN H;obtain⟨g9,j5⟩:∃ y_:List Int,y_=(e8.set (f4:Int).toNat (wrap64 (Int.tdiv (wrap64 ((wrap64 (f3 * 1000000000))+(rd l0 f4))) a8))):=⟨_,rfl⟩;replace H:(Dzk.l0 k1 l0 a8 g9 (Int.tmod (wrap64 ((wrap64 (f3 * 1000000000))+(rd l0 f4))) a8) (wrap64 (f4 - 1)))=some (a9,b3):=yE j5 H
     have j9:=aM j5;clear j5;have H':=aM H;clear H;obtain⟨l5,l6,l7,l8,l9⟩:=aI b6.out f4;cases l6
     replace l7:=hB HB l7;try go_wp2
     have n0_:=aM (Kd.R_drew f6.out);have n1_:=aM (below_drew1 HB.out);clear f6 HB;have f6:=n0_;have HB:=n1_;clear n0_ n1_;have m4:0≤(f4:Int):=oE aS
     have m5:(f4:Int) < ((e8.length:Int):Int):=oE aS
     obtain⟨m6,m7,m8,m9,n0,n1,n2⟩:=Kd.R_form f6.out (by omega)
     (first|cases m8|(injection m8 with ea_ en_ ec_;(first|subst ea_|(injection ea_ with ea_;subst ea_));subst ec_;clear en_))
     have n3:=aM m9;have n4:=aM n2;clear m9 n0 n2;obtain⟨n5,n6⟩:=Kd.R_celln 0 f6.out (f4:Int) m4 m5;replace m4:=eq_true m4;replace m5:=eq_true m5;have n7:=Kd.R_putn f6.out (f4:Int) (wrap64 (Int.tdiv (wrap64 ((wrap64 (f3 * 1000000000))+(rd l0 f4))) a8));rw[← j9.out] at n7;have n8:=aM n7;clear n7;refine start_ (n:=11) (S:=fun w'=>True) (ds:=[9]) (bA 11 0) (by kernel_rfl) rfl rfl trivial (fun hHeld=>?_);refine with_tabW Dzk.tab7 Dzk.bits7 (fun HT_ HW_=>?_)
     generalize wr.drew=n9 at f6 HB n4 n8 n6 n5 hHeld ⊢;refine pS 0 27 HT_ ?_;refine pS 1 28 HT_ ?_;refine pS 2 29 HT_ ?_;refine pS 3 30 HT_ ?_;refine pS 4 31 HT_ ?_;refine pS 5 32 HT_ ?_;refine pS 6 33 HT_ ?_;refine pS 7 34 HT_ ?_;refine pS 8 35 HT_ ?_;refine lU 9 none HT_ fun K hK=>?_
     refine skip_ (w1:=?_) (by rfl) rfl ?_ ?_
     rotate_left
     ·go_simp
      rfl
     refine hK.out _ _ ?_;clear hK K;refine pS 10 7 HT_ ?_;refine done_ (done_of HT_.out (by kernel_rfl)) ?_
     try go_wp2
     go_roundg k1
     case measure=>have:=f5.out;omega
     case rel=>exact⟨(g9),(Int.tmod (wrap64 ((wrap64 (f3 * 1000000000))+(rd l0 f4))) a8),(wrap64 (f4 - 1)),sD,sD,H',⟨by have:=f5.out;omega⟩,⟨rX n8.out⟩,⟨pB⟩⟩
    ·rw[if_neg c7] at H;have f7:decide (0≤f4)=false:=decide_eq_false c7;clear c7;obtain⟨o0,o1,H⟩:=bT H;(try dsimp only at H);obtain⟨o2,o3⟩:∃ y_:List Int,y_=(([f3]:List Int)):=⟨_,rfl⟩;replace H:((Czj.f k1 o2).bind fun o4=>(some (o0,o4)))=some (a9,b3):=yE o3 H
     have o5:=aM o3;clear o3;replace H:=bS H;obtain⟨o4,o6,H⟩:=H;replace H:(some (o0,o4))=some (a9,b3):=H;have o7:=aM o6;clear o6;obtain⟨rfl,rfl⟩:=q2 H;obtain⟨o8,o9,rfl⟩:=Kd.R_slice f6.out;go_wp2_with (first|((with_reducible refine gc 92 rfl ?_);refine gC 92 (some 37) Try.func92 #[.slice o8 e8.length o9] ?_;(with_reducible refine(Czj.calls k1 (fun k_=>some k_=(.slice o8 e8.length o9:Value).ownBlock) (.slice o8 e8.length o9) e8 o0 w _ ?_ ?_ o1.out).mono ?_);exact pB;exact Kd.R_tight rfl f6.out;rintro e p3 ⟨p7,rfl,p9,hb,hkp⟩;refine⟨_,rfl,?_⟩;have r5:=aM (Kd.R_mono (ok':=fun k_=>True) p9 (fun k_ hk_=>trivial));replace HB:=aM (hb);clear f6 hb hkp p9)|((with_reducible refine gd 39 rfl ?_);refine iL 39 [f3] ?_;intro r6 r7 r8 hb;replace r8:=rY o5 r8;have r9:=rL (rn r8 r5);replace r5:=rE r5 r8 hb;replace HB:=bB hb;clear hb r8;obtain⟨t0,t1,rfl⟩:=Kd.R_slice r9.out)|((with_reducible refine gc 92 rfl ?_);refine gC 92 (some 40) Try.func92 #[.slice t0 o2.length t1] ?_;(with_reducible refine(Czj.calls k1 (fun k_=>some k_=(.slice t0 o2.length t1:Value).ownBlock) (.slice t0 o2.length t1) o2 o4 w _ ?_ ?_ o7.out).mono ?_);exact pB;exact Kd.R_tight rfl r9.out;rintro e t2 ⟨t3,rfl,p9,hb,hkp⟩;refine⟨_,rfl,?_⟩;have t4:=aM (Kd.R_mono (ok':=fun k_=>some k_≠(p7:Value).ownBlock) p9 (fun k_ hk_=>Or.elim hk_ (fun hs_=>fun e_=>(((r5.out).1 k_ e_.symm).2) hs_) (fun hn_=>(Kd.fresh' (Kd.R_lt (rX r5.out)) k_ hn_))));replace r5:=aM (Kd.R_mono (ok':=fun k_=>some k_≠(t3:Value).ownBlock) (Kd.R_keptB (r5.out) hkp (fun k_ hk_ hs_=>(hk_.2) hs_)) (fun k_ hk_=>fun e_=>Or.elim (p9.1 k_ e_.symm) (fun hs_=>hk_.2.1 hs_) (fun hn_=>Nat.not_le.2 hk_.2.2 hn_)));replace HB:=aM (hb);clear r9 hb hkp p9))
     go_ret2
     exact⟨_,_,eW,rX r5.out,rX t4.out,pB⟩
 ·rw[if_neg c3] at H;exact absurd H (by simp)


def Dzf.l0:Nat→List Int→Int→List Int→Int→Int→Int→Option (List Int)
 | 0,_,_,_,_,_,_=>none
 | k+1,x0,x1,x5,x6,x14,x15=>if x15 < x14 then(if 0≤x15 then(if x15 < (x0.length:Int) then(if x15 < (x5.length:Int) then(Dzf.l0 k x0 x1 (x5.set (x15:Int).toNat (Int.tmod (wrap64 ((wrap64 ((rd x0 x15) * x1))+x6)) 1000000000)) (wrap64 (Int.tdiv (wrap64 ((wrap64 ((rd x0 x15) * x1))+x6)) 1000000000)) x14 (wrap64 (x15+1))) else(none)) else(none)) else(none)) else(if 0≤(x0.length:Int) then(if(x0.length:Int) < (x5.length:Int) then(some (x5.set ((x0.length:Int):Int).toNat x6)) else(none)) else(none))
def Dzf.f (k:Nat) (l0:List Int) (a1:Int):Option (List Int):=if 0≤(wrap64 ((l0.length:Int)+1)) then(if(wrap64 ((l0.length:Int)+1):Int).toNat≤35184372088832 then(Dzf.l0 k l0 a1 (List.replicate (wrap64 ((l0.length:Int)+1):Int).toNat 0) 0 (l0.length:Int) 0) else(none)) else(none)
theorem Dzf.mono_l:∀ k,(∀ a6 a7 a8 a9 b3 b4,LeO (Dzf.l0 k a6 a7 a8 a9 b3 b4) (Dzf.l0 (k+1) a6 a7 a8 a9 b3 b4))
 | 0=>fun _ _ _ _ _ _ r h=>by simp [Dzf.l0] at h
 | k+1=>by
  have ih0:=Dzf.mono_l k
  ·intro a6 a7 a8 a9 b3 b4;unfold Dzf.l0;exact mM
theorem Dzf.mono:∀ a6 a7 k,LeO (Dzf.f k a6 a7) (Dzf.f (k+1) a6 a7):=by
 intro a6 a7 k;have ih0:=Dzf.mono_l k;unfold Dzf.f;exact mM
theorem Dzf.calls (k:Nat) (a6:Option Addr) (a7:Nat) (l0:List Int) (a8:Int) (r:List Int) (w:World) (a9:Kd.C (Kd.int .i64) w a6 l0.length l0) (b3:l0.length≤a7) (h:Dzf.f k l0 a8=some r) :
  Calls Try.prog 102 #[.slice a6 l0.length a7,.int .i64 a8] w fun e w'=>∃ v0_:Value,e=.returned (v0_)∧Kd.R (Kd.int .i64) 3 w' w.heap.size (fun _=>True) v0_ r∧Below w.heap.size w w':=by
 have b4:=aM a9;have b5:=aM b3;clear a9 b3;have HB:=aM (Below.refl w.heap.size w);have H:(if 0≤(wrap64 ((l0.length:Int)+1)) then(if(wrap64 ((l0.length:Int)+1):Int).toNat≤35184372088832 then(Dzf.l0 k l0 a8 (List.replicate (wrap64 ((l0.length:Int)+1):Int).toNat 0) 0 (l0.length:Int) 0) else(none)) else(none))=some r:=h
 clear h;obtain⟨b6,b7⟩:∃ j_:Int,(wrap64 ((l0.length:Int)+1))=j_:=⟨_,rfl⟩;replace H:(if 0≤(b6) then(if(b6:Int).toNat≤35184372088832 then(Dzf.l0 k l0 a8 (List.replicate (b6:Int).toNat 0) 0 (l0.length:Int) 0) else(none)) else(none))=some r:=by first|(rw[b7] at H;exact H)|(simp only[b7] at H ⊢;exact H)
 have b8:(IntKind.i64.wrap ((l0.length:Int)+1))=b6:=(i64_w _).trans b7;by_cases c4:0≤(b6)
 ·rw[if_pos c4] at H;have b9:=eq_true c4;have d0:=dE c4;clear c4;obtain⟨c5,H⟩:=iO H;have d1:=eq_true c5;have d3:decide ((b6:Int).toNat≤35184372088832)=true:=dE c5;clear c5;obtain⟨d4,d5⟩:∃ y_:List Int,y_=(List.replicate (b6:Int).toNat 0):=⟨_,rfl⟩;replace H:(Dzf.l0 k l0 a8 d4 0 (l0.length:Int) 0)=some r:=yE d5 H
  have d6:=aM d5;clear d5;have H':=aM H;clear H;go_enter Try.func102,Try.ntmps102
  go_wp2_with (first|((with_reducible refine gate_dst (N:=12) rfl ?_);refine Kd.R_make (Kd.int .i64) _ 3 rfl (N:=12) rfl 34 _ _ rfl b6 rfl rfl Try.underlying34 (.int .i64 0) 8 info3 rfl (by decide) (by omega) 0 (ok:=fun _=>True) (okp:=fun _=>True) rfl (fun _ hk=>hk) trivial (oE aS) (Nat.le_trans (Nat.mul_le_mul_right _ (oE aS:b6.toNat≤35184372088832)) (by omega)) (Below.refl _ _) (Nat.le_refl _) ?_;intro d7 d8 d9 hb hg_ hnew_;clear hg_ hnew_;replace d9:=rY d6 d9;have e6:=rL d9;replace HB:=bB hb;clear hb d9))
  go_loopg [6,15] k (fun kq e7 e8 w'=>∃ (f3:List Int) (f4:Int) (f5:Int),e7=.int .i64 f4∧e8=.int .i64 f5∧Aside0 (Dzf.l0 kq l0 a8 f3 f4 (l0.length:Int) f5=some r)∧Aside0 (kq≤k)∧Aside0 (Kd.R (Kd.int .i64) 3 w' w.heap.size (fun _=>True) d7 f3)∧Aside0 (Below w.heap.size w w'))
  case atStart=>exact⟨(d4),(0),(0),sD,sD,H',⟨Nat.le_refl _⟩,⟨rX e6.out⟩,⟨pB⟩⟩
  case round =>
   clear H';try clear f6
   obtain⟨f3,f4,f5,rfl,rfl,HA,f7,f8,HB⟩:=hrel;cases gk with
   | zero=>exact absurd HA.out (by simp [Dzf.l0])
   | succ k1 =>
    have H:=HA.out;clear HA;simp only[Dzf.l0] at H;by_cases c8:f5 < (l0.length:Int)
    ·rw[if_pos c8] at H;have f9:=dE c8;clear c8;obtain⟨g6,H⟩:=iN H;obtain⟨g7,H⟩:=iN H;obtain⟨g8,H⟩:=iN H;obtain⟨g9,j5⟩:∃ y_:List Int,y_=(f3.set (f5:Int).toNat (Int.tmod (wrap64 ((wrap64 ((rd l0 f5) * a8))+f4)) 1000000000)):=⟨_,rfl⟩;replace H:(Dzf.l0 k1 l0 a8 g9 (wrap64 (Int.tdiv (wrap64 ((wrap64 ((rd l0 f5) * a8))+f4)) 1000000000)) (l0.length:Int) (wrap64 (f5+1)))=some r:=yE j5 H
     have j9:=aM j5;clear j5;have H':=aM H;clear H;obtain⟨l5,l6,l7,l8,l9⟩:=aI b4.out f5;cases l6
     replace l7:=hB HB l7;have m4:0≤(f5:Int):=oE aS
     have m5:(f5:Int) < ((f3.length:Int):Int):=oE aS
     obtain⟨m6,m7,m8,m9,n0,n1,n2⟩:=Kd.R_form f8.out (by omega)
     (first|cases m8|(injection m8 with ea_ en_ ec_;(first|subst ea_|(injection ea_ with ea_;subst ea_));subst ec_;clear en_))
     have n3:=aM m9;have n4:=aM n2;clear m9 n0 n2;obtain⟨n5,n6⟩:=Kd.R_celln 0 f8.out (f5:Int) m4 m5;replace m4:=eq_true m4;replace m5:=eq_true m5;have n7:=Kd.R_putg f8.out (f5:Int) (Int.tmod (wrap64 ((wrap64 ((rd l0 f5) * a8))+f4)) 1000000000);go_wp2_with (first|((with_reducible refine gate_store (t:=3) (p:=32) rfl ?_);refine store_event (t:=3) (p:=32) (v:=?vo_w14) (w1:=(wr.setCell ⟨m6,(f5:Int).toNat,none⟩ (.int .i64 (Int.tmod (wrap64 ((wrap64 ((rd l0 f5) * a8))+f4)) 1000000000)))) ?hg ?ho ?hn ?hr ?_;(case ho=>rfl);(case hg=>rfl);(case hn=>rfl);(case hr=>first|(go_simp;done)|(go_simp;rfl));intro n8 hw;have hg:wr.grownBy n8 (some m6):=(by rw[hw];exact n7.2);have hp_:Kd.R (Kd.int .i64) 3 n8 w.heap.size (fun _=>True) (.slice (some ⟨m6,0,none⟩) f3.length m7) g9:=(by rw[hw,j9.out];exact n7.1);clear n7;replace f8:=aM (hp_);replace HB:=aM ((by rw[hw];exact below_set (HB.out) n3.out:Below w.heap.size w n8));clear hg hw hp_))
     go_roundg k1
     case measure=>have:=f7.out;omega
     case rel=>exact⟨(g9),(wrap64 (Int.tdiv (wrap64 ((wrap64 ((rd l0 f5) * a8))+f4)) 1000000000)),(wrap64 (f5+1)),sD,sD,H',⟨by have:=f7.out;omega⟩,⟨rX f8.out⟩,⟨pB⟩⟩
    ·rw[if_neg c8] at H;have f9:decide (f5 < (l0.length:Int))=false:=decide_eq_false c8;clear c8;obtain⟨n9,H⟩:=iO H;have o0:decide (0≤(l0.length:Int))=true:=dE n9;have o1:decide (0≤l0.length)=true:=dE (by omega)
     clear n9;obtain⟨o2,H⟩:=iO H;have o3:decide ((l0.length:Int) < (f3.length:Int))=true:=dE o2;have o4:decide (l0.length < f3.length)=true:=dE (Int.ofNat_lt.mp o2);clear o2;obtain⟨o5,o6⟩:∃ y_:List Int,y_=(f3.set ((l0.length:Int):Int).toNat f4):=⟨_,rfl⟩;replace H:(some o5)=some r:=yE o6 H
     have o7:=aM o6;clear o6;obtain rfl:=Option.some.inj H;have o8:0≤((l0.length:Int):Int):=oE aS
     have o9:((l0.length:Int):Int) < ((f3.length:Int):Int):=oE aS
     obtain⟨p3,p7,p9,r5,r6,r7,r8⟩:=Kd.R_form f8.out (by omega)
     (first|cases p9|(injection p9 with ea_ en_ ec_;(first|subst ea_|(injection ea_ with ea_;subst ea_));subst ec_;clear en_))
     have r9:=aM r5;have t0:=aM r8;clear r5 r6 r8;obtain⟨t1,t2⟩:=Kd.R_celln 0 f8.out ((l0.length:Int):Int) o8 o9;(try simp only[Int.toNat_natCast] at t1)
     (try simp only[Int.toNat_natCast] at t2)
     replace o8:=eq_true o8;replace o9:=eq_true o9;have t3:=Kd.R_putg f8.out ((l0.length:Int):Int) f4;go_wp2_with (first|((with_reducible refine gate_store (t:=3) (p:=38) rfl ?_);refine store_event (t:=3) (p:=38) (v:=?vo_w19) (w1:=(wr.setCell ⟨p3,((l0.length:Int):Int).toNat,none⟩ (.int .i64 f4))) ?hg ?ho ?hn ?hr ?_;(case ho=>rfl);(case hg=>rfl);(case hn=>rfl);(case hr=>first|(go_simp;done)|(go_simp;rfl));intro t4 hw;have hg:wr.grownBy t4 (some p3):=(by rw[hw];exact t3.2);have hp_:Kd.R (Kd.int .i64) 3 t4 w.heap.size (fun _=>True) (.slice (some ⟨p3,0,none⟩) f3.length p7) o5:=(by rw[hw,o7.out];exact t3.1);clear t3;replace f8:=aM (hp_);replace HB:=aM ((by rw[hw];exact below_set (HB.out) r9.out:Below w.heap.size w t4));clear hg hw hp_))
     go_ret
     exact⟨_,by first|rfl|(simp [errW_none,errW_some] <;> rfl)|(simp only[← b7];first|rfl|(simp [errW_none,errW_some] <;> rfl))|(simp [*,errW_none,errW_some] <;> rfl),rX f8.out,pB⟩
 ·rw[if_neg c4] at H;exact absurd H (by simp)


mutual
def Dzy.l0:Nat→List Int→List Int→Int→Int→Int→Int→Option (Int)
 | 0,_,_,_,_,_,_=>none
 | k+1,x0,x1,x5,x6,x8,x9=>if x8≥1000000000 then(Dzy.j1 k x0 x1 x5 x6 x8 x9 true) else(if 0≤(wrap64 (x6 - 1)) then(if(wrap64 (x6 - 1)) < (x1.length:Int) then(if 0≤(wrap64 (x5 - 2)) then(if(wrap64 (x5 - 2)) < (x0.length:Int) then(Dzy.j1 k x0 x1 x5 x6 x8 x9 (decide ((wrap64 (x8 * (rd x1 (wrap64 (x6 - 1))))) > (wrap64 ((wrap64 (x9 * 1000000000))+(rd x0 (wrap64 (x5 - 2)))))))) else(none)) else(none)) else(none)) else(none))
def Dzy.j1:Nat→List Int→List Int→Int→Int→Int→Int→Bool→Option (Int)
 | 0,_,_,_,_,_,_,_=>none
 | k+1,x0,x1,x5,x6,x8,x9,x58=>if x58=true then(if 0≤x6 then(if x6 < (x1.length:Int) then(if(wrap64 (x9+(rd x1 x6)))≥1000000000 then(some (wrap64 (x8 - 1))) else(Dzy.l0 k x0 x1 x5 x6 (wrap64 (x8 - 1)) (wrap64 (x9+(rd x1 x6))))) else(none)) else(none)) else(some x8)
end
def Dzy.f (k:Nat) (l0:List Int) (l1:List Int):Option (Int):=if 0≤(wrap64 ((l0.length:Int) - 1)) then(if(wrap64 ((l0.length:Int) - 1)) < (l0.length:Int) then(if 0≤(wrap64 ((wrap64 ((l0.length:Int) - 1)) - 1)) then(if(wrap64 ((wrap64 ((l0.length:Int) - 1)) - 1)) < (l0.length:Int) then(if 0≤(wrap64 ((l1.length:Int) - 1)) then(if(wrap64 ((l1.length:Int) - 1)) < (l1.length:Int) then(if(rd l1 (wrap64 ((l1.length:Int) - 1)))=0 then(none) else(Dzy.l0 k l0 l1 (wrap64 ((l0.length:Int) - 1)) (wrap64 ((l1.length:Int) - 1)) (wrap64 (Int.tdiv (wrap64 ((wrap64 ((rd l0 (wrap64 ((l0.length:Int) - 1))) * 1000000000))+(rd l0 (wrap64 ((wrap64 ((l0.length:Int) - 1)) - 1))))) (rd l1 (wrap64 ((l1.length:Int) - 1))))) (Int.tmod (wrap64 ((wrap64 ((rd l0 (wrap64 ((l0.length:Int) - 1))) * 1000000000))+(rd l0 (wrap64 ((wrap64 ((l0.length:Int) - 1)) - 1))))) (rd l1 (wrap64 ((l1.length:Int) - 1)))))) else(none)) else(none)) else(none)) else(none)) else(none)) else(none)
theorem Dzy.mono_l:∀ k,(∀ a6 a7 a8 a9 b3 b4,LeO (Dzy.l0 k a6 a7 a8 a9 b3 b4) (Dzy.l0 (k+1) a6 a7 a8 a9 b3 b4))∧(∀ a6 a7 a8 a9 b3 b4 b5,LeO (Dzy.j1 k a6 a7 a8 a9 b3 b4 b5) (Dzy.j1 (k+1) a6 a7 a8 a9 b3 b4 b5))
 | 0=>⟨fun _ _ _ _ _ _ r h=>by simp [Dzy.l0] at h,fun _ _ _ _ _ _ _ r h=>by simp [Dzy.j1] at h⟩
 | k+1=>by
  obtain⟨ih0,ih1⟩:=Dzy.mono_l k;refine⟨?_,?_⟩
  ·intro a6 a7 a8 a9 b3 b4;unfold Dzy.l0;exact mM
  ·intro a6 a7 a8 a9 b3 b4 b5;unfold Dzy.j1;exact mM
theorem Dzy.mono:∀ a6 a7 k,LeO (Dzy.f k a6 a7) (Dzy.f (k+1) a6 a7):=by
 intro a6 a7 k;obtain⟨ih0,ih1⟩:=Dzy.mono_l k;unfold Dzy.f;exact mM
theorem Dzy.calls (k:Nat) (a6:Option Addr) (a7:Nat) (l0:List Int) (a8:Option Addr) (a9:Nat) (l1:List Int) (r:Int) (w:World) (b3:Kd.C (Kd.int .i64) w a6 l0.length l0) (b4:l0.length≤a7) (b5:Kd.C (Kd.int .i64) w a8 l1.length l1) (b6:l1.length≤a9) (h:Dzy.f k l0 l1=some r) :
  Calls Try.prog 103 #[.slice a6 l0.length a7,.slice a8 l1.length a9] w fun e w'=>e=.returned (.int .i64 r)∧Drawn0 w w':=by
 have b7:=aM b3;have b8:=aM b4;clear b3 b4;have b9:=aM b5;have d0:=aM b6;clear b5 b6;have H:(if 0≤(wrap64 ((l0.length:Int) - 1)) then(if(wrap64 ((l0.length:Int) - 1)) < (l0.length:Int) then(if 0≤(wrap64 ((wrap64 ((l0.length:Int) - 1)) - 1)) then(if(wrap64 ((wrap64 ((l0.length:Int) - 1)) - 1)) < (l0.length:Int) then(if 0≤(wrap64 ((l1.length:Int) - 1)) then(if(wrap64 ((l1.length:Int) - 1)) < (l1.length:Int) then(if(rd l1 (wrap64 ((l1.length:Int) - 1)))=0 then(none) else(Dzy.l0 k l0 l1 (wrap64 ((l0.length:Int) - 1)) (wrap64 ((l1.length:Int) - 1)) (wrap64 (Int.tdiv (wrap64 ((wrap64 ((rd l0 (wrap64 ((l0.length:Int) - 1))) * 1000000000))+(rd l0 (wrap64 ((wrap64 ((l0.length:Int) - 1)) - 1))))) (rd l1 (wrap64 ((l1.length:Int) - 1))))) (Int.tmod (wrap64 ((wrap64 ((rd l0 (wrap64 ((l0.length:Int) - 1))) * 1000000000))+(rd l0 (wrap64 ((wrap64 ((l0.length:Int) - 1)) - 1))))) (rd l1 (wrap64 ((l1.length:Int) - 1)))))) else(none)) else(none)) else(none)) else(none)) else(none)) else(none))=some r:=h
 clear h;obtain⟨d1,d3⟩:∃ j_:Int,(wrap64 ((l0.length:Int) - 1))=j_:=⟨_,rfl⟩;replace H:(if 0≤(d1) then(if(d1) < (l0.length:Int) then(if 0≤(wrap64 ((d1) - 1)) then(if(wrap64 ((d1) - 1)) < (l0.length:Int) then(if 0≤(wrap64 ((l1.length:Int) - 1)) then(if(wrap64 ((l1.length:Int) - 1)) < (l1.length:Int) then(if(rd l1 (wrap64 ((l1.length:Int) - 1)))=0 then(none) else(Dzy.l0 k l0 l1 d1 (wrap64 ((l1.length:Int) - 1)) (wrap64 (Int.tdiv (wrap64 ((wrap64 ((rd l0 (d1)) * 1000000000))+(rd l0 (wrap64 ((d1) - 1))))) (rd l1 (wrap64 ((l1.length:Int) - 1))))) (Int.tmod (wrap64 ((wrap64 ((rd l0 (d1)) * 1000000000))+(rd l0 (wrap64 ((d1) - 1))))) (rd l1 (wrap64 ((l1.length:Int) - 1)))))) else(none)) else(none)) else(none)) else(none)) else(none)) else(none))=some r:=by first|(rw[d3] at H;exact H)|(simp only[d3] at H ⊢;exact H)
 have d4:(IntKind.i64.wrap ((l0.length:Int) - 1))=d1:=(i64_w _).trans d3;by_cases c4:0≤(d1)
 ·rw[if_pos c4] at H;have d5:=dE c4;clear c4;obtain⟨d6,H⟩:=iN H;obtain⟨d7,d8⟩:∃ j_:Int,(wrap64 ((d1) - 1))=j_:=⟨_,rfl⟩;replace H:(if 0≤(d7) then(if(d7) < (l0.length:Int) then(if 0≤(wrap64 ((l1.length:Int) - 1)) then(if(wrap64 ((l1.length:Int) - 1)) < (l1.length:Int) then(if(rd l1 (wrap64 ((l1.length:Int) - 1)))=0 then(none) else(Dzy.l0 k l0 l1 d1 (wrap64 ((l1.length:Int) - 1)) (wrap64 (Int.tdiv (wrap64 ((wrap64 ((rd l0 (d1)) * 1000000000))+(rd l0 (d7)))) (rd l1 (wrap64 ((l1.length:Int) - 1))))) (Int.tmod (wrap64 ((wrap64 ((rd l0 (d1)) * 1000000000))+(rd l0 (d7)))) (rd l1 (wrap64 ((l1.length:Int) - 1)))))) else(none)) else(none)) else(none)) else(none))=some r:=by first|(rw[d8] at H;exact H)|(simp only[d8] at H ⊢;exact H)
  have d9:(IntKind.i64.wrap ((d1) - 1))=d7:=(i64_w _).trans d8;obtain⟨e6,H⟩:=iN H;obtain⟨e7,H⟩:=iN H;obtain⟨e8,f3⟩:∃ j_:Int,(wrap64 ((l1.length:Int) - 1))=j_:=⟨_,rfl⟩;replace H:(if 0≤(e8) then(if(e8) < (l1.length:Int) then(if(rd l1 (e8))=0 then(none) else(Dzy.l0 k l0 l1 d1 e8 (wrap64 (Int.tdiv (wrap64 ((wrap64 ((rd l0 (d1)) * 1000000000))+(rd l0 (d7)))) (rd l1 (e8)))) (Int.tmod (wrap64 ((wrap64 ((rd l0 (d1)) * 1000000000))+(rd l0 (d7)))) (rd l1 (e8))))) else(none)) else(none))=some r:=by first|(rw[f3] at H;exact H)|(simp only[f3] at H ⊢;exact H)
  have f4:(IntKind.i64.wrap ((l1.length:Int) - 1))=e8:=(i64_w _).trans f3;obtain⟨f5,H⟩:=iN H;obtain⟨f6,H⟩:=iN H;obtain⟨f7,H⟩:=iM H;have f8:((rd l1 (e8)) == 0)=false:=beq_eq_false_iff_ne.mpr f7;have f9:((rd l1 (e8)) != 0)=true:=bne_iff_ne.mpr f7;have H':=aM H;clear H;obtain⟨g6,g7,g8,g9,j5⟩:=aI b7.out (d1);cases g7;obtain⟨j9,l5,l6,l7,l8⟩:=aI b7.out (d7);obtain rfl:g6=j9:=(by injection l5);obtain⟨l9,m4,m5,m6,m7⟩:=aI b9.out (e8);cases m4;obtain⟨m8,m9,n0,n1,n2⟩:=aI b9.out (e8);obtain rfl:l9=m8:=(by injection m9);go_enter Try.func103,Try.ntmps103
  go_wp2
  repeat(go_quiet (fail);try go_wp2)
  go_loopg [8,9] k (fun kq n3 n4 w'=>∃ (n5:Int) (n6:Int),n3=.int .i64 n5∧n4=.int .i64 n6∧Aside0 (Dzy.l0 kq l0 l1 d1 e8 n5 n6=some r)∧Aside0 (kq≤k)∧Drawn0 w w')
  case atStart=>exact⟨(wrap64 (Int.tdiv (wrap64 ((wrap64 ((rd l0 (d1)) * 1000000000))+(rd l0 (d7)))) (rd l1 (e8)))),(Int.tmod (wrap64 ((wrap64 ((rd l0 (d1)) * 1000000000))+(rd l0 (d7)))) (rd l1 (e8))),(by first|rfl|(simp;done)|(simp only[← d3,← d8,← f3] <;> (first|rfl|simp))|(simp [*];done)),(by first|rfl|(simp;done)|(simp only[← d3,← d8,← f3] <;> (first|rfl|simp))|(simp [*];done)),H',⟨Nat.le_refl _⟩,dR⟩
  case round =>
   clear H';try clear a9
   obtain⟨n5,n6,rfl,rfl,HA,n7,⟨n8,rfl⟩⟩:=hrel;cases gk with
   | zero=>exact absurd HA.out (by simp [Dzy.l0])
   | succ k1 =>
    have H:=HA.out;clear HA;simp only[Dzy.l0] at H;have n9:=aM H;clear H;go_upto_region 4 with (fail)
    repeat(go_quiet (fail);go_upto_region 4 with (fail))
    go_cut [58] (fun o0 wc=>∃ (kq:Nat) (o1:Bool),o0=.bool o1∧Aside0 (Dzy.j1 kq l0 l1 d1 e8 n5 n6 o1=some r)∧Aside0 (kq≤k1)∧Drawn0 w wc)
    case first =>
     have H:=n9.out;clear n9;by_cases o2:n5≥1000000000
     ·rw[if_pos o2] at H;have o3:decide (1000000000≤n5)=true:=dE o2;clear o2;(first|rw[o3]|(simp only[i64_w,i32_w];rw[o3])|skip)
      have H':=aM H;clear H;go_wp2
      repeat(go_quiet (fail);try go_wp2)
      go_meet
      case rel=>exact⟨_,(true),sD,H',⟨by have:=n7.out;first|omega|exact Nat.le_refl _⟩,dR⟩
     ·rw[if_neg o2] at H;have o3:decide (1000000000≤n5)=false:=decide_eq_false o2;clear o2;(first|rw[o3]|(simp only[i64_w,i32_w];rw[o3])|skip)
      obtain⟨o4,o5⟩:∃ j_:Int,(wrap64 (e8 - 1))=j_:=⟨_,rfl⟩;replace H:(if 0≤(o4) then(if(o4) < (l1.length:Int) then(if 0≤(wrap64 (d1 - 2)) then(if(wrap64 (d1 - 2)) < (l0.length:Int) then(Dzy.j1 k1 l0 l1 d1 e8 n5 n6 (decide ((wrap64 (n5 * (rd l1 (o4)))) > (wrap64 ((wrap64 (n6 * 1000000000))+(rd l0 (wrap64 (d1 - 2)))))))) else(none)) else(none)) else(none)) else(none))=some r:=by first|(rw[o5] at H;exact H)|(simp only[o5] at H ⊢;exact H)
      have o6:(IntKind.i64.wrap (e8 - 1))=o4:=(i64_w _).trans o5;obtain⟨o7,H⟩:=iN H;obtain⟨o8,H⟩:=iN H;obtain⟨o9,p3⟩:∃ j_:Int,(wrap64 (d1 - 2))=j_:=⟨_,rfl⟩;replace H:(if 0≤(o9) then(if(o9) < (l0.length:Int) then(Dzy.j1 k1 l0 l1 d1 e8 n5 n6 (decide ((wrap64 (n5 * (rd l1 (o4)))) > (wrap64 ((wrap64 (n6 * 1000000000))+(rd l0 (o9))))))) else(none)) else(none))=some r:=by first|(rw[p3] at H;exact H)|(simp only[p3] at H ⊢;exact H)
      have p7:(IntKind.i64.wrap (d1 - 2))=o9:=(i64_w _).trans p3;obtain⟨p9,H⟩:=iN H;obtain⟨r5,H⟩:=iN H;have H':=aM H;clear H;obtain⟨r6,r7,r8,r9,t0⟩:=aI b9.out (o4);obtain rfl:l9=r6:=(by injection r7);obtain⟨t1,t2,t3,t4,t5⟩:=aI b7.out (o9);obtain rfl:g6=t1:=(by injection t2);go_wp2
      repeat(go_quiet (fail);try go_wp2)
      go_meet
      case rel=>exact⟨_,(decide ((wrap64 (n5 * (rd l1 (o4)))) > (wrap64 ((wrap64 (n6 * 1000000000))+(rd l0 (o9)))))),(by first|rfl|(simp;done)|(simp only[← o5,← p3] <;> (first|rfl|simp))|(simp [*];done)),H',⟨by have:=n7.out;first|omega|exact Nat.le_refl _⟩,dR⟩
    case rest =>
     clear n9;try clear a9
     obtain⟨kq,o1,rfl,HA,t6,⟨mc12,rfl⟩⟩:=hcut;cases kq with
     | zero=>exact absurd HA.out (by simp [Dzy.j1])
     | succ t7 =>
      have H:=HA.out;clear HA;simp only[Dzy.j1] at H;by_cases t8:o1=true
      ·subst t8;rw[if_pos rfl] at H;obtain⟨t9,H⟩:=iN H;obtain⟨z3,H⟩:=iN H;by_cases z4:(wrap64 (n6+(rd l1 e8)))≥1000000000
       ·rw[if_pos z4] at H;have z5:decide (1000000000≤(wrap64 (n6+(rd l1 e8))))=true:=dE z4;have z6:decide (1000000000≤(IntKind.i64.wrap (n6+(rd l1 e8))))=true:=by have h_:=z5;first|exact h_|(simp only[i64_w];exact h_)
        clear z4;obtain rfl:=Option.some.inj H;obtain⟨z7,z8,z9,B0,B1⟩:=aI b9.out e8;obtain rfl:l9=z7:=(by injection z8);go_wp2
        repeat(go_quiet (fail);try go_wp2)
        go_ret
        exact⟨by first|rfl|(simp;done)|(simp only[← d3,← d8,← f3] <;> (first|rfl|simp))|(simp [*];done),dR⟩
       ·rw[if_neg z4] at H;have z5:decide (1000000000≤(wrap64 (n6+(rd l1 e8))))=false:=decide_eq_false z4;have z6:decide (1000000000≤(IntKind.i64.wrap (n6+(rd l1 e8))))=false:=by have h_:=z5;first|exact h_|(simp only[i64_w];exact h_)
        clear z4;have H':=aM H;clear H;obtain⟨z7,z8,z9,B0,B1⟩:=aI b9.out e8;obtain rfl:l9=z7:=(by injection z8);go_wp2
        repeat(go_quiet (fail);try go_wp2)
        go_roundg t7
        case measure=>have:=n7.out;have:=t6.out;omega
        case rel=>exact⟨(wrap64 (n5 - 1)),(wrap64 (n6+(rd l1 e8))),sD,(by first|rfl|(simp;done)|(simp only[← f3] <;> (first|rfl|simp))|(simp [*];done)),H',⟨by have:=n7.out;have:=t6.out;omega⟩,dR⟩
      ·obtain rfl:=bN t8;rw[if_neg nF] at H
       obtain rfl:=Option.some.inj H;go_wp2
       repeat(go_quiet (fail);try go_wp2)
       go_ret
       exact⟨by first|rfl|(simp;done)|(simp only[← d3,← d8,← f3] <;> (first|rfl|simp))|(simp [*];done),dR⟩
 ·rw[if_neg c4] at H;exact absurd H (by simp)

end Go.Proofs.Ytnklckihalhlmaa.Print
