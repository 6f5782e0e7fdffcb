import Derived.Test.YtnklckihalhlmaaPrint0
import Derived.Test.YtnklckihalhlmaaPrint13
namespace Go.Proofs.Ytnklckihalhlmaa.Print
open Go.RowKit Go.Proofs.YtnklckihalhlmaaW.PrintWords Go.Proofs.YtnklckihalhlmaaW.PrintLast Go.Proofs.YtnklckihalhlmaaW.PrintMore
attribute [local go_sem] max2_int min2_int max_two min_two max_three min_three max_four min_four
set_option linter.unusedVariables false
set_option maxRecDepth 100000
set_option maxHeartbeats 8000000
set_option linter.unusedSimpArgs false

def Dzk.l0:Nat→List Int→Int→List Int→Int→Int→Option (List Int × List Int)
 | 0,_,_,_,_,_=>none
 | k+1,x0,x1,x6,x7,x8=>if x8≥0 then(if 0≤x8 then(if x8 < (x0.length:Int) then(if x1=0 then(none) else(if x8 < (x6.length:Int) then(Dzk.l0 k x0 x1 (x6.set (x8:Int).toNat (wrap64 (Int.tdiv (wrap64 ((wrap64 (x7 * 1000000000))+(rd x0 x8))) x1))) (Int.tmod (wrap64 ((wrap64 (x7 * 1000000000))+(rd x0 x8))) x1) (wrap64 (x8 - 1))) else(none))) else(none)) else(none)) else((Czj.f k x6).bind fun t234=>((Czj.f k (([x7]:List Int))).bind fun t240=>(some (t234,t240))))
def Dzk.f (k:Nat) (l0:List Int) (a1:Int):Option (List Int × List Int):=if 0≤(l0.length:Int) then(if((l0.length:Int):Int).toNat≤35184372088832 then(Dzk.l0 k l0 a1 (List.replicate ((l0.length:Int):Int).toNat 0) 0 (wrap64 ((l0.length:Int) - 1))) else(none)) else(none)
theorem Dzk.mono_l:∀ k,(∀ y0 y1 y2 y3 y4,LeO (Dzk.l0 k y0 y1 y2 y3 y4) (Dzk.l0 (k+1) y0 y1 y2 y3 y4))
 | 0=>fun _ _ _ _ _ r h=>by simp [Dzk.l0] at h
 | k+1=>by
  have ih0:=Dzk.mono_l k
  ·intro y0 y1 y2 y3 y4;unfold Dzk.l0;have i0:=@Czj.mono;exact mM
theorem Dzk.mono:∀ a0 a1 k,LeO (Dzk.f k a0 a1) (Dzk.f (k+1) a0 a1):=by
 intro a0 a1 k;have ih0:=Dzk.mono_l k;unfold Dzk.f;have i0:=@Czj.mono;exact mM
def Dzk.T7:Bool × List (List Nat × List Nat):=(true,[([],[]),([],[]),([],[]),([],[]),([2,3],[2,3]),([],[]),([],[]),([5,6],[5,6]),([0,1,0,1,2,3,4],[0,1]),([8,4,0,1,2,3,4],[4,8]),([7,9,0,1,2,3,4,5,6,7,8,9],[7])])
def Dzk.B7:List Nat:=[0,0,0,0,12,0,0,96,31,287,1023]
theorem Dzk.tab7:rtab .any (opsOf Try.f99 7)=Dzk.T7:=by kernel_rfl
theorem Dzk.bits7:waitsOk Dzk.T7.2 Dzk.B7=true:=by kernel_rfl
theorem Dzk.calls (k:Nat) (A0:Option Addr) (c0:Nat) (l0:List Int) (a1:Int) (r1:List Int) (r2:List Int) (w:World) (hr0:Kd.C (Kd.int .i64) w A0 l0.length l0) (hc0:l0.length≤c0) (h:Dzk.f k l0 a1=some (r1,r2)) :
  Calls Try.prog 99 #[.slice A0 l0.length c0,.int .i64 a1] w fun e w'=>∃ v0_ v1_:Value,e=.returned (.tuple #[v0_,v1_])∧Kd.R (Kd.int .i64) 3 w' w.heap.size (fun k_=>some k_≠(v1_:Value).ownBlock) v0_ r1∧Kd.R (Kd.int .i64) 3 w' w.heap.size (fun k_=>some k_≠(v0_:Value).ownBlock) v1_ r2∧Below w.heap.size w w':=by
 have HR0:=aM hr0;have HC0:=aM hc0;clear hr0 hc0;have HB:=aM (Below.refl w.heap.size w);have H:(if 0≤(l0.length:Int) then(if((l0.length:Int):Int).toNat≤35184372088832 then(Dzk.l0 k l0 a1 (List.replicate ((l0.length:Int):Int).toNat 0) 0 (wrap64 ((l0.length:Int) - 1))) else(none)) else(none))=some (r1,r2):=h
 clear h;by_cases c3:0≤(l0.length:Int)
 ·rw[if_pos c3] at H;have c3b0:=eq_true c3;have c3b1:=dE c3;clear c3;obtain⟨c4,H⟩:=iO H;have c4b0:=eq_true c4;have c4b1:decide (((l0.length:Int):Int).toNat≤35184372088832)=true:=dE c4;clear c4;obtain⟨y229,hy229⟩:∃ y_:List Int,y_=(List.replicate ((l0.length:Int):Int).toNat 0):=⟨_,rfl⟩;replace H:(Dzk.l0 k l0 a1 y229 0 (wrap64 ((l0.length:Int) - 1)))=some (r1,r2):=yE hy229 H
  have Ny229:=aM hy229;clear hy229;have H':=aM H;clear H;go_enter Try.func99,Try.ntmps99
  go_wp2_with (first|((with_reducible refine gate_dst (N:=12) rfl ?_);refine Kd.R_make (Kd.int .i64) _ 3 rfl (N:=12) rfl 34 _ _ rfl (l0.length:Int) rfl rfl Try.underlying34 (.int .i64 0) 8 info3 rfl (by decide) (by omega) 0 (ok:=fun _=>True) (okp:=fun _=>True) rfl (fun _ hk=>hk) trivial (oE aS) (Nat.le_trans (Nat.mul_le_mul_right _ (oE aS:(l0.length:Int).toNat≤35184372088832)) (by omega)) (Below.refl _ _) (Nat.le_refl _) ?_;intro v230 w5 ho6 hb hg_ hnew_;clear hg_ hnew_;replace ho6:=rY Ny229 ho6;have HO231:=rL ho6;replace HB:=bB hb;clear hb ho6))
  go_loopg [7,8] k (fun kq v7 v8 w'=>∃ (x6_1:List Int) (x7_1:Int) (x8_1:Int),v7=.int .i64 x7_1∧v8=.int .i64 x8_1∧Aside0 (Dzk.l0 kq l0 a1 x6_1 x7_1 x8_1=some (r1,r2))∧Aside0 (kq≤k)∧Aside0 (Kd.R (Kd.int .i64) 3 w' w.heap.size (fun _=>True) v230 x6_1)∧Aside0 (Below w.heap.size w w'))
  case atStart=>exact⟨(y229),(0),(wrap64 ((l0.length:Int) - 1)),sD,sD,H',⟨Nat.le_refl _⟩,⟨rX HO231.out⟩,⟨pB⟩⟩
  case round =>
   clear H';try clear p2
   try clear c3
   try clear c3b0
   try clear c3b1
   try clear c4
   try clear c4b0
   try clear c4b1
   try clear p6
   obtain⟨x6_1,x7_1,x8_1,rfl,rfl,HA,HK1,HO_6,HB⟩:=hrel;cases gk with
   | zero=>exact absurd HA.out (by simp [Dzk.l0])
   | succ k1 =>
    have H:=HA.out;clear HA;simp only[Dzk.l0] at H;by_cases c7:x8_1≥0
    ·rw[if_pos c7] at H;have c7b0:decide (0≤x8_1)=true:=dE c7;clear c7;obtain⟨c8b0,H⟩:=iN H;obtain⟨c9b0,H⟩:=iN H;obtain⟨c10,H⟩:=iM H;have c10b0:(a1 == 0)=false:=beq_eq_false_iff_ne.mpr c10;have c10b1:(a1 != 0)=true:=bne_iff_ne.mpr c10;obtain⟨c11b0,H⟩:=iN H;obtain⟨y233,hy233⟩:∃ y_:List Int,y_=(x6_1.set (x8_1:Int).toNat (wrap64 (Int.tdiv (wrap64 ((wrap64 (x7_1 * 1000000000))+(rd l0 x8_1))) a1))):=⟨_,rfl⟩;replace H:(Dzk.l0 k1 l0 a1 y233 (Int.tmod (wrap64 ((wrap64 (x7_1 * 1000000000))+(rd l0 x8_1))) a1) (wrap64 (x8_1 - 1)))=some (r1,r2):=yE hy233 H
     have Ny233:=aM hy233;clear hy233;have H':=aM H;clear H;obtain⟨ad232,e232,hx232_0,p232,q232⟩:=aI HR0.out x8_1;cases e232
     replace hx232_0:=hB HB hx232_0;try go_wp2
     have n0_:=aM (Kd.R_drew HO_6.out);have n1_:=aM (below_drew1 HB.out);clear HO_6;clear HB;have HO_6:=n0_;have HB:=n1_;clear n0_ n1_;have p12:0≤(x8_1:Int):=oE aS
     have q12:(x8_1:Int) < ((x6_1.length:Int):Int):=oE aS
     obtain⟨go12,co12,eo12,gb12,gl12,cl12,HG12⟩:=Kd.R_form HO_6.out (by omega)
     (first|cases eo12|(injection eo12 with ea_ en_ ec_;(first|subst ea_|(injection ea_ with ea_;subst ea_));subst ec_;clear en_))
     have GB12:=aM gb12;have GG12:=aM HG12;clear gb12 gl12 HG12;obtain⟨hx12_0,hf12_0⟩:=Kd.R_celln 0 HO_6.out (x8_1:Int) p12 q12;replace p12:=eq_true p12;replace q12:=eq_true q12;have HP14:=Kd.R_putn HO_6.out (x8_1:Int) (wrap64 (Int.tdiv (wrap64 ((wrap64 (x7_1 * 1000000000))+(rd l0 x8_1))) a1));rw[← Ny233.out] at HP14;have HQ14:=aM HP14;clear HP14;refine start_ (n:=11) (S:=fun w'=>True) (ds:=[9]) (bA 11 0) (by kernel_rfl) rfl rfl trivial (fun hHeld=>?_);refine with_tabW Dzk.tab7 Dzk.bits7 (fun HT_ HW_=>?_)
     generalize wr.drew=w13 at HO_6 HB GG12 HQ14 hf12_0 hx12_0 hHeld ⊢;refine pS 0 27 HT_ ?_;refine pS 1 28 HT_ ?_;refine pS 2 29 HT_ ?_;refine pS 3 30 HT_ ?_;refine pS 4 31 HT_ ?_;refine pS 5 32 HT_ ?_;refine pS 6 33 HT_ ?_;refine pS 7 34 HT_ ?_;refine pS 8 35 HT_ ?_;refine lU 9 none HT_ fun K hK=>?_
     refine skip_ (w1:=?_) (by rfl) rfl ?_ ?_
     rotate_left
     ·go_simp
      rfl
     refine hK.out _ _ ?_;clear hK K;refine pS 10 7 HT_ ?_;refine done_ (done_of HT_.out (by kernel_rfl)) ?_
     try go_wp2
     go_roundg k1
     case measure=>have:=HK1.out;omega
     case rel=>exact⟨(y233),(Int.tmod (wrap64 ((wrap64 (x7_1 * 1000000000))+(rd l0 x8_1))) a1),(wrap64 (x8_1 - 1)),sD,sD,H',⟨by have:=HK1.out;omega⟩,⟨rX HQ14.out⟩,⟨pB⟩⟩
    ·rw[if_neg c7] at H;have c7b0:decide (0≤x8_1)=false:=decide_eq_false c7;clear c7;obtain⟨t234,A15,H⟩:=bT H;(try dsimp only at H);obtain⟨y237,hy237⟩:∃ y_:List Int,y_=(([x7_1]:List Int)):=⟨_,rfl⟩;replace H:((Czj.f k1 y237).bind fun t240=>(some (t234,t240)))=some (r1,r2):=yE hy237 H
     have Ny237:=aM hy237;clear hy237;replace H:=bS H;obtain⟨t240,A160,H⟩:=H;replace H:(some (t234,t240))=some (r1,r2):=H;have A16:=aM A160;clear A160;obtain⟨rfl,rfl⟩:=q2 H;obtain⟨Ao17,co17,rfl⟩:=Kd.R_slice HO_6.out;go_wp2_with (first|((with_reducible refine gc 92 rfl ?_);refine gC 92 (some 37) Try.func92 #[.slice Ao17 x6_1.length co17] ?_;(with_reducible refine(Czj.calls k1 (fun k_=>some k_=(.slice Ao17 x6_1.length co17:Value).ownBlock) (.slice Ao17 x6_1.length co17) x6_1 t234 w _ ?side1 ?side2 A15.out).mono ?_);(case side1=>exact pB);(case side2=>exact Kd.R_tight rfl HO_6.out);rintro e w18 ⟨v235,rfl,ho0,hb,hkp⟩;refine⟨_,rfl,?_⟩;have HO236:=aM (Kd.R_mono (ok':=fun k_=>True) ho0 (fun k_ hk_=>trivial));replace HB:=aM (hb);clear HO_6;clear hb hkp ho0)|((with_reducible refine gd 39 rfl ?_);refine iL 39 [x7_1] ?_;intro v238 w19 ho20 hb;replace ho20:=rY Ny237 ho20;have HO239:=rL (rn ho20 HO236);replace HO236:=rE HO236 ho20 hb;replace HB:=bB hb;clear hb ho20;obtain⟨Ao21,co21,rfl⟩:=Kd.R_slice HO239.out)|((with_reducible refine gc 92 rfl ?_);refine gC 92 (some 40) Try.func92 #[.slice Ao21 y237.length co21] ?_;(with_reducible refine(Czj.calls k1 (fun k_=>some k_=(.slice Ao21 y237.length co21:Value).ownBlock) (.slice Ao21 y237.length co21) y237 t240 w _ ?side1 ?side2 A16.out).mono ?_);(case side1=>exact pB);(case side2=>exact Kd.R_tight rfl HO239.out);rintro e w22 ⟨v241,rfl,ho0,hb,hkp⟩;refine⟨_,rfl,?_⟩;have HO242:=aM (Kd.R_mono (ok':=fun k_=>some k_≠(v235:Value).ownBlock) ho0 (fun k_ hk_=>Or.elim hk_ (fun hs_=>fun e_=>(((HO236.out).1 k_ e_.symm).2) hs_) (fun hn_=>(Kd.fresh' (Kd.R_lt (rX HO236.out)) k_ hn_))));replace HO236:=aM (Kd.R_mono (ok':=fun k_=>some k_≠(v241:Value).ownBlock) (Kd.R_keptB (HO236.out) hkp (fun k_ hk_ hs_=>(hk_.2) hs_)) (fun k_ hk_=>fun e_=>Or.elim (ho0.1 k_ e_.symm) (fun hs_=>hk_.2.1 hs_) (fun hn_=>Nat.not_le.2 hk_.2.2 hn_)));replace HB:=aM (hb);clear HO239;clear hb hkp ho0))
     go_ret2
     exact⟨_,_,eW,rX HO236.out,rX HO242.out,pB⟩
 ·rw[if_neg c3] at H;exact absurd H (by simp)


def Dzf.l0:Nat→List Int→Int→List Int→Int→Int→Int→Option (List Int)
 | 0,_,_,_,_,_,_=>none
 | k+1,x0,x1,x5,x6,x14,x15=>if x15 < x14 then(if 0≤x15 then(if x15 < (x0.length:Int) then(if x15 < (x5.length:Int) then(Dzf.l0 k x0 x1 (x5.set (x15:Int).toNat (Int.tmod (wrap64 ((wrap64 ((rd x0 x15) * x1))+x6)) 1000000000)) (wrap64 (Int.tdiv (wrap64 ((wrap64 ((rd x0 x15) * x1))+x6)) 1000000000)) x14 (wrap64 (x15+1))) else(none)) else(none)) else(none)) else(if 0≤(x0.length:Int) then(if(x0.length:Int) < (x5.length:Int) then(some (x5.set ((x0.length:Int):Int).toNat x6)) else(none)) else(none))
def Dzf.f (k:Nat) (l0:List Int) (a1:Int):Option (List Int):=if 0≤(wrap64 ((l0.length:Int)+1)) then(if(wrap64 ((l0.length:Int)+1):Int).toNat≤35184372088832 then(Dzf.l0 k l0 a1 (List.replicate (wrap64 ((l0.length:Int)+1):Int).toNat 0) 0 (l0.length:Int) 0) else(none)) else(none)
theorem Dzf.mono_l:∀ k,(∀ y0 y1 y2 y3 y4 y5,LeO (Dzf.l0 k y0 y1 y2 y3 y4 y5) (Dzf.l0 (k+1) y0 y1 y2 y3 y4 y5))
 | 0=>fun _ _ _ _ _ _ r h=>by simp [Dzf.l0] at h
 | k+1=>by
  have ih0:=Dzf.mono_l k
  ·intro y0 y1 y2 y3 y4 y5;unfold Dzf.l0;exact mM
theorem Dzf.mono:∀ a0 a1 k,LeO (Dzf.f k a0 a1) (Dzf.f (k+1) a0 a1):=by
 intro a0 a1 k;have ih0:=Dzf.mono_l k;unfold Dzf.f;exact mM
theorem Dzf.calls (k:Nat) (A0:Option Addr) (c0:Nat) (l0:List Int) (a1:Int) (r:List Int) (w:World) (hr0:Kd.C (Kd.int .i64) w A0 l0.length l0) (hc0:l0.length≤c0) (h:Dzf.f k l0 a1=some r) :
  Calls Try.prog 102 #[.slice A0 l0.length c0,.int .i64 a1] w fun e w'=>∃ v0_:Value,e=.returned (v0_)∧Kd.R (Kd.int .i64) 3 w' w.heap.size (fun _=>True) v0_ r∧Below w.heap.size w w':=by
 have HR0:=aM hr0;have HC0:=aM hc0;clear hr0 hc0;have HB:=aM (Below.refl w.heap.size w);have H:(if 0≤(wrap64 ((l0.length:Int)+1)) then(if(wrap64 ((l0.length:Int)+1):Int).toNat≤35184372088832 then(Dzf.l0 k l0 a1 (List.replicate (wrap64 ((l0.length:Int)+1):Int).toNat 0) 0 (l0.length:Int) 0) else(none)) else(none))=some r:=h
 clear h;obtain⟨ji3,hji3⟩:∃ j_:Int,(wrap64 ((l0.length:Int)+1))=j_:=⟨_,rfl⟩;replace H:(if 0≤(ji3) then(if(ji3:Int).toNat≤35184372088832 then(Dzf.l0 k l0 a1 (List.replicate (ji3:Int).toNat 0) 0 (l0.length:Int) 0) else(none)) else(none))=some r:=by first|(rw[hji3] at H;exact H)|(simp only[hji3] at H ⊢;exact H)
 have hji3w:(IntKind.i64.wrap ((l0.length:Int)+1))=ji3:=(i64_w _).trans hji3;by_cases c4:0≤(ji3)
 ·rw[if_pos c4] at H;have c4b0:=eq_true c4;have c4b1:=dE c4;clear c4;obtain⟨c5,H⟩:=iO H;have c5b0:=eq_true c5;have c5b1:decide ((ji3:Int).toNat≤35184372088832)=true:=dE c5;clear c5;obtain⟨y243,hy243⟩:∃ y_:List Int,y_=(List.replicate (ji3:Int).toNat 0):=⟨_,rfl⟩;replace H:(Dzf.l0 k l0 a1 y243 0 (l0.length:Int) 0)=some r:=yE hy243 H
  have Ny243:=aM hy243;clear hy243;have H':=aM H;clear H;go_enter Try.func102,Try.ntmps102
  go_wp2_with (first|((with_reducible refine gate_dst (N:=12) rfl ?_);refine Kd.R_make (Kd.int .i64) _ 3 rfl (N:=12) rfl 34 _ _ rfl ji3 rfl rfl Try.underlying34 (.int .i64 0) 8 info3 rfl (by decide) (by omega) 0 (ok:=fun _=>True) (okp:=fun _=>True) rfl (fun _ hk=>hk) trivial (oE aS) (Nat.le_trans (Nat.mul_le_mul_right _ (oE aS:ji3.toNat≤35184372088832)) (by omega)) (Below.refl _ _) (Nat.le_refl _) ?_;intro v244 w6 ho7 hb hg_ hnew_;clear hg_ hnew_;replace ho7:=rY Ny243 ho7;have HO245:=rL ho7;replace HB:=bB hb;clear hb ho7))
  go_loopg [6,15] k (fun kq v6 v15 w'=>∃ (x5_1:List Int) (x6_1:Int) (x15_1:Int),v6=.int .i64 x6_1∧v15=.int .i64 x15_1∧Aside0 (Dzf.l0 kq l0 a1 x5_1 x6_1 (l0.length:Int) x15_1=some r)∧Aside0 (kq≤k)∧Aside0 (Kd.R (Kd.int .i64) 3 w' w.heap.size (fun _=>True) v244 x5_1)∧Aside0 (Below w.heap.size w w'))
  case atStart=>exact⟨(y243),(0),(0),sD,sD,H',⟨Nat.le_refl _⟩,⟨rX HO245.out⟩,⟨pB⟩⟩
  case round =>
   clear H';try clear c1
   try clear p2
   try clear c4
   try clear c4b0
   try clear c4b1
   try clear c5
   try clear c5b0
   try clear c5b1
   try clear p6
   obtain⟨x5_1,x6_1,x15_1,rfl,rfl,HA,HK1,HO_5,HB⟩:=hrel;cases gk with
   | zero=>exact absurd HA.out (by simp [Dzf.l0])
   | succ k1 =>
    have H:=HA.out;clear HA;simp only[Dzf.l0] at H;by_cases c8:x15_1 < (l0.length:Int)
    ·rw[if_pos c8] at H;have c8b0:=dE c8;clear c8;obtain⟨c9b0,H⟩:=iN H;obtain⟨c10b0,H⟩:=iN H;obtain⟨c11b0,H⟩:=iN H;obtain⟨y247,hy247⟩:∃ y_:List Int,y_=(x5_1.set (x15_1:Int).toNat (Int.tmod (wrap64 ((wrap64 ((rd l0 x15_1) * a1))+x6_1)) 1000000000)):=⟨_,rfl⟩;replace H:(Dzf.l0 k1 l0 a1 y247 (wrap64 (Int.tdiv (wrap64 ((wrap64 ((rd l0 x15_1) * a1))+x6_1)) 1000000000)) (l0.length:Int) (wrap64 (x15_1+1)))=some r:=yE hy247 H
     have Ny247:=aM hy247;clear hy247;have H':=aM H;clear H;obtain⟨ad246,e246,hx246_0,p246,q246⟩:=aI HR0.out x15_1;cases e246
     replace hx246_0:=hB HB hx246_0;have p12:0≤(x15_1:Int):=oE aS
     have q12:(x15_1:Int) < ((x5_1.length:Int):Int):=oE aS
     obtain⟨go12,co12,eo12,gb12,gl12,cl12,HG12⟩:=Kd.R_form HO_5.out (by omega)
     (first|cases eo12|(injection eo12 with ea_ en_ ec_;(first|subst ea_|(injection ea_ with ea_;subst ea_));subst ec_;clear en_))
     have GB12:=aM gb12;have GG12:=aM HG12;clear gb12 gl12 HG12;obtain⟨hx12_0,hf12_0⟩:=Kd.R_celln 0 HO_5.out (x15_1:Int) p12 q12;replace p12:=eq_true p12;replace q12:=eq_true q12;have HP13:=Kd.R_putg HO_5.out (x15_1:Int) (Int.tmod (wrap64 ((wrap64 ((rd l0 x15_1) * a1))+x6_1)) 1000000000);go_wp2_with (first|((with_reducible refine gate_store (t:=3) (p:=32) rfl ?_);refine store_event (t:=3) (p:=32) (v:=?vo_w14) (w1:=(wr.setCell ⟨go12,(x15_1:Int).toNat,none⟩ (.int .i64 (Int.tmod (wrap64 ((wrap64 ((rd l0 x15_1) * a1))+x6_1)) 1000000000)))) ?hg ?ho ?hn ?hr ?_;(case ho=>rfl);(case hg=>rfl);(case hn=>rfl);(case hr=>first|(go_simp;done)|(go_simp;rfl));intro w14 hw;have hg:wr.grownBy w14 (some go12):=(by rw[hw];exact HP13.2);have hp_:Kd.R (Kd.int .i64) 3 w14 w.heap.size (fun _=>True) (.slice (some ⟨go12,0,none⟩) x5_1.length co12) y247:=(by rw[hw,Ny247.out];exact HP13.1);clear HP13;replace HO_5:=aM (hp_);replace HB:=aM ((by rw[hw];exact below_set (HB.out) GB12.out:Below w.heap.size w w14));clear hg hw hp_))
     go_roundg k1
     case measure=>have:=HK1.out;omega
     case rel=>exact⟨(y247),(wrap64 (Int.tdiv (wrap64 ((wrap64 ((rd l0 x15_1) * a1))+x6_1)) 1000000000)),(wrap64 (x15_1+1)),sD,sD,H',⟨by have:=HK1.out;omega⟩,⟨rX HO_5.out⟩,⟨pB⟩⟩
    ·rw[if_neg c8] at H;have c8b0:decide (x15_1 < (l0.length:Int))=false:=decide_eq_false c8;clear c8;obtain⟨c15,H⟩:=iO H;have c15b0:decide (0≤(l0.length:Int))=true:=dE c15;have c15b1:decide (0≤l0.length)=true:=dE (by omega)
     clear c15;obtain⟨c16,H⟩:=iO H;have c16b0:decide ((l0.length:Int) < (x5_1.length:Int))=true:=dE c16;have c16b1:decide (l0.length < x5_1.length)=true:=dE (Int.ofNat_lt.mp c16);clear c16;obtain⟨y248,hy248⟩:∃ y_:List Int,y_=(x5_1.set ((l0.length:Int):Int).toNat x6_1):=⟨_,rfl⟩;replace H:(some y248)=some r:=yE hy248 H
     have Ny248:=aM hy248;clear hy248;obtain rfl:=Option.some.inj H;have p17:0≤((l0.length:Int):Int):=oE aS
     have q17:((l0.length:Int):Int) < ((x5_1.length:Int):Int):=oE aS
     obtain⟨go17,co17,eo17,gb17,gl17,cl17,HG17⟩:=Kd.R_form HO_5.out (by omega)
     (first|cases eo17|(injection eo17 with ea_ en_ ec_;(first|subst ea_|(injection ea_ with ea_;subst ea_));subst ec_;clear en_))
     have GB17:=aM gb17;have GG17:=aM HG17;clear gb17 gl17 HG17;obtain⟨hx17_0,hf17_0⟩:=Kd.R_celln 0 HO_5.out ((l0.length:Int):Int) p17 q17;(try simp only[Int.toNat_natCast] at hx17_0)
     (try simp only[Int.toNat_natCast] at hf17_0)
     replace p17:=eq_true p17;replace q17:=eq_true q17;have HP18:=Kd.R_putg HO_5.out ((l0.length:Int):Int) x6_1;go_wp2_with (first|((with_reducible refine gate_store (t:=3) (p:=38) rfl ?_);refine store_event (t:=3) (p:=38) (v:=?vo_w19) (w1:=(wr.setCell ⟨go17,((l0.length:Int):Int).toNat,none⟩ (.int .i64 x6_1))) ?hg ?ho ?hn ?hr ?_;(case ho=>rfl);(case hg=>rfl);(case hn=>rfl);(case hr=>first|(go_simp;done)|(go_simp;rfl));intro w19 hw;have hg:wr.grownBy w19 (some go17):=(by rw[hw];exact HP18.2);have hp_:Kd.R (Kd.int .i64) 3 w19 w.heap.size (fun _=>True) (.slice (some ⟨go17,0,none⟩) x5_1.length co17) y248:=(by rw[hw,Ny248.out];exact HP18.1);clear HP18;replace HO_5:=aM (hp_);replace HB:=aM ((by rw[hw];exact below_set (HB.out) GB17.out:Below w.heap.size w w19));clear hg hw hp_))
     go_ret
     exact⟨_,by first|rfl|(simp [errW_none,errW_some] <;> rfl)|(simp only[← hji3];first|rfl|(simp [errW_none,errW_some] <;> rfl))|(simp [*,errW_none,errW_some] <;> rfl),rX HO_5.out,pB⟩
 ·rw[if_neg c4] at H;exact absurd H (by simp)

end Go.Proofs.Ytnklckihalhlmaa.Print
