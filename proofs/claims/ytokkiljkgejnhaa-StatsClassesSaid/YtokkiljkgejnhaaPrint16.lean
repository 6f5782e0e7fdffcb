import Derived.Test.YtokkiljkgejnhaaPrint0
import Derived.Test.YtokkiljkgejnhaaPrint15
import Derived.Test.YtokkiljkgejnhaaPrint14
namespace Go.Proofs.Ytokkiljkgejnhaa.Print
open Go.RowKit Go.Proofs.YtokkiljkgejnhaaW.PrintWords Go.Proofs.YtokkiljkgejnhaaW.PrintLast Go.Proofs.YtokkiljkgejnhaaW.PrintMore
attribute [local go_sem] max2_int min2_int max_two min_two max_three min_three max_four min_four
set_option linter.unusedVariables false
set_option maxRecDepth 100000
set_option maxHeartbeats 8000000
set_option linter.unusedSimpArgs false

def Czj.l0:Nat→List Int→Int→List Int→Int→Int→Option (List Int × List Int)
 | 0,_,_,_,_,_=>none
 | k+1,x0,x1,x6,x7,x8=>if x8≥0 then(if 0≤x8 then(if x8 < (x0.length:Int) then(if x1=0 then(none) else(if x8 < (x6.length:Int) then(Czj.l0 k x0 x1 (x6.set (x8:Int).toNat (wrap64 (Int.tdiv (wrap64 ((wrap64 (x7 * 1000000000))+(rd x0 x8))) x1))) (Int.tmod (wrap64 ((wrap64 (x7 * 1000000000))+(rd x0 x8))) x1) (wrap64 (x8 - 1))) else(none))) else(none)) else(none)) else((Bzw.f k x6).bind fun t287=>((Bzw.f k (([x7]:List Int))).bind fun t293=>(some (t287,t293))))
def Czj.f (k:Nat) (l0:List Int) (a1:Int):Option (List Int × List Int):=if 0≤(l0.length:Int) then(if((l0.length:Int):Int).toNat≤35184372088832 then(Czj.l0 k l0 a1 (List.replicate ((l0.length:Int):Int).toNat 0) 0 (wrap64 ((l0.length:Int) - 1))) else(none)) else(none)
theorem Czj.mono_l:∀ k,(∀ y0 y1 y2 y3 y4,LeO (Czj.l0 k y0 y1 y2 y3 y4) (Czj.l0 (k+1) y0 y1 y2 y3 y4))
 | 0=>fun _ _ _ _ _ r h=>by simp [Czj.l0] at h
 | k+1=>by
  have ih0:=Czj.mono_l k
  ·intro y0 y1 y2 y3 y4;unfold Czj.l0;with_reducible repeat' first|exact ih0 _ _ _ _ _|exact Bzw.mono _ _|exact LeO.refl _|exact LeO.none _|refine LeO.ite ?_ ?_|refine LeO.bind ?_ (fun _=>?_)
theorem Czj.mono:∀ a0 a1 k,LeO (Czj.f k a0 a1) (Czj.f (k+1) a0 a1):=by
 intro a0 a1 k;have ih0:=Czj.mono_l k;unfold Czj.f;with_reducible repeat' first|exact ih0 _ _ _ _ _|exact Bzw.mono _ _|exact LeO.refl _|exact LeO.none _|refine LeO.ite ?_ ?_|refine LeO.bind ?_ (fun _=>?_)
def Czj.T7:Bool × List (List Nat × List Nat):=(true,[([],[]),([],[]),([],[]),([],[]),([2,3],[2,3]),([],[]),([],[]),([5,6],[5,6]),([0,1,0,1,2,3,4],[0,1]),([8,4,0,1,2,3,4],[4,8]),([7,9,0,1,2,3,4,5,6,7,8,9],[7])])
def Czj.B7:List Nat:=[0,0,0,0,12,0,0,96,31,287,1023]
theorem Czj.tab7:rtab .any (opsOf Try.f91 7)=Czj.T7:=by kernel_rfl
theorem Czj.bits7:waitsOk Czj.T7.2 Czj.B7=true:=by kernel_rfl
theorem Czj.calls (k:Nat) (A0:Option Addr) (c0:Nat) (l0:List Int) (a1:Int) (r1:List Int) (r2:List Int) (w:World) (hr0:Kd.C (Kd.int .i64) w A0 l0.length l0) (hc0:l0.length≤c0) (h:Czj.f k l0 a1=some (r1,r2)) :
  Calls Try.prog 91 #[.slice A0 l0.length c0,.int .i64 a1] w fun e w'=>∃ v0_ v1_:Value,e=.returned (.tuple #[v0_,v1_])∧Kd.R (Kd.int .i64) 3 w' w.heap.size (fun k_=>some k_≠(v1_:Value).ownBlock) v0_ r1∧Kd.R (Kd.int .i64) 3 w' w.heap.size (fun k_=>some k_≠(v0_:Value).ownBlock) v1_ r2∧Below w.heap.size w w':=by
 have HR0:=aM hr0;have HC0:=aM hc0;clear hr0 hc0;have HB:=aM (Below.refl w.heap.size w);have H:(if 0≤(l0.length:Int) then(if((l0.length:Int):Int).toNat≤35184372088832 then(Czj.l0 k l0 a1 (List.replicate ((l0.length:Int):Int).toNat 0) 0 (wrap64 ((l0.length:Int) - 1))) else(none)) else(none))=some (r1,r2):=h
 clear h;by_cases c3:0≤(l0.length:Int)
 ·rw[if_pos c3] at H;have c3b0:=eq_true c3;have c3b1:decide (0≤(l0.length:Int))=true:=dE c3;clear c3;by_cases c4:((l0.length:Int):Int).toNat≤35184372088832
  ·rw[if_pos c4] at H;have c4b0:=eq_true c4;have c4b1:decide (((l0.length:Int):Int).toNat≤35184372088832)=true:=dE c4;clear c4;obtain⟨y282,hy282⟩:∃ y_:List Int,y_=(List.replicate ((l0.length:Int):Int).toNat 0):=⟨_,rfl⟩;replace H:(Czj.l0 k l0 a1 y282 0 (wrap64 ((l0.length:Int) - 1)))=some (r1,r2):=by first|(rw[hy282];with_reducible exact H)|(have H2_:=(Option.bind_some _ _).symm.trans H;rw[hy282];with_reducible exact H2_)|(have H2_:=(Option.bind_some _ _).symm.trans H;with_reducible exact H2_)|with_reducible exact H|(rw[hy282];exact H)|exact H
   have Ny282:=aM hy282;clear hy282;have H':=aM H;clear H;go_enter Try.func91,Try.ntmps91
   go_wp2_with (first|((with_reducible refine gate_dst (N:=12) rfl ?_);refine Kd.R_make (Kd.int .i64) _ 3 rfl (N:=12) rfl 22 _ _ rfl (l0.length:Int) rfl rfl Try.underlying22 (.int .i64 0) 8 info3 rfl (by decide) (by omega) 0 (ok:=fun _=>True) (okp:=fun _=>True) rfl (fun _ hk=>hk) trivial (oE aS) (Nat.le_trans (Nat.mul_le_mul_right _ (oE aS:(l0.length:Int).toNat≤35184372088832)) (by omega)) (Below.refl _ _) (Nat.le_refl _) ?_;intro v283 w5 ho6 hb hg_ hnew_;clear hg_ hnew_;(first|rw[← Ny282.out] at ho6|(simp only[Int.reduceToNat] at ho6;rw[← Ny282.out] at ho6));have HO284:=aM (Kd.R_lower ho6 (below_size pB));replace HB:=aM (below_step pB hb);clear hb ho6))
   go_loopg [7,8] k (fun kq v7 v8 w'=>∃ (x6_1:List Int) (x7_1:Int) (x8_1:Int),v7=.int .i64 x7_1∧v8=.int .i64 x8_1∧Aside0 (Czj.l0 kq l0 a1 x6_1 x7_1 x8_1=some (r1,r2))∧Aside0 (kq≤k)∧Aside0 (Kd.R (Kd.int .i64) 3 w' w.heap.size (fun _=>True) v283 x6_1)∧Aside0 (Below w.heap.size w w'))
   case atStart=>exact⟨(y282),(0),(wrap64 ((l0.length:Int) - 1)),sD,sD,H',⟨Nat.le_refl _⟩,⟨rX HO284.out⟩,⟨pB⟩⟩
   case round =>
    clear H';try clear p2
    try clear c3
    try clear c3b0
    try clear c3b1
    try clear c4
    try clear c4b0
    try clear c4b1
    try clear p6
    obtain⟨x6_1,x7_1,x8_1,rfl,rfl,HA,HK1,HO_6,HB⟩:=hrel;cases gk with
    | zero=>exact absurd HA.out (by simp [Czj.l0])
    | succ k1 =>
     have H:=HA.out;clear HA;simp only[Czj.l0] at H;by_cases c7:x8_1≥0
     ·rw[if_pos c7] at H;have c7b0:decide (0≤x8_1)=true:=dE c7;clear c7;by_cases c8:0≤x8_1
      ·rw[if_pos c8] at H;have c8b0:decide (0≤x8_1)=true:=dE c8;clear c8;by_cases c9:x8_1 < (l0.length:Int)
       ·rw[if_pos c9] at H;have c9b0:decide (x8_1 < (l0.length:Int))=true:=dE c9;clear c9;by_cases c10:a1=0
        ·rw[if_pos c10] at H;exact absurd H (by simp)
        ·rw[if_neg c10] at H;have c10b0:(a1 == 0)=false:=beq_eq_false_iff_ne.mpr c10;have c10b1:(a1 != 0)=true:=bne_iff_ne.mpr c10;by_cases c11:x8_1 < (x6_1.length:Int)
         ·rw[if_pos c11] at H;have c11b0:decide (x8_1 < (x6_1.length:Int))=true:=dE c11;clear c11;obtain⟨y286,hy286⟩:∃ y_:List Int,y_=(x6_1.set (x8_1:Int).toNat (wrap64 (Int.tdiv (wrap64 ((wrap64 (x7_1 * 1000000000))+(rd l0 x8_1))) a1))):=⟨_,rfl⟩;replace H:(Czj.l0 k1 l0 a1 y286 (Int.tmod (wrap64 ((wrap64 (x7_1 * 1000000000))+(rd l0 x8_1))) a1) (wrap64 (x8_1 - 1)))=some (r1,r2):=by first|(rw[hy286];with_reducible exact H)|(have H2_:=(Option.bind_some _ _).symm.trans H;rw[hy286];with_reducible exact H2_)|(have H2_:=(Option.bind_some _ _).symm.trans H;with_reducible exact H2_)|with_reducible exact H|(rw[hy286];exact H)|exact H
          have Ny286:=aM hy286;clear hy286;have H':=aM H;clear H;have p285:0≤(x8_1:Int):=oE aS
          have q285:x8_1 < (l0.length:Int):=oE aS
          obtain⟨ad285,e285,hx285_0⟩:=Kd.at_int HR0.out x8_1 p285 q285;cases e285
          replace hx285_0:=(HB.out.cell (World.block_lt_of_cell? w _ hx285_0)).trans hx285_0;replace p285:=eq_true p285;replace q285:=eq_true q285;try go_wp2
          have n0_:=aM (Kd.R_drew HO_6.out);have n1_:=aM (below_drew1 HB.out);clear HO_6;clear HB;have HO_6:=n0_;have HB:=n1_;clear n0_ n1_;have p12:0≤(x8_1:Int):=oE aS
          have q12:(x8_1:Int) < ((x6_1.length:Int):Int):=oE aS
          obtain⟨go12,co12,eo12,gb12,gl12,cl12,HG12⟩:=Kd.R_form HO_6.out (by omega)
          (first|cases eo12|(injection eo12 with ea_ en_ ec_;(first|subst ea_|(injection ea_ with ea_;subst ea_));subst ec_;clear en_))
          have GB12:=aM gb12;have GG12:=aM HG12;clear gb12 gl12 HG12;obtain⟨hx12_0,hf12_0⟩:=Kd.R_celln 0 HO_6.out (x8_1:Int) p12 q12;replace p12:=eq_true p12;replace q12:=eq_true q12;have HP14:=Kd.R_putn HO_6.out (x8_1:Int) (wrap64 (Int.tdiv (wrap64 ((wrap64 (x7_1 * 1000000000))+(rd l0 x8_1))) a1));rw[← Ny286.out] at HP14;have HQ14:=aM HP14;clear HP14;refine start_ (n:=11) (S:=fun w'=>True) (ds:=[9]) #[false,false,false,false,false,false,false,false,false,false,false] (by kernel_rfl) rfl rfl trivial (fun hHeld=>?_);refine with_tabW Czj.tab7 Czj.bits7 (fun HT_ HW_=>?_)
          generalize wr.drew=w13 at HO_6 HB GG12 HQ14 hf12_0 hx12_0 hHeld ⊢;refine pU (i:=0) (N:=some 27) HT_ #[true,false,false,false,false,false,false,false,false,false,false] ?_;refine pU (i:=1) (N:=some 28) HT_ #[true,true,false,false,false,false,false,false,false,false,false] ?_;refine pU (i:=2) (N:=some 29) HT_ #[true,true,true,false,false,false,false,false,false,false,false] ?_;refine pU (i:=3) (N:=some 30) HT_ #[true,true,true,true,false,false,false,false,false,false,false] ?_;refine pU (i:=4) (N:=some 31) HT_ #[true,true,true,true,true,false,false,false,false,false,false] ?_;refine pU (i:=5) (N:=some 32) HT_ #[true,true,true,true,true,true,false,false,false,false,false] ?_;refine pU (i:=6) (N:=some 33) HT_ #[true,true,true,true,true,true,true,false,false,false,false] ?_;refine pU (i:=7) (N:=some 34) HT_ #[true,true,true,true,true,true,true,true,false,false,false] ?_;refine pU (i:=8) (N:=some 35) HT_ #[true,true,true,true,true,true,true,true,true,false,false] ?_;refine last_ (i:=9) (N:=none) #[true,true,true,true,true,true,true,true,true,true,false] rfl rfl (one_of HT_.out (by kernel_rfl)) (by decide) (fun K hK=>?_)
          refine skip_ (w1:=?_) (by rfl) rfl ?_ ?_
          rotate_left
          ·go_simp
           rfl
          refine hK.out _ _ ?_;clear hK K;refine pU (i:=10) (N:=some 7) HT_ #[true,true,true,true,true,true,true,true,true,true,true] ?_;refine done_ (done_of HT_.out (by kernel_rfl)) ?_
          try go_wp2
          go_roundg k1
          case measure=>have:=HK1.out;omega
          case rel=>exact⟨(y286),(Int.tmod (wrap64 ((wrap64 (x7_1 * 1000000000))+(rd l0 x8_1))) a1),(wrap64 (x8_1 - 1)),sD,sD,H',⟨by have:=HK1.out;omega⟩,⟨rX HQ14.out⟩,⟨pB⟩⟩
         ·rw[if_neg c11] at H;exact absurd H (by simp)
       ·rw[if_neg c9] at H;exact absurd H (by simp)
      ·rw[if_neg c8] at H;exact absurd H (by simp)
     ·rw[if_neg c7] at H;have c7b0:decide (0≤x8_1)=false:=decide_eq_false c7;clear c7;replace H:=bS H;obtain⟨t287,A150,H⟩:=H;(try dsimp only at H);have A15:=aM A150;clear A150;obtain⟨y290,hy290⟩:∃ y_:List Int,y_=(([x7_1]:List Int)):=⟨_,rfl⟩;replace H:((Bzw.f k1 y290).bind fun t293=>(some (t287,t293)))=some (r1,r2):=by first|(rw[hy290];with_reducible exact H)|(have H2_:=(Option.bind_some _ _).symm.trans H;rw[hy290];with_reducible exact H2_)|(have H2_:=(Option.bind_some _ _).symm.trans H;with_reducible exact H2_)|with_reducible exact H|(rw[hy290];exact H)|exact H
      have Ny290:=aM hy290;clear hy290;replace H:=bS H;obtain⟨t293,A160,H⟩:=H;replace H:(some (t287,t293))=some (r1,r2):=H;have A16:=aM A160;clear A160;simp only[Option.some.injEq,Prod.mk.injEq] at H;obtain⟨rfl,rfl⟩:=H;obtain⟨Ao17,co17,eo17⟩:=Kd.R_slice HO_6.out;subst eo17;go_wp2_with (first|((with_reducible refine gate_callee (f:=72) rfl ?_);refine goesL_ (some 37) rfl rfl Try.func72 (by kernel_rfl) rfl #[.slice Ao17 x6_1.length co17] rfl mA ?_;(with_reducible refine(Bzw.calls k1 (fun k_=>some k_=(.slice Ao17 x6_1.length co17:Value).ownBlock) (.slice Ao17 x6_1.length co17) x6_1 t287 w _ ?side1 ?side2 A15.out).mono ?_);(case side1=>repeat(first|(with_reducible first|exact HB.out|apply below_alloc|apply pw_below_drewN|apply below_drew1)|exact HB.out));(case side2=>exact Kd.R_tight rfl HO_6.out);rintro e w18 ⟨v288,rfl,ho0,hb,hkp⟩;refine⟨_,rfl,?_⟩;have HO289:=aM (Kd.R_mono (ok':=fun k_=>True) ho0 (fun k_ hk_=>trivial));replace HB:=aM (hb);clear HO_6;(try clear hb);(try clear hkp);(try clear ho0))|((with_reducible refine gate_dst (N:=39) rfl ?_);refine Kd.R_lit (Kd.int .i64) _ 3 ?hg (N:=39) ?hd (xs:=([x7_1]:List Int)) (inner:=[.int .i64 x7_1]) (ok:=fun _=>True) (okp:=fun _=>True) ?hr ?hp (fun _ hk=>hk) trivial (Below.refl _ _) (Nat.le_refl _) (by simp) ?_;(case hd=>rfl);(case hg=>rfl);(case hr=>first|(go_simp;done)|(go_simp;rfl));(case hp=>exact(Reps.one (show Kd.M (Kd.int .i64) _ _ _ x7_1 [.int .i64 x7_1] from rfl) (Reps.none _ _)));intro v291 w19 ho20 hb hg_ hnew_;clear hg_ hnew_;(first|rw[← Ny290.out] at ho20|(simp only[Int.reduceToNat] at ho20;rw[← Ny290.out] at ho20));have HO292:=aM (Kd.R_lower (Kd.R_new' ho20 (Kd.R_lt (rX HO289.out))) (below_size pB));replace HO289:=aM (Kd.R_elder' (rX HO289.out) (Kd.R_base ho20) hb);replace HB:=aM (below_step pB hb);clear hb ho20;obtain⟨Ao21,co21,eo21⟩:=Kd.R_slice HO292.out;subst eo21)|((with_reducible refine gate_callee (f:=72) rfl ?_);refine goesL_ (some 40) rfl rfl Try.func72 (by kernel_rfl) rfl #[.slice Ao21 y290.length co21] rfl mA ?_;(with_reducible refine(Bzw.calls k1 (fun k_=>some k_=(.slice Ao21 y290.length co21:Value).ownBlock) (.slice Ao21 y290.length co21) y290 t293 w _ ?side1 ?side2 A16.out).mono ?_);(case side1=>repeat(first|(with_reducible first|exact HB.out|apply below_alloc|apply pw_below_drewN|apply below_drew1)|exact HB.out));(case side2=>exact Kd.R_tight rfl HO292.out);rintro e w22 ⟨v294,rfl,ho0,hb,hkp⟩;refine⟨_,rfl,?_⟩;have HO295:=aM (Kd.R_mono (ok':=fun k_=>some k_≠(v288:Value).ownBlock) ho0 (fun k_ hk_=>Or.elim hk_ (fun hs_=>fun e_=>(((HO289.out).1 k_ e_.symm).2) hs_) (fun hn_=>(Kd.fresh' (Kd.R_lt (rX HO289.out)) k_ hn_))));replace HO289:=aM (Kd.R_mono (ok':=fun k_=>some k_≠(v294:Value).ownBlock) (Kd.R_keptB (HO289.out) hkp (fun k_ hk_ hs_=>(hk_.2) hs_)) (fun k_ hk_=>fun e_=>Or.elim (ho0.1 k_ e_.symm) (fun hs_=>hk_.2.1 hs_) (fun hn_=>Nat.not_le.2 hk_.2.2 hn_)));replace HB:=aM (hb);clear HO292;(try clear hb);(try clear hkp);(try clear ho0)))
      go_ret2
      exact⟨_,_,eW,rX HO289.out,rX HO295.out,pB⟩
  ·rw[if_neg c4] at H;exact absurd H (by simp)
 ·rw[if_neg c3] at H;exact absurd H (by simp)


/-- Not told (the law's own numbers have few limbs): no answer. -/
def Ezq.f (_k:Nat) (_l0 _l1:List Int):Option (List Int × List Int):=none
theorem Ezq.mono:∀ a0 a1 k,LeO (Ezq.f k a0 a1) (Ezq.f (k+1) a0 a1):=fun _ _ _=>LeO.refl _
theorem Ezq.calls (k:Nat) (A0:Option Addr) (c0:Nat) (l0:List Int) (A1:Option Addr) (c1:Nat) (l1:List Int) (r1:List Int) (r2:List Int) (w:World) (hr0:Kd.C (Kd.int .i64) w A0 l0.length l0) (hc0:l0.length≤c0) (hr1:Kd.C (Kd.int .i64) w A1 l1.length l1) (hc1:l1.length≤c1) (h:Ezq.f k l0 l1=some (r1,r2)) :
  Calls Try.prog 92 #[.slice A0 l0.length c0,.slice A1 l1.length c1] w fun e w'=>∃ v0_ v1_:Value,e=.returned (.tuple #[v0_,v1_])∧Kd.R (Kd.int .i64) 3 w' w.heap.size (fun k_=>some k_≠(v1_:Value).ownBlock) v0_ r1∧Kd.R (Kd.int .i64) 3 w' w.heap.size (fun k_=>some k_≠(v0_:Value).ownBlock) v1_ r2∧Below w.heap.size w w':=by
 simp [Ezq.f] at h

def Czb.f (k:Nat) (l0:List Int) (l1:List Int):Option (List Int × List Int):=(Bzm.f k l0 l1).bind fun t319=>(if t319 < 0 then((Dzm.f l0 (l0.length:Int)).bind fun t320=>((Bzw.f k t320).bind fun t323=>(some (([]:List Int),t323)))) else(if(l1.length:Int)=1 then(if 0 < (l1.length:Int) then((Czj.f k l0 (rd l1 0)).bind fun bt327=>(some (bt327.1,bt327.2))) else(none)) else((Ezq.f k l0 l1).bind fun bt333=>(some (bt333.1,bt333.2)))))
theorem Czb.mono:∀ a0 a1 k,LeO (Czb.f k a0 a1) (Czb.f (k+1) a0 a1):=by
 intro a0 a1 k;unfold Czb.f;with_reducible repeat' first|exact Bzm.mono _ _ _|exact Ezq.mono _ _ _|exact Czj.mono _ _ _|exact Bzw.mono _ _|exact LeO.refl _|exact LeO.none _|refine LeO.ite ?_ ?_|refine LeO.bind ?_ (fun _=>?_)
theorem Czb.calls (k:Nat) (A0:Option Addr) (c0:Nat) (l0:List Int) (A1:Option Addr) (c1:Nat) (l1:List Int) (r1:List Int) (r2:List Int) (w:World) (hr0:Kd.C (Kd.int .i64) w A0 l0.length l0) (hc0:l0.length≤c0) (hr1:Kd.C (Kd.int .i64) w A1 l1.length l1) (hc1:l1.length≤c1) (h:Czb.f k l0 l1=some (r1,r2)) :
  Calls Try.prog 78 #[.slice A0 l0.length c0,.slice A1 l1.length c1] w fun e w'=>∃ v0_ v1_:Value,e=.returned (.tuple #[v0_,v1_])∧Kd.R (Kd.int .i64) 3 w' w.heap.size (fun k_=>some k_≠(v1_:Value).ownBlock) v0_ r1∧Kd.R (Kd.int .i64) 3 w' w.heap.size (fun k_=>some k_≠(v0_:Value).ownBlock) v1_ r2∧Below w.heap.size w w':=by
 have HR0:=aM hr0;have HC0:=aM hc0;clear hr0 hc0;have HR1:=aM hr1;have HC1:=aM hc1;clear hr1 hc1;have HB:=aM (Below.refl w.heap.size w);have H:((Bzm.f k l0 l1).bind fun t319=>(if t319 < 0 then((Dzm.f l0 (l0.length:Int)).bind fun t320=>((Bzw.f k t320).bind fun t323=>(some (([]:List Int),t323)))) else(if(l1.length:Int)=1 then(if 0 < (l1.length:Int) then((Czj.f k l0 (rd l1 0)).bind fun bt327=>(some (bt327.1,bt327.2))) else(none)) else((Ezq.f k l0 l1).bind fun bt333=>(some (bt333.1,bt333.2))))))=some (r1,r2):=h
 clear h;replace H:=bS H;obtain⟨t319,A30,H⟩:=H;(try dsimp only at H);have A3:=aM A30;clear A30;by_cases c4:t319 < 0
 ·rw[if_pos c4] at H;have c4b0:decide (t319 < 0)=true:=dE c4;clear c4;replace H:=bS H;obtain⟨t320,A50,H⟩:=H;(try dsimp only at H);have A5:=aM A50;clear A50;replace H:=bS H;obtain⟨t323,A60,H⟩:=H;replace H:(some (([]:List Int),t323))=some (r1,r2):=H;have A6:=aM A60;clear A60;simp only[Option.some.injEq,Prod.mk.injEq] at H;obtain⟨rfl,rfl⟩:=H;go_enter Try.func78,Try.ntmps78
  go_wp2_with (first|((with_reducible refine gate_callee (f:=71) rfl ?_);refine goesL_ (some 9) rfl rfl Try.func71 (by kernel_rfl) rfl #[.slice A0 l0.length c0,.slice A1 l1.length c1] rfl mA ?_;(with_reducible refine(Bzm.calls k _ _ l0 _ _ l1 t319 _ ?side1 ?side2 ?side3 ?side4 A3.out).mono ?_);(case side1=>exact cX HR0.out);(case side2=>exact HC0.out);(case side3=>exact cX HR1.out);(case side4=>exact HC1.out);rintro e w' ⟨rfl,⟨nd,rfl⟩⟩;refine⟨_,rfl,?_⟩)|((with_reducible refine gate_callee (f:=69) rfl ?_);refine goesL_ (some 14) rfl rfl Try.func69 (by kernel_rfl) rfl #[.slice A0 l0.length c0,.int .i64 (l0.length:Int)] rfl mA ?_;(with_reducible refine(Dzm.calls _ _ l0 (l0.length:Int) t320 _ ?side1 ?side2 A5.out).mono ?_);(case side1=>exact cX HR0.out);(case side2=>exact HC0.out);rintro e w7 ⟨v321,rfl,ho0,hb⟩;refine⟨_,rfl,?_⟩;have HO322:=aM (Kd.R_lower ho0 (below_size pB));replace HB:=aM (below_step pB hb);(try clear hb);(try clear hb2);(try clear hk);(try clear hi);(try clear ho0);obtain⟨Ao8,co8,eo8⟩:=Kd.R_slice HO322.out;subst eo8)|((with_reducible refine gate_callee (f:=72) rfl ?_);refine goesL_ (some 15) rfl rfl Try.func72 (by kernel_rfl) rfl #[.slice Ao8 t320.length co8] rfl mA ?_;(with_reducible refine(Bzw.calls k (fun k_=>some k_=(.slice Ao8 t320.length co8:Value).ownBlock) (.slice Ao8 t320.length co8) t320 t323 w _ ?side1 ?side2 A6.out).mono ?_);(case side1=>repeat(first|(with_reducible first|exact HB.out|apply below_alloc|apply pw_below_drewN|apply below_drew1)|exact HB.out));(case side2=>exact Kd.R_tight rfl HO322.out);rintro e w9 ⟨v324,rfl,ho0,hb,hkp⟩;refine⟨_,rfl,?_⟩;have HO325:=aM (Kd.R_mono (ok':=fun k_=>True) ho0 (fun k_ hk_=>trivial));replace HB:=aM (hb);clear HO322;(try clear hb);(try clear hkp);(try clear ho0)))
  go_ret2
  exact⟨_,_,eW,by first|exact Kd.R_nil _ _ _ _ _|exact Kd.N_nil _ _ _ _ _|exact Kd.V_nil _ _ _ _ _|exact Kd.Q_nil _ _ _ _ _|exact Kd.S_nil _ _ _ _ _,by(with_reducible repeat(first|apply Kd.R_alloc|apply Kd.R_drewN|apply Kd.R_drew));exact Kd.R_mono HO325.out (fun _ hk=>(by simp [Value.ownBlock])),pB⟩
 ·rw[if_neg c4] at H;have c4b0:decide (t319 < 0)=false:=decide_eq_false c4;clear c4;by_cases c10:(l1.length:Int)=1
  ·rw[if_pos c10] at H;have c10b0:((l1.length:Int) == 1)=true:=beq_iff_eq.mpr c10;have c10b1:((l1.length:Int) != 1)=false:=bne_eq_false_iff_eq.mpr c10;clear c10;by_cases c11:0 < (l1.length:Int)
   ·rw[if_pos c11] at H;have c11b0:decide (0 < (l1.length:Int))=true:=dE c11;have c11b1:decide (0 < l1.length)=true:=dE (by omega)
    clear c11;replace H:=bS H;obtain⟨⟨t327,t328⟩,A120,H⟩:=H;replace H:(some (t327,t328))=some (r1,r2):=H;have A12:=aM A120;clear A120;simp only[Option.some.injEq,Prod.mk.injEq] at H;obtain⟨rfl,rfl⟩:=H;go_enter Try.func78,Try.ntmps78
    go_wp2_with (first|((with_reducible refine gate_callee (f:=71) rfl ?_);refine goesL_ (some 9) rfl rfl Try.func71 (by kernel_rfl) rfl #[.slice A0 l0.length c0,.slice A1 l1.length c1] rfl mA ?_;(with_reducible refine(Bzm.calls k _ _ l0 _ _ l1 t319 _ ?side1 ?side2 ?side3 ?side4 A3.out).mono ?_);(case side1=>exact cX HR0.out);(case side2=>exact HC0.out);(case side3=>exact cX HR1.out);(case side4=>exact HC1.out);rintro e w' ⟨rfl,⟨nd,rfl⟩⟩;refine⟨_,rfl,?_⟩;have p326:0≤(0:Int):=(by omega);have q326:0 < (l1.length:Int):=oE aS;obtain⟨ad326,e326,hx326_0⟩:=Kd.at_int HR1.out 0 p326 q326;cases e326;have qi326:(0 < l1.length)=True:=eq_true (by omega);(try rw[show((0:Int)).toNat=0 from rfl] at hx326_0);(try rw[Addr.add_zero'] at hx326_0);replace p326:=eq_true p326;replace q326:=eq_true q326)|((with_reducible refine gate_callee (f:=91) rfl ?_);refine goesL_ (some 24) rfl rfl Try.func91 (by kernel_rfl) rfl #[.slice A0 l0.length c0,.int .i64 (rd l1 0)] rfl mA ?_;(with_reducible refine(Czj.calls k _ _ l0 (rd l1 0) t327 t328 _ ?side1 ?side2 A12.out).mono ?_);(case side1=>exact cX HR0.out);(case side2=>exact HC0.out);rintro e w13 ⟨v329,v331,rfl,ho0,ho1,hb⟩;refine⟨_,rfl,?_⟩;have HO330:=aM (Kd.R_lower ho0 (below_size pB));have HO332:=aM (Kd.R_lower ho1 (below_size pB));replace HB:=aM (below_step pB hb);(try clear hb);(try clear hb2);(try clear hk);(try clear hi);(try clear ho0);(try clear ho1)))
    go_ret2
    exact⟨_,_,eW,rX HO330.out,rX HO332.out,pB⟩
   ·rw[if_neg c11] at H;exact absurd H (by simp)
  ·rw[if_neg c10] at H;have c10b0:((l1.length:Int) == 1)=false:=beq_eq_false_iff_ne.mpr c10;have c10b1:((l1.length:Int) != 1)=true:=bne_iff_ne.mpr c10;replace H:=bS H;obtain⟨⟨t333,t334⟩,A140,H⟩:=H;replace H:(some (t333,t334))=some (r1,r2):=H;have A14:=aM A140;clear A140;simp only[Option.some.injEq,Prod.mk.injEq] at H;obtain⟨rfl,rfl⟩:=H;go_enter Try.func78,Try.ntmps78
   go_wp2_with (first|((with_reducible refine gate_callee (f:=71) rfl ?_);refine goesL_ (some 9) rfl rfl Try.func71 (by kernel_rfl) rfl #[.slice A0 l0.length c0,.slice A1 l1.length c1] rfl mA ?_;(with_reducible refine(Bzm.calls k _ _ l0 _ _ l1 t319 _ ?side1 ?side2 ?side3 ?side4 A3.out).mono ?_);(case side1=>exact cX HR0.out);(case side2=>exact HC0.out);(case side3=>exact cX HR1.out);(case side4=>exact HC1.out);rintro e w' ⟨rfl,⟨nd,rfl⟩⟩;refine⟨_,rfl,?_⟩)|((with_reducible refine gate_callee (f:=92) rfl ?_);refine goesL_ (some 29) rfl rfl Try.func92 (by kernel_rfl) rfl #[.slice A0 l0.length c0,.slice A1 l1.length c1] rfl mA ?_;(with_reducible refine(Ezq.calls k _ _ l0 _ _ l1 t333 t334 _ ?side1 ?side2 ?side3 ?side4 A14.out).mono ?_);(case side1=>exact cX HR0.out);(case side2=>exact HC0.out);(case side3=>exact cX HR1.out);(case side4=>exact HC1.out);rintro e w15 ⟨v335,v337,rfl,ho0,ho1,hb⟩;refine⟨_,rfl,?_⟩;have HO336:=aM (Kd.R_lower ho0 (below_size pB));have HO338:=aM (Kd.R_lower ho1 (below_size pB));replace HB:=aM (below_step pB hb);(try clear hb);(try clear hb2);(try clear hk);(try clear hi);(try clear ho0);(try clear ho1)))
   go_ret2
   exact⟨_,_,eW,rX HO336.out,rX HO338.out,pB⟩

end Go.Proofs.Ytokkiljkgejnhaa.Print
