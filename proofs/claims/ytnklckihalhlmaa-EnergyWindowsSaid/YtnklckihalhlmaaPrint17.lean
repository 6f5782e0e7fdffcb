import Derived.Test.YtnklckihalhlmaaPrint0
import Derived.Test.YtnklckihalhlmaaPrint14
namespace Go.Proofs.Ytnklckihalhlmaa.Print
open Go.RowKit Go.Proofs.YtnklckihalhlmaaW.PrintWords Go.Proofs.YtnklckihalhlmaaW.PrintLast Go.Proofs.YtnklckihalhlmaaW.PrintMore
attribute [local go_sem] max2_int min2_int max_two min_two max_three min_three max_four min_four
set_option linter.unusedVariables false
set_option maxRecDepth 100000
set_option maxHeartbeats 8000000
set_option linter.unusedSimpArgs false

def Dzk.l0:Nat→List Int→Int→List Int→Int→Int→Option (List Int × List Int)
 | 0,_,_,_,_,_=>none
 | k+1,x0,x1,x6,x7,x8=>if x8≥0 then(if 0≤x8 then(if x8 < (x0.length:Int) then(if x1=0 then(none) else(if x8 < (x6.length:Int) then(Dzk.l0 k x0 x1 (x6.set (x8:Int).toNat (wrap64 (Int.tdiv (wrap64 ((wrap64 (x7 * 1000000000))+(rd x0 x8))) x1))) (Int.tmod (wrap64 ((wrap64 (x7 * 1000000000))+(rd x0 x8))) x1) (wrap64 (x8 - 1))) else(none))) else(none)) else(none)) else((Czb.f k x6).bind fun t234=>((Czb.f k (([x7]:List Int))).bind fun t240=>(some (t234,t240))))
def Dzk.f (k:Nat) (l0:List Int) (a1:Int):Option (List Int × List Int):=if 0≤(l0.length:Int) then(if((l0.length:Int):Int).toNat≤35184372088832 then(Dzk.l0 k l0 a1 (List.replicate ((l0.length:Int):Int).toNat 0) 0 (wrap64 ((l0.length:Int) - 1))) else(none)) else(none)
theorem Dzk.mono_l:∀ k,(∀ y0 y1 y2 y3 y4,LeO (Dzk.l0 k y0 y1 y2 y3 y4) (Dzk.l0 (k+1) y0 y1 y2 y3 y4))
 | 0=>fun _ _ _ _ _ r h=>by simp [Dzk.l0] at h
 | k+1=>by
  have ih0:=Dzk.mono_l k
  ·intro y0 y1 y2 y3 y4;unfold Dzk.l0;with_reducible repeat' first|exact ih0 _ _ _ _ _|exact Czb.mono _ _|exact LeO.refl _|exact LeO.none _|refine LeO.ite ?_ ?_|refine LeO.bind ?_ (fun _=>?_)
theorem Dzk.mono:∀ a0 a1 k,LeO (Dzk.f k a0 a1) (Dzk.f (k+1) a0 a1):=by
 intro a0 a1 k;have ih0:=Dzk.mono_l k;unfold Dzk.f;with_reducible repeat' first|exact ih0 _ _ _ _ _|exact Czb.mono _ _|exact LeO.refl _|exact LeO.none _|refine LeO.ite ?_ ?_|refine LeO.bind ?_ (fun _=>?_)
def Dzk.T7:Bool × List (List Nat × List Nat):=(true,[([],[]),([],[]),([],[]),([],[]),([2,3],[2,3]),([],[]),([],[]),([5,6],[5,6]),([0,1,0,1,2,3,4],[0,1]),([8,4,0,1,2,3,4],[4,8]),([7,9,0,1,2,3,4,5,6,7,8,9],[7])])
def Dzk.B7:List Nat:=[0,0,0,0,12,0,0,96,31,287,1023]
theorem Dzk.tab7:rtab .any (opsOf Try.f99 7)=Dzk.T7:=by kernel_rfl
theorem Dzk.bits7:waitsOk Dzk.T7.2 Dzk.B7=true:=by kernel_rfl
theorem Dzk.calls (k:Nat) (A0:Option Addr) (c0:Nat) (l0:List Int) (a1:Int) (r1:List Int) (r2:List Int) (w:World) (hr0:Kd.C (Kd.int .i64) w A0 l0.length l0) (hc0:l0.length≤c0) (h:Dzk.f k l0 a1=some (r1,r2)) :
  Calls Try.prog 99 #[.slice A0 l0.length c0,.int .i64 a1] w fun e w'=>∃ v0_ v1_:Value,e=.returned (.tuple #[v0_,v1_])∧Kd.R (Kd.int .i64) 3 w' w.heap.size (fun k_=>some k_≠(v1_:Value).ownBlock) v0_ r1∧Kd.R (Kd.int .i64) 3 w' w.heap.size (fun k_=>some k_≠(v0_:Value).ownBlock) v1_ r2∧Below w.heap.size w w':=by
 have HR0:=aM hr0;have HC0:=aM hc0;clear hr0 hc0;have HB:=aM (Below.refl w.heap.size w);have H:(if 0≤(l0.length:Int) then(if((l0.length:Int):Int).toNat≤35184372088832 then(Dzk.l0 k l0 a1 (List.replicate ((l0.length:Int):Int).toNat 0) 0 (wrap64 ((l0.length:Int) - 1))) else(none)) else(none))=some (r1,r2):=h
 clear h;by_cases c3:0≤(l0.length:Int)
 ·rw[if_pos c3] at H;have c3b0:=eq_true c3;have c3b1:decide (0≤(l0.length:Int))=true:=dE c3;clear c3;by_cases c4:((l0.length:Int):Int).toNat≤35184372088832
  ·rw[if_pos c4] at H;have c4b0:=eq_true c4;have c4b1:decide (((l0.length:Int):Int).toNat≤35184372088832)=true:=dE c4;clear c4;obtain⟨y229,hy229⟩:∃ y_:List Int,y_=(List.replicate ((l0.length:Int):Int).toNat 0):=⟨_,rfl⟩;replace H:(Dzk.l0 k l0 a1 y229 0 (wrap64 ((l0.length:Int) - 1)))=some (r1,r2):=by first|(rw[hy229];with_reducible exact H)|(have H2_:=(Option.bind_some _ _).symm.trans H;rw[hy229];with_reducible exact H2_)|(have H2_:=(Option.bind_some _ _).symm.trans H;with_reducible exact H2_)|with_reducible exact H|(rw[hy229];exact H)|exact H
   have Ny229:=aM hy229;clear hy229;have H':=aM H;clear H;go_enter Try.func99,Try.ntmps99
   go_wp2_with (first|((with_reducible refine gate_dst (N:=12) rfl ?_);refine Kd.R_make (Kd.int .i64) _ 3 rfl (N:=12) rfl 34 _ _ rfl (l0.length:Int) rfl rfl Try.underlying34 (.int .i64 0) 8 info3 rfl (by decide) (by omega) 0 (ok:=fun _=>True) (okp:=fun _=>True) rfl (fun _ hk=>hk) trivial (oE aS) (Nat.le_trans (Nat.mul_le_mul_right _ (oE aS:(l0.length:Int).toNat≤35184372088832)) (by omega)) (Below.refl _ _) (Nat.le_refl _) ?_;intro v230 w5 ho6 hb hg_ hnew_;clear hg_ hnew_;(first|rw[← Ny229.out] at ho6|(simp only[Int.reduceToNat] at ho6;rw[← Ny229.out] at ho6));have HO231:=aM (Kd.R_lower ho6 (below_size pB));replace HB:=aM (below_step pB hb);clear hb ho6))
   go_loopg [7,8] k (fun kq v7 v8 w'=>∃ (x6_1:List Int) (x7_1:Int) (x8_1:Int),v7=.int .i64 x7_1∧v8=.int .i64 x8_1∧Aside0 (Dzk.l0 kq l0 a1 x6_1 x7_1 x8_1=some (r1,r2))∧Aside0 (kq≤k)∧Aside0 (Kd.R (Kd.int .i64) 3 w' w.heap.size (fun _=>True) v230 x6_1)∧Aside0 (Below w.heap.size w w'))
   case atStart=>exact⟨(y229),(0),(wrap64 ((l0.length:Int) - 1)),sD,sD,H',⟨Nat.le_refl _⟩,⟨rX HO231.out⟩,⟨pB⟩⟩
   case round =>
    clear H';try clear p2
    try clear c3
    try clear c3b0
    try clear c3b1
    try clear c4
    try clear c4b0
    try clear c4b1
    try clear p6
    obtain⟨x6_1,x7_1,x8_1,rfl,rfl,HA,HK1,HO_6,HB⟩:=hrel;cases gk with
    | zero=>exact absurd HA.out (by simp [Dzk.l0])
    | succ k1 =>
     have H:=HA.out;clear HA;simp only[Dzk.l0] at H;by_cases c7:x8_1≥0
     ·rw[if_pos c7] at H;have c7b0:decide (0≤x8_1)=true:=dE c7;clear c7;by_cases c8:0≤x8_1
      ·rw[if_pos c8] at H;have c8b0:decide (0≤x8_1)=true:=dE c8;clear c8;by_cases c9:x8_1 < (l0.length:Int)
       ·rw[if_pos c9] at H;have c9b0:decide (x8_1 < (l0.length:Int))=true:=dE c9;clear c9;by_cases c10:a1=0
        ·rw[if_pos c10] at H;exact absurd H (by simp)
        ·rw[if_neg c10] at H;have c10b0:(a1 == 0)=false:=beq_eq_false_iff_ne.mpr c10;have c10b1:(a1 != 0)=true:=bne_iff_ne.mpr c10;by_cases c11:x8_1 < (x6_1.length:Int)
         ·rw[if_pos c11] at H;have c11b0:decide (x8_1 < (x6_1.length:Int))=true:=dE c11;clear c11;obtain⟨y233,hy233⟩:∃ y_:List Int,y_=(x6_1.set (x8_1:Int).toNat (wrap64 (Int.tdiv (wrap64 ((wrap64 (x7_1 * 1000000000))+(rd l0 x8_1))) a1))):=⟨_,rfl⟩;replace H:(Dzk.l0 k1 l0 a1 y233 (Int.tmod (wrap64 ((wrap64 (x7_1 * 1000000000))+(rd l0 x8_1))) a1) (wrap64 (x8_1 - 1)))=some (r1,r2):=by first|(rw[hy233];with_reducible exact H)|(have H2_:=(Option.bind_some _ _).symm.trans H;rw[hy233];with_reducible exact H2_)|(have H2_:=(Option.bind_some _ _).symm.trans H;with_reducible exact H2_)|with_reducible exact H|(rw[hy233];exact H)|exact H
          have Ny233:=aM hy233;clear hy233;have H':=aM H;clear H;have p232:0≤(x8_1:Int):=oE aS
          have q232:x8_1 < (l0.length:Int):=oE aS
          obtain⟨ad232,e232,hx232_0⟩:=Kd.at_int HR0.out x8_1 p232 q232;cases e232
          replace hx232_0:=(HB.out.cell (World.block_lt_of_cell? w _ hx232_0)).trans hx232_0;replace p232:=eq_true p232;replace q232:=eq_true q232;try go_wp2
          have n0_:=aM (Kd.R_drew HO_6.out);have n1_:=aM (below_drew1 HB.out);clear HO_6;clear HB;have HO_6:=n0_;have HB:=n1_;clear n0_ n1_;have p12:0≤(x8_1:Int):=oE aS
          have q12:(x8_1:Int) < ((x6_1.length:Int):Int):=oE aS
          obtain⟨go12,co12,eo12,gb12,gl12,cl12,HG12⟩:=Kd.R_form HO_6.out (by omega)
          (first|cases eo12|(injection eo12 with ea_ en_ ec_;(first|subst ea_|(injection ea_ with ea_;subst ea_));subst ec_;clear en_))
          have GB12:=aM gb12;have GG12:=aM HG12;clear gb12 gl12 HG12;obtain⟨hx12_0,hf12_0⟩:=Kd.R_celln 0 HO_6.out (x8_1:Int) p12 q12;replace p12:=eq_true p12;replace q12:=eq_true q12;have HP14:=Kd.R_putn HO_6.out (x8_1:Int) (wrap64 (Int.tdiv (wrap64 ((wrap64 (x7_1 * 1000000000))+(rd l0 x8_1))) a1));rw[← Ny233.out] at HP14;have HQ14:=aM HP14;clear HP14;refine start_ (n:=11) (S:=fun w'=>True) (ds:=[9]) #[false,false,false,false,false,false,false,false,false,false,false] (by kernel_rfl) rfl rfl trivial (fun hHeld=>?_);refine with_tabW Dzk.tab7 Dzk.bits7 (fun HT_ HW_=>?_)
          generalize wr.drew=w13 at HO_6 HB GG12 HQ14 hf12_0 hx12_0 hHeld ⊢;refine pU (i:=0) (N:=some 27) HT_ #[true,false,false,false,false,false,false,false,false,false,false] ?_;refine pU (i:=1) (N:=some 28) HT_ #[true,true,false,false,false,false,false,false,false,false,false] ?_;refine pU (i:=2) (N:=some 29) HT_ #[true,true,true,false,false,false,false,false,false,false,false] ?_;refine pU (i:=3) (N:=some 30) HT_ #[true,true,true,true,false,false,false,false,false,false,false] ?_;refine pU (i:=4) (N:=some 31) HT_ #[true,true,true,true,true,false,false,false,false,false,false] ?_;refine pU (i:=5) (N:=some 32) HT_ #[true,true,true,true,true,true,false,false,false,false,false] ?_;refine pU (i:=6) (N:=some 33) HT_ #[true,true,true,true,true,true,true,false,false,false,false] ?_;refine pU (i:=7) (N:=some 34) HT_ #[true,true,true,true,true,true,true,true,false,false,false] ?_;refine pU (i:=8) (N:=some 35) HT_ #[true,true,true,true,true,true,true,true,true,false,false] ?_;refine last_ (i:=9) (N:=none) #[true,true,true,true,true,true,true,true,true,true,false] rfl rfl (one_of HT_.out (by kernel_rfl)) (by decide) (fun K hK=>?_)
          refine skip_ (w1:=?_) (by rfl) rfl ?_ ?_
          rotate_left
          ·go_simp
           rfl
          refine hK.out _ _ ?_;clear hK K;refine pU (i:=10) (N:=some 7) HT_ #[true,true,true,true,true,true,true,true,true,true,true] ?_;refine done_ (done_of HT_.out (by kernel_rfl)) ?_
          try go_wp2
          go_roundg k1
          case measure=>have:=HK1.out;omega
          case rel=>exact⟨(y233),(Int.tmod (wrap64 ((wrap64 (x7_1 * 1000000000))+(rd l0 x8_1))) a1),(wrap64 (x8_1 - 1)),sD,sD,H',⟨by have:=HK1.out;omega⟩,⟨rX HQ14.out⟩,⟨pB⟩⟩
         ·rw[if_neg c11] at H;exact absurd H (by simp)
       ·rw[if_neg c9] at H;exact absurd H (by simp)
      ·rw[if_neg c8] at H;exact absurd H (by simp)
     ·rw[if_neg c7] at H;have c7b0:decide (0≤x8_1)=false:=decide_eq_false c7;clear c7;replace H:=bS H;obtain⟨t234,A150,H⟩:=H;(try dsimp only at H);have A15:=aM A150;clear A150;obtain⟨y237,hy237⟩:∃ y_:List Int,y_=(([x7_1]:List Int)):=⟨_,rfl⟩;replace H:((Czb.f k1 y237).bind fun t240=>(some (t234,t240)))=some (r1,r2):=by first|(rw[hy237];with_reducible exact H)|(have H2_:=(Option.bind_some _ _).symm.trans H;rw[hy237];with_reducible exact H2_)|(have H2_:=(Option.bind_some _ _).symm.trans H;with_reducible exact H2_)|with_reducible exact H|(rw[hy237];exact H)|exact H
      have Ny237:=aM hy237;clear hy237;replace H:=bS H;obtain⟨t240,A160,H⟩:=H;replace H:(some (t234,t240))=some (r1,r2):=H;have A16:=aM A160;clear A160;simp only[Option.some.injEq,Prod.mk.injEq] at H;obtain⟨rfl,rfl⟩:=H;obtain⟨Ao17,co17,eo17⟩:=Kd.R_slice HO_6.out;subst eo17;go_wp2_with (first|((with_reducible refine gate_callee (f:=92) rfl ?_);refine goesL_ (some 37) rfl rfl Try.func92 (by kernel_rfl) rfl #[.slice Ao17 x6_1.length co17] rfl mA ?_;(with_reducible refine(Czb.calls k1 (fun k_=>some k_=(.slice Ao17 x6_1.length co17:Value).ownBlock) (.slice Ao17 x6_1.length co17) x6_1 t234 w _ ?side1 ?side2 A15.out).mono ?_);(case side1=>repeat(first|(with_reducible first|exact HB.out|apply below_alloc|apply pw_below_drewN|apply below_drew1)|exact HB.out));(case side2=>exact Kd.R_tight rfl HO_6.out);rintro e w18 ⟨v235,rfl,ho0,hb,hkp⟩;refine⟨_,rfl,?_⟩;have HO236:=aM (Kd.R_mono (ok':=fun k_=>True) ho0 (fun k_ hk_=>trivial));replace HB:=aM (hb);clear HO_6;(try clear hb);(try clear hkp);(try clear ho0))|((with_reducible refine gate_dst (N:=39) rfl ?_);refine Kd.R_lit (Kd.int .i64) _ 3 ?hg (N:=39) ?hd (xs:=([x7_1]:List Int)) (inner:=[.int .i64 x7_1]) (ok:=fun _=>True) (okp:=fun _=>True) ?hr ?hp (fun _ hk=>hk) trivial (Below.refl _ _) (Nat.le_refl _) (by simp) ?_;(case hd=>rfl);(case hg=>rfl);(case hr=>first|(go_simp;done)|(go_simp;rfl));(case hp=>exact(Reps.one (show Kd.M (Kd.int .i64) _ _ _ x7_1 [.int .i64 x7_1] from rfl) (Reps.none _ _)));intro v238 w19 ho20 hb hg_ hnew_;clear hg_ hnew_;(first|rw[← Ny237.out] at ho20|(simp only[Int.reduceToNat] at ho20;rw[← Ny237.out] at ho20));have HO239:=aM (Kd.R_lower (Kd.R_new' ho20 (Kd.R_lt (rX HO236.out))) (below_size pB));replace HO236:=aM (Kd.R_elder' (rX HO236.out) (Kd.R_base ho20) hb);replace HB:=aM (below_step pB hb);clear hb ho20;obtain⟨Ao21,co21,eo21⟩:=Kd.R_slice HO239.out;subst eo21)|((with_reducible refine gate_callee (f:=92) rfl ?_);refine goesL_ (some 40) rfl rfl Try.func92 (by kernel_rfl) rfl #[.slice Ao21 y237.length co21] rfl mA ?_;(with_reducible refine(Czb.calls k1 (fun k_=>some k_=(.slice Ao21 y237.length co21:Value).ownBlock) (.slice Ao21 y237.length co21) y237 t240 w _ ?side1 ?side2 A16.out).mono ?_);(case side1=>repeat(first|(with_reducible first|exact HB.out|apply below_alloc|apply pw_below_drewN|apply below_drew1)|exact HB.out));(case side2=>exact Kd.R_tight rfl HO239.out);rintro e w22 ⟨v241,rfl,ho0,hb,hkp⟩;refine⟨_,rfl,?_⟩;have HO242:=aM (Kd.R_mono (ok':=fun k_=>some k_≠(v235:Value).ownBlock) ho0 (fun k_ hk_=>Or.elim hk_ (fun hs_=>fun e_=>(((HO236.out).1 k_ e_.symm).2) hs_) (fun hn_=>(Kd.fresh' (Kd.R_lt (rX HO236.out)) k_ hn_))));replace HO236:=aM (Kd.R_mono (ok':=fun k_=>some k_≠(v241:Value).ownBlock) (Kd.R_keptB (HO236.out) hkp (fun k_ hk_ hs_=>(hk_.2) hs_)) (fun k_ hk_=>fun e_=>Or.elim (ho0.1 k_ e_.symm) (fun hs_=>hk_.2.1 hs_) (fun hn_=>Nat.not_le.2 hk_.2.2 hn_)));replace HB:=aM (hb);clear HO239;(try clear hb);(try clear hkp);(try clear ho0)))
      go_ret2
      exact⟨_,_,eW,rX HO236.out,rX HO242.out,pB⟩
  ·rw[if_neg c4] at H;exact absurd H (by simp)
 ·rw[if_neg c3] at H;exact absurd H (by simp)


/-- Not told (the law's own numbers have few limbs): no answer. -/
def Fzf.f (_k:Nat) (_l0 _l1:List Int):Option (List Int × List Int):=none
theorem Fzf.mono:∀ a0 a1 k,LeO (Fzf.f k a0 a1) (Fzf.f (k+1) a0 a1):=fun _ _ _=>LeO.refl _
theorem Fzf.calls (k:Nat) (A0:Option Addr) (c0:Nat) (l0:List Int) (A1:Option Addr) (c1:Nat) (l1:List Int) (r1:List Int) (r2:List Int) (w:World) (hr0:Kd.C (Kd.int .i64) w A0 l0.length l0) (hc0:l0.length≤c0) (hr1:Kd.C (Kd.int .i64) w A1 l1.length l1) (hc1:l1.length≤c1) (h:Fzf.f k l0 l1=some (r1,r2)) :
  Calls Try.prog 100 #[.slice A0 l0.length c0,.slice A1 l1.length c1] w fun e w'=>∃ v0_ v1_:Value,e=.returned (.tuple #[v0_,v1_])∧Kd.R (Kd.int .i64) 3 w' w.heap.size (fun k_=>some k_≠(v1_:Value).ownBlock) v0_ r1∧Kd.R (Kd.int .i64) 3 w' w.heap.size (fun k_=>some k_≠(v0_:Value).ownBlock) v1_ r2∧Below w.heap.size w w':=by
 simp [Fzf.f] at h

def Ezm.f (k:Nat) (l0:List Int) (l1:List Int):Option (List Int × List Int):=(Dzp.f k l0 l1).bind fun t266=>(if t266 < 0 then((Gzw.f l0 (l0.length:Int)).bind fun t267=>((Czb.f k t267).bind fun t270=>(some (([]:List Int),t270)))) else(if(l1.length:Int)=1 then(if 0 < (l1.length:Int) then((Dzk.f k l0 (rd l1 0)).bind fun bt274=>(some (bt274.1,bt274.2))) else(none)) else((Fzf.f k l0 l1).bind fun bt280=>(some (bt280.1,bt280.2)))))
theorem Ezm.mono:∀ a0 a1 k,LeO (Ezm.f k a0 a1) (Ezm.f (k+1) a0 a1):=by
 intro a0 a1 k;unfold Ezm.f;with_reducible repeat' first|exact Dzp.mono _ _ _|exact Fzf.mono _ _ _|exact Dzk.mono _ _ _|exact Czb.mono _ _|exact LeO.refl _|exact LeO.none _|refine LeO.ite ?_ ?_|refine LeO.bind ?_ (fun _=>?_)
theorem Ezm.calls (k:Nat) (A0:Option Addr) (c0:Nat) (l0:List Int) (A1:Option Addr) (c1:Nat) (l1:List Int) (r1:List Int) (r2:List Int) (w:World) (hr0:Kd.C (Kd.int .i64) w A0 l0.length l0) (hc0:l0.length≤c0) (hr1:Kd.C (Kd.int .i64) w A1 l1.length l1) (hc1:l1.length≤c1) (h:Ezm.f k l0 l1=some (r1,r2)) :
  Calls Try.prog 91 #[.slice A0 l0.length c0,.slice A1 l1.length c1] w fun e w'=>∃ v0_ v1_:Value,e=.returned (.tuple #[v0_,v1_])∧Kd.R (Kd.int .i64) 3 w' w.heap.size (fun k_=>some k_≠(v1_:Value).ownBlock) v0_ r1∧Kd.R (Kd.int .i64) 3 w' w.heap.size (fun k_=>some k_≠(v0_:Value).ownBlock) v1_ r2∧Below w.heap.size w w':=by
 have HR0:=aM hr0;have HC0:=aM hc0;clear hr0 hc0;have HR1:=aM hr1;have HC1:=aM hc1;clear hr1 hc1;have HB:=aM (Below.refl w.heap.size w);have H:((Dzp.f k l0 l1).bind fun t266=>(if t266 < 0 then((Gzw.f l0 (l0.length:Int)).bind fun t267=>((Czb.f k t267).bind fun t270=>(some (([]:List Int),t270)))) else(if(l1.length:Int)=1 then(if 0 < (l1.length:Int) then((Dzk.f k l0 (rd l1 0)).bind fun bt274=>(some (bt274.1,bt274.2))) else(none)) else((Fzf.f k l0 l1).bind fun bt280=>(some (bt280.1,bt280.2))))))=some (r1,r2):=h
 clear h;replace H:=bS H;obtain⟨t266,A30,H⟩:=H;(try dsimp only at H);have A3:=aM A30;clear A30;by_cases c4:t266 < 0
 ·rw[if_pos c4] at H;have c4b0:decide (t266 < 0)=true:=dE c4;clear c4;replace H:=bS H;obtain⟨t267,A50,H⟩:=H;(try dsimp only at H);have A5:=aM A50;clear A50;replace H:=bS H;obtain⟨t270,A60,H⟩:=H;replace H:(some (([]:List Int),t270))=some (r1,r2):=H;have A6:=aM A60;clear A60;simp only[Option.some.injEq,Prod.mk.injEq] at H;obtain⟨rfl,rfl⟩:=H;go_enter Try.func91,Try.ntmps91
  go_wp2_with (first|((with_reducible refine gate_callee (f:=98) rfl ?_);refine goesL_ (some 9) rfl rfl Try.func98 (by kernel_rfl) rfl #[.slice A0 l0.length c0,.slice A1 l1.length c1] rfl mA ?_;(with_reducible refine(Dzp.calls k _ _ l0 _ _ l1 t266 _ ?side1 ?side2 ?side3 ?side4 A3.out).mono ?_);(case side1=>exact cX HR0.out);(case side2=>exact HC0.out);(case side3=>exact cX HR1.out);(case side4=>exact HC1.out);rintro e w' ⟨rfl,⟨nd,rfl⟩⟩;refine⟨_,rfl,?_⟩)|((with_reducible refine gate_callee (f:=93) rfl ?_);refine goesL_ (some 14) rfl rfl Try.func93 (by kernel_rfl) rfl #[.slice A0 l0.length c0,.int .i64 (l0.length:Int)] rfl mA ?_;(with_reducible refine(Gzw.calls _ _ l0 (l0.length:Int) t267 _ ?side1 ?side2 A5.out).mono ?_);(case side1=>exact cX HR0.out);(case side2=>exact HC0.out);rintro e w7 ⟨v268,rfl,ho0,hb⟩;refine⟨_,rfl,?_⟩;have HO269:=aM (Kd.R_lower ho0 (below_size pB));replace HB:=aM (below_step pB hb);(try clear hb);(try clear hb2);(try clear hk);(try clear hi);(try clear ho0);obtain⟨Ao8,co8,eo8⟩:=Kd.R_slice HO269.out;subst eo8)|((with_reducible refine gate_callee (f:=92) rfl ?_);refine goesL_ (some 15) rfl rfl Try.func92 (by kernel_rfl) rfl #[.slice Ao8 t267.length co8] rfl mA ?_;(with_reducible refine(Czb.calls k (fun k_=>some k_=(.slice Ao8 t267.length co8:Value).ownBlock) (.slice Ao8 t267.length co8) t267 t270 w _ ?side1 ?side2 A6.out).mono ?_);(case side1=>repeat(first|(with_reducible first|exact HB.out|apply below_alloc|apply pw_below_drewN|apply below_drew1)|exact HB.out));(case side2=>exact Kd.R_tight rfl HO269.out);rintro e w9 ⟨v271,rfl,ho0,hb,hkp⟩;refine⟨_,rfl,?_⟩;have HO272:=aM (Kd.R_mono (ok':=fun k_=>True) ho0 (fun k_ hk_=>trivial));replace HB:=aM (hb);clear HO269;(try clear hb);(try clear hkp);(try clear ho0)))
  go_ret2
  exact⟨_,_,eW,by first|exact Kd.R_nil _ _ _ _ _|exact Kd.N_nil _ _ _ _ _|exact Kd.V_nil _ _ _ _ _|exact Kd.Q_nil _ _ _ _ _|exact Kd.S_nil _ _ _ _ _,by(with_reducible repeat(first|apply Kd.R_alloc|apply Kd.R_drewN|apply Kd.R_drew));exact Kd.R_mono HO272.out (fun _ hk=>(by simp [Value.ownBlock])),pB⟩
 ·rw[if_neg c4] at H;have c4b0:decide (t266 < 0)=false:=decide_eq_false c4;clear c4;by_cases c10:(l1.length:Int)=1
  ·rw[if_pos c10] at H;have c10b0:((l1.length:Int) == 1)=true:=beq_iff_eq.mpr c10;have c10b1:((l1.length:Int) != 1)=false:=bne_eq_false_iff_eq.mpr c10;clear c10;by_cases c11:0 < (l1.length:Int)
   ·rw[if_pos c11] at H;have c11b0:decide (0 < (l1.length:Int))=true:=dE c11;have c11b1:decide (0 < l1.length)=true:=dE (by omega)
    clear c11;replace H:=bS H;obtain⟨⟨t274,t275⟩,A120,H⟩:=H;replace H:(some (t274,t275))=some (r1,r2):=H;have A12:=aM A120;clear A120;simp only[Option.some.injEq,Prod.mk.injEq] at H;obtain⟨rfl,rfl⟩:=H;go_enter Try.func91,Try.ntmps91
    go_wp2_with (first|((with_reducible refine gate_callee (f:=98) rfl ?_);refine goesL_ (some 9) rfl rfl Try.func98 (by kernel_rfl) rfl #[.slice A0 l0.length c0,.slice A1 l1.length c1] rfl mA ?_;(with_reducible refine(Dzp.calls k _ _ l0 _ _ l1 t266 _ ?side1 ?side2 ?side3 ?side4 A3.out).mono ?_);(case side1=>exact cX HR0.out);(case side2=>exact HC0.out);(case side3=>exact cX HR1.out);(case side4=>exact HC1.out);rintro e w' ⟨rfl,⟨nd,rfl⟩⟩;refine⟨_,rfl,?_⟩;have p273:0≤(0:Int):=(by omega);have q273:0 < (l1.length:Int):=oE aS;obtain⟨ad273,e273,hx273_0⟩:=Kd.at_int HR1.out 0 p273 q273;cases e273;have qi273:(0 < l1.length)=True:=eq_true (by omega);(try rw[show((0:Int)).toNat=0 from rfl] at hx273_0);(try rw[Addr.add_zero'] at hx273_0);replace p273:=eq_true p273;replace q273:=eq_true q273)|((with_reducible refine gate_callee (f:=99) rfl ?_);refine goesL_ (some 24) rfl rfl Try.func99 (by kernel_rfl) rfl #[.slice A0 l0.length c0,.int .i64 (rd l1 0)] rfl mA ?_;(with_reducible refine(Dzk.calls k _ _ l0 (rd l1 0) t274 t275 _ ?side1 ?side2 A12.out).mono ?_);(case side1=>exact cX HR0.out);(case side2=>exact HC0.out);rintro e w13 ⟨v276,v278,rfl,ho0,ho1,hb⟩;refine⟨_,rfl,?_⟩;have HO277:=aM (Kd.R_lower ho0 (below_size pB));have HO279:=aM (Kd.R_lower ho1 (below_size pB));replace HB:=aM (below_step pB hb);(try clear hb);(try clear hb2);(try clear hk);(try clear hi);(try clear ho0);(try clear ho1)))
    go_ret2
    exact⟨_,_,eW,rX HO277.out,rX HO279.out,pB⟩
   ·rw[if_neg c11] at H;exact absurd H (by simp)
  ·rw[if_neg c10] at H;have c10b0:((l1.length:Int) == 1)=false:=beq_eq_false_iff_ne.mpr c10;have c10b1:((l1.length:Int) != 1)=true:=bne_iff_ne.mpr c10;replace H:=bS H;obtain⟨⟨t280,t281⟩,A140,H⟩:=H;replace H:(some (t280,t281))=some (r1,r2):=H;have A14:=aM A140;clear A140;simp only[Option.some.injEq,Prod.mk.injEq] at H;obtain⟨rfl,rfl⟩:=H;go_enter Try.func91,Try.ntmps91
   go_wp2_with (first|((with_reducible refine gate_callee (f:=98) rfl ?_);refine goesL_ (some 9) rfl rfl Try.func98 (by kernel_rfl) rfl #[.slice A0 l0.length c0,.slice A1 l1.length c1] rfl mA ?_;(with_reducible refine(Dzp.calls k _ _ l0 _ _ l1 t266 _ ?side1 ?side2 ?side3 ?side4 A3.out).mono ?_);(case side1=>exact cX HR0.out);(case side2=>exact HC0.out);(case side3=>exact cX HR1.out);(case side4=>exact HC1.out);rintro e w' ⟨rfl,⟨nd,rfl⟩⟩;refine⟨_,rfl,?_⟩)|((with_reducible refine gate_callee (f:=100) rfl ?_);refine goesL_ (some 29) rfl rfl Try.func100 (by kernel_rfl) rfl #[.slice A0 l0.length c0,.slice A1 l1.length c1] rfl mA ?_;(with_reducible refine(Fzf.calls k _ _ l0 _ _ l1 t280 t281 _ ?side1 ?side2 ?side3 ?side4 A14.out).mono ?_);(case side1=>exact cX HR0.out);(case side2=>exact HC0.out);(case side3=>exact cX HR1.out);(case side4=>exact HC1.out);rintro e w15 ⟨v282,v284,rfl,ho0,ho1,hb⟩;refine⟨_,rfl,?_⟩;have HO283:=aM (Kd.R_lower ho0 (below_size pB));have HO285:=aM (Kd.R_lower ho1 (below_size pB));replace HB:=aM (below_step pB hb);(try clear hb);(try clear hb2);(try clear hk);(try clear hi);(try clear ho0);(try clear ho1)))
   go_ret2
   exact⟨_,_,eW,rX HO283.out,rX HO285.out,pB⟩

def Dzf.l0:Nat→List Int→Int→Int→Option (Int)
 | 0,_,_,_=>none
 | k+1,x0,x3,x4=>if x4≥0 then(if 0≤x4 then(if x4 < (x0.length:Int) then(Dzf.l0 k x0 (wrap64 ((wrap64 (x3 * 1000000000))+(rd x0 x4))) (wrap64 (x4 - 1))) else(none)) else(none)) else(some x3)
def Dzf.f (k:Nat) (l0:List Int):Option (Int):=Dzf.l0 k l0 0 (wrap64 ((l0.length:Int) - 1))
theorem Dzf.mono_l:∀ k,(∀ y0 y1 y2,LeO (Dzf.l0 k y0 y1 y2) (Dzf.l0 (k+1) y0 y1 y2))
 | 0=>fun _ _ _ r h=>by simp [Dzf.l0] at h
 | k+1=>by
  have ih0:=Dzf.mono_l k
  ·intro y0 y1 y2;unfold Dzf.l0;with_reducible repeat' first|exact ih0 _ _ _|exact LeO.refl _|exact LeO.none _|refine LeO.ite ?_ ?_|refine LeO.bind ?_ (fun _=>?_)
theorem Dzf.mono:∀ a0 k,LeO (Dzf.f k a0) (Dzf.f (k+1) a0):=by
 intro a0 k;have ih0:=Dzf.mono_l k;unfold Dzf.f;with_reducible repeat' first|exact ih0 _ _ _|exact LeO.refl _|exact LeO.none _|refine LeO.ite ?_ ?_|refine LeO.bind ?_ (fun _=>?_)
theorem Dzf.calls (k:Nat) (A0:Option Addr) (c0:Nat) (l0:List Int) (r:Int) (w:World) (hr0:Kd.C (Kd.int .i64) w A0 l0.length l0) (hc0:l0.length≤c0) (h:Dzf.f k l0=some r) :
  Calls Try.prog 94 #[.slice A0 l0.length c0] w fun e w'=>e=.returned (.int .i64 r)∧Drawn0 w w':=by
 have HR0:=aM hr0;have HC0:=aM hc0;clear hr0 hc0;have H:(Dzf.l0 k l0 0 (wrap64 ((l0.length:Int) - 1)))=some r:=h;clear h;have H':=aM H;clear H;go_enter Try.func94,Try.ntmps94
 go_wp2
 go_loopg [3,4] k (fun kq v3 v4 w'=>∃ (x3_1:Int) (x4_1:Int),v3=.int .i64 x3_1∧v4=.int .i64 x4_1∧Aside0 (Dzf.l0 kq l0 x3_1 x4_1=some r)∧Aside0 (kq≤k)∧Drawn0 w w')
 case atStart=>exact⟨(0),(wrap64 ((l0.length:Int) - 1)),sD,sD,H',⟨Nat.le_refl _⟩,by repeat(first|exact Drawn0.refl _|apply Drawn0.step)⟩
 case round =>
  clear H';obtain⟨x3_1,x4_1,rfl,rfl,HA,HK1,⟨m1,rfl⟩⟩:=hrel;cases gk with
  | zero=>exact absurd HA.out (by simp [Dzf.l0])
  | succ k1 =>
   have H:=HA.out;clear HA;simp only[Dzf.l0] at H;by_cases c2:x4_1≥0
   ·rw[if_pos c2] at H;have c2b0:decide (0≤x4_1)=true:=dE c2;clear c2;by_cases c3:0≤x4_1
    ·rw[if_pos c3] at H;have c3b0:decide (0≤x4_1)=true:=dE c3;clear c3;by_cases c4:x4_1 < (l0.length:Int)
     ·rw[if_pos c4] at H;have c4b0:decide (x4_1 < (l0.length:Int))=true:=dE c4;clear c4;have H':=aM H;clear H;have p286:0≤(x4_1:Int):=oE aS
      have q286:x4_1 < (l0.length:Int):=oE aS
      obtain⟨ad286,e286,hx286_0⟩:=Kd.at_int HR0.out x4_1 p286 q286;cases e286
      replace p286:=eq_true p286;replace q286:=eq_true q286;go_wp2
      go_roundg k1
      case measure=>have:=HK1.out;omega
      case rel=>exact⟨(wrap64 ((wrap64 (x3_1 * 1000000000))+(rd l0 x4_1))),(wrap64 (x4_1 - 1)),sD,sD,H',⟨by have:=HK1.out;omega⟩,by repeat(first|exact Drawn0.refl _|apply Drawn0.step)⟩
     ·rw[if_neg c4] at H;exact absurd H (by simp)
    ·rw[if_neg c3] at H;exact absurd H (by simp)
   ·rw[if_neg c2] at H;have c2b0:decide (0≤x4_1)=false:=decide_eq_false c2;clear c2;obtain rfl:=Option.some.inj H;go_wp2
    go_ret
    exact⟨by first|rfl|(simp;done)|(simp [*];done),by repeat(first|exact Drawn0.refl _|apply Drawn0.step)⟩

end Go.Proofs.Ytnklckihalhlmaa.Print
