import Derived.Test.YtpjcpgobdiahpaaPrint0
import Derived.Test.YtpjcpgobdiahpaaPrint16
namespace Go.Proofs.Ytpjcpgobdiahpaa.Print
open Go.RowKit Go.Proofs.YtpjcpgobdiahpaaW.PrintWords Go.Proofs.YtpjcpgobdiahpaaW.PrintLast Go.Proofs.YtpjcpgobdiahpaaW.PrintMore
attribute [local go_sem] max2_int min2_int max_two min_two max_three min_three max_four min_four
set_option linter.unusedVariables false
set_option maxRecDepth 100000
set_option maxHeartbeats 8000000
set_option linter.unusedSimpArgs false

def Czw.l0:Nat→List Int→Int→List Int→Int→Int→Option (List Int × List Int)
 | 0,_,_,_,_,_=>none
 | k+1,x0,x1,x6,x7,x8=>if x8≥0 then(if 0≤x8 then(if x8 < (x0.length:Int) then(if x1=0 then(none) else(if x8 < (x6.length:Int) then(Czw.l0 k x0 x1 (x6.set (x8:Int).toNat (wrap64 (Int.tdiv (wrap64 ((wrap64 (x7 * 1000000000))+(rd x0 x8))) x1))) (Int.tmod (wrap64 ((wrap64 (x7 * 1000000000))+(rd x0 x8))) x1) (wrap64 (x8 - 1))) else(none))) else(none)) else(none)) else((Bzw.f k x6).bind fun t331=>((Bzw.f k (([x7]:List Int))).bind fun t337=>(some (t331,t337))))
def Czw.f (k:Nat) (l0:List Int) (a1:Int):Option (List Int × List Int):=if 0≤(l0.length:Int) then(if((l0.length:Int):Int).toNat≤35184372088832 then(Czw.l0 k l0 a1 (List.replicate ((l0.length:Int):Int).toNat 0) 0 (wrap64 ((l0.length:Int) - 1))) else(none)) else(none)
theorem Czw.mono_l:∀ k,(∀ y0 y1 y2 y3 y4,LeO (Czw.l0 k y0 y1 y2 y3 y4) (Czw.l0 (k+1) y0 y1 y2 y3 y4))
 | 0=>fun _ _ _ _ _ r h=>by simp [Czw.l0] at h
 | k+1=>by
  have ih0:=Czw.mono_l k
  ·intro y0 y1 y2 y3 y4;unfold Czw.l0;with_reducible repeat' first|exact ih0 _ _ _ _ _|exact Bzw.mono _ _|exact LeO.refl _|exact LeO.none _|refine LeO.ite ?_ ?_|refine LeO.bind ?_ (fun _=>?_)
theorem Czw.mono:∀ a0 a1 k,LeO (Czw.f k a0 a1) (Czw.f (k+1) a0 a1):=by
 intro a0 a1 k;have ih0:=Czw.mono_l k;unfold Czw.f;with_reducible repeat' first|exact ih0 _ _ _ _ _|exact Bzw.mono _ _|exact LeO.refl _|exact LeO.none _|refine LeO.ite ?_ ?_|refine LeO.bind ?_ (fun _=>?_)
def Czw.T7:Bool × List (List Nat × List Nat):=(true,[([],[]),([],[]),([],[]),([],[]),([2,3],[2,3]),([],[]),([],[]),([5,6],[5,6]),([0,1,0,1,2,3,4],[0,1]),([8,4,0,1,2,3,4],[4,8]),([7,9,0,1,2,3,4,5,6,7,8,9],[7])])
def Czw.B7:List Nat:=[0,0,0,0,12,0,0,96,31,287,1023]
theorem Czw.tab7:rtab .any (opsOf Try.f110 7)=Czw.T7:=by kernel_rfl
theorem Czw.bits7:waitsOk Czw.T7.2 Czw.B7=true:=by kernel_rfl
theorem Czw.calls (k:Nat) (A0:Option Addr) (c0:Nat) (l0:List Int) (a1:Int) (r1:List Int) (r2:List Int) (w:World) (hr0:Kd.C (Kd.int .i64) w A0 l0.length l0) (hc0:l0.length≤c0) (h:Czw.f k l0 a1=some (r1,r2)) :
  Calls Try.prog 110 #[.slice A0 l0.length c0,.int .i64 a1] w fun e w'=>∃ v0_ v1_:Value,e=.returned (.tuple #[v0_,v1_])∧Kd.R (Kd.int .i64) 3 w' w.heap.size (fun k_=>some k_≠(v1_:Value).ownBlock) v0_ r1∧Kd.R (Kd.int .i64) 3 w' w.heap.size (fun k_=>some k_≠(v0_:Value).ownBlock) v1_ r2∧Below w.heap.size w w':=by
 have HR0:=aM hr0;have HC0:=aM hc0;clear hr0 hc0;have HB:=aM (Below.refl w.heap.size w);have H:(if 0≤(l0.length:Int) then(if((l0.length:Int):Int).toNat≤35184372088832 then(Czw.l0 k l0 a1 (List.replicate ((l0.length:Int):Int).toNat 0) 0 (wrap64 ((l0.length:Int) - 1))) else(none)) else(none))=some (r1,r2):=h
 clear h;by_cases c3:0≤(l0.length:Int)
 ·rw[if_pos c3] at H;have c3b0:=eq_true c3;have c3b1:decide (0≤(l0.length:Int))=true:=dE c3;clear c3;by_cases c4:((l0.length:Int):Int).toNat≤35184372088832
  ·rw[if_pos c4] at H;have c4b0:=eq_true c4;have c4b1:decide (((l0.length:Int):Int).toNat≤35184372088832)=true:=dE c4;clear c4;obtain⟨y326,hy326⟩:∃ y_:List Int,y_=(List.replicate ((l0.length:Int):Int).toNat 0):=⟨_,rfl⟩;replace H:(Czw.l0 k l0 a1 y326 0 (wrap64 ((l0.length:Int) - 1)))=some (r1,r2):=by first|(rw[hy326];with_reducible exact H)|(have H2_:=(Option.bind_some _ _).symm.trans H;rw[hy326];with_reducible exact H2_)|(have H2_:=(Option.bind_some _ _).symm.trans H;with_reducible exact H2_)|with_reducible exact H|(rw[hy326];exact H)|exact H
   have Ny326:=aM hy326;clear hy326;have H':=aM H;clear H;go_enter Try.func110,Try.ntmps110
   go_wp2_with (first|((with_reducible refine gate_dst (N:=12) rfl ?_);refine Kd.R_make (Kd.int .i64) _ 3 rfl (N:=12) rfl 22 _ _ rfl (l0.length:Int) rfl rfl Try.underlying22 (.int .i64 0) 8 info3 rfl (by decide) (by omega) 0 (ok:=fun _=>True) (okp:=fun _=>True) rfl (fun _ hk=>hk) trivial (oE aS) (Nat.le_trans (Nat.mul_le_mul_right _ (oE aS:(l0.length:Int).toNat≤35184372088832)) (by omega)) (Below.refl _ _) (Nat.le_refl _) ?_;intro v327 w5 ho6 hb hg_ hnew_;clear hg_ hnew_;(first|rw[← Ny326.out] at ho6|(simp only[Int.reduceToNat] at ho6;rw[← Ny326.out] at ho6));have HO328:=aM (Kd.R_lower ho6 (below_size pB));replace HB:=aM (below_step pB hb);clear hb ho6))
   go_loopg [7,8] k (fun kq v7 v8 w'=>∃ (x6_1:List Int) (x7_1:Int) (x8_1:Int),v7=.int .i64 x7_1∧v8=.int .i64 x8_1∧Aside0 (Czw.l0 kq l0 a1 x6_1 x7_1 x8_1=some (r1,r2))∧Aside0 (kq≤k)∧Aside0 (Kd.R (Kd.int .i64) 3 w' w.heap.size (fun _=>True) v327 x6_1)∧Aside0 (Below w.heap.size w w'))
   case atStart=>exact⟨(y326),(0),(wrap64 ((l0.length:Int) - 1)),sD,sD,H',⟨Nat.le_refl _⟩,⟨rX HO328.out⟩,⟨pB⟩⟩
   case round =>
    clear H';try clear c1
    try clear p2
    try clear c3
    try clear c3b0
    try clear c3b1
    try clear c4
    try clear c4b0
    try clear c4b1
    try clear p6
    obtain⟨x6_1,x7_1,x8_1,rfl,rfl,HA,HK1,HO_6,HB⟩:=hrel;cases gk with
    | zero=>exact absurd HA.out (by simp [Czw.l0])
    | succ k1 =>
     have H:=HA.out;clear HA;simp only[Czw.l0] at H;by_cases c7:x8_1≥0
     ·rw[if_pos c7] at H;have c7b0:decide (0≤x8_1)=true:=dE c7;clear c7;by_cases c8:0≤x8_1
      ·rw[if_pos c8] at H;have c8b0:decide (0≤x8_1)=true:=dE c8;clear c8;by_cases c9:x8_1 < (l0.length:Int)
       ·rw[if_pos c9] at H;have c9b0:decide (x8_1 < (l0.length:Int))=true:=dE c9;clear c9;by_cases c10:a1=0
        ·rw[if_pos c10] at H;exact absurd H (by simp)
        ·rw[if_neg c10] at H;have c10b0:(a1 == 0)=false:=beq_eq_false_iff_ne.mpr c10;have c10b1:(a1 != 0)=true:=bne_iff_ne.mpr c10;by_cases c11:x8_1 < (x6_1.length:Int)
         ·rw[if_pos c11] at H;have c11b0:decide (x8_1 < (x6_1.length:Int))=true:=dE c11;clear c11;obtain⟨y330,hy330⟩:∃ y_:List Int,y_=(x6_1.set (x8_1:Int).toNat (wrap64 (Int.tdiv (wrap64 ((wrap64 (x7_1 * 1000000000))+(rd l0 x8_1))) a1))):=⟨_,rfl⟩;replace H:(Czw.l0 k1 l0 a1 y330 (Int.tmod (wrap64 ((wrap64 (x7_1 * 1000000000))+(rd l0 x8_1))) a1) (wrap64 (x8_1 - 1)))=some (r1,r2):=by first|(rw[hy330];with_reducible exact H)|(have H2_:=(Option.bind_some _ _).symm.trans H;rw[hy330];with_reducible exact H2_)|(have H2_:=(Option.bind_some _ _).symm.trans H;with_reducible exact H2_)|with_reducible exact H|(rw[hy330];exact H)|exact H
          have Ny330:=aM hy330;clear hy330;have H':=aM H;clear H;have p329:0≤(x8_1:Int):=oE aS
          have q329:x8_1 < (l0.length:Int):=oE aS
          obtain⟨ad329,e329,hx329_0⟩:=Kd.at_int HR0.out x8_1 p329 q329;cases e329
          replace hx329_0:=(HB.out.cell (World.block_lt_of_cell? w _ hx329_0)).trans hx329_0;replace p329:=eq_true p329;replace q329:=eq_true q329;try go_wp2
          have n0_:=aM (Kd.R_drew HO_6.out);have n1_:=aM (below_drew1 HB.out);clear HO_6;clear HB;have HO_6:=n0_;have HB:=n1_;clear n0_ n1_;have p12:0≤(x8_1:Int):=oE aS
          have q12:(x8_1:Int) < ((x6_1.length:Int):Int):=oE aS
          obtain⟨go12,co12,eo12,gb12,gl12,cl12,HG12⟩:=Kd.R_form HO_6.out (by omega)
          (first|cases eo12|(injection eo12 with ea_ en_ ec_;(first|subst ea_|(injection ea_ with ea_;subst ea_));subst ec_;clear en_))
          have GB12:=aM gb12;have GG12:=aM HG12;clear gb12 gl12 HG12;obtain⟨hx12_0,hf12_0⟩:=Kd.R_celln 0 HO_6.out (x8_1:Int) p12 q12;replace p12:=eq_true p12;replace q12:=eq_true q12;have HP14:=Kd.R_putn HO_6.out (x8_1:Int) (wrap64 (Int.tdiv (wrap64 ((wrap64 (x7_1 * 1000000000))+(rd l0 x8_1))) a1));rw[← Ny330.out] at HP14;have HQ14:=aM HP14;clear HP14;refine start_ (n:=11) (S:=fun w'=>True) (ds:=[9]) #[false,false,false,false,false,false,false,false,false,false,false] (by kernel_rfl) rfl rfl trivial (fun hHeld=>?_);refine with_tabW Czw.tab7 Czw.bits7 (fun HT_ HW_=>?_)
          generalize wr.drew=w13 at HO_6 HB GG12 HQ14 hf12_0 hx12_0 hHeld ⊢;refine pU (i:=0) (N:=some 27) HT_ #[true,false,false,false,false,false,false,false,false,false,false] ?_;refine pU (i:=1) (N:=some 28) HT_ #[true,true,false,false,false,false,false,false,false,false,false] ?_;refine pU (i:=2) (N:=some 29) HT_ #[true,true,true,false,false,false,false,false,false,false,false] ?_;refine pU (i:=3) (N:=some 30) HT_ #[true,true,true,true,false,false,false,false,false,false,false] ?_;refine pU (i:=4) (N:=some 31) HT_ #[true,true,true,true,true,false,false,false,false,false,false] ?_;refine pU (i:=5) (N:=some 32) HT_ #[true,true,true,true,true,true,false,false,false,false,false] ?_;refine pU (i:=6) (N:=some 33) HT_ #[true,true,true,true,true,true,true,false,false,false,false] ?_;refine pU (i:=7) (N:=some 34) HT_ #[true,true,true,true,true,true,true,true,false,false,false] ?_;refine pU (i:=8) (N:=some 35) HT_ #[true,true,true,true,true,true,true,true,true,false,false] ?_;refine last_ (i:=9) (N:=none) #[true,true,true,true,true,true,true,true,true,true,false] rfl rfl (one_of HT_.out (by kernel_rfl)) (by decide) (fun K hK=>?_)
          refine skip_ (w1:=?_) (by rfl) rfl ?_ ?_
          rotate_left
          ·go_simp
           rfl
          refine hK.out _ _ ?_;clear hK K;refine pU (i:=10) (N:=some 7) HT_ #[true,true,true,true,true,true,true,true,true,true,true] ?_;refine done_ (done_of HT_.out (by kernel_rfl)) ?_
          try go_wp2
          go_roundg k1
          case measure=>have:=HK1.out;omega
          case rel=>exact⟨(y330),(Int.tmod (wrap64 ((wrap64 (x7_1 * 1000000000))+(rd l0 x8_1))) a1),(wrap64 (x8_1 - 1)),sD,sD,H',⟨by have:=HK1.out;omega⟩,⟨rX HQ14.out⟩,⟨pB⟩⟩
         ·rw[if_neg c11] at H;exact absurd H (by simp)
       ·rw[if_neg c9] at H;exact absurd H (by simp)
      ·rw[if_neg c8] at H;exact absurd H (by simp)
     ·rw[if_neg c7] at H;have c7b0:decide (0≤x8_1)=false:=decide_eq_false c7;clear c7;replace H:=bS H;obtain⟨t331,A150,H⟩:=H;(try dsimp only at H);have A15:=aM A150;clear A150;obtain⟨y334,hy334⟩:∃ y_:List Int,y_=(([x7_1]:List Int)):=⟨_,rfl⟩;replace H:((Bzw.f k1 y334).bind fun t337=>(some (t331,t337)))=some (r1,r2):=by first|(rw[hy334];with_reducible exact H)|(have H2_:=(Option.bind_some _ _).symm.trans H;rw[hy334];with_reducible exact H2_)|(have H2_:=(Option.bind_some _ _).symm.trans H;with_reducible exact H2_)|with_reducible exact H|(rw[hy334];exact H)|exact H
      have Ny334:=aM hy334;clear hy334;replace H:=bS H;obtain⟨t337,A160,H⟩:=H;replace H:(some (t331,t337))=some (r1,r2):=H;have A16:=aM A160;clear A160;simp only[Option.some.injEq,Prod.mk.injEq] at H;obtain⟨rfl,rfl⟩:=H;obtain⟨Ao17,co17,eo17⟩:=Kd.R_slice HO_6.out;subst eo17;go_wp2_with (first|((with_reducible refine gate_callee (f:=93) rfl ?_);refine goesL_ (some 37) rfl rfl Try.func93 (by kernel_rfl) rfl #[.slice Ao17 x6_1.length co17] rfl mA ?_;(with_reducible refine(Bzw.calls k1 (fun k_=>some k_=(.slice Ao17 x6_1.length co17:Value).ownBlock) (.slice Ao17 x6_1.length co17) x6_1 t331 w _ ?side1 ?side2 A15.out).mono ?_);(case side1=>repeat(first|(with_reducible first|exact HB.out|apply below_alloc|apply pw_below_drewN|apply below_drew1)|exact HB.out));(case side2=>exact Kd.R_tight rfl HO_6.out);rintro e w18 ⟨v332,rfl,ho0,hb,hkp⟩;refine⟨_,rfl,?_⟩;have HO333:=aM (Kd.R_mono (ok':=fun k_=>True) ho0 (fun k_ hk_=>trivial));replace HB:=aM (hb);clear HO_6;(try clear hb);(try clear hkp);(try clear ho0))|((with_reducible refine gate_dst (N:=39) rfl ?_);refine Kd.R_lit (Kd.int .i64) _ 3 ?hg (N:=39) ?hd (xs:=([x7_1]:List Int)) (inner:=[.int .i64 x7_1]) (ok:=fun _=>True) (okp:=fun _=>True) ?hr ?hp (fun _ hk=>hk) trivial (Below.refl _ _) (Nat.le_refl _) (by simp) ?_;(case hd=>rfl);(case hg=>rfl);(case hr=>first|(go_simp;done)|(go_simp;rfl));(case hp=>exact(Reps.one (show Kd.M (Kd.int .i64) _ _ _ x7_1 [.int .i64 x7_1] from rfl) (Reps.none _ _)));intro v335 w19 ho20 hb hg_ hnew_;clear hg_ hnew_;(first|rw[← Ny334.out] at ho20|(simp only[Int.reduceToNat] at ho20;rw[← Ny334.out] at ho20));have HO336:=aM (Kd.R_lower (Kd.R_new' ho20 (Kd.R_lt (rX HO333.out))) (below_size pB));replace HO333:=aM (Kd.R_elder' (rX HO333.out) (Kd.R_base ho20) hb);replace HB:=aM (below_step pB hb);clear hb ho20;obtain⟨Ao21,co21,eo21⟩:=Kd.R_slice HO336.out;subst eo21)|((with_reducible refine gate_callee (f:=93) rfl ?_);refine goesL_ (some 40) rfl rfl Try.func93 (by kernel_rfl) rfl #[.slice Ao21 y334.length co21] rfl mA ?_;(with_reducible refine(Bzw.calls k1 (fun k_=>some k_=(.slice Ao21 y334.length co21:Value).ownBlock) (.slice Ao21 y334.length co21) y334 t337 w _ ?side1 ?side2 A16.out).mono ?_);(case side1=>repeat(first|(with_reducible first|exact HB.out|apply below_alloc|apply pw_below_drewN|apply below_drew1)|exact HB.out));(case side2=>exact Kd.R_tight rfl HO336.out);rintro e w22 ⟨v338,rfl,ho0,hb,hkp⟩;refine⟨_,rfl,?_⟩;have HO339:=aM (Kd.R_mono (ok':=fun k_=>some k_≠(v332:Value).ownBlock) ho0 (fun k_ hk_=>Or.elim hk_ (fun hs_=>fun e_=>(((HO333.out).1 k_ e_.symm).2) hs_) (fun hn_=>(Kd.fresh' (Kd.R_lt (rX HO333.out)) k_ hn_))));replace HO333:=aM (Kd.R_mono (ok':=fun k_=>some k_≠(v338:Value).ownBlock) (Kd.R_keptB (HO333.out) hkp (fun k_ hk_ hs_=>(hk_.2) hs_)) (fun k_ hk_=>fun e_=>Or.elim (ho0.1 k_ e_.symm) (fun hs_=>hk_.2.1 hs_) (fun hn_=>Nat.not_le.2 hk_.2.2 hn_)));replace HB:=aM (hb);clear HO336;(try clear hb);(try clear hkp);(try clear ho0)))
      go_ret2
      exact⟨_,_,eW,rX HO333.out,rX HO339.out,pB⟩
  ·rw[if_neg c4] at H;exact absurd H (by simp)
 ·rw[if_neg c3] at H;exact absurd H (by simp)


def Czx.l0:Nat→List Int→Int→List Int→Int→Int→Int→Option (List Int)
 | 0,_,_,_,_,_,_=>none
 | k+1,x0,x1,x5,x6,x14,x15=>if x15 < x14 then(if 0≤x15 then(if x15 < (x0.length:Int) then(if x15 < (x5.length:Int) then(Czx.l0 k x0 x1 (x5.set (x15:Int).toNat (Int.tmod (wrap64 ((wrap64 ((rd x0 x15) * x1))+x6)) 1000000000)) (wrap64 (Int.tdiv (wrap64 ((wrap64 ((rd x0 x15) * x1))+x6)) 1000000000)) x14 (wrap64 (x15+1))) else(none)) else(none)) else(none)) else(if 0≤(x0.length:Int) then(if(x0.length:Int) < (x5.length:Int) then(some (x5.set ((x0.length:Int):Int).toNat x6)) else(none)) else(none))
def Czx.f (k:Nat) (l0:List Int) (a1:Int):Option (List Int):=if 0≤(wrap64 ((l0.length:Int)+1)) then(if(wrap64 ((l0.length:Int)+1):Int).toNat≤35184372088832 then(Czx.l0 k l0 a1 (List.replicate (wrap64 ((l0.length:Int)+1):Int).toNat 0) 0 (l0.length:Int) 0) else(none)) else(none)
theorem Czx.mono_l:∀ k,(∀ y0 y1 y2 y3 y4 y5,LeO (Czx.l0 k y0 y1 y2 y3 y4 y5) (Czx.l0 (k+1) y0 y1 y2 y3 y4 y5))
 | 0=>fun _ _ _ _ _ _ r h=>by simp [Czx.l0] at h
 | k+1=>by
  have ih0:=Czx.mono_l k
  ·intro y0 y1 y2 y3 y4 y5;unfold Czx.l0;with_reducible repeat' first|exact ih0 _ _ _ _ _ _|exact LeO.refl _|exact LeO.none _|refine LeO.ite ?_ ?_|refine LeO.bind ?_ (fun _=>?_)
theorem Czx.mono:∀ a0 a1 k,LeO (Czx.f k a0 a1) (Czx.f (k+1) a0 a1):=by
 intro a0 a1 k;have ih0:=Czx.mono_l k;unfold Czx.f;with_reducible repeat' first|exact ih0 _ _ _ _ _ _|exact LeO.refl _|exact LeO.none _|refine LeO.ite ?_ ?_|refine LeO.bind ?_ (fun _=>?_)
theorem Czx.calls (k:Nat) (A0:Option Addr) (c0:Nat) (l0:List Int) (a1:Int) (r:List Int) (w:World) (hr0:Kd.C (Kd.int .i64) w A0 l0.length l0) (hc0:l0.length≤c0) (h:Czx.f k l0 a1=some r) :
  Calls Try.prog 113 #[.slice A0 l0.length c0,.int .i64 a1] w fun e w'=>∃ v0_:Value,e=.returned (v0_)∧Kd.R (Kd.int .i64) 3 w' w.heap.size (fun _=>True) v0_ r∧Below w.heap.size w w':=by
 have HR0:=aM hr0;have HC0:=aM hc0;clear hr0 hc0;have HB:=aM (Below.refl w.heap.size w);have H:(if 0≤(wrap64 ((l0.length:Int)+1)) then(if(wrap64 ((l0.length:Int)+1):Int).toNat≤35184372088832 then(Czx.l0 k l0 a1 (List.replicate (wrap64 ((l0.length:Int)+1):Int).toNat 0) 0 (l0.length:Int) 0) else(none)) else(none))=some r:=h
 clear h;obtain⟨ji3,hji3⟩:∃ j_:Int,(wrap64 ((l0.length:Int)+1))=j_:=⟨_,rfl⟩;replace H:(if 0≤(ji3) then(if(ji3:Int).toNat≤35184372088832 then(Czx.l0 k l0 a1 (List.replicate (ji3:Int).toNat 0) 0 (l0.length:Int) 0) else(none)) else(none))=some r:=by first|(rw[hji3] at H;exact H)|(simp only[hji3] at H ⊢;exact H)
 have hji3w:(IntKind.i64.wrap ((l0.length:Int)+1))=ji3:=(i64_w _).trans hji3;by_cases c4:0≤(ji3)
 ·rw[if_pos c4] at H;have c4b0:=eq_true c4;have c4b1:decide (0≤(ji3))=true:=dE c4;clear c4;by_cases c5:(ji3:Int).toNat≤35184372088832
  ·rw[if_pos c5] at H;have c5b0:=eq_true c5;have c5b1:decide ((ji3:Int).toNat≤35184372088832)=true:=dE c5;clear c5;obtain⟨y340,hy340⟩:∃ y_:List Int,y_=(List.replicate (ji3:Int).toNat 0):=⟨_,rfl⟩;replace H:(Czx.l0 k l0 a1 y340 0 (l0.length:Int) 0)=some r:=by first|(rw[hy340];with_reducible exact H)|(have H2_:=(Option.bind_some _ _).symm.trans H;rw[hy340];with_reducible exact H2_)|(have H2_:=(Option.bind_some _ _).symm.trans H;with_reducible exact H2_)|with_reducible exact H|(rw[hy340];exact H)|exact H
   have Ny340:=aM hy340;clear hy340;have H':=aM H;clear H;go_enter Try.func113,Try.ntmps113
   go_wp2_with (first|((with_reducible refine gate_dst (N:=12) rfl ?_);refine Kd.R_make (Kd.int .i64) _ 3 rfl (N:=12) rfl 22 _ _ rfl ji3 rfl rfl Try.underlying22 (.int .i64 0) 8 info3 rfl (by decide) (by omega) 0 (ok:=fun _=>True) (okp:=fun _=>True) rfl (fun _ hk=>hk) trivial (oE aS) (Nat.le_trans (Nat.mul_le_mul_right _ (oE aS:ji3.toNat≤35184372088832)) (by omega)) (Below.refl _ _) (Nat.le_refl _) ?_;intro v341 w6 ho7 hb hg_ hnew_;clear hg_ hnew_;(first|rw[← Ny340.out] at ho7|(simp only[Int.reduceToNat] at ho7;rw[← Ny340.out] at ho7));have HO342:=aM (Kd.R_lower ho7 (below_size pB));replace HB:=aM (below_step pB hb);clear hb ho7))
   go_loopg [6,15] k (fun kq v6 v15 w'=>∃ (x5_1:List Int) (x6_1:Int) (x15_1:Int),v6=.int .i64 x6_1∧v15=.int .i64 x15_1∧Aside0 (Czx.l0 kq l0 a1 x5_1 x6_1 (l0.length:Int) x15_1=some r)∧Aside0 (kq≤k)∧Aside0 (Kd.R (Kd.int .i64) 3 w' w.heap.size (fun _=>True) v341 x5_1)∧Aside0 (Below w.heap.size w w'))
   case atStart=>exact⟨(y340),(0),(0),sD,sD,H',⟨Nat.le_refl _⟩,⟨rX HO342.out⟩,⟨pB⟩⟩
   case round =>
    clear H';try clear c1
    try clear p2
    try clear c4
    try clear c4b0
    try clear c4b1
    try clear c5
    try clear c5b0
    try clear c5b1
    try clear p6
    obtain⟨x5_1,x6_1,x15_1,rfl,rfl,HA,HK1,HO_5,HB⟩:=hrel;cases gk with
    | zero=>exact absurd HA.out (by simp [Czx.l0])
    | succ k1 =>
     have H:=HA.out;clear HA;simp only[Czx.l0] at H;by_cases c8:x15_1 < (l0.length:Int)
     ·rw[if_pos c8] at H;have c8b0:decide (x15_1 < (l0.length:Int))=true:=dE c8;clear c8;by_cases c9:0≤x15_1
      ·rw[if_pos c9] at H;have c9b0:decide (0≤x15_1)=true:=dE c9;clear c9;by_cases c10:x15_1 < (l0.length:Int)
       ·rw[if_pos c10] at H;have c10b0:decide (x15_1 < (l0.length:Int))=true:=dE c10;clear c10;by_cases c11:x15_1 < (x5_1.length:Int)
        ·rw[if_pos c11] at H;have c11b0:decide (x15_1 < (x5_1.length:Int))=true:=dE c11;clear c11;obtain⟨y344,hy344⟩:∃ y_:List Int,y_=(x5_1.set (x15_1:Int).toNat (Int.tmod (wrap64 ((wrap64 ((rd l0 x15_1) * a1))+x6_1)) 1000000000)):=⟨_,rfl⟩;replace H:(Czx.l0 k1 l0 a1 y344 (wrap64 (Int.tdiv (wrap64 ((wrap64 ((rd l0 x15_1) * a1))+x6_1)) 1000000000)) (l0.length:Int) (wrap64 (x15_1+1)))=some r:=by first|(rw[hy344];with_reducible exact H)|(have H2_:=(Option.bind_some _ _).symm.trans H;rw[hy344];with_reducible exact H2_)|(have H2_:=(Option.bind_some _ _).symm.trans H;with_reducible exact H2_)|with_reducible exact H|(rw[hy344];exact H)|exact H
         have Ny344:=aM hy344;clear hy344;have H':=aM H;clear H;have p343:0≤(x15_1:Int):=oE aS
         have q343:x15_1 < (l0.length:Int):=oE aS
         obtain⟨ad343,e343,hx343_0⟩:=Kd.at_int HR0.out x15_1 p343 q343;cases e343
         replace hx343_0:=(HB.out.cell (World.block_lt_of_cell? w _ hx343_0)).trans hx343_0;replace p343:=eq_true p343;replace q343:=eq_true q343;have p12:0≤(x15_1:Int):=oE aS
         have q12:(x15_1:Int) < ((x5_1.length:Int):Int):=oE aS
         obtain⟨go12,co12,eo12,gb12,gl12,cl12,HG12⟩:=Kd.R_form HO_5.out (by omega)
         (first|cases eo12|(injection eo12 with ea_ en_ ec_;(first|subst ea_|(injection ea_ with ea_;subst ea_));subst ec_;clear en_))
         have GB12:=aM gb12;have GG12:=aM HG12;clear gb12 gl12 HG12;obtain⟨hx12_0,hf12_0⟩:=Kd.R_celln 0 HO_5.out (x15_1:Int) p12 q12;replace p12:=eq_true p12;replace q12:=eq_true q12;have HP13:=Kd.R_putg HO_5.out (x15_1:Int) (Int.tmod (wrap64 ((wrap64 ((rd l0 x15_1) * a1))+x6_1)) 1000000000);go_wp2_with (first|((with_reducible refine gate_store (t:=3) (p:=32) rfl ?_);refine store_event (t:=3) (p:=32) (v:=?vo_w14) (w1:=(wr.setCell ⟨go12,(x15_1:Int).toNat,none⟩ (.int .i64 (Int.tmod (wrap64 ((wrap64 ((rd l0 x15_1) * a1))+x6_1)) 1000000000)))) ?hg ?ho ?hn ?hr ?_;(case ho=>rfl);(case hg=>rfl);(case hn=>rfl);(case hr=>first|(go_simp;done)|(go_simp;rfl));intro w14 hw;have hg:wr.grownBy w14 (some go12):=(by rw[hw];exact HP13.2);have hp_:Kd.R (Kd.int .i64) 3 w14 w.heap.size (fun _=>True) (.slice (some ⟨go12,0,none⟩) x5_1.length co12) y344:=(by rw[hw,Ny344.out];exact HP13.1);clear HP13;replace HO_5:=aM (hp_);replace HB:=aM ((by rw[hw];exact below_set (HB.out) GB12.out:Below w.heap.size w w14));clear hg hw hp_))
         go_roundg k1
         case measure=>have:=HK1.out;omega
         case rel=>exact⟨(y344),(wrap64 (Int.tdiv (wrap64 ((wrap64 ((rd l0 x15_1) * a1))+x6_1)) 1000000000)),(wrap64 (x15_1+1)),sD,sD,H',⟨by have:=HK1.out;omega⟩,⟨rX HO_5.out⟩,⟨pB⟩⟩
        ·rw[if_neg c11] at H;exact absurd H (by simp)
       ·rw[if_neg c10] at H;exact absurd H (by simp)
      ·rw[if_neg c9] at H;exact absurd H (by simp)
     ·rw[if_neg c8] at H;have c8b0:decide (x15_1 < (l0.length:Int))=false:=decide_eq_false c8;clear c8;by_cases c15:0≤(l0.length:Int)
      ·rw[if_pos c15] at H;have c15b0:decide (0≤(l0.length:Int))=true:=dE c15;have c15b1:decide (0≤l0.length)=true:=dE (by omega)
       clear c15;by_cases c16:(l0.length:Int) < (x5_1.length:Int)
       ·rw[if_pos c16] at H;have c16b0:decide ((l0.length:Int) < (x5_1.length:Int))=true:=dE c16;have c16b1:decide (l0.length < x5_1.length)=true:=dE (Int.ofNat_lt.mp c16);clear c16;obtain⟨y345,hy345⟩:∃ y_:List Int,y_=(x5_1.set ((l0.length:Int):Int).toNat x6_1):=⟨_,rfl⟩;replace H:(some y345)=some r:=by first|(rw[hy345];with_reducible exact H)|(have H2_:=(Option.bind_some _ _).symm.trans H;rw[hy345];with_reducible exact H2_)|(have H2_:=(Option.bind_some _ _).symm.trans H;with_reducible exact H2_)|with_reducible exact H|(rw[hy345];exact H)|exact H
        have Ny345:=aM hy345;clear hy345;obtain rfl:=Option.some.inj H;have p17:0≤((l0.length:Int):Int):=oE aS
        have q17:((l0.length:Int):Int) < ((x5_1.length:Int):Int):=oE aS
        obtain⟨go17,co17,eo17,gb17,gl17,cl17,HG17⟩:=Kd.R_form HO_5.out (by omega)
        (first|cases eo17|(injection eo17 with ea_ en_ ec_;(first|subst ea_|(injection ea_ with ea_;subst ea_));subst ec_;clear en_))
        have GB17:=aM gb17;have GG17:=aM HG17;clear gb17 gl17 HG17;obtain⟨hx17_0,hf17_0⟩:=Kd.R_celln 0 HO_5.out ((l0.length:Int):Int) p17 q17;(try simp only[Int.toNat_natCast] at hx17_0)
        (try simp only[Int.toNat_natCast] at hf17_0)
        replace p17:=eq_true p17;replace q17:=eq_true q17;have HP18:=Kd.R_putg HO_5.out ((l0.length:Int):Int) x6_1;go_wp2_with (first|((with_reducible refine gate_store (t:=3) (p:=38) rfl ?_);refine store_event (t:=3) (p:=38) (v:=?vo_w19) (w1:=(wr.setCell ⟨go17,((l0.length:Int):Int).toNat,none⟩ (.int .i64 x6_1))) ?hg ?ho ?hn ?hr ?_;(case ho=>rfl);(case hg=>rfl);(case hn=>rfl);(case hr=>first|(go_simp;done)|(go_simp;rfl));intro w19 hw;have hg:wr.grownBy w19 (some go17):=(by rw[hw];exact HP18.2);have hp_:Kd.R (Kd.int .i64) 3 w19 w.heap.size (fun _=>True) (.slice (some ⟨go17,0,none⟩) x5_1.length co17) y345:=(by rw[hw,Ny345.out];exact HP18.1);clear HP18;replace HO_5:=aM (hp_);replace HB:=aM ((by rw[hw];exact below_set (HB.out) GB17.out:Below w.heap.size w w19));clear hg hw hp_))
        go_ret
        exact⟨_,by first|rfl|(simp [errW_none,errW_some] <;> rfl)|(simp only[← hji3];first|rfl|(simp [errW_none,errW_some] <;> rfl))|(simp [*,errW_none,errW_some] <;> rfl),rX HO_5.out,pB⟩
       ·rw[if_neg c16] at H;exact absurd H (by simp)
      ·rw[if_neg c15] at H;exact absurd H (by simp)
  ·rw[if_neg c5] at H;exact absurd H (by simp)
 ·rw[if_neg c4] at H;exact absurd H (by simp)

end Go.Proofs.Ytpjcpgobdiahpaa.Print
