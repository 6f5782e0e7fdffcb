import Derived.Test.YtpnfdhhfdidlmaaPrint0
import Derived.Test.YtpnfdhhfdidlmaaPrint8
import Derived.Test.YtpnfdhhfdidlmaaPrint11
import Derived.Test.YtpnfdhhfdidlmaaPrint13
namespace Go.Proofs.Ytpnfdhhfdidlmaa.Print
open Go.RowKit Go.Proofs.YtpnfdhhfdidlmaaW.PrintWords Go.Proofs.YtpnfdhhfdidlmaaW.PrintLast Go.Proofs.YtpnfdhhfdidlmaaW.PrintMore
attribute [local go_sem] max2_int min2_int max_two min_two max_three min_three max_four min_four
set_option linter.unusedVariables false
set_option maxRecDepth 100000
set_option maxHeartbeats 8000000
set_option linter.unusedSimpArgs false

mutual
def Bzp.l0:Nat→Int→Int→List Int→List Int→Int→List Int→Int→Int→List Int→Option (List Int × Int)
 | 0,_,_,_,_,_,_,_,_,_=>none
 | k+1,x0,x6,x8,x10,x11,x35,x36,x37,x205000=>if x37 < x36 then(if 0≤x37 then(if x37 < (x35.length:Int) then((Dzf.f x0 (rd x35 x37) x6).bind fun bt206=>(if x37 < (x8.length:Int) then((some (x8.set (x37:Int).toNat bt206.1:List Int)).bind fun y208=>(if x37 < (x205000.length:Int) then(if x37 < (x10.length:Int) then(Bzp.l0 k x0 x6 y208 (x10.set (x37:Int).toNat x37) (wrap64 (x11 - (rd y208 x37))) x35 x36 (wrap64 (x37+1)) (x205000.set (x37:Int).toNat bt206.2)) else(none)) else(none))) else(none))) else(none)) else(none)) else((Czj.f k x10 [x205000]).bind fun t212=>(if 0≤x11 then(if x11≤(x10.length:Int) then((some (t212.take (x11:Int).toNat:List Int)).bind fun y213=>(Bzp.l1 k x8 y213 (y213.length:Int) 0)) else(none)) else(none)))
def Bzp.l1:Nat→List Int→List Int→Int→Int→Option (List Int × Int)
 | 0,_,_,_,_=>none
 | k+1,x8,x71,x72,x73=>if x73 < x72 then(if 0≤x73 then(if x73 < (x71.length:Int) then(if 0≤(rd x71 x73) then(if(rd x71 x73) < (x8.length:Int) then(Bzp.l1 k (x8.set ((rd x71 x73):Int).toNat (wrap64 ((rd x8 (rd x71 x73))+1))) x71 x72 (wrap64 (x73+1))) else(none)) else(none)) else(none)) else(none)) else(some (x8,0))
end
def Bzp.f (k:Nat) (a0:Int) (l1:List Int):Option (List Int × Int):=(Czf.f k a0 l1).bind fun bt193=>(if bt193.2=0 then(if 0≤(l1.length:Int) then(if((l1.length:Int):Int).toNat≤35184372088832 then(Bzp.l0 k a0 bt193.1 (List.replicate ((l1.length:Int):Int).toNat 0) (List.replicate ((l1.length:Int):Int).toNat 0) a0 l1 (l1.length:Int) 0 (List.replicate ((l1.length:Int):Int).toNat 0)) else(none)) else(none)) else(some (([]:List Int),bt193.2)))
theorem Bzp.mono_l:∀ k,(∀ y0 y1 y2 y3 y4 y5 y6 y7 y8,LeO (Bzp.l0 k y0 y1 y2 y3 y4 y5 y6 y7 y8) (Bzp.l0 (k+1) y0 y1 y2 y3 y4 y5 y6 y7 y8))∧(∀ y0 y1 y2 y3,LeO (Bzp.l1 k y0 y1 y2 y3) (Bzp.l1 (k+1) y0 y1 y2 y3))
 | 0=>⟨fun _ _ _ _ _ _ _ _ _ r h=>by simp [Bzp.l0] at h,fun _ _ _ _ r h=>by simp [Bzp.l1] at h⟩
 | k+1=>by
  obtain⟨ih0,ih1⟩:=Bzp.mono_l k;refine⟨?_,?_⟩
  ·intro y0 y1 y2 y3 y4 y5 y6 y7 y8;unfold Bzp.l0;with_reducible repeat' first|exact ih0 _ _ _ _ _ _ _ _ _|exact ih1 _ _ _ _|exact Czf.mono _ _ _|exact Czj.mono _ _ _|exact LeO.refl _|exact LeO.none _|refine LeO.ite ?_ ?_|refine LeO.bind ?_ (fun _=>?_)
  ·intro y0 y1 y2 y3;unfold Bzp.l1;with_reducible repeat' first|exact ih0 _ _ _ _ _ _ _ _ _|exact ih1 _ _ _ _|exact Czf.mono _ _ _|exact Czj.mono _ _ _|exact LeO.refl _|exact LeO.none _|refine LeO.ite ?_ ?_|refine LeO.bind ?_ (fun _=>?_)
theorem Bzp.mono:∀ a0 a1 k,LeO (Bzp.f k a0 a1) (Bzp.f (k+1) a0 a1):=by
 intro a0 a1 k;obtain⟨ih0,ih1⟩:=Bzp.mono_l k;unfold Bzp.f;with_reducible repeat' first|exact ih0 _ _ _ _ _ _ _ _ _|exact ih1 _ _ _ _|exact Czf.mono _ _ _|exact Czj.mono _ _ _|exact LeO.refl _|exact LeO.none _|refine LeO.ite ?_ ?_|refine LeO.bind ?_ (fun _=>?_)
def Bzp.T4:Bool × List (List Nat × List Nat):=(true,[([],[]),([0],[0]),([1,1],[1]),([],[]),([3],[3]),([4,4],[4]),([],[]),([6],[6]),([7,7],[7]),([],[]),([2,0,1,2,9],[2]),([9,5,10,0,1,2,3,4,5,9,10],[5,9]),([8,11,0,1,2,3,4,5,6,7,8,9,10,11],[8])])
def Bzp.B4:List Nat:=[0,1,3,0,8,24,0,64,192,0,519,1599,4095]
theorem Bzp.tab4:rtab .any (opsOf Try.f33 4)=Bzp.T4:=by kernel_rfl
theorem Bzp.bits4:waitsOk Bzp.T4.2 Bzp.B4=true:=by kernel_rfl
def Bzp.T9:Bool × List (List Nat × List Nat):=(true,[([],[]),([],[]),([],[]),([],[]),([],[]),([],[]),([],[]),([4,5,6],[4,5,6]),([7],[7]),([8],[8]),([8],[8]),([0,1,0,1,4,5,6,7,8,9],[0,1]),([11,9,7,0,1,4,5,6,7,8,9],[9,11]),([2,3,0,1,2,3,4,5,6,7,8,9,10,11,12],[2,3]),([13,10,12,0,1,2,3,4,5,6,7,8,9,10,11,12],[10,13])])
def Bzp.B9:List Nat:=[0,0,0,0,0,0,0,112,240,496,496,1011,3059,8191,16383]
theorem Bzp.tab9:rtab .any (opsOf Try.f33 9)=Bzp.T9:=by kernel_rfl
theorem Bzp.bits9:waitsOk Bzp.T9.2 Bzp.B9=true:=by kernel_rfl
theorem Bzp.calls (k:Nat) (a0:Int) (A1:Option Addr) (c1:Nat) (l1:List Int) (r1:List Int) (r2:Int) (w:World) (hr1:Kd.C (Kd.int .i64) w A1 l1.length l1) (hc1:l1.length≤c1) (h:Bzp.f k a0 l1=some (r1,r2)) :
  Calls Try.prog 33 #[.int .i64 a0,.slice A1 l1.length c1] w fun e w'=>∃ v0_:Value,e=.returned (.tuple #[v0_,.int .i64 r2])∧Kd.R (Kd.int .i64) 3 w' w.heap.size (fun _=>True) v0_ r1∧Below w.heap.size w w':=by
 have HR1:=aM hr1;have HC1:=aM hc1;clear hr1 hc1;have HB:=aM (Below.refl w.heap.size w);have H:((Czf.f k a0 l1).bind fun bt193=>(if bt193.2=0 then(if 0≤(l1.length:Int) then(if((l1.length:Int):Int).toNat≤35184372088832 then(Bzp.l0 k a0 bt193.1 (List.replicate ((l1.length:Int):Int).toNat 0) (List.replicate ((l1.length:Int):Int).toNat 0) a0 l1 (l1.length:Int) 0 (List.replicate ((l1.length:Int):Int).toNat 0)) else(none)) else(none)) else(some (([]:List Int),bt193.2))))=some (r1,r2):=h
 clear h;replace H:=bS H;obtain⟨⟨t193,t194⟩,A30,H⟩:=H;(try dsimp only at H);have A3:=aM A30;clear A30;by_cases c4:t194=0
 ·rw[if_pos c4] at H;have c4b0:(t194 == 0)=true:=beq_iff_eq.mpr c4;have c4b1:(t194 != 0)=false:=bne_eq_false_iff_eq.mpr c4;clear c4;by_cases c5:0≤(l1.length:Int)
  ·rw[if_pos c5] at H;have c5b0:=eq_true c5;have c5b1:decide (0≤(l1.length:Int))=true:=dE c5;clear c5;by_cases c6:((l1.length:Int):Int).toNat≤35184372088832
   ·rw[if_pos c6] at H;have c6b0:=eq_true c6;have c6b1:decide (((l1.length:Int):Int).toNat≤35184372088832)=true:=dE c6;clear c6;obtain⟨y195,hy195⟩:∃ y_:List Int,y_=(List.replicate ((l1.length:Int):Int).toNat 0):=⟨_,rfl⟩;replace H:(Bzp.l0 k a0 t193 y195 (List.replicate ((l1.length:Int):Int).toNat 0) a0 l1 (l1.length:Int) 0 (List.replicate ((l1.length:Int):Int).toNat 0))=some (r1,r2):=by first|(rw[hy195];with_reducible exact H)|(have H2_:=(Option.bind_some _ _).symm.trans H;rw[hy195];with_reducible exact H2_)|(have H2_:=(Option.bind_some _ _).symm.trans H;with_reducible exact H2_)|with_reducible exact H|(rw[hy195];exact H)|exact H
    have Ny195:=aM hy195;clear hy195;obtain⟨y198,hy198⟩:∃ y_:List Int,y_=(List.replicate ((l1.length:Int):Int).toNat 0):=⟨_,rfl⟩;replace H:(Bzp.l0 k a0 t193 y195 (List.replicate ((l1.length:Int):Int).toNat 0) a0 l1 (l1.length:Int) 0 y198)=some (r1,r2):=by first|(rw[hy198];with_reducible exact H)|(have H2_:=(Option.bind_some _ _).symm.trans H;rw[hy198];with_reducible exact H2_)|(have H2_:=(Option.bind_some _ _).symm.trans H;with_reducible exact H2_)|with_reducible exact H|(rw[hy198];exact H)|exact H
    have Ny198:=aM hy198;clear hy198;obtain⟨y201,hy201⟩:∃ y_:List Int,y_=(List.replicate ((l1.length:Int):Int).toNat 0):=⟨_,rfl⟩;replace H:(Bzp.l0 k a0 t193 y195 y201 a0 l1 (l1.length:Int) 0 y198)=some (r1,r2):=by first|(rw[hy201];with_reducible exact H)|(have H2_:=(Option.bind_some _ _).symm.trans H;rw[hy201];with_reducible exact H2_)|(have H2_:=(Option.bind_some _ _).symm.trans H;with_reducible exact H2_)|with_reducible exact H|(rw[hy201];exact H)|exact H
    have Ny201:=aM hy201;clear hy201;have H':=aM H;clear H;have hmf_:∀ (fn:Fn) (first cap:Array Value) (w:World),(Instr.makeFunc fn first cap).run Try.prog w=.ok (.func fn first cap) w:=fun _ _ _ _=>rfl
    go_enter Try.func33,Try.ntmps33
    try go_wp2_with (first|((with_reducible refine gate_callee (f:=38) rfl ?_);refine goesL_ (some 19) rfl rfl Try.func38 (by kernel_rfl) rfl #[.int .i64 a0,.slice A1 l1.length c1] rfl mA ?_;(with_reducible refine(Czf.calls k a0 _ _ l1 t193 t194 _ ?side1 ?side2 A3.out).mono ?_);(case side1=>exact cX HR1.out);(case side2=>exact HC1.out);rintro e w7 ⟨rfl,hb⟩;refine⟨_,rfl,?_⟩;replace HB:=aM (below_step pB hb);(try clear hb);(try clear hb2);(try clear hk);(try clear hi)))
    have n0_:=aM (below_drew1 HB.out);clear HB;have HB:=n0_;clear n0_;refine start_ (n:=13) (S:=fun w'=>True) (ds:=[]) #[false,false,false,false,false,false,false,false,false,false,false,false,false] (by kernel_rfl) rfl rfl trivial (fun hHeld=>?_);refine with_tabW Bzp.tab4 Bzp.bits4 (fun HT_ HW_=>?_)
    generalize w7.drew=w8 at HB hHeld ⊢;refine pU (i:=0) (N:=some 25) HT_ #[true,false,false,false,false,false,false,false,false,false,false,false,false] ?_;refine pU (i:=3) (N:=some 28) HT_ #[true,false,false,true,false,false,false,false,false,false,false,false,false] ?_;refine pU (i:=6) (N:=some 31) HT_ #[true,false,false,true,false,false,true,false,false,false,false,false,false] ?_;refine inv_at [1,2,4,5,7,8,9,10,11,12] (fun a0_ b a w'=>∃ (v196:Value) (v199:Value) (v202:Value) (gb204:Nat) (m9_:Value) (m10_:Value) (m12_:Value),a=putSel a0_ b [(1,26,.int .i64 (l1.length:Int)),(2,27,v196),(4,29,.int .i64 (l1.length:Int)),(5,30,v199),(7,32,.int .i64 (l1.length:Int)),(8,33,v202),(9,9,m9_),(10,8,m10_),(12,10,m12_)]∧(Below w.heap.size w w')∧(b 2=true→Kd.R (Kd.int .i64) 3 w' w.heap.size (fun _=>True) v196 y195)∧(b 5=true→Kd.R (Kd.int .i64) 3 w' w.heap.size (fun _=>True) v199 y198)∧(b 8=true→Kd.R (Kd.int .i64) 3 w' w.heap.size (fun _=>True) v202 y201)∧(b 9=true→b 11=false→w'.heap[gb204]?=some (.cells #[.slice none 0 0] 29 (0,0)))∧(b 9=true→w.heap.size≤gb204)∧(b 9=true→w.heap.size≤gb204)∧(b 11=true→w'.heap[gb204]?=some (.cells #[v199] 29 (0,0)))∧(b 9=true→(m9_:Value)=.pointer (some ⟨gb204,0,none⟩))∧(b 10=true→(m10_:Value)=v196)∧(b 12=true→(m12_:Value)=v202)∧(b 2=true→b 5=true→NEb v196 v199)∧(b 2=true→b 8=true→NEb v196 v202)∧(b 5=true→b 8=true→NEb v199 v202)) HT_.out HW_.out (by kernel_rfl) (by kernel_rfl) ?_ ?_ ?_
    ·exact⟨.bool false,.bool false,.bool false,0,.bool false,.bool false,.bool false,by simp only[putSel,Bool.false_eq_true,if_false],HB.out,fun h_=>absurd h_ (by decide),fun h_=>absurd h_ (by decide),fun h_=>absurd h_ (by decide),fun h_=>absurd h_ (by decide),fun h_=>absurd h_ (by decide),fun h_=>absurd h_ (by decide),fun h_=>absurd h_ (by decide),fun h_=>absurd h_ (by decide),fun h_=>absurd h_ (by decide),fun h_=>absurd h_ (by decide),fun h_=>absurd h_ (by decide),fun h_=>absurd h_ (by decide),fun h_=>absurd h_ (by decide)⟩
    ·skip
     clear HB;refine steps_cons ?_ ?_
     ·rintro b a w' ⟨v196,v199,v202,gb204,m9_,m10_,m12_,ha,Q_HB,Q_HO197,Q_HO200,Q_HO203,Q_BK204,Q_GW204,Q_GE204,Q_BK204_e11,Q_X9_,Q_X10_,Q_X12_,Q_N0,Q_N1,Q_N2⟩ hb_ hon hoff;refine⟨_,rfl,fun K hK=>?_⟩
      have e25:a.tmps[25]?=some (.slice A1 l1.length c1):=by rw[ha];exact(putSel_off rfl).trans rfl
      replace ha:=aM ha;have HB:=aM Q_HB;refine value_ (w1:=w') (v:=.int .i64 (l1.length:Int)) (by rfl) rfl ?_ ?_
      ·go_simp
       (try simp only[i64_w])
       try rfl
      refine hK.out _ _ ⟨v196,v199,v202,gb204,m9_,m10_,m12_,(by rw[ha.out];exact putSel_upk 0 hb_ rfl rfl rfl),Q_HB,fun h0_=>absurd ((hoff 2 (by kernel_rfl)).symm.trans h0_) (by decide),Q_HO200,Q_HO203,Q_BK204,Q_GW204,Q_GE204,fun h0_=>absurd ((hoff 11 (by kernel_rfl)).symm.trans h0_) (by decide),Q_X9_,fun h0_=>absurd ((hoff 10 (by kernel_rfl)).symm.trans h0_) (by decide),fun h0_=>absurd ((hoff 12 (by kernel_rfl)).symm.trans h0_) (by decide),Q_N0,Q_N1,Q_N2⟩
     refine steps_cons ?_ ?_
     ·rintro b a w' ⟨v196,v199,v202,gb204,m9_,m10_,m12_,ha,Q_HB,Q_HO197,Q_HO200,Q_HO203,Q_BK204,Q_GW204,Q_GE204,Q_BK204_e11,Q_X9_,Q_X10_,Q_X12_,Q_N0,Q_N1,Q_N2⟩ hb_ hon hoff;refine⟨_,rfl,fun K hK=>?_⟩
      have e26:a.tmps[26]?=some (.int .i64 (l1.length:Int)):=by rw[ha];exact putSel_on (e:=(1,26,.int .i64 (l1.length:Int))) 0 rfl rfl (hon 1 (by kernel_rfl)) rfl
      replace ha:=aM ha;have HB:=aM Q_HB;refine Kd.R_make_step (Kd.int .i64) _ 3 (by rfl) (N:=27) rfl 29 _ _ rfl (l1.length:Int) (by first|rfl|exact eval_some (by assumption)) (by first|rfl|exact eval_some (by assumption)) Try.underlying29 (.int .i64 0) 8 info3 rfl (by decide) (by omega) 0 (ok:=fun _=>True) (okp:=fun _=>True) rfl (fun _ hk=>hk) trivial (oE aS) (Nat.le_trans (Nat.mul_le_mul_right _ (oE aS:(l1.length:Int).toNat≤35184372088832)) (by omega)) (Below.refl _ _) (Nat.le_refl _) ?_
      intro v196 w9 ho10 hb hg_ hnew_;have z_N0:=fun(h0_:b 5=true)=>NEb_new (Q_HO200 h0_) (Kd.R_base ho10)
      have z_N1:=fun(h0_:b 8=true)=>NEb_new (Q_HO203 h0_) (Kd.R_base ho10)
      clear hg_ hnew_;(first|rw[← Ny195.out] at ho10|(simp only[Int.reduceToNat] at ho10;rw[← Ny195.out] at ho10))
      have n0_:=aM (Kd.R_lower ho10 (below_size pB));have n1_:=aM (below_step pB hb);have z_HO200:=fun(h0_:b 5=true)=>(show Kd.R (Kd.int .i64) 3 w9 w.heap.size (fun _=>True) v199 y198 from by first|exact(Kd.R_elder' (rX (Q_HO200 h0_)) (Kd.R_base ho10) hb)|exact Kd.R_mono (Kd.R_elder' (rX (Q_HO200 h0_)) (Kd.R_base ho10) hb) (fun _ h_=>by first|trivial|exact h_|exact h_.1))
      have z_HO203:=fun(h0_:b 8=true)=>(show Kd.R (Kd.int .i64) 3 w9 w.heap.size (fun _=>True) v202 y201 from by first|exact(Kd.R_elder' (rX (Q_HO203 h0_)) (Kd.R_base ho10) hb)|exact Kd.R_mono (Kd.R_elder' (rX (Q_HO203 h0_)) (Kd.R_base ho10) hb) (fun _ h_=>by first|trivial|exact h_|exact h_.1))
      have z_BK204:=fun(h0_:b 9=true) (h1_:b 11=false)=>(show w9.heap[gb204]?=some (.cells #[.slice none 0 0] 29 (0,0)) from by first|exact(blk_below (g:=gb204) (o:=.cells #[.slice none 0 0] 29 (0,0)) (by(with_reducible repeat(first|refine blk_drewN ?_ _|refine blk_drew ?_|refine blk_alloc ?_ _));exact(Q_BK204 h0_ h1_)) hb))
      clear HB;have HO197:=n0_;have HB:=n1_;clear n0_ n1_;clear hb ho10;refine hK.out _ _ ⟨v196,v199,v202,gb204,m9_,m10_,m12_,(by rw[ha.out];exact putSel_upk 1 hb_ rfl rfl rfl),pB,fun _=>(rX HO197.out),z_HO200,z_HO203,z_BK204,Q_GW204,Q_GE204,fun h0_=>absurd ((hoff 11 (by kernel_rfl)).symm.trans h0_) (by decide),Q_X9_,fun h0_=>absurd ((hoff 10 (by kernel_rfl)).symm.trans h0_) (by decide),fun h0_=>absurd ((hoff 12 (by kernel_rfl)).symm.trans h0_) (by decide),fun _ h1_=>z_N0 h1_,fun _ h1_=>z_N1 h1_,Q_N2⟩
     refine steps_cons ?_ ?_
     ·rintro b a w' ⟨v196,v199,v202,gb204,m9_,m10_,m12_,ha,Q_HB,Q_HO197,Q_HO200,Q_HO203,Q_BK204,Q_GW204,Q_GE204,Q_BK204_e11,Q_X9_,Q_X10_,Q_X12_,Q_N0,Q_N1,Q_N2⟩ hb_ hon hoff;refine⟨_,rfl,fun K hK=>?_⟩
      have e28:a.tmps[28]?=some (.slice A1 l1.length c1):=by rw[ha];exact(putSel_off rfl).trans rfl
      replace ha:=aM ha;have HB:=aM Q_HB;refine value_ (w1:=w') (v:=.int .i64 (l1.length:Int)) (by rfl) rfl ?_ ?_
      ·go_simp
       (try simp only[i64_w])
       try rfl
      refine hK.out _ _ ⟨v196,v199,v202,gb204,m9_,m10_,m12_,(by rw[ha.out];exact putSel_upk 2 hb_ rfl rfl rfl),Q_HB,Q_HO197,fun h0_=>absurd ((hoff 5 (by kernel_rfl)).symm.trans h0_) (by decide),Q_HO203,Q_BK204,Q_GW204,Q_GE204,fun h0_=>absurd ((hoff 11 (by kernel_rfl)).symm.trans h0_) (by decide),Q_X9_,Q_X10_,fun h0_=>absurd ((hoff 12 (by kernel_rfl)).symm.trans h0_) (by decide),Q_N0,Q_N1,Q_N2⟩
     refine steps_cons ?_ ?_
     ·rintro b a w' ⟨v196,v199,v202,gb204,m9_,m10_,m12_,ha,Q_HB,Q_HO197,Q_HO200,Q_HO203,Q_BK204,Q_GW204,Q_GE204,Q_BK204_e11,Q_X9_,Q_X10_,Q_X12_,Q_N0,Q_N1,Q_N2⟩ hb_ hon hoff;refine⟨_,rfl,fun K hK=>?_⟩
      have e29:a.tmps[29]?=some (.int .i64 (l1.length:Int)):=by rw[ha];exact putSel_on (e:=(4,29,.int .i64 (l1.length:Int))) 2 rfl rfl (hon 4 (by kernel_rfl)) rfl
      replace ha:=aM ha;have HB:=aM Q_HB;refine Kd.R_make_step (Kd.int .i64) _ 3 (by rfl) (N:=30) rfl 29 _ _ rfl (l1.length:Int) (by first|rfl|exact eval_some (by assumption)) (by first|rfl|exact eval_some (by assumption)) Try.underlying29 (.int .i64 0) 8 info3 rfl (by decide) (by omega) 0 (ok:=fun _=>True) (okp:=fun _=>True) rfl (fun _ hk=>hk) trivial (oE aS) (Nat.le_trans (Nat.mul_le_mul_right _ (oE aS:(l1.length:Int).toNat≤35184372088832)) (by omega)) (Below.refl _ _) (Nat.le_refl _) ?_
      intro v199 w9 ho10 hb hg_ hnew_;have z_N0:=fun(h0_:b 2=true)=>NEb_new (Q_HO197 h0_) (Kd.R_base ho10)
      have z_N2:=fun(h0_:b 8=true)=>NEb_new (Q_HO203 h0_) (Kd.R_base ho10)
      clear hg_ hnew_;(first|rw[← Ny198.out] at ho10|(simp only[Int.reduceToNat] at ho10;rw[← Ny198.out] at ho10))
      have n0_:=aM (Kd.R_lower ho10 (below_size pB));have n1_:=aM (below_step pB hb);have z_HO197:=fun(h0_:b 2=true)=>(show Kd.R (Kd.int .i64) 3 w9 w.heap.size (fun _=>True) v196 y195 from by first|exact(Kd.R_elder' (rX (Q_HO197 h0_)) (Kd.R_base ho10) hb)|exact Kd.R_mono (Kd.R_elder' (rX (Q_HO197 h0_)) (Kd.R_base ho10) hb) (fun _ h_=>by first|trivial|exact h_|exact h_.1))
      have z_HO203:=fun(h0_:b 8=true)=>(show Kd.R (Kd.int .i64) 3 w9 w.heap.size (fun _=>True) v202 y201 from by first|exact(Kd.R_elder' (rX (Q_HO203 h0_)) (Kd.R_base ho10) hb)|exact Kd.R_mono (Kd.R_elder' (rX (Q_HO203 h0_)) (Kd.R_base ho10) hb) (fun _ h_=>by first|trivial|exact h_|exact h_.1))
      have z_BK204:=fun(h0_:b 9=true) (h1_:b 11=false)=>(show w9.heap[gb204]?=some (.cells #[.slice none 0 0] 29 (0,0)) from by first|exact(blk_below (g:=gb204) (o:=.cells #[.slice none 0 0] 29 (0,0)) (by(with_reducible repeat(first|refine blk_drewN ?_ _|refine blk_drew ?_|refine blk_alloc ?_ _));exact(Q_BK204 h0_ h1_)) hb))
      clear HB;have HO200:=n0_;have HB:=n1_;clear n0_ n1_;clear hb ho10;refine hK.out _ _ ⟨v196,v199,v202,gb204,m9_,m10_,m12_,(by rw[ha.out];exact putSel_upk 3 hb_ rfl rfl rfl),pB,z_HO197,fun _=>(rX HO200.out),z_HO203,z_BK204,Q_GW204,Q_GE204,fun h0_=>absurd ((hoff 11 (by kernel_rfl)).symm.trans h0_) (by decide),Q_X9_,Q_X10_,fun h0_=>absurd ((hoff 12 (by kernel_rfl)).symm.trans h0_) (by decide),fun h1_ _=>(z_N0 h1_).symm,Q_N1,fun _ h1_=>z_N2 h1_⟩
     refine steps_cons ?_ ?_
     ·rintro b a w' ⟨v196,v199,v202,gb204,m9_,m10_,m12_,ha,Q_HB,Q_HO197,Q_HO200,Q_HO203,Q_BK204,Q_GW204,Q_GE204,Q_BK204_e11,Q_X9_,Q_X10_,Q_X12_,Q_N0,Q_N1,Q_N2⟩ hb_ hon hoff;refine⟨_,rfl,fun K hK=>?_⟩
      have e31:a.tmps[31]?=some (.slice A1 l1.length c1):=by rw[ha];exact(putSel_off rfl).trans rfl
      replace ha:=aM ha;have HB:=aM Q_HB;refine value_ (w1:=w') (v:=.int .i64 (l1.length:Int)) (by rfl) rfl ?_ ?_
      ·go_simp
       (try simp only[i64_w])
       try rfl
      refine hK.out _ _ ⟨v196,v199,v202,gb204,m9_,m10_,m12_,(by rw[ha.out];exact putSel_upk 4 hb_ rfl rfl rfl),Q_HB,Q_HO197,Q_HO200,fun h0_=>absurd ((hoff 8 (by kernel_rfl)).symm.trans h0_) (by decide),Q_BK204,Q_GW204,Q_GE204,Q_BK204_e11,Q_X9_,Q_X10_,fun h0_=>absurd ((hoff 12 (by kernel_rfl)).symm.trans h0_) (by decide),Q_N0,Q_N1,Q_N2⟩
     refine steps_cons ?_ ?_
     ·rintro b a w' ⟨v196,v199,v202,gb204,m9_,m10_,m12_,ha,Q_HB,Q_HO197,Q_HO200,Q_HO203,Q_BK204,Q_GW204,Q_GE204,Q_BK204_e11,Q_X9_,Q_X10_,Q_X12_,Q_N0,Q_N1,Q_N2⟩ hb_ hon hoff;refine⟨_,rfl,fun K hK=>?_⟩
      have e32:a.tmps[32]?=some (.int .i64 (l1.length:Int)):=by rw[ha];exact putSel_on (e:=(7,32,.int .i64 (l1.length:Int))) 4 rfl rfl (hon 7 (by kernel_rfl)) rfl
      replace ha:=aM ha;have HB:=aM Q_HB;refine Kd.R_make_step (Kd.int .i64) _ 3 (by rfl) (N:=33) rfl 29 _ _ rfl (l1.length:Int) (by first|rfl|exact eval_some (by assumption)) (by first|rfl|exact eval_some (by assumption)) Try.underlying29 (.int .i64 0) 8 info3 rfl (by decide) (by omega) 0 (ok:=fun _=>True) (okp:=fun _=>True) rfl (fun _ hk=>hk) trivial (oE aS) (Nat.le_trans (Nat.mul_le_mul_right _ (oE aS:(l1.length:Int).toNat≤35184372088832)) (by omega)) (Below.refl _ _) (Nat.le_refl _) ?_
      intro v202 w9 ho10 hb hg_ hnew_;have z_N1:=fun(h0_:b 2=true)=>NEb_new (Q_HO197 h0_) (Kd.R_base ho10)
      have z_N2:=fun(h0_:b 5=true)=>NEb_new (Q_HO200 h0_) (Kd.R_base ho10)
      clear hg_ hnew_;(first|rw[← Ny201.out] at ho10|(simp only[Int.reduceToNat] at ho10;rw[← Ny201.out] at ho10))
      have n0_:=aM (Kd.R_lower ho10 (below_size pB));have n1_:=aM (below_step pB hb);have z_HO197:=fun(h0_:b 2=true)=>(show Kd.R (Kd.int .i64) 3 w9 w.heap.size (fun _=>True) v196 y195 from by first|exact(Kd.R_elder' (rX (Q_HO197 h0_)) (Kd.R_base ho10) hb)|exact Kd.R_mono (Kd.R_elder' (rX (Q_HO197 h0_)) (Kd.R_base ho10) hb) (fun _ h_=>by first|trivial|exact h_|exact h_.1))
      have z_HO200:=fun(h0_:b 5=true)=>(show Kd.R (Kd.int .i64) 3 w9 w.heap.size (fun _=>True) v199 y198 from by first|exact(Kd.R_elder' (rX (Q_HO200 h0_)) (Kd.R_base ho10) hb)|exact Kd.R_mono (Kd.R_elder' (rX (Q_HO200 h0_)) (Kd.R_base ho10) hb) (fun _ h_=>by first|trivial|exact h_|exact h_.1))
      have z_BK204:=fun(h0_:b 9=true) (h1_:b 11=false)=>(show w9.heap[gb204]?=some (.cells #[.slice none 0 0] 29 (0,0)) from by first|exact(blk_below (g:=gb204) (o:=.cells #[.slice none 0 0] 29 (0,0)) (by(with_reducible repeat(first|refine blk_drewN ?_ _|refine blk_drew ?_|refine blk_alloc ?_ _));exact(Q_BK204 h0_ h1_)) hb))
      have z_BK204_e11:=fun(h0_:b 11=true)=>(show w9.heap[gb204]?=some (.cells #[v199] 29 (0,0)) from by first|exact(blk_below (g:=gb204) (o:=.cells #[v199] 29 (0,0)) (by(with_reducible repeat(first|refine blk_drewN ?_ _|refine blk_drew ?_|refine blk_alloc ?_ _));exact(Q_BK204_e11 h0_)) hb))
      clear HB;have HO203:=n0_;have HB:=n1_;clear n0_ n1_;clear hb ho10;refine hK.out _ _ ⟨v196,v199,v202,gb204,m9_,m10_,m12_,(by rw[ha.out];exact putSel_upk 5 hb_ rfl rfl rfl),pB,z_HO197,z_HO200,fun _=>(rX HO203.out),z_BK204,Q_GW204,Q_GE204,z_BK204_e11,Q_X9_,Q_X10_,fun h0_=>absurd ((hoff 12 (by kernel_rfl)).symm.trans h0_) (by decide),Q_N0,fun h1_ _=>(z_N1 h1_).symm,fun h1_ _=>(z_N2 h1_).symm⟩
     refine steps_cons ?_ ?_
     ·rintro b a w' ⟨v196,v199,v202,gb204,m9_,m10_,m12_,ha,Q_HB,Q_HO197,Q_HO200,Q_HO203,Q_BK204,Q_GW204,Q_GE204,Q_BK204_e11,Q_X9_,Q_X10_,Q_X12_,Q_N0,Q_N1,Q_N2⟩ hb_ hon hoff;refine⟨_,rfl,fun K hK=>?_⟩
      replace ha:=aM ha;have HB:=aM Q_HB;refine box_step ?hg (N:=9) ?hd (cs:=#[.slice none 0 0]) (t:=29) ?hr ?_;(case hd=>rfl);(case hg=>rfl);(case hr=>first|(go_simp;done)|(go_simp;rfl))
      intro gb204 hg w9 hbox hb;have n0_:=aM (below_step pB hb);have n1_:=aM (hbox);have n2_:=aM (gW hg:w.heap.size≤gb204);have n3_:=aM (gW hg:w.heap.size≤gb204);have z_HO197:=fun(h0_:b 2=true)=>(show Kd.R (Kd.int .i64) 3 w9 w.heap.size (fun _=>True) v196 y195 from by first|exact(Kd.R_below (rX (Q_HO197 h0_)) hb)|exact Kd.R_mono (Kd.R_below (rX (Q_HO197 h0_)) hb) (fun _ h_=>by first|trivial|exact h_|exact h_.1))
      have z_HO200:=fun(h0_:b 5=true)=>(show Kd.R (Kd.int .i64) 3 w9 w.heap.size (fun _=>True) v199 y198 from by first|exact(Kd.R_below (rX (Q_HO200 h0_)) hb)|exact Kd.R_mono (Kd.R_below (rX (Q_HO200 h0_)) hb) (fun _ h_=>by first|trivial|exact h_|exact h_.1))
      have z_HO203:=fun(h0_:b 8=true)=>(show Kd.R (Kd.int .i64) 3 w9 w.heap.size (fun _=>True) v202 y201 from by first|exact(Kd.R_below (rX (Q_HO203 h0_)) hb)|exact Kd.R_mono (Kd.R_below (rX (Q_HO203 h0_)) hb) (fun _ h_=>by first|trivial|exact h_|exact h_.1))
      clear HB;have HB:=n0_;have BK204:=n1_;have GW204:=n2_;have GE204:=n3_;clear n0_ n1_ n2_ n3_;clear hb hbox hg;refine hK.out _ _ ⟨v196,v199,v202,gb204,(.pointer (some ⟨gb204,0,none⟩)),m10_,m12_,(by rw[ha.out];exact putSel_upk 6 hb_ rfl rfl rfl),pB,z_HO197,z_HO200,z_HO203,fun _ _=>(kW BK204),fun _=>GW204.out,fun _=>GE204.out,fun h0_=>absurd ((hoff 11 (by kernel_rfl)).symm.trans h0_) (by decide),fun _=>rfl,fun h0_=>absurd ((hoff 10 (by kernel_rfl)).symm.trans h0_) (by decide),fun h0_=>absurd ((hoff 12 (by kernel_rfl)).symm.trans h0_) (by decide),Q_N0,Q_N1,Q_N2⟩
     refine steps_cons ?_ ?_
     ·rintro b a w' ⟨v196,v199,v202,gb204,m9_,m10_,m12_,ha,Q_HB,Q_HO197,Q_HO200,Q_HO203,Q_BK204,Q_GW204,Q_GE204,Q_BK204_e11,Q_X9_,Q_X10_,Q_X12_,Q_N0,Q_N1,Q_N2⟩ hb_ hon hoff;refine⟨_,rfl,fun K hK=>?_⟩
      have e27:a.tmps[27]?=some (v196):=by rw[ha];exact putSel_on (e:=(2,27,v196)) 1 rfl rfl (hon 2 (by kernel_rfl)) rfl
      replace ha:=aM ha;have HB:=aM Q_HB;have HO197:=aM (Q_HO197 (hon 2 (by kernel_rfl)))
      have BK204:=aM (Q_BK204 (hon 9 (by kernel_rfl)) (hoff 11 (by kernel_rfl)))
      have GW204:=aM (Q_GW204 (hon 9 (by kernel_rfl)))
      have GE204:=aM (Q_GE204 (hon 9 (by kernel_rfl)))
      refine value_ (w1:=w') (v:=v196) (by rfl) rfl ?_ ?_
      ·go_simp
       (try simp only[i64_w])
       try rfl
      refine hK.out _ _ ⟨v196,v199,v202,gb204,m9_,(v196),m12_,(by rw[ha.out];exact putSel_upk 7 hb_ rfl rfl rfl),Q_HB,Q_HO197,Q_HO200,Q_HO203,Q_BK204,Q_GW204,Q_GE204,fun h0_=>absurd ((hoff 11 (by kernel_rfl)).symm.trans h0_) (by decide),Q_X9_,fun _=>rfl,fun h0_=>absurd ((hoff 12 (by kernel_rfl)).symm.trans h0_) (by decide),Q_N0,Q_N1,Q_N2⟩
     refine steps_cons ?_ ?_
     ·rintro b a w' ⟨v196,v199,v202,gb204,m9_,m10_,m12_,ha,Q_HB,Q_HO197,Q_HO200,Q_HO203,Q_BK204,Q_GW204,Q_GE204,Q_BK204_e11,Q_X9_,Q_X10_,Q_X12_,Q_N0,Q_N1,Q_N2⟩ hb_ hon hoff;refine⟨_,rfl,fun K hK=>?_⟩
      have e9:a.tmps[9]?=some (m9_):=by rw[ha];exact putSel_on (e:=(9,9,m9_)) 6 rfl rfl (hon 9 (by kernel_rfl)) rfl
      rw[Q_X9_ (hon 9 (by kernel_rfl))] at e9
      have e30:a.tmps[30]?=some (v199):=by rw[ha];exact putSel_on (e:=(5,30,v199)) 3 rfl rfl (hon 5 (by kernel_rfl)) rfl
      replace ha:=aM ha;have HB:=aM Q_HB;have HO197:=aM (Q_HO197 (hon 2 (by kernel_rfl)))
      have HO200:=aM (Q_HO200 (hon 5 (by kernel_rfl)))
      have BK204:=aM (Q_BK204 (hon 9 (by kernel_rfl)) hb_)
      have GW204:=aM (Q_GW204 (hon 9 (by kernel_rfl)))
      have GE204:=aM (Q_GE204 (hon 9 (by kernel_rfl)))
      obtain⟨Ao15,co15,eo15⟩:=Kd.R_slice HO200.out;(first|subst eo15|(injection eo15 with f1_ f2_ f3_;have f4_:=f1_.symm;have f5_:=f3_.symm;clear f1_ f2_ f3_;subst f4_;subst f5_))
      have hs16:w'.cell? ⟨gb204,0,none⟩=some (.slice none 0 0):=(blk_cell BK204.out 0).trans rfl;have hfs16:=blk_frozen BK204.out 0;refine skip_ (w1:=?_) (by rfl) rfl ?_ ?_
      rotate_left
      ·go_simp
       rfl
      refine hK.out _ _ ⟨v196,.slice Ao15 y198.length co15,v202,gb204,m9_,m10_,m12_,(by rw[ha.out];exact putSel_none (v:=undef) rfl),pB,fun _=>(rX (Kd.R_mono (Kd.R_far (p:=⟨gb204,0,none⟩) (Kd.R_types HO197.out BK204.out (by decide)) (fun _ hk=>hk.2) (.slice Ao15 y198.length co15)) (fun _ hk=>hk.1))),fun _=>(rX (Kd.R_mono (Kd.R_far (p:=⟨gb204,0,none⟩) (Kd.R_types HO200.out BK204.out (by decide)) (fun _ hk=>hk.2) (.slice Ao15 y198.length co15)) (fun _ hk=>hk.1))),fun h0_=>(rX (Kd.R_mono (Kd.R_far (p:=⟨gb204,0,none⟩) (Kd.R_types (Q_HO203 h0_) BK204.out (by decide)) (fun _ hk=>hk.2) (.slice Ao15 y198.length co15)) (by first|exact(fun _ hk=>hk.1)|exact(fun _ hk=>⟨hk.1.1,hk.1.2⟩)))),fun _ h1_=>absurd ((up_self b 11).symm.trans h1_) (by decide),fun _=>GW204.out,fun _=>GE204.out,fun _=>(by refine bD ?_;refine blk_put (cs:=#[.slice none 0 0]) ?_ 0 _ rfl;(with_reducible repeat(first|refine blk_drewN ?_ _|refine blk_drew ?_|refine blk_alloc ?_ _));exact BK204.out),Q_X9_,Q_X10_,fun h0_=>absurd ((hoff 12 (by kernel_rfl)).symm.trans h0_) (by decide),Q_N0,Q_N1,Q_N2⟩
     refine steps_cons ?_ ?_
     ·rintro b a w' ⟨v196,v199,v202,gb204,m9_,m10_,m12_,ha,Q_HB,Q_HO197,Q_HO200,Q_HO203,Q_BK204,Q_GW204,Q_GE204,Q_BK204_e11,Q_X9_,Q_X10_,Q_X12_,Q_N0,Q_N1,Q_N2⟩ hb_ hon hoff;refine⟨_,rfl,fun K hK=>?_⟩
      have e33:a.tmps[33]?=some (v202):=by rw[ha];exact putSel_on (e:=(8,33,v202)) 5 rfl rfl (hon 8 (by kernel_rfl)) rfl
      replace ha:=aM ha;have HB:=aM Q_HB;have HO197:=aM (Q_HO197 (hon 2 (by kernel_rfl)))
      have HO200:=aM (Q_HO200 (hon 5 (by kernel_rfl)))
      have HO203:=aM (Q_HO203 (hon 8 (by kernel_rfl)))
      have GW204:=aM (Q_GW204 (hon 9 (by kernel_rfl)))
      have GE204:=aM (Q_GE204 (hon 9 (by kernel_rfl)))
      have BK204:=aM (Q_BK204_e11 (hon 11 (by kernel_rfl)))
      refine value_ (w1:=w') (v:=v202) (by rfl) rfl ?_ ?_
      ·go_simp
       (try simp only[i64_w])
       try rfl
      refine hK.out _ _ ⟨v196,v199,v202,gb204,m9_,m10_,(v202),(by rw[ha.out];exact putSel_upk 8 hb_ rfl rfl rfl),Q_HB,Q_HO197,Q_HO200,Q_HO203,fun _ h1_=>absurd ((hon 11 (by kernel_rfl)).symm.trans h1_) (by decide),Q_GW204,Q_GE204,Q_BK204_e11,Q_X9_,Q_X10_,fun _=>rfl,Q_N0,Q_N1,Q_N2⟩
     exact steps_nil
    rintro b a w18 hall ⟨v196,v199,v202,gb204,m9_,m10_,m12_,ha,Q_HB,Q_HO197,Q_HO200,Q_HO203,Q_BK204,Q_GW204,Q_GE204,Q_BK204_e11,Q_X9_,Q_X10_,Q_X12_,Q_N0,Q_N1,Q_N2⟩;clear HB;have hb1_:=hall 1 (by kernel_rfl)
    have hb2_:=hall 2 (by kernel_rfl)
    have hb4_:=hall 4 (by kernel_rfl)
    have hb5_:=hall 5 (by kernel_rfl)
    have hb7_:=hall 7 (by kernel_rfl)
    have hb8_:=hall 8 (by kernel_rfl)
    have hb9_:=hall 9 (by kernel_rfl)
    have hb10_:=hall 10 (by kernel_rfl)
    have hb11_:=hall 11 (by kernel_rfl)
    have hb12_:=hall 12 (by kernel_rfl)
    subst ha;obtain rfl:=(Q_X9_ hb9_).symm;obtain rfl:=(Q_X10_ hb10_).symm;obtain rfl:=(Q_X12_ hb12_).symm;simp only[putSel,hb1_,hb2_,hb4_,hb5_,hb7_,hb8_,hb9_,hb10_,hb11_,hb12_,if_true,Act.put,sA,sZ,sC];have HB:=aM Q_HB;clear Q_HB;have HO197:=aM (Kd.R_reok (ok:=fun k_=>some k_≠(v199:Value).ownBlock∧some k_≠(v202:Value).ownBlock) rfl (Q_HO197 hb2_) (fun k_ hk_=>⟨(Q_N0 hb2_ hb5_) k_ hk_,(Q_N1 hb2_ hb8_) k_ hk_⟩))
    clear Q_HO197;have HO200:=aM (Kd.R_reok (ok:=fun k_=>some k_≠(v196:Value).ownBlock∧some k_≠(v202:Value).ownBlock) rfl (Q_HO200 hb5_) (fun k_ hk_=>⟨(Q_N0 hb2_ hb5_).symm k_ hk_,(Q_N2 hb5_ hb8_) k_ hk_⟩))
    clear Q_HO200;have HO203:=aM (Kd.R_reok (ok:=fun k_=>some k_≠(v196:Value).ownBlock∧some k_≠(v199:Value).ownBlock) rfl (Q_HO203 hb8_) (fun k_ hk_=>⟨(Q_N1 hb2_ hb8_).symm k_ hk_,(Q_N2 hb5_ hb8_).symm k_ hk_⟩))
    clear Q_HO203;clear Q_BK204;have GW204:=aM (Q_GW204 hb9_);clear Q_GW204;have GE204:=aM (Q_GE204 hb9_);clear Q_GE204;have BK204:=aM (Q_BK204_e11 hb11_);clear Q_BK204_e11;clear hall hb1_ hb2_ hb4_ hb5_ hb7_ hb8_ hb9_ hb10_ hb11_ hb12_;try go_wp2
    go_loopg [11,37] k (fun kq v11 v37 w'=>∃ (x8_1:List Int) (x10_1:List Int) (x11_1:Int) (x37_1:Int) (x205000_1:List Int) (u205000:Value),v11=.int .i64 x11_1∧v37=.int .i64 x37_1∧Aside0 (Bzp.l0 kq a0 t193 x8_1 x10_1 x11_1 l1 (l1.length:Int) x37_1 x205000_1=some (r1,r2))∧Aside0 (kq≤k)∧Aside0 (Kd.R (Kd.int .i64) 3 w' w.heap.size (fun k_=>some k_≠(v202:Value).ownBlock∧some k_≠(u205000:Value).ownBlock) v196 x8_1)∧Aside0 (Kd.R (Kd.int .i64) 3 w' w.heap.size (fun k_=>some k_≠(v196:Value).ownBlock∧some k_≠(u205000:Value).ownBlock) v202 x10_1)∧Aside0 (Kd.R (Kd.int .i64) 3 w' w.heap.size (fun k_=>some k_≠(v196:Value).ownBlock∧some k_≠(v202:Value).ownBlock) u205000 x205000_1)∧Aside0 (w'.heap[gb204]?=some (.cells #[u205000] 29 (0,0)))∧Aside0 (Below w.heap.size w w'))
    case atStart=>exact⟨(y195),(y201),(a0),(0),(y198),(v199),sD,sD,H',⟨Nat.le_refl _⟩,⟨by(with_reducible repeat(first|apply Kd.R_alloc|apply Kd.R_drewN|apply Kd.R_drew));exact Kd.R_mono HO197.out (fun _ hk=>⟨hk.2,hk.1⟩)⟩,⟨rX HO203.out⟩,⟨rX HO200.out⟩,⟨by(with_reducible repeat(first|refine blk_drewN ?_ _|refine blk_drew ?_|refine blk_alloc ?_ _));exact BK204.out⟩,⟨pB⟩⟩
    case round =>
     clear H';try clear c1
     try clear p2
     try clear c3
     try clear c4
     try clear c4b0
     try clear c4b1
     try clear c5
     try clear c5b0
     try clear c5b1
     try clear c6
     try clear c6b0
     try clear c6b1
     obtain⟨x8_1,x10_1,x11_1,x37_1,x205000_1,u205000,rfl,rfl,HA,HK1,HO_8,HO_10,HO_205000,BK204,HB⟩:=hrel;cases gk with
     | zero=>exact absurd HA.out (by simp [Bzp.l0])
     | succ k1 =>
      have H:=HA.out;clear HA;simp only[Bzp.l0] at H;by_cases c19:x37_1 < (l1.length:Int)
      ·rw[if_pos c19] at H;have c19b0:decide (x37_1 < (l1.length:Int))=true:=dE c19;clear c19;by_cases c20:0≤x37_1
       ·rw[if_pos c20] at H;have c20b0:decide (0≤x37_1)=true:=dE c20;clear c20;by_cases c21:x37_1 < (l1.length:Int)
        ·rw[if_pos c21] at H;have c21b0:decide (x37_1 < (l1.length:Int))=true:=dE c21;clear c21;replace H:=bS H;obtain⟨⟨t206,t207⟩,A220,H⟩:=H;(try dsimp only at H);have A22:=aM A220;clear A220;by_cases c23:x37_1 < (x8_1.length:Int)
         ·rw[if_pos c23] at H;have c23b0:decide (x37_1 < (x8_1.length:Int))=true:=dE c23;clear c23;obtain⟨y208,hy208⟩:∃ y_:List Int,y_=(x8_1.set (x37_1:Int).toNat t206):=⟨_,rfl⟩;replace H:(if x37_1 < (x205000_1.length:Int) then(if x37_1 < (x10_1.length:Int) then(Bzp.l0 k1 a0 t193 y208 (x10_1.set (x37_1:Int).toNat x37_1) (wrap64 (x11_1 - (rd y208 x37_1))) l1 (l1.length:Int) (wrap64 (x37_1+1)) (x205000_1.set (x37_1:Int).toNat t207)) else(none)) else(none))=some (r1,r2):=by first|(rw[hy208];with_reducible exact H)|(have H2_:=(Option.bind_some _ _).symm.trans H;rw[hy208];with_reducible exact H2_)|(have H2_:=(Option.bind_some _ _).symm.trans H;with_reducible exact H2_)|with_reducible exact H|(rw[hy208];exact H)|exact H
          have Ny208:=aM hy208;clear hy208;by_cases c25:x37_1 < (x205000_1.length:Int)
          ·rw[if_pos c25] at H;have c25b0:decide (x37_1 < (x205000_1.length:Int))=true:=dE c25;clear c25;obtain⟨y209,hy209⟩:∃ y_:List Int,y_=(x205000_1.set (x37_1:Int).toNat t207):=⟨_,rfl⟩;replace H:(if x37_1 < (x10_1.length:Int) then(Bzp.l0 k1 a0 t193 y208 (x10_1.set (x37_1:Int).toNat x37_1) (wrap64 (x11_1 - (rd y208 x37_1))) l1 (l1.length:Int) (wrap64 (x37_1+1)) y209) else(none))=some (r1,r2):=by first|(rw[hy209];with_reducible exact H)|(have H2_:=(Option.bind_some _ _).symm.trans H;rw[hy209];with_reducible exact H2_)|(have H2_:=(Option.bind_some _ _).symm.trans H;with_reducible exact H2_)|with_reducible exact H|(rw[hy209];exact H)|exact H
           have Ny209:=aM hy209;clear hy209;by_cases c27:x37_1 < (x10_1.length:Int)
           ·rw[if_pos c27] at H;have c27b0:decide (x37_1 < (x10_1.length:Int))=true:=dE c27;clear c27;obtain⟨y210,hy210⟩:∃ y_:List Int,y_=(x10_1.set (x37_1:Int).toNat x37_1):=⟨_,rfl⟩;replace H:(Bzp.l0 k1 a0 t193 y208 y210 (wrap64 (x11_1 - (rd y208 x37_1))) l1 (l1.length:Int) (wrap64 (x37_1+1)) y209)=some (r1,r2):=by first|(rw[hy210];with_reducible exact H)|(have H2_:=(Option.bind_some _ _).symm.trans H;rw[hy210];with_reducible exact H2_)|(have H2_:=(Option.bind_some _ _).symm.trans H;with_reducible exact H2_)|with_reducible exact H|(rw[hy210];exact H)|exact H
            have Ny210:=aM hy210;clear hy210;have H':=aM H;clear H;have p205:0≤(x37_1:Int):=oE aS
            have q205:x37_1 < (l1.length:Int):=oE aS
            obtain⟨ad205,e205,hx205_0⟩:=Kd.at_int HR1.out x37_1 p205 q205;cases e205
            replace hx205_0:=(HB.out.cell (World.block_lt_of_cell? w _ hx205_0)).trans hx205_0;replace p205:=eq_true p205;replace q205:=eq_true q205;try go_wp2
            have n0_:=aM (Kd.R_drew HO_8.out);have n1_:=aM (Kd.R_drew HO_10.out);have n2_:=aM (Kd.R_drew HO_205000.out);have n3_:=aM (blk_drew BK204.out);have n4_:=aM (below_drew1 HB.out);clear HO_8;clear HO_10;clear HO_205000;clear BK204;clear HB;have HO_8:=n0_;have HO_10:=n1_;have HO_205000:=n2_;have BK204:=n3_;have HB:=n4_;clear n0_ n1_ n2_ n3_ n4_;refine start_ (n:=15) (S:=fun w'=>w'.cell? ⟨gb204,0,none⟩=some (u205000)) (ds:=[14]) #[false,false,false,false,false,false,false,false,false,false,false,false,false,false,false] (by kernel_rfl) rfl rfl ((blk_cell BK204.out 0).trans rfl) (fun hHeld=>?_);refine with_tabW Bzp.tab9 Bzp.bits9 (fun HT_ HW_=>?_)
            generalize wr.drew=w29 at HO_8 HO_10 HO_205000 BK204 HB hHeld ⊢;refine pU (i:=0) (N:=some 43) HT_ #[true,false,false,false,false,false,false,false,false,false,false,false,false,false,false] ?_;refine pU (i:=1) (N:=some 44) HT_ #[true,true,false,false,false,false,false,false,false,false,false,false,false,false,false] ?_;refine pU (i:=3) (N:=some 46) HT_ #[true,true,false,true,false,false,false,false,false,false,false,false,false,false,false] ?_;refine pU (i:=4) (N:=some 47) HT_ #[true,true,false,true,true,false,false,false,false,false,false,false,false,false,false] ?_;refine pU (i:=5) (N:=some 48) HT_ #[true,true,false,true,true,true,false,false,false,false,false,false,false,false,false] ?_;refine pU (i:=6) (N:=some 49) HT_ #[true,true,false,true,true,true,true,false,false,false,false,false,false,false,false] ?_;refine take_ (i:=2) (N:=some 45) (v:=?_) (a':=?_) #[true,true,true,true,true,true,true,false,false,false,false,false,false,false,false] rfl rfl (take_ofW HT_.out HW_.out (by kernel_rfl)) (fun _ _ _ h=>h) (Or.inl ⟨by rfl,?_⟩) hHeld ?_ ?_
            rotate_left
            ·intro w' s0;go_simp
             with_reducible rfl
            rotate_left
            ·simp only[Act.put,sA,sZ,sC,i64_w,i32_w];rfl
            refine one_ (i:=7) (N:=some 50) #[true,true,true,true,true,true,true,true,false,false,false,false,false,false,false] rfl rfl (one_of HT_.out (by kernel_rfl)) (by decide) (fun K hK=>?_)
            refine goes_ Try.func39 (by kernel_rfl) rfl #[.int .i64 a0,.int .i64 (rd l1 x37_1),.int .i64 t193] (by rfl) rfl rfl mA ?_
            with_reducible refine(Dzf.calls a0 (rd l1 x37_1) t193 t206 t207 _ A22.out).mono ?_
            rintro e w30 ⟨rfl,hb⟩;refine⟨_,rfl,?_⟩;have n0_:=aM (Kd.R_below (rX HO_8.out) hb);have n1_:=aM (Kd.R_below (rX HO_10.out) hb);have n2_:=aM (Kd.R_below (rX HO_205000.out) hb);have n3_:=aM (kB BK204 hb);have n4_:=aM (below_step pB hb);clear HO_8;clear HO_10;clear HO_205000;clear BK204;clear HB;have HO_8:=n0_;have HO_10:=n1_;have HO_205000:=n2_;have BK204:=n3_;have HB:=n4_;clear n0_ n1_ n2_ n3_ n4_;(try clear hb)
            (try clear hb2)
            (try clear hk)
            (try clear hi)
            have p24:0≤(x37_1:Int):=oE aS
            have q24:(x37_1:Int) < ((x8_1.length:Int):Int):=oE aS
            obtain⟨go24,co24,eo24,gb24,gl24,cl24,HG24⟩:=Kd.R_form HO_8.out (by omega)
            (first|cases eo24|(injection eo24 with ea_ en_ ec_;(first|subst ea_|(injection ea_ with ea_;subst ea_));subst ec_;clear en_))
            have GB24:=aM gb24;have GG24:=aM HG24;clear gb24 gl24 HG24;obtain⟨hx24_0,hf24_0⟩:=Kd.R_celln 0 HO_8.out (x37_1:Int) p24 q24;replace p24:=eq_true p24;replace q24:=eq_true q24;have HP31:=Kd.R_putn HO_8.out (x37_1:Int) t206;rw[← Ny208.out] at HP31;have HQ31:=aM HP31;clear HP31;have p26:0≤(x37_1:Int):=oE aS
            have q26:(x37_1:Int) < ((x205000_1.length:Int):Int):=oE aS
            obtain⟨go26,co26,eo26,gb26,gl26,cl26,HG26⟩:=Kd.R_form HO_205000.out (by omega)
            (first|cases eo26|(injection eo26 with ea_ en_ ec_;(first|subst ea_|(injection ea_ with ea_;subst ea_));subst ec_;clear en_))
            have GB26:=aM gb26;have GG26:=aM HG26;clear gb26 gl26 HG26;obtain⟨hx26_0,hf26_0⟩:=Kd.R_celln 0 (Kd.R_far (p:=⟨go24,(x37_1:Int).toNat,none⟩) (Kd.R_mono HO_205000.out (fun k_ hk=>(⟨hk,fun e_=>hk.1 (by rw[e_];rfl)⟩:_∧k_≠go24))) (fun _ hk=>hk.2) (.int .i64 t206)) (x37_1:Int) p26 q26
            replace p26:=eq_true p26;replace q26:=eq_true q26;have HP32:=Kd.R_putn (Kd.R_far (p:=⟨go24,(x37_1:Int).toNat,none⟩) (Kd.R_mono HO_205000.out (fun k_ hk=>(⟨hk,fun e_=>hk.1 (by rw[e_];rfl)⟩:_∧k_≠go24))) (fun _ hk=>hk.2) (.int .i64 t206)) (x37_1:Int) t207
            rw[← Ny209.out] at HP32;have HQ32:=aM HP32;clear HP32;refine hK.out _ _ ((blk_cell BK204.out 0).trans rfl) (fun hHeld=>?_)
            clear hK K;refine norm_ (a':=?_) ?_ ?_;rotate_left
            ·show Act.put _ (some 50) _=_
             simp only[Act.put,sA,sZ,sC,i64_w,i32_w];rfl
            refine pU (i:=8) (N:=some 42) HT_ #[true,true,true,true,true,true,true,true,true,false,false,false,false,false,false] ?_;refine pU (i:=9) (N:=some 51) HT_ #[true,true,true,true,true,true,true,true,true,true,false,false,false,false,false] ?_;refine pU (i:=10) (N:=some 52) HT_ #[true,true,true,true,true,true,true,true,true,true,true,false,false,false,false] ?_;refine pU (i:=11) (N:=some 53) HT_ #[true,true,true,true,true,true,true,true,true,true,true,true,false,false,false] ?_;refine one_ (i:=12) (N:=none) #[true,true,true,true,true,true,true,true,true,true,true,true,true,false,false] rfl rfl (one_of HT_.out (by kernel_rfl)) (by decide) (fun K hK=>?_)
            refine skip_ (w1:=?_) (by rfl) rfl ?_ ?_
            rotate_left
            ·go_simp
             rfl
            refine hK.out _ _ (((cell_far (by have h_:=Kd.R_ne HO_8.out BK204.out (by decide);intro e_;exact h_ (congrArg some e_)) _).trans (hHeld))) (fun hHeld=>?_)
            clear hK K;refine pU (i:=13) (N:=some 54) HT_ #[true,true,true,true,true,true,true,true,true,true,true,true,true,true,false] ?_;refine last_ (i:=14) (N:=none) #[true,true,true,true,true,true,true,true,true,true,true,true,true,true,true] rfl rfl (one_of HT_.out (by kernel_rfl)) (by decide) (fun K hK=>?_)
            refine skip_ (w1:=?_) (by rfl) rfl ?_ ?_
            rotate_left
            ·go_simp
             rfl
            refine hK.out _ _ ?_;clear hK K;refine done_ (done_of HT_.out (by kernel_rfl)) ?_
            have n0_:Aside0 (Kd.R (Kd.int .i64) 3 ((w30.setCell ⟨go24,(x37_1:Int).toNat,none⟩ (.int .i64 t206)).setCell ⟨go26,(x37_1:Int).toNat,none⟩ (.int .i64 t207)) w.heap.size (fun k_=>some k_≠(v202:Value).ownBlock∧some k_≠(.slice (some ⟨go26,0,none⟩) x205000_1.length co26:Value).ownBlock) (.slice (some ⟨go24,0,none⟩) x8_1.length co24) y208):=⟨by(with_reducible repeat(first|apply Kd.R_alloc|apply Kd.R_drewN|apply Kd.R_drew));exact Kd.R_mono (Kd.R_far (p:=⟨go26,(x37_1:Int).toNat,none⟩) (Kd.R_mono HQ31.out (fun k_ hk=>(⟨hk,fun e_=>hk.2 (by rw[e_];rfl)⟩:_∧k_≠go26))) (fun _ hk=>hk.2) (.int .i64 t207)) (fun _ hk=>⟨hk.1.1,hk.1.2⟩)⟩
            have n1_:Aside0 (Kd.R (Kd.int .i64) 3 ((w30.setCell ⟨go24,(x37_1:Int).toNat,none⟩ (.int .i64 t206)).setCell ⟨go26,(x37_1:Int).toNat,none⟩ (.int .i64 t207)) w.heap.size (fun k_=>some k_≠(.slice (some ⟨go24,0,none⟩) x8_1.length co24:Value).ownBlock∧some k_≠(.slice (some ⟨go26,0,none⟩) x205000_1.length co26:Value).ownBlock) v202 x10_1):=⟨by(with_reducible repeat(first|apply Kd.R_alloc|apply Kd.R_drewN|apply Kd.R_drew));exact Kd.R_mono (Kd.R_far (p:=⟨go26,(x37_1:Int).toNat,none⟩) (Kd.R_far (p:=⟨go24,(x37_1:Int).toNat,none⟩) (Kd.R_mono (Kd.R_mono HO_10.out (fun k_ hk=>(⟨hk,fun e_=>hk.1 (by rw[e_];rfl)⟩:_∧k_≠go24))) (fun k_ hk=>(⟨hk,fun e_=>hk.1.2 (by rw[e_];rfl)⟩:_∧k_≠go26))) (fun _ hk=>hk.1.2) (.int .i64 t206)) (fun _ hk=>hk.2) (.int .i64 t207)) (fun _ hk=>⟨hk.1.1.1,hk.1.1.2⟩)⟩
            have n2_:Aside0 (Kd.R (Kd.int .i64) 3 ((w30.setCell ⟨go24,(x37_1:Int).toNat,none⟩ (.int .i64 t206)).setCell ⟨go26,(x37_1:Int).toNat,none⟩ (.int .i64 t207)) w.heap.size (fun k_=>some k_≠(.slice (some ⟨go24,0,none⟩) x8_1.length co24:Value).ownBlock∧some k_≠(v202:Value).ownBlock) (.slice (some ⟨go26,0,none⟩) x205000_1.length co26) y209):=⟨by(with_reducible repeat(first|apply Kd.R_alloc|apply Kd.R_drewN|apply Kd.R_drew));exact Kd.R_mono HQ32.out (fun _ hk=>⟨hk.1.1,hk.1.2⟩)⟩
            have n3_:Aside0 (((w30.setCell ⟨go24,(x37_1:Int).toNat,none⟩ (.int .i64 t206)).setCell ⟨go26,(x37_1:Int).toNat,none⟩ (.int .i64 t207)).heap[gb204]?=some (.cells #[.slice (some ⟨go26,0,none⟩) x205000_1.length co26] 29 (0,0))):=⟨by refine bD ?_;refine blk_far ?_ (by have h_:=Kd.R_ne HO_205000.out BK204.out (by decide);intro e_;exact h_ (by rw[e_];rfl)) _;refine bD ?_;refine blk_far ?_ (by have h_:=Kd.R_ne HO_8.out BK204.out (by decide);intro e_;exact h_ (by rw[e_];rfl)) _;(with_reducible repeat(first|refine blk_drewN ?_ _|refine blk_drew ?_|refine blk_alloc ?_ _));exact BK204.out⟩
            have n4_:Aside0 (Below w.heap.size w ((w30.setCell ⟨go24,(x37_1:Int).toNat,none⟩ (.int .i64 t206)).setCell ⟨go26,(x37_1:Int).toNat,none⟩ (.int .i64 t207))):=⟨pB⟩;(try clear HO_8)
            (try clear HO_10)
            (try clear HO_205000)
            (try clear BK204)
            (try clear HB)
            generalize ((w30.setCell ⟨go24,(x37_1:Int).toNat,none⟩ (.int .i64 t206)).setCell ⟨go26,(x37_1:Int).toNat,none⟩ (.int .i64 t207))=w33 at n0_ n1_ n2_ n3_ n4_ ⊢;have HO_8:=n0_;have HO_10:=n1_;have HO_205000:=n2_;have BK204:=n3_;have HB:=n4_;clear n0_ n1_ n2_ n3_ n4_;have p28:0≤(x37_1:Int):=oE aS
            have q28:(x37_1:Int) < ((x10_1.length:Int):Int):=oE aS
            obtain⟨go28,co28,eo28,gb28,gl28,cl28,HG28⟩:=Kd.R_form HO_10.out (by omega)
            (first|cases eo28|(injection eo28 with ea_ en_ ec_;(first|subst ea_|(injection ea_ with ea_;subst ea_));subst ec_;clear en_))
            have GB28:=aM gb28;have GG28:=aM HG28;clear gb28 gl28 HG28;obtain⟨hx28_0,hf28_0⟩:=Kd.R_celln 0 HO_10.out (x37_1:Int) p28 q28;replace p28:=eq_true p28;replace q28:=eq_true q28;obtain⟨hy34_,hz34_⟩:=Kd.R_celln 0 HO_10.out (x37_1:Int) (oE aS) (oE aS)
            have HP34:=Kd.R_putg HO_10.out (x37_1:Int) x37_1;try go_wp2_with (first|((with_reducible refine gate_store (t:=3) (p:=58) rfl ?_);refine store_event (t:=3) (p:=58) (v:=?vo_w35) (w1:=(w33.setCell ⟨go28,(x37_1:Int).toNat,none⟩ (.int .i64 x37_1))) ?hg ?ho ?hn ?hr ?_;(case ho=>rfl);(case hg=>rfl);(case hn=>rfl);(case hr=>first|(go_simp;done)|(go_simp;rfl));intro w35 hw;have hg:w33.grownBy w35 (some go28):=(by rw[hw];exact HP34.2);have hp_:Kd.R (Kd.int .i64) 3 w35 w.heap.size (fun k_=>some k_≠(.slice (some ⟨go24,0,none⟩) x8_1.length co24:Value).ownBlock∧some k_≠(.slice (some ⟨go26,0,none⟩) x205000_1.length co26:Value).ownBlock) (.slice (some ⟨go28,0,none⟩) x10_1.length co28) y210:=(by rw[hw,Ny210.out];exact HP34.1);clear HP34;replace HO_8:=aM (Kd.R_after (v:=(.slice (some ⟨go28,0,none⟩) x10_1.length co28)) (v1:=(.slice (some ⟨go28,0,none⟩) x10_1.length co28)) (ok:=(fun k_=>some k_≠(.slice (some ⟨go26,0,none⟩) x205000_1.length co26:Value).ownBlock)) (rX (Kd.R_mono HO_8.out (fun _ hk=>⟨hk.2,hk.1⟩))) hg (.inl rfl));replace HO_205000:=aM (Kd.R_after (v:=(.slice (some ⟨go28,0,none⟩) x10_1.length co28)) (v1:=(.slice (some ⟨go28,0,none⟩) x10_1.length co28)) (ok:=(fun k_=>some k_≠(.slice (some ⟨go24,0,none⟩) x8_1.length co24:Value).ownBlock)) (rX HO_205000.out) hg (.inl rfl));replace BK204:=aM (blk_grown (g:=gb204) (o:=.cells #[.slice (some ⟨go26,0,none⟩) x205000_1.length co26] 29 (0,0)) (kW BK204) hg (Kd.R_ne HO_10.out BK204.out (by decide)));replace HO_10:=aM (hp_);replace HB:=aM ((by rw[hw];exact below_set (HB.out) GB28.out:Below w.heap.size w w35));clear hg hw hp_;have p211:0≤(x37_1:Int):=oE aS;have q211:x37_1 < (y208.length:Int):=(by have h_:(x37_1:Int) < ((x8_1.length:Int):Int):=oE aS;first|(have e_:=(Kd.R_reads' HO_8.out).1;omega)|simpa only[Ny208.out,List.length_set] using h_);have ql211:((x37_1:Int) < ((x8_1.length:Int):Int))=True:=eq_true (oE aS);obtain⟨ad211,e211,hx211_0⟩:=Kd.at_int (Kd.R_reads' HO_8.out).2.2 x37_1 p211 q211;obtain rfl:(⟨go24,0,none⟩:Addr)=ad211:=(by injection e211);(first|simp only[add_plain] at hx211_0|simp only[add_at] at hx211_0|simp only[Addr.add,Nat.zero_add] at hx211_0|skip);replace p211:=eq_true p211;replace q211:=eq_true q211))
            go_roundg k1
            case measure=>have:=HK1.out;omega
            case rel=>exact⟨(y208),(y210),(wrap64 (x11_1 - (rd y208 x37_1))),(wrap64 (x37_1+1)),(y209),(.slice (some ⟨go26,0,none⟩) x205000_1.length co26),sD,sD,H',⟨by have:=HK1.out;omega⟩,⟨by(with_reducible repeat(first|apply Kd.R_alloc|apply Kd.R_drewN|apply Kd.R_drew));exact Kd.R_mono HO_8.out (fun _ hk=>⟨hk.2,hk.1⟩)⟩,⟨rX HO_10.out⟩,⟨rX HO_205000.out⟩,⟨by(with_reducible repeat(first|refine blk_drewN ?_ _|refine blk_drew ?_|refine blk_alloc ?_ _));exact BK204.out⟩,⟨pB⟩⟩
           ·rw[if_neg c27] at H;exact absurd H (by simp)
          ·rw[if_neg c25] at H;exact absurd H (by simp)
         ·rw[if_neg c23] at H;exact absurd H (by simp)
        ·rw[if_neg c21] at H;exact absurd H (by simp)
       ·rw[if_neg c20] at H;exact absurd H (by simp)
      ·rw[if_neg c19] at H;have c19b0:decide (x37_1 < (l1.length:Int))=false:=decide_eq_false c19;clear c19;replace H:=bS H;obtain⟨t212,A360,H⟩:=H;(try dsimp only at H);have A36:=aM A360;clear A360;by_cases c37:0≤x11_1
       ·rw[if_pos c37] at H;have c37b0:=eq_true c37;have c37b1:decide (0≤x11_1)=true:=dE c37;clear c37;by_cases c38:x11_1≤(x10_1.length:Int)
        ·rw[if_pos c38] at H;have c38b0:=eq_true c38;have c38b1:decide (x11_1≤(x10_1.length:Int))=true:=dE c38;clear c38;obtain⟨y213,hy213⟩:∃ y_:List Int,y_=(t212.take (x11_1:Int).toNat):=⟨_,rfl⟩;replace H:(Bzp.l1 k1 x8_1 y213 (y213.length:Int) 0)=some (r1,r2):=by first|(rw[hy213];with_reducible exact H)|(have H2_:=(Option.bind_some _ _).symm.trans H;rw[hy213];with_reducible exact H2_)|(have H2_:=(Option.bind_some _ _).symm.trans H;with_reducible exact H2_)|with_reducible exact H|(rw[hy213];exact H)|exact H
         have Ny213:=aM hy213;clear hy213;have H':=aM H;clear H;obtain⟨Ao39,co39,eo39⟩:=Kd.R_slice HO_10.out;subst eo39;obtain⟨Ao40,co40,eo40⟩:=Kd.R_slice HO_205000.out;subst eo40;go_wp2_with (first|((with_reducible refine gate_callee (f:=40) rfl ?_);refine goesL_ (some 68) rfl rfl Try.func40 (by kernel_rfl) rfl #[.slice Ao39 x10_1.length co39,.func (.func 41) #[] #[.pointer (some ⟨gb204,0,none⟩)]] rfl mA ?_;(with_reducible refine(Czj.calls k1 (fun k_=>some k_=(.slice Ao39 x10_1.length co39:Value).ownBlock) (.slice Ao39 x10_1.length co39) x10_1 _ 1 [x205000_1] t212 w _ ?side1 ?side2 ?side3 ?side4 A36.out).mono ?_);(case side1=>repeat(first|(with_reducible first|exact HB.out|apply below_alloc|apply pw_below_drewN|apply below_drew1|refine below_set ?_ GE204.out)|exact HB.out));(case side2=>exact Kd.R_tight rfl HO_10.out);(case side3=>exact Kd.cap_kept (kW BK204) (fun hs_=>(fun e_=>(Kd.R_ne HO_10.out BK204.out (by decide)) e_) hs_) (fun W_ hk_=>⟨_,_,rfl,by exact(Kd.R_reads' HO_205000.out).2.1,(Kd.C_kept_own (HO_205000.out) (fun k_ hk_ hs_=>(hk_.2) hs_)) W_ hk_⟩));(case side4=>exact Nat.le_refl _);rintro e w41 ⟨rfl,hy0,hb,hkp⟩;refine⟨_,rfl,?_⟩;replace HO_8:=aM (Kd.R_mono (ok':=fun k_=>some k_≠(.slice Ao39 x10_1.length co39:Value).ownBlock∧some k_≠(.slice Ao40 x205000_1.length co40:Value).ownBlock) (Kd.R_keptB (HO_8.out) hkp (fun k_ hk_ hs_=>(hk_.1) hs_)) (fun k_ hk_=>⟨hk_.1.1,hk_.1.2⟩));replace HO_205000:=aM (Kd.R_mono (ok':=fun k_=>some k_≠(v196:Value).ownBlock∧some k_≠(.slice Ao39 x10_1.length co39:Value).ownBlock) (Kd.R_keptB (HO_205000.out) hkp (fun k_ hk_ hs_=>(hk_.2) hs_)) (fun k_ hk_=>⟨hk_.1.1,hk_.1.2⟩));replace BK204:=aM (blk_kept (kW BK204) hkp (fun hs_=>(fun e_=>(Kd.R_ne HO_10.out BK204.out (by decide)) e_) hs_));replace HO_10:=aM (Kd.R_reok rfl hy0 (fun k_ e_=>HO_10.out.1 k_ e_));replace HB:=aM (hb);(try clear hb);(try clear hkp);(try clear hy0);have q42:(x11_1:Int)≤((x10_1.length:Int):Int):=oE aS;obtain⟨i042,hi042,_,hsz42,_⟩:=info_parts info3;have hcut42:=cut_to (P:=Try.prog) 29 3 .i64 Try.underlying29 hi042 Ao39 x10_1.length co39 x11_1 (oE aS) q42 (Kd.R_reads' HO_10.out).2.1;have hlx42:=(Kd.R_reads' HO_10.out).1;have hr42:=Kd.R_take (m:=(x11_1:Int).toNat) HO_10.out (by omega);have hy42:y213.length=(x11_1:Int).toNat:=(by rw[Ny213.out,List.length_take];omega);rw[← Ny213.out] at hr42;rw[← hy42] at hr42 hcut42;clear hlx42 hy42 hi042 hsz42 HO_10;have HO215:=aM hr42;clear hr42;replace q42:=eq_true q42))
         go_loopg [73] k1 (fun kq v73 w'=>∃ (x8_2:List Int) (x73_2:Int),v73=.int .i64 x73_2∧Aside0 (Bzp.l1 kq x8_2 y213 (y213.length:Int) x73_2=some (r1,r2))∧Aside0 (kq≤k1)∧Aside0 (Kd.R (Kd.int .i64) 3 w' w.heap.size (fun k_=>some k_≠((.slice Ao39 y213.length co39):Value).ownBlock∧some k_≠((.slice Ao40 x205000_1.length co40):Value).ownBlock) v196 x8_2)∧Aside0 (Kd.R (Kd.int .i64) 3 w' w.heap.size (fun k_=>some k_≠(v196:Value).ownBlock∧some k_≠((.slice Ao40 x205000_1.length co40):Value).ownBlock) (.slice Ao39 y213.length co39) y213)∧Aside0 (Kd.R (Kd.int .i64) 3 w' w.heap.size (fun k_=>some k_≠(v196:Value).ownBlock∧some k_≠((.slice Ao39 y213.length co39):Value).ownBlock) (.slice Ao40 x205000_1.length co40) x205000_1)∧Aside0 (w'.heap[gb204]?=some (.cells #[(.slice Ao40 x205000_1.length co40)] 29 (0,0)))∧Aside0 (Below w.heap.size w w'))
         case atStart=>exact⟨(x8_1),(0),sD,H',⟨Nat.le_refl _⟩,⟨by(with_reducible repeat(first|apply Kd.R_alloc|apply Kd.R_drewN|apply Kd.R_drew));first|exact HO_8.out|exact Kd.R_mono HO_8.out (fun k_ hk_=>by refine⟨?_,?_⟩ <;> first|exact hk_.1|exact hk_.2|exact fun h_=>hk_.1 (h_.trans (own_len _ _ _ _))|exact fun h_=>hk_.2 (h_.trans (own_len _ _ _ _)))⟩,⟨rX HO215.out⟩,⟨by(with_reducible repeat(first|apply Kd.R_alloc|apply Kd.R_drewN|apply Kd.R_drew));first|exact HO_205000.out|exact Kd.R_mono HO_205000.out (fun k_ hk_=>by refine⟨?_,?_⟩ <;> first|exact hk_.1|exact hk_.2|exact fun h_=>hk_.1 (h_.trans (own_len _ _ _ _))|exact fun h_=>hk_.2 (h_.trans (own_len _ _ _ _)))⟩,⟨by(with_reducible repeat(first|refine blk_drewN ?_ _|refine blk_drew ?_|refine blk_alloc ?_ _));exact BK204.out⟩,⟨pB⟩⟩
         case round =>
          clear H';try clear c1
          try clear c2
          try clear p2
          try clear q2
          try clear hx2
          try clear hf2
          try clear c3
          try clear c4
          try clear c4b0
          try clear c4b1
          try clear q4
          try clear c5
          try clear c5b0
          try clear c5b1
          try clear c6
          try clear c6b0
          try clear c6b1
          try clear p6
          try clear c9
          try clear c19
          try clear c19b0
          try clear c20
          try clear c20b0
          try clear p20
          try clear q20
          try clear hx20
          try clear c21
          try clear c21b0
          try clear p21
          try clear q21
          try clear hx21
          try clear c23
          try clear c23b0
          try clear p24
          try clear q24
          try clear hx24
          try clear hf24
          try clear c25
          try clear c25b0
          try clear p26
          try clear q26
          try clear hx26
          try clear hf26
          try clear c27
          try clear c27b0
          try clear p28
          try clear q28
          try clear hx28
          try clear hf28
          try clear c33
          try clear c37
          try clear c37b0
          try clear c37b1
          try clear c38
          try clear c38b0
          try clear c38b1
          try clear c39
          try clear q42
          try clear hx205_0
          try clear hx211_0
          try clear hx24_0
          try clear hx26_0
          try clear hx28_0
          try clear p2
          try clear p205
          try clear p211
          try clear p24
          try clear p26
          try clear p28
          try clear q205
          try clear q211
          try clear q24
          try clear q26
          try clear q28
          try clear q42
          obtain⟨x8_2,x73_2,rfl,HA,HK2,HO_8,HO_71,HO_205000,BK204,HB⟩:=hrel;cases gk with
          | zero=>exact absurd HA.out (by simp [Bzp.l1])
          | succ k2 =>
           have H:=HA.out;clear HA;simp only[Bzp.l1] at H;by_cases c43:x73_2 < (y213.length:Int)
           ·rw[if_pos c43] at H;have c43b0:decide (x73_2 < (y213.length:Int))=true:=dE c43;clear c43;by_cases c44:0≤x73_2
            ·rw[if_pos c44] at H;have c44b0:decide (0≤x73_2)=true:=dE c44;clear c44;by_cases c45:x73_2 < (y213.length:Int)
             ·rw[if_pos c45] at H;have c45b0:decide (x73_2 < (y213.length:Int))=true:=dE c45;clear c45;by_cases c46:0≤(rd y213 x73_2)
              ·rw[if_pos c46] at H;have c46b0:decide (0≤(rd y213 x73_2))=true:=dE c46;clear c46;by_cases c47:(rd y213 x73_2) < (x8_2.length:Int)
               ·rw[if_pos c47] at H;have c47b0:decide ((rd y213 x73_2) < (x8_2.length:Int))=true:=dE c47;clear c47;obtain⟨y218,hy218⟩:∃ y_:List Int,y_=(x8_2.set ((rd y213 x73_2):Int).toNat (wrap64 ((rd x8_2 (rd y213 x73_2))+1))):=⟨_,rfl⟩;replace H:(Bzp.l1 k2 y218 y213 (y213.length:Int) (wrap64 (x73_2+1)))=some (r1,r2):=by first|(rw[hy218];with_reducible exact H)|(have H2_:=(Option.bind_some _ _).symm.trans H;rw[hy218];with_reducible exact H2_)|(have H2_:=(Option.bind_some _ _).symm.trans H;with_reducible exact H2_)|with_reducible exact H|(rw[hy218];exact H)|exact H
                have Ny218:=aM hy218;clear hy218;have H':=aM H;clear H;have p216:0≤(x73_2:Int):=oE aS
                have q216:x73_2 < (y213.length:Int):=oE aS
                obtain⟨ad216,e216,hx216_0⟩:=Kd.at_int (Kd.R_reads' HO_71.out).2.2 x73_2 p216 q216;cases e216
                replace p216:=eq_true p216;replace q216:=eq_true q216;obtain⟨Ao49,co49,eo49⟩:=Kd.R_slice HO_8.out;subst eo49;have p217:0≤((rd y213 x73_2):Int):=oE aS
                have q217:(rd y213 x73_2) < (x8_2.length:Int):=oE aS
                obtain⟨ad217,e217,hx217_0⟩:=Kd.at_int (Kd.R_reads' HO_8.out).2.2 (rd y213 x73_2) p217 q217;cases e217
                replace p217:=eq_true p217;replace q217:=eq_true q217;have p48:0≤((rd y213 x73_2):Int):=oE aS
                have q48:((rd y213 x73_2):Int) < ((x8_2.length:Int):Int):=oE aS
                obtain⟨go48,co48,eo48,gb48,gl48,cl48,HG48⟩:=Kd.R_form HO_8.out (by omega)
                (first|cases eo48|(injection eo48 with ea_ en_ ec_;(first|subst ea_|(injection ea_ with ea_;subst ea_));subst ec_;clear en_))
                have GB48:=aM gb48;have GG48:=aM HG48;clear gb48 gl48 HG48;(first|simp only[add_plain] at hx217_0|skip)
                obtain⟨hx48_0,hf48_0⟩:=Kd.R_celln 0 HO_8.out ((rd y213 x73_2):Int) p48 q48;replace p48:=eq_true p48;replace q48:=eq_true q48;have HP50:=Kd.R_putg HO_8.out ((rd y213 x73_2):Int) (wrap64 ((rd x8_2 (rd y213 x73_2))+1));go_wp2_with (first|((with_reducible refine gate_store (t:=3) (p:=82) rfl ?_);refine store_event (t:=3) (p:=82) (v:=?vo_w51) (w1:=(wr.setCell ⟨go48,((rd y213 x73_2):Int).toNat,none⟩ (.int .i64 (wrap64 ((rd x8_2 (rd y213 x73_2))+1))))) ?hg ?ho ?hn ?hr ?_;(case ho=>rfl);(case hg=>rfl);(case hn=>rfl);(case hr=>first|(go_simp;done)|(go_simp;rfl));intro w51 hw;have hg:wr.grownBy w51 (some go48):=(by rw[hw];exact HP50.2);have hp_:Kd.R (Kd.int .i64) 3 w51 w.heap.size (fun k_=>some k_≠(.slice (some ad216) y213.length co39:Value).ownBlock∧some k_≠(.slice Ao40 x205000_1.length co40:Value).ownBlock) (.slice (some ⟨go48,0,none⟩) x8_2.length co49) y218:=(by rw[hw,Ny218.out];exact HP50.1);clear HP50;replace HO_71:=aM (Kd.R_after (v:=(.slice (some ⟨go48,0,none⟩) x8_2.length co49)) (v1:=(.slice (some ⟨go48,0,none⟩) x8_2.length co49)) (ok:=(fun k_=>some k_≠(.slice Ao40 x205000_1.length co40:Value).ownBlock)) (rX (Kd.R_mono HO_71.out (fun _ hk=>⟨hk.2,hk.1⟩))) hg (.inl rfl));replace HO_205000:=aM (Kd.R_after (v:=(.slice (some ⟨go48,0,none⟩) x8_2.length co49)) (v1:=(.slice (some ⟨go48,0,none⟩) x8_2.length co49)) (ok:=(fun k_=>some k_≠(.slice (some ad216) y213.length co39:Value).ownBlock)) (rX (Kd.R_mono HO_205000.out (fun _ hk=>⟨hk.2,hk.1⟩))) hg (.inl rfl));replace BK204:=aM (blk_grown (g:=gb204) (o:=.cells #[.slice Ao40 x205000_1.length co40] 29 (0,0)) (kW BK204) hg (Kd.R_ne HO_8.out BK204.out (by decide)));replace HO_8:=aM (hp_);replace HB:=aM ((by rw[hw];exact below_set (HB.out) GB48.out:Below w.heap.size w w51));clear hg hw hp_))
                go_roundg k2
                case measure=>have:=HK1.out;have:=HK2.out;omega
                case rel=>exact⟨(y218),(wrap64 (x73_2+1)),sD,H',⟨by have:=HK1.out;have:=HK2.out;omega⟩,⟨rX HO_8.out⟩,⟨by(with_reducible repeat(first|apply Kd.R_alloc|apply Kd.R_drewN|apply Kd.R_drew));exact Kd.R_mono HO_71.out (fun _ hk=>⟨hk.2,hk.1⟩)⟩,⟨by(with_reducible repeat(first|apply Kd.R_alloc|apply Kd.R_drewN|apply Kd.R_drew));exact Kd.R_mono HO_205000.out (fun _ hk=>⟨hk.2,hk.1⟩)⟩,⟨by(with_reducible repeat(first|refine blk_drewN ?_ _|refine blk_drew ?_|refine blk_alloc ?_ _));exact BK204.out⟩,⟨pB⟩⟩
               ·rw[if_neg c47] at H;exact absurd H (by simp)
              ·rw[if_neg c46] at H;exact absurd H (by simp)
             ·rw[if_neg c45] at H;exact absurd H (by simp)
            ·rw[if_neg c44] at H;exact absurd H (by simp)
           ·rw[if_neg c43] at H;have c43b0:decide (x73_2 < (y213.length:Int))=false:=decide_eq_false c43;clear c43;simp only[Option.some.injEq,Prod.mk.injEq] at H;obtain⟨rfl,rfl⟩:=H;go_wp2
            go_ret2
            exact⟨_,eW,by(with_reducible repeat(first|apply Kd.R_alloc|apply Kd.R_drewN|apply Kd.R_drew));exact Kd.R_mono HO_8.out (fun _ hk=>trivial),pB⟩
        ·rw[if_neg c38] at H;exact absurd H (by simp)
       ·rw[if_neg c37] at H;exact absurd H (by simp)
   ·rw[if_neg c6] at H;exact absurd H (by simp)
  ·rw[if_neg c5] at H;exact absurd H (by simp)
 ·rw[if_neg c4] at H;have c4b0:(t194 == 0)=false:=beq_eq_false_iff_ne.mpr c4;have c4b1:(t194 != 0)=true:=bne_iff_ne.mpr c4;simp only[Option.some.injEq,Prod.mk.injEq] at H;obtain⟨rfl,rfl⟩:=H;have hmf_:∀ (fn:Fn) (first cap:Array Value) (w:World),(Instr.makeFunc fn first cap).run Try.prog w=.ok (.func fn first cap) w:=fun _ _ _ _=>rfl
  go_enter Try.func33,Try.ntmps33
  go_wp2_with (first|((with_reducible refine gate_callee (f:=38) rfl ?_);refine goesL_ (some 19) rfl rfl Try.func38 (by kernel_rfl) rfl #[.int .i64 a0,.slice A1 l1.length c1] rfl mA ?_;(with_reducible refine(Czf.calls k a0 _ _ l1 t193 t194 _ ?side1 ?side2 A3.out).mono ?_);(case side1=>exact cX HR1.out);(case side2=>exact HC1.out);rintro e w52 ⟨rfl,hb⟩;refine⟨_,rfl,?_⟩;replace HB:=aM (below_step pB hb);(try clear hb);(try clear hb2);(try clear hk);(try clear hi)))
  go_ret2
  exact⟨_,eW,by first|exact Kd.R_nil _ _ _ _ _|exact Kd.N_nil _ _ _ _ _|exact Kd.V_nil _ _ _ _ _|exact Kd.Q_nil _ _ _ _ _|exact Kd.S_nil _ _ _ _ _,pB⟩

end Go.Proofs.Ytpnfdhhfdidlmaa.Print
