import Derived.Test.YtloihkecfommbaaPrint0
import Derived.Test.YtloihkecfommbaaPrint2
import Derived.Test.YtloihkecfommbaaPrint5
import Derived.Test.YtloihkecfommbaaPrint10
namespace Go.Proofs.Ytloihkecfommbaa.Print
open Go.RowKit Go.Proofs.YtloihkecfommbaaW.PrintWords Go.Proofs.YtloihkecfommbaaW.PrintLast Go.Proofs.YtloihkecfommbaaW.PrintMore
attribute [local go_sem] max2_int min2_int max_two min_two max_three min_three max_four min_four
set_option linter.unusedVariables false
set_option maxRecDepth 100000
set_option maxHeartbeats 8000000
set_option linter.unusedSimpArgs false

mutual
def Azf.l0:Nat→Int→Int→List Int→List Int→Int→List Int→Int→Int→List Int→Option (List Int × Int)
 | 0,_,_,_,_,_,_,_,_,_=>none
 | k+1,x0,x6,x8,x10,x11,x35,x36,x37,x212000=>if x37 < x36 then(if 0≤x37 then(if x37 < (x35.length:Int) then((Czy.f x0 (rd x35 x37) x6).bind fun bt213=>(if x37 < (x8.length:Int) then((some (x8.set (x37:Int).toNat bt213.1:List Int)).bind fun y215=>(if x37 < (x212000.length:Int) then(if x37 < (x10.length:Int) then(Azf.l0 k x0 x6 y215 (x10.set (x37:Int).toNat x37) (wrap64 (x11 - (rd y215 x37))) x35 x36 (wrap64 (x37+1)) (x212000.set (x37:Int).toNat bt213.2)) else(none)) else(none))) else(none))) else(none)) else(none)) else((Bzx.f k x10 [x212000]).bind fun t219=>(if 0≤x11 then(if x11≤(x10.length:Int) then((some (t219.take (x11:Int).toNat:List Int)).bind fun y220=>(Azf.l1 k x8 y220 (y220.length:Int) 0)) else(none)) else(none)))
def Azf.l1:Nat→List Int→List Int→Int→Int→Option (List Int × Int)
 | 0,_,_,_,_=>none
 | k+1,x8,x71,x72,x73=>if x73 < x72 then(if 0≤x73 then(if x73 < (x71.length:Int) then(if 0≤(rd x71 x73) then(if(rd x71 x73) < (x8.length:Int) then(Azf.l1 k (x8.set ((rd x71 x73):Int).toNat (wrap64 ((rd x8 (rd x71 x73))+1))) x71 x72 (wrap64 (x73+1))) else(none)) else(none)) else(none)) else(none)) else(some (x8,0))
end
def Azf.f (k:Nat) (a0:Int) (l1:List Int):Option (List Int × Int):=(Czq.f k a0 l1).bind fun bt200=>(if bt200.2=0 then(if 0≤(l1.length:Int) then(if((l1.length:Int):Int).toNat≤35184372088832 then(Azf.l0 k a0 bt200.1 (List.replicate ((l1.length:Int):Int).toNat 0) (List.replicate ((l1.length:Int):Int).toNat 0) a0 l1 (l1.length:Int) 0 (List.replicate ((l1.length:Int):Int).toNat 0)) else(none)) else(none)) else(some (([]:List Int),bt200.2)))
theorem Azf.mono_l:∀ k,(∀ y0 y1 y2 y3 y4 y5 y6 y7 y8,LeO (Azf.l0 k y0 y1 y2 y3 y4 y5 y6 y7 y8) (Azf.l0 (k+1) y0 y1 y2 y3 y4 y5 y6 y7 y8))∧(∀ y0 y1 y2 y3,LeO (Azf.l1 k y0 y1 y2 y3) (Azf.l1 (k+1) y0 y1 y2 y3))
 | 0=>⟨fun _ _ _ _ _ _ _ _ _ r h=>by simp [Azf.l0] at h,fun _ _ _ _ r h=>by simp [Azf.l1] at h⟩
 | k+1=>by
  obtain⟨ih0,ih1⟩:=Azf.mono_l k;refine⟨?_,?_⟩
  ·intro y0 y1 y2 y3 y4 y5 y6 y7 y8;unfold Azf.l0;with_reducible repeat' first|exact ih0 _ _ _ _ _ _ _ _ _|exact ih1 _ _ _ _|exact Czq.mono _ _ _|exact Bzx.mono _ _ _|exact LeO.refl _|exact LeO.none _|refine LeO.ite ?_ ?_|refine LeO.bind ?_ (fun _=>?_)
  ·intro y0 y1 y2 y3;unfold Azf.l1;with_reducible repeat' first|exact ih0 _ _ _ _ _ _ _ _ _|exact ih1 _ _ _ _|exact Czq.mono _ _ _|exact Bzx.mono _ _ _|exact LeO.refl _|exact LeO.none _|refine LeO.ite ?_ ?_|refine LeO.bind ?_ (fun _=>?_)
theorem Azf.mono:∀ a0 a1 k,LeO (Azf.f k a0 a1) (Azf.f (k+1) a0 a1):=by
 intro a0 a1 k;obtain⟨ih0,ih1⟩:=Azf.mono_l k;unfold Azf.f;with_reducible repeat' first|exact ih0 _ _ _ _ _ _ _ _ _|exact ih1 _ _ _ _|exact Czq.mono _ _ _|exact Bzx.mono _ _ _|exact LeO.refl _|exact LeO.none _|refine LeO.ite ?_ ?_|refine LeO.bind ?_ (fun _=>?_)
def Azf.T4:Bool × List (List Nat × List Nat):=(true,[([],[]),([0],[0]),([1,1],[1]),([],[]),([3],[3]),([4,4],[4]),([],[]),([6],[6]),([7,7],[7]),([],[]),([2,0,1,2,9],[2]),([9,5,10,0,1,2,3,4,5,9,10],[5,9]),([8,11,0,1,2,3,4,5,6,7,8,9,10,11],[8])])
def Azf.B4:List Nat:=[0,1,3,0,8,24,0,64,192,0,519,1599,4095]
theorem Azf.tab4:rtab .any (opsOf Try.f11 4)=Azf.T4:=by kernel_rfl
theorem Azf.bits4:waitsOk Azf.T4.2 Azf.B4=true:=by kernel_rfl
def Azf.T9:Bool × List (List Nat × List Nat):=(true,[([],[]),([],[]),([],[]),([],[]),([],[]),([],[]),([],[]),([4,5,6],[4,5,6]),([7],[7]),([8],[8]),([8],[8]),([0,1,0,1,4,5,6,7,8,9],[0,1]),([11,9,7,0,1,4,5,6,7,8,9],[9,11]),([2,3,0,1,2,3,4,5,6,7,8,9,10,11,12],[2,3]),([13,10,12,0,1,2,3,4,5,6,7,8,9,10,11,12],[10,13])])
def Azf.B9:List Nat:=[0,0,0,0,0,0,0,112,240,496,496,1011,3059,8191,16383]
theorem Azf.tab9:rtab .any (opsOf Try.f11 9)=Azf.T9:=by kernel_rfl
theorem Azf.bits9:waitsOk Azf.T9.2 Azf.B9=true:=by kernel_rfl
theorem Azf.calls (k:Nat) (a0:Int) (A1:Option Addr) (c1:Nat) (l1:List Int) (r1:List Int) (r2:Int) (w:World) (hr1:Kd.C (Kd.int .i64) w A1 l1.length l1) (hc1:l1.length≤c1) (h:Azf.f k a0 l1=some (r1,r2)) :
  Calls Try.prog 11 #[.int .i64 a0,.slice A1 l1.length c1] w fun e w'=>∃ v0_:Value,e=.returned (.tuple #[v0_,.int .i64 r2])∧Kd.R (Kd.int .i64) 3 w' w.heap.size (fun _=>True) v0_ r1∧Below w.heap.size w w':=by
 have HR1:=aM hr1;have HC1:=aM hc1;clear hr1 hc1;have HB:=aM (Below.refl w.heap.size w);have H:((Czq.f k a0 l1).bind fun bt200=>(if bt200.2=0 then(if 0≤(l1.length:Int) then(if((l1.length:Int):Int).toNat≤35184372088832 then(Azf.l0 k a0 bt200.1 (List.replicate ((l1.length:Int):Int).toNat 0) (List.replicate ((l1.length:Int):Int).toNat 0) a0 l1 (l1.length:Int) 0 (List.replicate ((l1.length:Int):Int).toNat 0)) else(none)) else(none)) else(some (([]:List Int),bt200.2))))=some (r1,r2):=h
 clear h;replace H:=bS H;obtain⟨⟨t200,t201⟩,A30,H⟩:=H;(try dsimp only at H);have A3:=aM A30;clear A30;by_cases c4:t201=0
 ·rw[if_pos c4] at H;have c4b0:(t201 == 0)=true:=beq_iff_eq.mpr c4;have c4b1:(t201 != 0)=false:=bne_eq_false_iff_eq.mpr c4;clear c4;by_cases c5:0≤(l1.length:Int)
  ·rw[if_pos c5] at H;have c5b0:=eq_true c5;have c5b1:decide (0≤(l1.length:Int))=true:=dE c5;clear c5;by_cases c6:((l1.length:Int):Int).toNat≤35184372088832
   ·rw[if_pos c6] at H;have c6b0:=eq_true c6;have c6b1:decide (((l1.length:Int):Int).toNat≤35184372088832)=true:=dE c6;clear c6;obtain⟨y202,hy202⟩:∃ y_:List Int,y_=(List.replicate ((l1.length:Int):Int).toNat 0):=⟨_,rfl⟩;replace H:(Azf.l0 k a0 t200 y202 (List.replicate ((l1.length:Int):Int).toNat 0) a0 l1 (l1.length:Int) 0 (List.replicate ((l1.length:Int):Int).toNat 0))=some (r1,r2):=by first|(rw[hy202];with_reducible exact H)|(have H2_:=(Option.bind_some _ _).symm.trans H;rw[hy202];with_reducible exact H2_)|(have H2_:=(Option.bind_some _ _).symm.trans H;with_reducible exact H2_)|with_reducible exact H|(rw[hy202];exact H)|exact H
    have Ny202:=aM hy202;clear hy202;obtain⟨y205,hy205⟩:∃ y_:List Int,y_=(List.replicate ((l1.length:Int):Int).toNat 0):=⟨_,rfl⟩;replace H:(Azf.l0 k a0 t200 y202 (List.replicate ((l1.length:Int):Int).toNat 0) a0 l1 (l1.length:Int) 0 y205)=some (r1,r2):=by first|(rw[hy205];with_reducible exact H)|(have H2_:=(Option.bind_some _ _).symm.trans H;rw[hy205];with_reducible exact H2_)|(have H2_:=(Option.bind_some _ _).symm.trans H;with_reducible exact H2_)|with_reducible exact H|(rw[hy205];exact H)|exact H
    have Ny205:=aM hy205;clear hy205;obtain⟨y208,hy208⟩:∃ y_:List Int,y_=(List.replicate ((l1.length:Int):Int).toNat 0):=⟨_,rfl⟩;replace H:(Azf.l0 k a0 t200 y202 y208 a0 l1 (l1.length:Int) 0 y205)=some (r1,r2):=by first|(rw[hy208];with_reducible exact H)|(have H2_:=(Option.bind_some _ _).symm.trans H;rw[hy208];with_reducible exact H2_)|(have H2_:=(Option.bind_some _ _).symm.trans H;with_reducible exact H2_)|with_reducible exact H|(rw[hy208];exact H)|exact H
    have Ny208:=aM hy208;clear hy208;have H':=aM H;clear H;have hmf_:∀ (fn:Fn) (first cap:Array Value) (w:World),(Instr.makeFunc fn first cap).run Try.prog w=.ok (.func fn first cap) w:=fun _ _ _ _=>rfl
    go_enter Try.func11,Try.ntmps11
    try go_wp2_with (first|((with_reducible refine gate_callee (f:=23) rfl ?_);refine goesL_ (some 19) rfl rfl Try.func23 (by kernel_rfl) rfl #[.int .i64 a0,.slice A1 l1.length c1] rfl mA ?_;(with_reducible refine(Czq.calls k a0 _ _ l1 t200 t201 _ ?side1 ?side2 A3.out).mono ?_);(case side1=>exact cX HR1.out);(case side2=>exact HC1.out);rintro e w7 ⟨rfl,hb⟩;refine⟨_,rfl,?_⟩;replace HB:=aM (below_step pB hb);(try clear hb);(try clear hb2);(try clear hk);(try clear hi)))
    have n0_:=aM (below_drew1 HB.out);clear HB;have HB:=n0_;clear n0_;refine start_ (n:=13) (S:=fun w'=>True) (ds:=[]) #[false,false,false,false,false,false,false,false,false,false,false,false,false] (by kernel_rfl) rfl rfl trivial (fun hHeld=>?_);refine with_tabW Azf.tab4 Azf.bits4 (fun HT_ HW_=>?_)
    generalize w7.drew=w8 at HB hHeld ⊢;refine pU (i:=0) (N:=some 25) HT_ #[true,false,false,false,false,false,false,false,false,false,false,false,false] ?_;refine pU (i:=3) (N:=some 28) HT_ #[true,false,false,true,false,false,false,false,false,false,false,false,false] ?_;refine pU (i:=6) (N:=some 31) HT_ #[true,false,false,true,false,false,true,false,false,false,false,false,false] ?_;refine inv_at [1,2,4,5,7,8,9,10,11,12] (fun a0_ b a w'=>∃ (v203:Value) (v206:Value) (v209:Value) (gb211:Nat) (m9_:Value) (m10_:Value) (m12_:Value),a=putSel a0_ b [(1,26,.int .i64 (l1.length:Int)),(2,27,v203),(4,29,.int .i64 (l1.length:Int)),(5,30,v206),(7,32,.int .i64 (l1.length:Int)),(8,33,v209),(9,9,m9_),(10,8,m10_),(12,10,m12_)]∧(Below w.heap.size w w')∧(b 2=true→Kd.R (Kd.int .i64) 3 w' w.heap.size (fun _=>True) v203 y202)∧(b 5=true→Kd.R (Kd.int .i64) 3 w' w.heap.size (fun _=>True) v206 y205)∧(b 8=true→Kd.R (Kd.int .i64) 3 w' w.heap.size (fun _=>True) v209 y208)∧(b 9=true→b 11=false→w'.heap[gb211]?=some (.cells #[.slice none 0 0] 22 (0,0)))∧(b 9=true→w.heap.size≤gb211)∧(b 9=true→w.heap.size≤gb211)∧(b 11=true→w'.heap[gb211]?=some (.cells #[v206] 22 (0,0)))∧(b 9=true→(m9_:Value)=.pointer (some ⟨gb211,0,none⟩))∧(b 10=true→(m10_:Value)=v203)∧(b 12=true→(m12_:Value)=v209)∧(b 2=true→b 5=true→NEb v203 v206)∧(b 2=true→b 8=true→NEb v203 v209)∧(b 5=true→b 8=true→NEb v206 v209)) HT_.out HW_.out (by kernel_rfl) (by kernel_rfl) ?_ ?_ ?_
    ·exact⟨.bool false,.bool false,.bool false,0,.bool false,.bool false,.bool false,by simp only[putSel,Bool.false_eq_true,if_false],HB.out,fun h_=>absurd h_ (by decide),fun h_=>absurd h_ (by decide),fun h_=>absurd h_ (by decide),fun h_=>absurd h_ (by decide),fun h_=>absurd h_ (by decide),fun h_=>absurd h_ (by decide),fun h_=>absurd h_ (by decide),fun h_=>absurd h_ (by decide),fun h_=>absurd h_ (by decide),fun h_=>absurd h_ (by decide),fun h_=>absurd h_ (by decide),fun h_=>absurd h_ (by decide),fun h_=>absurd h_ (by decide)⟩
    ·skip
     clear HB;refine steps_cons ?_ ?_
     ·rintro b a w' ⟨v203,v206,v209,gb211,m9_,m10_,m12_,ha,Q_HB,Q_HO204,Q_HO207,Q_HO210,Q_BK211,Q_GW211,Q_GE211,Q_BK211_e11,Q_X9_,Q_X10_,Q_X12_,Q_N0,Q_N1,Q_N2⟩ hb_ hon hoff;refine⟨_,rfl,fun K hK=>?_⟩
      have e25:a.tmps[25]?=some (.slice A1 l1.length c1):=by rw[ha];exact(putSel_off rfl).trans rfl
      replace ha:=aM ha;have HB:=aM Q_HB;refine value_ (w1:=w') (v:=.int .i64 (l1.length:Int)) (by rfl) rfl ?_ ?_
      ·go_simp
       (try simp only[i64_w])
       try rfl
      refine hK.out _ _ ⟨v203,v206,v209,gb211,m9_,m10_,m12_,(by rw[ha.out];exact putSel_upk 0 hb_ rfl rfl rfl),Q_HB,fun h0_=>absurd ((hoff 2 (by kernel_rfl)).symm.trans h0_) (by decide),Q_HO207,Q_HO210,Q_BK211,Q_GW211,Q_GE211,fun h0_=>absurd ((hoff 11 (by kernel_rfl)).symm.trans h0_) (by decide),Q_X9_,fun h0_=>absurd ((hoff 10 (by kernel_rfl)).symm.trans h0_) (by decide),fun h0_=>absurd ((hoff 12 (by kernel_rfl)).symm.trans h0_) (by decide),Q_N0,Q_N1,Q_N2⟩
     refine steps_cons ?_ ?_
     ·rintro b a w' ⟨v203,v206,v209,gb211,m9_,m10_,m12_,ha,Q_HB,Q_HO204,Q_HO207,Q_HO210,Q_BK211,Q_GW211,Q_GE211,Q_BK211_e11,Q_X9_,Q_X10_,Q_X12_,Q_N0,Q_N1,Q_N2⟩ hb_ hon hoff;refine⟨_,rfl,fun K hK=>?_⟩
      have e26:a.tmps[26]?=some (.int .i64 (l1.length:Int)):=by rw[ha];exact putSel_on (e:=(1,26,.int .i64 (l1.length:Int))) 0 rfl rfl (hon 1 (by kernel_rfl)) rfl
      replace ha:=aM ha;have HB:=aM Q_HB;refine Kd.R_make_step (Kd.int .i64) _ 3 (by rfl) (N:=27) rfl 22 _ _ rfl (l1.length:Int) (by first|rfl|exact eval_some (by assumption)) (by first|rfl|exact eval_some (by assumption)) Try.underlying22 (.int .i64 0) 8 info3 rfl (by decide) (by omega) 0 (ok:=fun _=>True) (okp:=fun _=>True) rfl (fun _ hk=>hk) trivial (oE aS) (Nat.le_trans (Nat.mul_le_mul_right _ (oE aS:(l1.length:Int).toNat≤35184372088832)) (by omega)) (Below.refl _ _) (Nat.le_refl _) ?_
      intro v203 w9 ho10 hb hg_ hnew_;have z_N0:=fun(h0_:b 5=true)=>NEb_new (Q_HO207 h0_) (Kd.R_base ho10)
      have z_N1:=fun(h0_:b 8=true)=>NEb_new (Q_HO210 h0_) (Kd.R_base ho10)
      clear hg_ hnew_;(first|rw[← Ny202.out] at ho10|(simp only[Int.reduceToNat] at ho10;rw[← Ny202.out] at ho10))
      have n0_:=aM (Kd.R_lower ho10 (below_size pB));have n1_:=aM (below_step pB hb);have z_HO207:=fun(h0_:b 5=true)=>(show Kd.R (Kd.int .i64) 3 w9 w.heap.size (fun _=>True) v206 y205 from by first|exact(Kd.R_elder' (rX (Q_HO207 h0_)) (Kd.R_base ho10) hb)|exact Kd.R_mono (Kd.R_elder' (rX (Q_HO207 h0_)) (Kd.R_base ho10) hb) (fun _ h_=>by first|trivial|exact h_|exact h_.1))
      have z_HO210:=fun(h0_:b 8=true)=>(show Kd.R (Kd.int .i64) 3 w9 w.heap.size (fun _=>True) v209 y208 from by first|exact(Kd.R_elder' (rX (Q_HO210 h0_)) (Kd.R_base ho10) hb)|exact Kd.R_mono (Kd.R_elder' (rX (Q_HO210 h0_)) (Kd.R_base ho10) hb) (fun _ h_=>by first|trivial|exact h_|exact h_.1))
      have z_BK211:=fun(h0_:b 9=true) (h1_:b 11=false)=>(show w9.heap[gb211]?=some (.cells #[.slice none 0 0] 22 (0,0)) from by first|exact(blk_below (g:=gb211) (o:=.cells #[.slice none 0 0] 22 (0,0)) (by(with_reducible repeat(first|refine blk_drewN ?_ _|refine blk_drew ?_|refine blk_alloc ?_ _));exact(Q_BK211 h0_ h1_)) hb))
      clear HB;have HO204:=n0_;have HB:=n1_;clear n0_ n1_;clear hb ho10;refine hK.out _ _ ⟨v203,v206,v209,gb211,m9_,m10_,m12_,(by rw[ha.out];exact putSel_upk 1 hb_ rfl rfl rfl),pB,fun _=>(rX HO204.out),z_HO207,z_HO210,z_BK211,Q_GW211,Q_GE211,fun h0_=>absurd ((hoff 11 (by kernel_rfl)).symm.trans h0_) (by decide),Q_X9_,fun h0_=>absurd ((hoff 10 (by kernel_rfl)).symm.trans h0_) (by decide),fun h0_=>absurd ((hoff 12 (by kernel_rfl)).symm.trans h0_) (by decide),fun _ h1_=>z_N0 h1_,fun _ h1_=>z_N1 h1_,Q_N2⟩
     refine steps_cons ?_ ?_
     ·rintro b a w' ⟨v203,v206,v209,gb211,m9_,m10_,m12_,ha,Q_HB,Q_HO204,Q_HO207,Q_HO210,Q_BK211,Q_GW211,Q_GE211,Q_BK211_e11,Q_X9_,Q_X10_,Q_X12_,Q_N0,Q_N1,Q_N2⟩ hb_ hon hoff;refine⟨_,rfl,fun K hK=>?_⟩
      have e28:a.tmps[28]?=some (.slice A1 l1.length c1):=by rw[ha];exact(putSel_off rfl).trans rfl
      replace ha:=aM ha;have HB:=aM Q_HB;refine value_ (w1:=w') (v:=.int .i64 (l1.length:Int)) (by rfl) rfl ?_ ?_
      ·go_simp
       (try simp only[i64_w])
       try rfl
      refine hK.out _ _ ⟨v203,v206,v209,gb211,m9_,m10_,m12_,(by rw[ha.out];exact putSel_upk 2 hb_ rfl rfl rfl),Q_HB,Q_HO204,fun h0_=>absurd ((hoff 5 (by kernel_rfl)).symm.trans h0_) (by decide),Q_HO210,Q_BK211,Q_GW211,Q_GE211,fun h0_=>absurd ((hoff 11 (by kernel_rfl)).symm.trans h0_) (by decide),Q_X9_,Q_X10_,fun h0_=>absurd ((hoff 12 (by kernel_rfl)).symm.trans h0_) (by decide),Q_N0,Q_N1,Q_N2⟩
     refine steps_cons ?_ ?_
     ·rintro b a w' ⟨v203,v206,v209,gb211,m9_,m10_,m12_,ha,Q_HB,Q_HO204,Q_HO207,Q_HO210,Q_BK211,Q_GW211,Q_GE211,Q_BK211_e11,Q_X9_,Q_X10_,Q_X12_,Q_N0,Q_N1,Q_N2⟩ hb_ hon hoff;refine⟨_,rfl,fun K hK=>?_⟩
      have e29:a.tmps[29]?=some (.int .i64 (l1.length:Int)):=by rw[ha];exact putSel_on (e:=(4,29,.int .i64 (l1.length:Int))) 2 rfl rfl (hon 4 (by kernel_rfl)) rfl
      replace ha:=aM ha;have HB:=aM Q_HB;refine Kd.R_make_step (Kd.int .i64) _ 3 (by rfl) (N:=30) rfl 22 _ _ rfl (l1.length:Int) (by first|rfl|exact eval_some (by assumption)) (by first|rfl|exact eval_some (by assumption)) Try.underlying22 (.int .i64 0) 8 info3 rfl (by decide) (by omega) 0 (ok:=fun _=>True) (okp:=fun _=>True) rfl (fun _ hk=>hk) trivial (oE aS) (Nat.le_trans (Nat.mul_le_mul_right _ (oE aS:(l1.length:Int).toNat≤35184372088832)) (by omega)) (Below.refl _ _) (Nat.le_refl _) ?_
      intro v206 w9 ho10 hb hg_ hnew_;have z_N0:=fun(h0_:b 2=true)=>NEb_new (Q_HO204 h0_) (Kd.R_base ho10)
      have z_N2:=fun(h0_:b 8=true)=>NEb_new (Q_HO210 h0_) (Kd.R_base ho10)
      clear hg_ hnew_;(first|rw[← Ny205.out] at ho10|(simp only[Int.reduceToNat] at ho10;rw[← Ny205.out] at ho10))
      have n0_:=aM (Kd.R_lower ho10 (below_size pB));have n1_:=aM (below_step pB hb);have z_HO204:=fun(h0_:b 2=true)=>(show Kd.R (Kd.int .i64) 3 w9 w.heap.size (fun _=>True) v203 y202 from by first|exact(Kd.R_elder' (rX (Q_HO204 h0_)) (Kd.R_base ho10) hb)|exact Kd.R_mono (Kd.R_elder' (rX (Q_HO204 h0_)) (Kd.R_base ho10) hb) (fun _ h_=>by first|trivial|exact h_|exact h_.1))
      have z_HO210:=fun(h0_:b 8=true)=>(show Kd.R (Kd.int .i64) 3 w9 w.heap.size (fun _=>True) v209 y208 from by first|exact(Kd.R_elder' (rX (Q_HO210 h0_)) (Kd.R_base ho10) hb)|exact Kd.R_mono (Kd.R_elder' (rX (Q_HO210 h0_)) (Kd.R_base ho10) hb) (fun _ h_=>by first|trivial|exact h_|exact h_.1))
      have z_BK211:=fun(h0_:b 9=true) (h1_:b 11=false)=>(show w9.heap[gb211]?=some (.cells #[.slice none 0 0] 22 (0,0)) from by first|exact(blk_below (g:=gb211) (o:=.cells #[.slice none 0 0] 22 (0,0)) (by(with_reducible repeat(first|refine blk_drewN ?_ _|refine blk_drew ?_|refine blk_alloc ?_ _));exact(Q_BK211 h0_ h1_)) hb))
      clear HB;have HO207:=n0_;have HB:=n1_;clear n0_ n1_;clear hb ho10;refine hK.out _ _ ⟨v203,v206,v209,gb211,m9_,m10_,m12_,(by rw[ha.out];exact putSel_upk 3 hb_ rfl rfl rfl),pB,z_HO204,fun _=>(rX HO207.out),z_HO210,z_BK211,Q_GW211,Q_GE211,fun h0_=>absurd ((hoff 11 (by kernel_rfl)).symm.trans h0_) (by decide),Q_X9_,Q_X10_,fun h0_=>absurd ((hoff 12 (by kernel_rfl)).symm.trans h0_) (by decide),fun h1_ _=>(z_N0 h1_).symm,Q_N1,fun _ h1_=>z_N2 h1_⟩
     refine steps_cons ?_ ?_
     ·rintro b a w' ⟨v203,v206,v209,gb211,m9_,m10_,m12_,ha,Q_HB,Q_HO204,Q_HO207,Q_HO210,Q_BK211,Q_GW211,Q_GE211,Q_BK211_e11,Q_X9_,Q_X10_,Q_X12_,Q_N0,Q_N1,Q_N2⟩ hb_ hon hoff;refine⟨_,rfl,fun K hK=>?_⟩
      have e31:a.tmps[31]?=some (.slice A1 l1.length c1):=by rw[ha];exact(putSel_off rfl).trans rfl
      replace ha:=aM ha;have HB:=aM Q_HB;refine value_ (w1:=w') (v:=.int .i64 (l1.length:Int)) (by rfl) rfl ?_ ?_
      ·go_simp
       (try simp only[i64_w])
       try rfl
      refine hK.out _ _ ⟨v203,v206,v209,gb211,m9_,m10_,m12_,(by rw[ha.out];exact putSel_upk 4 hb_ rfl rfl rfl),Q_HB,Q_HO204,Q_HO207,fun h0_=>absurd ((hoff 8 (by kernel_rfl)).symm.trans h0_) (by decide),Q_BK211,Q_GW211,Q_GE211,Q_BK211_e11,Q_X9_,Q_X10_,fun h0_=>absurd ((hoff 12 (by kernel_rfl)).symm.trans h0_) (by decide),Q_N0,Q_N1,Q_N2⟩
     refine steps_cons ?_ ?_
     ·rintro b a w' ⟨v203,v206,v209,gb211,m9_,m10_,m12_,ha,Q_HB,Q_HO204,Q_HO207,Q_HO210,Q_BK211,Q_GW211,Q_GE211,Q_BK211_e11,Q_X9_,Q_X10_,Q_X12_,Q_N0,Q_N1,Q_N2⟩ hb_ hon hoff;refine⟨_,rfl,fun K hK=>?_⟩
      have e32:a.tmps[32]?=some (.int .i64 (l1.length:Int)):=by rw[ha];exact putSel_on (e:=(7,32,.int .i64 (l1.length:Int))) 4 rfl rfl (hon 7 (by kernel_rfl)) rfl
      replace ha:=aM ha;have HB:=aM Q_HB;refine Kd.R_make_step (Kd.int .i64) _ 3 (by rfl) (N:=33) rfl 22 _ _ rfl (l1.length:Int) (by first|rfl|exact eval_some (by assumption)) (by first|rfl|exact eval_some (by assumption)) Try.underlying22 (.int .i64 0) 8 info3 rfl (by decide) (by omega) 0 (ok:=fun _=>True) (okp:=fun _=>True) rfl (fun _ hk=>hk) trivial (oE aS) (Nat.le_trans (Nat.mul_le_mul_right _ (oE aS:(l1.length:Int).toNat≤35184372088832)) (by omega)) (Below.refl _ _) (Nat.le_refl _) ?_
      intro v209 w9 ho10 hb hg_ hnew_;have z_N1:=fun(h0_:b 2=true)=>NEb_new (Q_HO204 h0_) (Kd.R_base ho10)
      have z_N2:=fun(h0_:b 5=true)=>NEb_new (Q_HO207 h0_) (Kd.R_base ho10)
      clear hg_ hnew_;(first|rw[← Ny208.out] at ho10|(simp only[Int.reduceToNat] at ho10;rw[← Ny208.out] at ho10))
      have n0_:=aM (Kd.R_lower ho10 (below_size pB));have n1_:=aM (below_step pB hb);have z_HO204:=fun(h0_:b 2=true)=>(show Kd.R (Kd.int .i64) 3 w9 w.heap.size (fun _=>True) v203 y202 from by first|exact(Kd.R_elder' (rX (Q_HO204 h0_)) (Kd.R_base ho10) hb)|exact Kd.R_mono (Kd.R_elder' (rX (Q_HO204 h0_)) (Kd.R_base ho10) hb) (fun _ h_=>by first|trivial|exact h_|exact h_.1))
      have z_HO207:=fun(h0_:b 5=true)=>(show Kd.R (Kd.int .i64) 3 w9 w.heap.size (fun _=>True) v206 y205 from by first|exact(Kd.R_elder' (rX (Q_HO207 h0_)) (Kd.R_base ho10) hb)|exact Kd.R_mono (Kd.R_elder' (rX (Q_HO207 h0_)) (Kd.R_base ho10) hb) (fun _ h_=>by first|trivial|exact h_|exact h_.1))
      have z_BK211:=fun(h0_:b 9=true) (h1_:b 11=false)=>(show w9.heap[gb211]?=some (.cells #[.slice none 0 0] 22 (0,0)) from by first|exact(blk_below (g:=gb211) (o:=.cells #[.slice none 0 0] 22 (0,0)) (by(with_reducible repeat(first|refine blk_drewN ?_ _|refine blk_drew ?_|refine blk_alloc ?_ _));exact(Q_BK211 h0_ h1_)) hb))
      have z_BK211_e11:=fun(h0_:b 11=true)=>(show w9.heap[gb211]?=some (.cells #[v206] 22 (0,0)) from by first|exact(blk_below (g:=gb211) (o:=.cells #[v206] 22 (0,0)) (by(with_reducible repeat(first|refine blk_drewN ?_ _|refine blk_drew ?_|refine blk_alloc ?_ _));exact(Q_BK211_e11 h0_)) hb))
      clear HB;have HO210:=n0_;have HB:=n1_;clear n0_ n1_;clear hb ho10;refine hK.out _ _ ⟨v203,v206,v209,gb211,m9_,m10_,m12_,(by rw[ha.out];exact putSel_upk 5 hb_ rfl rfl rfl),pB,z_HO204,z_HO207,fun _=>(rX HO210.out),z_BK211,Q_GW211,Q_GE211,z_BK211_e11,Q_X9_,Q_X10_,fun h0_=>absurd ((hoff 12 (by kernel_rfl)).symm.trans h0_) (by decide),Q_N0,fun h1_ _=>(z_N1 h1_).symm,fun h1_ _=>(z_N2 h1_).symm⟩
     refine steps_cons ?_ ?_
     ·rintro b a w' ⟨v203,v206,v209,gb211,m9_,m10_,m12_,ha,Q_HB,Q_HO204,Q_HO207,Q_HO210,Q_BK211,Q_GW211,Q_GE211,Q_BK211_e11,Q_X9_,Q_X10_,Q_X12_,Q_N0,Q_N1,Q_N2⟩ hb_ hon hoff;refine⟨_,rfl,fun K hK=>?_⟩
      replace ha:=aM ha;have HB:=aM Q_HB;refine box_step ?hg (N:=9) ?hd (cs:=#[.slice none 0 0]) (t:=22) ?hr ?_;(case hd=>rfl);(case hg=>rfl);(case hr=>first|(go_simp;done)|(go_simp;rfl))
      intro gb211 hg w9 hbox hb;have n0_:=aM (below_step pB hb);have n1_:=aM (hbox);have n2_:=aM (gW hg:w.heap.size≤gb211);have n3_:=aM (gW hg:w.heap.size≤gb211);have z_HO204:=fun(h0_:b 2=true)=>(show Kd.R (Kd.int .i64) 3 w9 w.heap.size (fun _=>True) v203 y202 from by first|exact(Kd.R_below (rX (Q_HO204 h0_)) hb)|exact Kd.R_mono (Kd.R_below (rX (Q_HO204 h0_)) hb) (fun _ h_=>by first|trivial|exact h_|exact h_.1))
      have z_HO207:=fun(h0_:b 5=true)=>(show Kd.R (Kd.int .i64) 3 w9 w.heap.size (fun _=>True) v206 y205 from by first|exact(Kd.R_below (rX (Q_HO207 h0_)) hb)|exact Kd.R_mono (Kd.R_below (rX (Q_HO207 h0_)) hb) (fun _ h_=>by first|trivial|exact h_|exact h_.1))
      have z_HO210:=fun(h0_:b 8=true)=>(show Kd.R (Kd.int .i64) 3 w9 w.heap.size (fun _=>True) v209 y208 from by first|exact(Kd.R_below (rX (Q_HO210 h0_)) hb)|exact Kd.R_mono (Kd.R_below (rX (Q_HO210 h0_)) hb) (fun _ h_=>by first|trivial|exact h_|exact h_.1))
      clear HB;have HB:=n0_;have BK211:=n1_;have GW211:=n2_;have GE211:=n3_;clear n0_ n1_ n2_ n3_;clear hb hbox hg;refine hK.out _ _ ⟨v203,v206,v209,gb211,(.pointer (some ⟨gb211,0,none⟩)),m10_,m12_,(by rw[ha.out];exact putSel_upk 6 hb_ rfl rfl rfl),pB,z_HO204,z_HO207,z_HO210,fun _ _=>(kW BK211),fun _=>GW211.out,fun _=>GE211.out,fun h0_=>absurd ((hoff 11 (by kernel_rfl)).symm.trans h0_) (by decide),fun _=>rfl,fun h0_=>absurd ((hoff 10 (by kernel_rfl)).symm.trans h0_) (by decide),fun h0_=>absurd ((hoff 12 (by kernel_rfl)).symm.trans h0_) (by decide),Q_N0,Q_N1,Q_N2⟩
     refine steps_cons ?_ ?_
     ·rintro b a w' ⟨v203,v206,v209,gb211,m9_,m10_,m12_,ha,Q_HB,Q_HO204,Q_HO207,Q_HO210,Q_BK211,Q_GW211,Q_GE211,Q_BK211_e11,Q_X9_,Q_X10_,Q_X12_,Q_N0,Q_N1,Q_N2⟩ hb_ hon hoff;refine⟨_,rfl,fun K hK=>?_⟩
      have e27:a.tmps[27]?=some (v203):=by rw[ha];exact putSel_on (e:=(2,27,v203)) 1 rfl rfl (hon 2 (by kernel_rfl)) rfl
      replace ha:=aM ha;have HB:=aM Q_HB;have HO204:=aM (Q_HO204 (hon 2 (by kernel_rfl)))
      have BK211:=aM (Q_BK211 (hon 9 (by kernel_rfl)) (hoff 11 (by kernel_rfl)))
      have GW211:=aM (Q_GW211 (hon 9 (by kernel_rfl)))
      have GE211:=aM (Q_GE211 (hon 9 (by kernel_rfl)))
      refine value_ (w1:=w') (v:=v203) (by rfl) rfl ?_ ?_
      ·go_simp
       (try simp only[i64_w])
       try rfl
      refine hK.out _ _ ⟨v203,v206,v209,gb211,m9_,(v203),m12_,(by rw[ha.out];exact putSel_upk 7 hb_ rfl rfl rfl),Q_HB,Q_HO204,Q_HO207,Q_HO210,Q_BK211,Q_GW211,Q_GE211,fun h0_=>absurd ((hoff 11 (by kernel_rfl)).symm.trans h0_) (by decide),Q_X9_,fun _=>rfl,fun h0_=>absurd ((hoff 12 (by kernel_rfl)).symm.trans h0_) (by decide),Q_N0,Q_N1,Q_N2⟩
     refine steps_cons ?_ ?_
     ·rintro b a w' ⟨v203,v206,v209,gb211,m9_,m10_,m12_,ha,Q_HB,Q_HO204,Q_HO207,Q_HO210,Q_BK211,Q_GW211,Q_GE211,Q_BK211_e11,Q_X9_,Q_X10_,Q_X12_,Q_N0,Q_N1,Q_N2⟩ hb_ hon hoff;refine⟨_,rfl,fun K hK=>?_⟩
      have e9:a.tmps[9]?=some (m9_):=by rw[ha];exact putSel_on (e:=(9,9,m9_)) 6 rfl rfl (hon 9 (by kernel_rfl)) rfl
      rw[Q_X9_ (hon 9 (by kernel_rfl))] at e9
      have e30:a.tmps[30]?=some (v206):=by rw[ha];exact putSel_on (e:=(5,30,v206)) 3 rfl rfl (hon 5 (by kernel_rfl)) rfl
      replace ha:=aM ha;have HB:=aM Q_HB;have HO204:=aM (Q_HO204 (hon 2 (by kernel_rfl)))
      have HO207:=aM (Q_HO207 (hon 5 (by kernel_rfl)))
      have BK211:=aM (Q_BK211 (hon 9 (by kernel_rfl)) hb_)
      have GW211:=aM (Q_GW211 (hon 9 (by kernel_rfl)))
      have GE211:=aM (Q_GE211 (hon 9 (by kernel_rfl)))
      obtain⟨Ao15,co15,eo15⟩:=Kd.R_slice HO207.out;(first|subst eo15|(injection eo15 with f1_ f2_ f3_;have f4_:=f1_.symm;have f5_:=f3_.symm;clear f1_ f2_ f3_;subst f4_;subst f5_))
      have hs16:w'.cell? ⟨gb211,0,none⟩=some (.slice none 0 0):=(blk_cell BK211.out 0).trans rfl;have hfs16:=blk_frozen BK211.out 0;refine skip_ (w1:=?_) (by rfl) rfl ?_ ?_
      rotate_left
      ·go_simp
       rfl
      refine hK.out _ _ ⟨v203,.slice Ao15 y205.length co15,v209,gb211,m9_,m10_,m12_,(by rw[ha.out];exact putSel_none (v:=undef) rfl),pB,fun _=>(rX (Kd.R_mono (Kd.R_far (p:=⟨gb211,0,none⟩) (Kd.R_types HO204.out BK211.out (by decide)) (fun _ hk=>hk.2) (.slice Ao15 y205.length co15)) (fun _ hk=>hk.1))),fun _=>(rX (Kd.R_mono (Kd.R_far (p:=⟨gb211,0,none⟩) (Kd.R_types HO207.out BK211.out (by decide)) (fun _ hk=>hk.2) (.slice Ao15 y205.length co15)) (fun _ hk=>hk.1))),fun h0_=>(rX (Kd.R_mono (Kd.R_far (p:=⟨gb211,0,none⟩) (Kd.R_types (Q_HO210 h0_) BK211.out (by decide)) (fun _ hk=>hk.2) (.slice Ao15 y205.length co15)) (by first|exact(fun _ hk=>hk.1)|exact(fun _ hk=>⟨hk.1.1,hk.1.2⟩)))),fun _ h1_=>absurd ((up_self b 11).symm.trans h1_) (by decide),fun _=>GW211.out,fun _=>GE211.out,fun _=>(by refine bD ?_;refine blk_put (cs:=#[.slice none 0 0]) ?_ 0 _ rfl;(with_reducible repeat(first|refine blk_drewN ?_ _|refine blk_drew ?_|refine blk_alloc ?_ _));exact BK211.out),Q_X9_,Q_X10_,fun h0_=>absurd ((hoff 12 (by kernel_rfl)).symm.trans h0_) (by decide),Q_N0,Q_N1,Q_N2⟩
     refine steps_cons ?_ ?_
     ·rintro b a w' ⟨v203,v206,v209,gb211,m9_,m10_,m12_,ha,Q_HB,Q_HO204,Q_HO207,Q_HO210,Q_BK211,Q_GW211,Q_GE211,Q_BK211_e11,Q_X9_,Q_X10_,Q_X12_,Q_N0,Q_N1,Q_N2⟩ hb_ hon hoff;refine⟨_,rfl,fun K hK=>?_⟩
      have e33:a.tmps[33]?=some (v209):=by rw[ha];exact putSel_on (e:=(8,33,v209)) 5 rfl rfl (hon 8 (by kernel_rfl)) rfl
      replace ha:=aM ha;have HB:=aM Q_HB;have HO204:=aM (Q_HO204 (hon 2 (by kernel_rfl)))
      have HO207:=aM (Q_HO207 (hon 5 (by kernel_rfl)))
      have HO210:=aM (Q_HO210 (hon 8 (by kernel_rfl)))
      have GW211:=aM (Q_GW211 (hon 9 (by kernel_rfl)))
      have GE211:=aM (Q_GE211 (hon 9 (by kernel_rfl)))
      have BK211:=aM (Q_BK211_e11 (hon 11 (by kernel_rfl)))
      refine value_ (w1:=w') (v:=v209) (by rfl) rfl ?_ ?_
      ·go_simp
       (try simp only[i64_w])
       try rfl
      refine hK.out _ _ ⟨v203,v206,v209,gb211,m9_,m10_,(v209),(by rw[ha.out];exact putSel_upk 8 hb_ rfl rfl rfl),Q_HB,Q_HO204,Q_HO207,Q_HO210,fun _ h1_=>absurd ((hon 11 (by kernel_rfl)).symm.trans h1_) (by decide),Q_GW211,Q_GE211,Q_BK211_e11,Q_X9_,Q_X10_,fun _=>rfl,Q_N0,Q_N1,Q_N2⟩
     exact steps_nil
    rintro b a w18 hall ⟨v203,v206,v209,gb211,m9_,m10_,m12_,ha,Q_HB,Q_HO204,Q_HO207,Q_HO210,Q_BK211,Q_GW211,Q_GE211,Q_BK211_e11,Q_X9_,Q_X10_,Q_X12_,Q_N0,Q_N1,Q_N2⟩;clear HB;have hb1_:=hall 1 (by kernel_rfl)
    have hb2_:=hall 2 (by kernel_rfl)
    have hb4_:=hall 4 (by kernel_rfl)
    have hb5_:=hall 5 (by kernel_rfl)
    have hb7_:=hall 7 (by kernel_rfl)
    have hb8_:=hall 8 (by kernel_rfl)
    have hb9_:=hall 9 (by kernel_rfl)
    have hb10_:=hall 10 (by kernel_rfl)
    have hb11_:=hall 11 (by kernel_rfl)
    have hb12_:=hall 12 (by kernel_rfl)
    subst ha;obtain rfl:=(Q_X9_ hb9_).symm;obtain rfl:=(Q_X10_ hb10_).symm;obtain rfl:=(Q_X12_ hb12_).symm;simp only[putSel,hb1_,hb2_,hb4_,hb5_,hb7_,hb8_,hb9_,hb10_,hb11_,hb12_,if_true,Act.put,sA,sZ,sC];have HB:=aM Q_HB;clear Q_HB;have HO204:=aM (Kd.R_reok (ok:=fun k_=>some k_≠(v206:Value).ownBlock∧some k_≠(v209:Value).ownBlock) rfl (Q_HO204 hb2_) (fun k_ hk_=>⟨(Q_N0 hb2_ hb5_) k_ hk_,(Q_N1 hb2_ hb8_) k_ hk_⟩))
    clear Q_HO204;have HO207:=aM (Kd.R_reok (ok:=fun k_=>some k_≠(v203:Value).ownBlock∧some k_≠(v209:Value).ownBlock) rfl (Q_HO207 hb5_) (fun k_ hk_=>⟨(Q_N0 hb2_ hb5_).symm k_ hk_,(Q_N2 hb5_ hb8_) k_ hk_⟩))
    clear Q_HO207;have HO210:=aM (Kd.R_reok (ok:=fun k_=>some k_≠(v203:Value).ownBlock∧some k_≠(v206:Value).ownBlock) rfl (Q_HO210 hb8_) (fun k_ hk_=>⟨(Q_N1 hb2_ hb8_).symm k_ hk_,(Q_N2 hb5_ hb8_).symm k_ hk_⟩))
    clear Q_HO210;clear Q_BK211;have GW211:=aM (Q_GW211 hb9_);clear Q_GW211;have GE211:=aM (Q_GE211 hb9_);clear Q_GE211;have BK211:=aM (Q_BK211_e11 hb11_);clear Q_BK211_e11;clear hall hb1_ hb2_ hb4_ hb5_ hb7_ hb8_ hb9_ hb10_ hb11_ hb12_;try go_wp2
    go_loopg [11,37] k (fun kq v11 v37 w'=>∃ (x8_1:List Int) (x10_1:List Int) (x11_1:Int) (x37_1:Int) (x212000_1:List Int) (u212000:Value),v11=.int .i64 x11_1∧v37=.int .i64 x37_1∧Aside0 (Azf.l0 kq a0 t200 x8_1 x10_1 x11_1 l1 (l1.length:Int) x37_1 x212000_1=some (r1,r2))∧Aside0 (kq≤k)∧Aside0 (Kd.R (Kd.int .i64) 3 w' w.heap.size (fun k_=>some k_≠(v209:Value).ownBlock∧some k_≠(u212000:Value).ownBlock) v203 x8_1)∧Aside0 (Kd.R (Kd.int .i64) 3 w' w.heap.size (fun k_=>some k_≠(v203:Value).ownBlock∧some k_≠(u212000:Value).ownBlock) v209 x10_1)∧Aside0 (Kd.R (Kd.int .i64) 3 w' w.heap.size (fun k_=>some k_≠(v203:Value).ownBlock∧some k_≠(v209:Value).ownBlock) u212000 x212000_1)∧Aside0 (w'.heap[gb211]?=some (.cells #[u212000] 22 (0,0)))∧Aside0 (Below w.heap.size w w'))
    case atStart=>exact⟨(y202),(y208),(a0),(0),(y205),(v206),sD,sD,H',⟨Nat.le_refl _⟩,⟨by(with_reducible repeat(first|apply Kd.R_alloc|apply Kd.R_drewN|apply Kd.R_drew));exact Kd.R_mono HO204.out (fun _ hk=>⟨hk.2,hk.1⟩)⟩,⟨rX HO210.out⟩,⟨rX HO207.out⟩,⟨by(with_reducible repeat(first|refine blk_drewN ?_ _|refine blk_drew ?_|refine blk_alloc ?_ _));exact BK211.out⟩,⟨pB⟩⟩
    case round =>
     clear H';try clear c1
     try clear c2
     try clear p2
     try clear c4
     try clear c4b0
     try clear c4b1
     try clear c5
     try clear c5b0
     try clear c5b1
     try clear c6
     try clear c6b0
     try clear c6b1
     try clear c11
     obtain⟨x8_1,x10_1,x11_1,x37_1,x212000_1,u212000,rfl,rfl,HA,HK1,HO_8,HO_10,HO_212000,BK211,HB⟩:=hrel;cases gk with
     | zero=>exact absurd HA.out (by simp [Azf.l0])
     | succ k1 =>
      have H:=HA.out;clear HA;simp only[Azf.l0] at H;by_cases c19:x37_1 < (l1.length:Int)
      ·rw[if_pos c19] at H;have c19b0:decide (x37_1 < (l1.length:Int))=true:=dE c19;clear c19;by_cases c20:0≤x37_1
       ·rw[if_pos c20] at H;have c20b0:decide (0≤x37_1)=true:=dE c20;clear c20;by_cases c21:x37_1 < (l1.length:Int)
        ·rw[if_pos c21] at H;have c21b0:decide (x37_1 < (l1.length:Int))=true:=dE c21;clear c21;replace H:=bS H;obtain⟨⟨t213,t214⟩,A220,H⟩:=H;(try dsimp only at H);have A22:=aM A220;clear A220;by_cases c23:x37_1 < (x8_1.length:Int)
         ·rw[if_pos c23] at H;have c23b0:decide (x37_1 < (x8_1.length:Int))=true:=dE c23;clear c23;obtain⟨y215,hy215⟩:∃ y_:List Int,y_=(x8_1.set (x37_1:Int).toNat t213):=⟨_,rfl⟩;replace H:(if x37_1 < (x212000_1.length:Int) then(if x37_1 < (x10_1.length:Int) then(Azf.l0 k1 a0 t200 y215 (x10_1.set (x37_1:Int).toNat x37_1) (wrap64 (x11_1 - (rd y215 x37_1))) l1 (l1.length:Int) (wrap64 (x37_1+1)) (x212000_1.set (x37_1:Int).toNat t214)) else(none)) else(none))=some (r1,r2):=by first|(rw[hy215];with_reducible exact H)|(have H2_:=(Option.bind_some _ _).symm.trans H;rw[hy215];with_reducible exact H2_)|(have H2_:=(Option.bind_some _ _).symm.trans H;with_reducible exact H2_)|with_reducible exact H|(rw[hy215];exact H)|exact H
          have Ny215:=aM hy215;clear hy215;by_cases c25:x37_1 < (x212000_1.length:Int)
          ·rw[if_pos c25] at H;have c25b0:decide (x37_1 < (x212000_1.length:Int))=true:=dE c25;clear c25;obtain⟨y216,hy216⟩:∃ y_:List Int,y_=(x212000_1.set (x37_1:Int).toNat t214):=⟨_,rfl⟩;replace H:(if x37_1 < (x10_1.length:Int) then(Azf.l0 k1 a0 t200 y215 (x10_1.set (x37_1:Int).toNat x37_1) (wrap64 (x11_1 - (rd y215 x37_1))) l1 (l1.length:Int) (wrap64 (x37_1+1)) y216) else(none))=some (r1,r2):=by first|(rw[hy216];with_reducible exact H)|(have H2_:=(Option.bind_some _ _).symm.trans H;rw[hy216];with_reducible exact H2_)|(have H2_:=(Option.bind_some _ _).symm.trans H;with_reducible exact H2_)|with_reducible exact H|(rw[hy216];exact H)|exact H
           have Ny216:=aM hy216;clear hy216;by_cases c27:x37_1 < (x10_1.length:Int)
           ·rw[if_pos c27] at H;have c27b0:decide (x37_1 < (x10_1.length:Int))=true:=dE c27;clear c27;obtain⟨y217,hy217⟩:∃ y_:List Int,y_=(x10_1.set (x37_1:Int).toNat x37_1):=⟨_,rfl⟩;replace H:(Azf.l0 k1 a0 t200 y215 y217 (wrap64 (x11_1 - (rd y215 x37_1))) l1 (l1.length:Int) (wrap64 (x37_1+1)) y216)=some (r1,r2):=by first|(rw[hy217];with_reducible exact H)|(have H2_:=(Option.bind_some _ _).symm.trans H;rw[hy217];with_reducible exact H2_)|(have H2_:=(Option.bind_some _ _).symm.trans H;with_reducible exact H2_)|with_reducible exact H|(rw[hy217];exact H)|exact H
            have Ny217:=aM hy217;clear hy217;have H':=aM H;clear H;have p212:0≤(x37_1:Int):=oE aS
            have q212:x37_1 < (l1.length:Int):=oE aS
            obtain⟨ad212,e212,hx212_0⟩:=Kd.at_int HR1.out x37_1 p212 q212;cases e212
            replace hx212_0:=(HB.out.cell (World.block_lt_of_cell? w _ hx212_0)).trans hx212_0;replace p212:=eq_true p212;replace q212:=eq_true q212;try go_wp2
            have n0_:=aM (Kd.R_drew HO_8.out);have n1_:=aM (Kd.R_drew HO_10.out);have n2_:=aM (Kd.R_drew HO_212000.out);have n3_:=aM (blk_drew BK211.out);have n4_:=aM (below_drew1 HB.out);clear HO_8;clear HO_10;clear HO_212000;clear BK211;clear HB;have HO_8:=n0_;have HO_10:=n1_;have HO_212000:=n2_;have BK211:=n3_;have HB:=n4_;clear n0_ n1_ n2_ n3_ n4_;refine start_ (n:=15) (S:=fun w'=>w'.cell? ⟨gb211,0,none⟩=some (u212000)) (ds:=[14]) #[false,false,false,false,false,false,false,false,false,false,false,false,false,false,false] (by kernel_rfl) rfl rfl ((blk_cell BK211.out 0).trans rfl) (fun hHeld=>?_);refine with_tabW Azf.tab9 Azf.bits9 (fun HT_ HW_=>?_)
            generalize wr.drew=w29 at HO_8 HO_10 HO_212000 BK211 HB hHeld ⊢;refine pU (i:=0) (N:=some 43) HT_ #[true,false,false,false,false,false,false,false,false,false,false,false,false,false,false] ?_;refine pU (i:=1) (N:=some 44) HT_ #[true,true,false,false,false,false,false,false,false,false,false,false,false,false,false] ?_;refine pU (i:=3) (N:=some 46) HT_ #[true,true,false,true,false,false,false,false,false,false,false,false,false,false,false] ?_;refine pU (i:=4) (N:=some 47) HT_ #[true,true,false,true,true,false,false,false,false,false,false,false,false,false,false] ?_;refine pU (i:=5) (N:=some 48) HT_ #[true,true,false,true,true,true,false,false,false,false,false,false,false,false,false] ?_;refine pU (i:=6) (N:=some 49) HT_ #[true,true,false,true,true,true,true,false,false,false,false,false,false,false,false] ?_;refine take_ (i:=2) (N:=some 45) (v:=?_) (a':=?_) #[true,true,true,true,true,true,true,false,false,false,false,false,false,false,false] rfl rfl (take_ofW HT_.out HW_.out (by kernel_rfl)) (fun _ _ _ h=>h) (Or.inl ⟨by rfl,?_⟩) hHeld ?_ ?_
            rotate_left
            ·intro w' s0;go_simp
             with_reducible rfl
            rotate_left
            ·simp only[Act.put,sA,sZ,sC,i64_w,i32_w];rfl
            refine one_ (i:=7) (N:=some 50) #[true,true,true,true,true,true,true,true,false,false,false,false,false,false,false] rfl rfl (one_of HT_.out (by kernel_rfl)) (by decide) (fun K hK=>?_)
            refine goes_ Try.func24 (by kernel_rfl) rfl #[.int .i64 a0,.int .i64 (rd l1 x37_1),.int .i64 t200] (by rfl) rfl rfl mA ?_
            with_reducible refine(Czy.calls a0 (rd l1 x37_1) t200 t213 t214 _ A22.out).mono ?_
            rintro e w30 ⟨rfl,hb⟩;refine⟨_,rfl,?_⟩;have n0_:=aM (Kd.R_below (rX HO_8.out) hb);have n1_:=aM (Kd.R_below (rX HO_10.out) hb);have n2_:=aM (Kd.R_below (rX HO_212000.out) hb);have n3_:=aM (kB BK211 hb);have n4_:=aM (below_step pB hb);clear HO_8;clear HO_10;clear HO_212000;clear BK211;clear HB;have HO_8:=n0_;have HO_10:=n1_;have HO_212000:=n2_;have BK211:=n3_;have HB:=n4_;clear n0_ n1_ n2_ n3_ n4_;(try clear hb)
            (try clear hb2)
            (try clear hk)
            (try clear hi)
            have p24:0≤(x37_1:Int):=oE aS
            have q24:(x37_1:Int) < ((x8_1.length:Int):Int):=oE aS
            obtain⟨go24,co24,eo24,gb24,gl24,cl24,HG24⟩:=Kd.R_form HO_8.out (by omega)
            (first|cases eo24|(injection eo24 with ea_ en_ ec_;(first|subst ea_|(injection ea_ with ea_;subst ea_));subst ec_;clear en_))
            have GB24:=aM gb24;have GG24:=aM HG24;clear gb24 gl24 HG24;obtain⟨hx24_0,hf24_0⟩:=Kd.R_celln 0 HO_8.out (x37_1:Int) p24 q24;replace p24:=eq_true p24;replace q24:=eq_true q24;have HP31:=Kd.R_putn HO_8.out (x37_1:Int) t213;rw[← Ny215.out] at HP31;have HQ31:=aM HP31;clear HP31;have p26:0≤(x37_1:Int):=oE aS
            have q26:(x37_1:Int) < ((x212000_1.length:Int):Int):=oE aS
            obtain⟨go26,co26,eo26,gb26,gl26,cl26,HG26⟩:=Kd.R_form HO_212000.out (by omega)
            (first|cases eo26|(injection eo26 with ea_ en_ ec_;(first|subst ea_|(injection ea_ with ea_;subst ea_));subst ec_;clear en_))
            have GB26:=aM gb26;have GG26:=aM HG26;clear gb26 gl26 HG26;obtain⟨hx26_0,hf26_0⟩:=Kd.R_celln 0 (Kd.R_far (p:=⟨go24,(x37_1:Int).toNat,none⟩) (Kd.R_mono HO_212000.out (fun k_ hk=>(⟨hk,fun e_=>hk.1 (by rw[e_];rfl)⟩:_∧k_≠go24))) (fun _ hk=>hk.2) (.int .i64 t213)) (x37_1:Int) p26 q26
            replace p26:=eq_true p26;replace q26:=eq_true q26;have HP32:=Kd.R_putn (Kd.R_far (p:=⟨go24,(x37_1:Int).toNat,none⟩) (Kd.R_mono HO_212000.out (fun k_ hk=>(⟨hk,fun e_=>hk.1 (by rw[e_];rfl)⟩:_∧k_≠go24))) (fun _ hk=>hk.2) (.int .i64 t213)) (x37_1:Int) t214
            rw[← Ny216.out] at HP32;have HQ32:=aM HP32;clear HP32;refine hK.out _ _ ((blk_cell BK211.out 0).trans rfl) (fun hHeld=>?_)
            clear hK K;refine norm_ (a':=?_) ?_ ?_;rotate_left
            ·show Act.put _ (some 50) _=_
             simp only[Act.put,sA,sZ,sC,i64_w,i32_w];rfl
            refine pU (i:=8) (N:=some 42) HT_ #[true,true,true,true,true,true,true,true,true,false,false,false,false,false,false] ?_;refine pU (i:=9) (N:=some 51) HT_ #[true,true,true,true,true,true,true,true,true,true,false,false,false,false,false] ?_;refine pU (i:=10) (N:=some 52) HT_ #[true,true,true,true,true,true,true,true,true,true,true,false,false,false,false] ?_;refine pU (i:=11) (N:=some 53) HT_ #[true,true,true,true,true,true,true,true,true,true,true,true,false,false,false] ?_;refine one_ (i:=12) (N:=none) #[true,true,true,true,true,true,true,true,true,true,true,true,true,false,false] rfl rfl (one_of HT_.out (by kernel_rfl)) (by decide) (fun K hK=>?_)
            refine skip_ (w1:=?_) (by rfl) rfl ?_ ?_
            rotate_left
            ·go_simp
             rfl
            refine hK.out _ _ (((cell_far (by have h_:=Kd.R_ne HO_8.out BK211.out (by decide);intro e_;exact h_ (congrArg some e_)) _).trans (hHeld))) (fun hHeld=>?_)
            clear hK K;refine pU (i:=13) (N:=some 54) HT_ #[true,true,true,true,true,true,true,true,true,true,true,true,true,true,false] ?_;refine last_ (i:=14) (N:=none) #[true,true,true,true,true,true,true,true,true,true,true,true,true,true,true] rfl rfl (one_of HT_.out (by kernel_rfl)) (by decide) (fun K hK=>?_)
            refine skip_ (w1:=?_) (by rfl) rfl ?_ ?_
            rotate_left
            ·go_simp
             rfl
            refine hK.out _ _ ?_;clear hK K;refine done_ (done_of HT_.out (by kernel_rfl)) ?_
            have n0_:Aside0 (Kd.R (Kd.int .i64) 3 ((w30.setCell ⟨go24,(x37_1:Int).toNat,none⟩ (.int .i64 t213)).setCell ⟨go26,(x37_1:Int).toNat,none⟩ (.int .i64 t214)) w.heap.size (fun k_=>some k_≠(v209:Value).ownBlock∧some k_≠(.slice (some ⟨go26,0,none⟩) x212000_1.length co26:Value).ownBlock) (.slice (some ⟨go24,0,none⟩) x8_1.length co24) y215):=⟨by(with_reducible repeat(first|apply Kd.R_alloc|apply Kd.R_drewN|apply Kd.R_drew));exact Kd.R_mono (Kd.R_far (p:=⟨go26,(x37_1:Int).toNat,none⟩) (Kd.R_mono HQ31.out (fun k_ hk=>(⟨hk,fun e_=>hk.2 (by rw[e_];rfl)⟩:_∧k_≠go26))) (fun _ hk=>hk.2) (.int .i64 t214)) (fun _ hk=>⟨hk.1.1,hk.1.2⟩)⟩
            have n1_:Aside0 (Kd.R (Kd.int .i64) 3 ((w30.setCell ⟨go24,(x37_1:Int).toNat,none⟩ (.int .i64 t213)).setCell ⟨go26,(x37_1:Int).toNat,none⟩ (.int .i64 t214)) w.heap.size (fun k_=>some k_≠(.slice (some ⟨go24,0,none⟩) x8_1.length co24:Value).ownBlock∧some k_≠(.slice (some ⟨go26,0,none⟩) x212000_1.length co26:Value).ownBlock) v209 x10_1):=⟨by(with_reducible repeat(first|apply Kd.R_alloc|apply Kd.R_drewN|apply Kd.R_drew));exact Kd.R_mono (Kd.R_far (p:=⟨go26,(x37_1:Int).toNat,none⟩) (Kd.R_far (p:=⟨go24,(x37_1:Int).toNat,none⟩) (Kd.R_mono (Kd.R_mono HO_10.out (fun k_ hk=>(⟨hk,fun e_=>hk.1 (by rw[e_];rfl)⟩:_∧k_≠go24))) (fun k_ hk=>(⟨hk,fun e_=>hk.1.2 (by rw[e_];rfl)⟩:_∧k_≠go26))) (fun _ hk=>hk.1.2) (.int .i64 t213)) (fun _ hk=>hk.2) (.int .i64 t214)) (fun _ hk=>⟨hk.1.1.1,hk.1.1.2⟩)⟩
            have n2_:Aside0 (Kd.R (Kd.int .i64) 3 ((w30.setCell ⟨go24,(x37_1:Int).toNat,none⟩ (.int .i64 t213)).setCell ⟨go26,(x37_1:Int).toNat,none⟩ (.int .i64 t214)) w.heap.size (fun k_=>some k_≠(.slice (some ⟨go24,0,none⟩) x8_1.length co24:Value).ownBlock∧some k_≠(v209:Value).ownBlock) (.slice (some ⟨go26,0,none⟩) x212000_1.length co26) y216):=⟨by(with_reducible repeat(first|apply Kd.R_alloc|apply Kd.R_drewN|apply Kd.R_drew));exact Kd.R_mono HQ32.out (fun _ hk=>⟨hk.1.1,hk.1.2⟩)⟩
            have n3_:Aside0 (((w30.setCell ⟨go24,(x37_1:Int).toNat,none⟩ (.int .i64 t213)).setCell ⟨go26,(x37_1:Int).toNat,none⟩ (.int .i64 t214)).heap[gb211]?=some (.cells #[.slice (some ⟨go26,0,none⟩) x212000_1.length co26] 22 (0,0))):=⟨by refine bD ?_;refine blk_far ?_ (by have h_:=Kd.R_ne HO_212000.out BK211.out (by decide);intro e_;exact h_ (by rw[e_];rfl)) _;refine bD ?_;refine blk_far ?_ (by have h_:=Kd.R_ne HO_8.out BK211.out (by decide);intro e_;exact h_ (by rw[e_];rfl)) _;(with_reducible repeat(first|refine blk_drewN ?_ _|refine blk_drew ?_|refine blk_alloc ?_ _));exact BK211.out⟩
            have n4_:Aside0 (Below w.heap.size w ((w30.setCell ⟨go24,(x37_1:Int).toNat,none⟩ (.int .i64 t213)).setCell ⟨go26,(x37_1:Int).toNat,none⟩ (.int .i64 t214))):=⟨pB⟩;(try clear HO_8)
            (try clear HO_10)
            (try clear HO_212000)
            (try clear BK211)
            (try clear HB)
            generalize ((w30.setCell ⟨go24,(x37_1:Int).toNat,none⟩ (.int .i64 t213)).setCell ⟨go26,(x37_1:Int).toNat,none⟩ (.int .i64 t214))=w33 at n0_ n1_ n2_ n3_ n4_ ⊢;have HO_8:=n0_;have HO_10:=n1_;have HO_212000:=n2_;have BK211:=n3_;have HB:=n4_;clear n0_ n1_ n2_ n3_ n4_;have p28:0≤(x37_1:Int):=oE aS
            have q28:(x37_1:Int) < ((x10_1.length:Int):Int):=oE aS
            obtain⟨go28,co28,eo28,gb28,gl28,cl28,HG28⟩:=Kd.R_form HO_10.out (by omega)
            (first|cases eo28|(injection eo28 with ea_ en_ ec_;(first|subst ea_|(injection ea_ with ea_;subst ea_));subst ec_;clear en_))
            have GB28:=aM gb28;have GG28:=aM HG28;clear gb28 gl28 HG28;obtain⟨hx28_0,hf28_0⟩:=Kd.R_celln 0 HO_10.out (x37_1:Int) p28 q28;replace p28:=eq_true p28;replace q28:=eq_true q28;obtain⟨hy34_,hz34_⟩:=Kd.R_celln 0 HO_10.out (x37_1:Int) (oE aS) (oE aS)
            have HP34:=Kd.R_putg HO_10.out (x37_1:Int) x37_1;try go_wp2_with (first|((with_reducible refine gate_store (t:=3) (p:=58) rfl ?_);refine store_event (t:=3) (p:=58) (v:=?vo_w35) (w1:=(w33.setCell ⟨go28,(x37_1:Int).toNat,none⟩ (.int .i64 x37_1))) ?hg ?ho ?hn ?hr ?_;(case ho=>rfl);(case hg=>rfl);(case hn=>rfl);(case hr=>first|(go_simp;done)|(go_simp;rfl));intro w35 hw;have hg:w33.grownBy w35 (some go28):=(by rw[hw];exact HP34.2);have hp_:Kd.R (Kd.int .i64) 3 w35 w.heap.size (fun k_=>some k_≠(.slice (some ⟨go24,0,none⟩) x8_1.length co24:Value).ownBlock∧some k_≠(.slice (some ⟨go26,0,none⟩) x212000_1.length co26:Value).ownBlock) (.slice (some ⟨go28,0,none⟩) x10_1.length co28) y217:=(by rw[hw,Ny217.out];exact HP34.1);clear HP34;replace HO_8:=aM (Kd.R_after (v:=(.slice (some ⟨go28,0,none⟩) x10_1.length co28)) (v1:=(.slice (some ⟨go28,0,none⟩) x10_1.length co28)) (ok:=(fun k_=>some k_≠(.slice (some ⟨go26,0,none⟩) x212000_1.length co26:Value).ownBlock)) (rX (Kd.R_mono HO_8.out (fun _ hk=>⟨hk.2,hk.1⟩))) hg (.inl rfl));replace HO_212000:=aM (Kd.R_after (v:=(.slice (some ⟨go28,0,none⟩) x10_1.length co28)) (v1:=(.slice (some ⟨go28,0,none⟩) x10_1.length co28)) (ok:=(fun k_=>some k_≠(.slice (some ⟨go24,0,none⟩) x8_1.length co24:Value).ownBlock)) (rX HO_212000.out) hg (.inl rfl));replace BK211:=aM (blk_grown (g:=gb211) (o:=.cells #[.slice (some ⟨go26,0,none⟩) x212000_1.length co26] 22 (0,0)) (kW BK211) hg (Kd.R_ne HO_10.out BK211.out (by decide)));replace HO_10:=aM (hp_);replace HB:=aM ((by rw[hw];exact below_set (HB.out) GB28.out:Below w.heap.size w w35));clear hg hw hp_;have p218:0≤(x37_1:Int):=oE aS;have q218:x37_1 < (y215.length:Int):=(by have h_:(x37_1:Int) < ((x8_1.length:Int):Int):=oE aS;first|(have e_:=(Kd.R_reads' HO_8.out).1;omega)|simpa only[Ny215.out,List.length_set] using h_);have ql218:((x37_1:Int) < ((x8_1.length:Int):Int))=True:=eq_true (oE aS);obtain⟨ad218,e218,hx218_0⟩:=Kd.at_int (Kd.R_reads' HO_8.out).2.2 x37_1 p218 q218;obtain rfl:(⟨go24,0,none⟩:Addr)=ad218:=(by injection e218);(first|simp only[add_plain] at hx218_0|simp only[add_at] at hx218_0|simp only[Addr.add,Nat.zero_add] at hx218_0|skip);replace p218:=eq_true p218;replace q218:=eq_true q218))
            go_roundg k1
            case measure=>have:=HK1.out;omega
            case rel=>exact⟨(y215),(y217),(wrap64 (x11_1 - (rd y215 x37_1))),(wrap64 (x37_1+1)),(y216),(.slice (some ⟨go26,0,none⟩) x212000_1.length co26),sD,sD,H',⟨by have:=HK1.out;omega⟩,⟨by(with_reducible repeat(first|apply Kd.R_alloc|apply Kd.R_drewN|apply Kd.R_drew));exact Kd.R_mono HO_8.out (fun _ hk=>⟨hk.2,hk.1⟩)⟩,⟨rX HO_10.out⟩,⟨rX HO_212000.out⟩,⟨by(with_reducible repeat(first|refine blk_drewN ?_ _|refine blk_drew ?_|refine blk_alloc ?_ _));exact BK211.out⟩,⟨pB⟩⟩
           ·rw[if_neg c27] at H;exact absurd H (by simp)
          ·rw[if_neg c25] at H;exact absurd H (by simp)
         ·rw[if_neg c23] at H;exact absurd H (by simp)
        ·rw[if_neg c21] at H;exact absurd H (by simp)
       ·rw[if_neg c20] at H;exact absurd H (by simp)
      ·rw[if_neg c19] at H;have c19b0:decide (x37_1 < (l1.length:Int))=false:=decide_eq_false c19;clear c19;replace H:=bS H;obtain⟨t219,A360,H⟩:=H;(try dsimp only at H);have A36:=aM A360;clear A360;by_cases c37:0≤x11_1
       ·rw[if_pos c37] at H;have c37b0:=eq_true c37;have c37b1:decide (0≤x11_1)=true:=dE c37;clear c37;by_cases c38:x11_1≤(x10_1.length:Int)
        ·rw[if_pos c38] at H;have c38b0:=eq_true c38;have c38b1:decide (x11_1≤(x10_1.length:Int))=true:=dE c38;clear c38;obtain⟨y220,hy220⟩:∃ y_:List Int,y_=(t219.take (x11_1:Int).toNat):=⟨_,rfl⟩;replace H:(Azf.l1 k1 x8_1 y220 (y220.length:Int) 0)=some (r1,r2):=by first|(rw[hy220];with_reducible exact H)|(have H2_:=(Option.bind_some _ _).symm.trans H;rw[hy220];with_reducible exact H2_)|(have H2_:=(Option.bind_some _ _).symm.trans H;with_reducible exact H2_)|with_reducible exact H|(rw[hy220];exact H)|exact H
         have Ny220:=aM hy220;clear hy220;have H':=aM H;clear H;obtain⟨Ao39,co39,eo39⟩:=Kd.R_slice HO_10.out;subst eo39;obtain⟨Ao40,co40,eo40⟩:=Kd.R_slice HO_212000.out;subst eo40;go_wp2_with (first|((with_reducible refine gate_callee (f:=25) rfl ?_);refine goesL_ (some 68) rfl rfl Try.func25 (by kernel_rfl) rfl #[.slice Ao39 x10_1.length co39,.func (.func 26) #[] #[.pointer (some ⟨gb211,0,none⟩)]] rfl mA ?_;(with_reducible refine(Bzx.calls k1 (fun k_=>some k_=(.slice Ao39 x10_1.length co39:Value).ownBlock) (.slice Ao39 x10_1.length co39) x10_1 _ 1 [x212000_1] t219 w _ ?side1 ?side2 ?side3 ?side4 A36.out).mono ?_);(case side1=>repeat(first|(with_reducible first|exact HB.out|apply below_alloc|apply pw_below_drewN|apply below_drew1|refine below_set ?_ GE211.out)|exact HB.out));(case side2=>exact Kd.R_tight rfl HO_10.out);(case side3=>exact Kd.cap_kept (kW BK211) (fun hs_=>(fun e_=>(Kd.R_ne HO_10.out BK211.out (by decide)) e_) hs_) (fun W_ hk_=>⟨_,_,rfl,by exact(Kd.R_reads' HO_212000.out).2.1,(Kd.C_kept_own (HO_212000.out) (fun k_ hk_ hs_=>(hk_.2) hs_)) W_ hk_⟩));(case side4=>exact Nat.le_refl _);rintro e w41 ⟨rfl,hy0,hb,hkp⟩;refine⟨_,rfl,?_⟩;replace HO_8:=aM (Kd.R_mono (ok':=fun k_=>some k_≠(.slice Ao39 x10_1.length co39:Value).ownBlock∧some k_≠(.slice Ao40 x212000_1.length co40:Value).ownBlock) (Kd.R_keptB (HO_8.out) hkp (fun k_ hk_ hs_=>(hk_.1) hs_)) (fun k_ hk_=>⟨hk_.1.1,hk_.1.2⟩));replace HO_212000:=aM (Kd.R_mono (ok':=fun k_=>some k_≠(v203:Value).ownBlock∧some k_≠(.slice Ao39 x10_1.length co39:Value).ownBlock) (Kd.R_keptB (HO_212000.out) hkp (fun k_ hk_ hs_=>(hk_.2) hs_)) (fun k_ hk_=>⟨hk_.1.1,hk_.1.2⟩));replace BK211:=aM (blk_kept (kW BK211) hkp (fun hs_=>(fun e_=>(Kd.R_ne HO_10.out BK211.out (by decide)) e_) hs_));replace HO_10:=aM (Kd.R_reok rfl hy0 (fun k_ e_=>HO_10.out.1 k_ e_));replace HB:=aM (hb);(try clear hb);(try clear hkp);(try clear hy0);have q42:(x11_1:Int)≤((x10_1.length:Int):Int):=oE aS;obtain⟨i042,hi042,_,hsz42,_⟩:=info_parts info3;have hcut42:=cut_to (P:=Try.prog) 22 3 .i64 Try.underlying22 hi042 Ao39 x10_1.length co39 x11_1 (oE aS) q42 (Kd.R_reads' HO_10.out).2.1;have hlx42:=(Kd.R_reads' HO_10.out).1;have hr42:=Kd.R_take (m:=(x11_1:Int).toNat) HO_10.out (by omega);have hy42:y220.length=(x11_1:Int).toNat:=(by rw[Ny220.out,List.length_take];omega);rw[← Ny220.out] at hr42;rw[← hy42] at hr42 hcut42;clear hlx42 hy42 hi042 hsz42 HO_10;have HO222:=aM hr42;clear hr42;replace q42:=eq_true q42))
         go_loopg [73] k1 (fun kq v73 w'=>∃ (x8_2:List Int) (x73_2:Int),v73=.int .i64 x73_2∧Aside0 (Azf.l1 kq x8_2 y220 (y220.length:Int) x73_2=some (r1,r2))∧Aside0 (kq≤k1)∧Aside0 (Kd.R (Kd.int .i64) 3 w' w.heap.size (fun k_=>some k_≠((.slice Ao39 y220.length co39):Value).ownBlock∧some k_≠((.slice Ao40 x212000_1.length co40):Value).ownBlock) v203 x8_2)∧Aside0 (Kd.R (Kd.int .i64) 3 w' w.heap.size (fun k_=>some k_≠(v203:Value).ownBlock∧some k_≠((.slice Ao40 x212000_1.length co40):Value).ownBlock) (.slice Ao39 y220.length co39) y220)∧Aside0 (Kd.R (Kd.int .i64) 3 w' w.heap.size (fun k_=>some k_≠(v203:Value).ownBlock∧some k_≠((.slice Ao39 y220.length co39):Value).ownBlock) (.slice Ao40 x212000_1.length co40) x212000_1)∧Aside0 (w'.heap[gb211]?=some (.cells #[(.slice Ao40 x212000_1.length co40)] 22 (0,0)))∧Aside0 (Below w.heap.size w w'))
         case atStart=>exact⟨(x8_1),(0),sD,H',⟨Nat.le_refl _⟩,⟨by(with_reducible repeat(first|apply Kd.R_alloc|apply Kd.R_drewN|apply Kd.R_drew));first|exact HO_8.out|exact Kd.R_mono HO_8.out (fun k_ hk_=>by refine⟨?_,?_⟩ <;> first|exact hk_.1|exact hk_.2|exact fun h_=>hk_.1 (h_.trans (own_len _ _ _ _))|exact fun h_=>hk_.2 (h_.trans (own_len _ _ _ _)))⟩,⟨rX HO222.out⟩,⟨by(with_reducible repeat(first|apply Kd.R_alloc|apply Kd.R_drewN|apply Kd.R_drew));first|exact HO_212000.out|exact Kd.R_mono HO_212000.out (fun k_ hk_=>by refine⟨?_,?_⟩ <;> first|exact hk_.1|exact hk_.2|exact fun h_=>hk_.1 (h_.trans (own_len _ _ _ _))|exact fun h_=>hk_.2 (h_.trans (own_len _ _ _ _)))⟩,⟨by(with_reducible repeat(first|refine blk_drewN ?_ _|refine blk_drew ?_|refine blk_alloc ?_ _));exact BK211.out⟩,⟨pB⟩⟩
         case round =>
          clear H';try clear c1
          try clear c2
          try clear p2
          try clear q2
          try clear hx2
          try clear hf2
          try clear c3
          try clear c4
          try clear c4b0
          try clear c4b1
          try clear q4
          try clear c5
          try clear c5b0
          try clear c5b1
          try clear c6
          try clear c6b0
          try clear c6b1
          try clear p6
          try clear c9
          try clear c11
          try clear c19
          try clear c19b0
          try clear c20
          try clear c20b0
          try clear c21
          try clear c21b0
          try clear p21
          try clear q21
          try clear hx21
          try clear c23
          try clear c23b0
          try clear c24
          try clear p24
          try clear q24
          try clear hx24
          try clear hf24
          try clear c25
          try clear c25b0
          try clear p26
          try clear q26
          try clear hx26
          try clear hf26
          try clear c27
          try clear c27b0
          try clear p28
          try clear q28
          try clear hx28
          try clear hf28
          try clear c37
          try clear c37b0
          try clear c37b1
          try clear c38
          try clear c38b0
          try clear c38b1
          try clear q42
          try clear hx212_0
          try clear hx218_0
          try clear hx24_0
          try clear hx26_0
          try clear hx28_0
          try clear p2
          try clear p212
          try clear p218
          try clear p24
          try clear p26
          try clear p28
          try clear q212
          try clear q218
          try clear q24
          try clear q26
          try clear q28
          try clear q42
          obtain⟨x8_2,x73_2,rfl,HA,HK2,HO_8,HO_71,HO_212000,BK211,HB⟩:=hrel;cases gk with
          | zero=>exact absurd HA.out (by simp [Azf.l1])
          | succ k2 =>
           have H:=HA.out;clear HA;simp only[Azf.l1] at H;by_cases c43:x73_2 < (y220.length:Int)
           ·rw[if_pos c43] at H;have c43b0:decide (x73_2 < (y220.length:Int))=true:=dE c43;clear c43;by_cases c44:0≤x73_2
            ·rw[if_pos c44] at H;have c44b0:decide (0≤x73_2)=true:=dE c44;clear c44;by_cases c45:x73_2 < (y220.length:Int)
             ·rw[if_pos c45] at H;have c45b0:decide (x73_2 < (y220.length:Int))=true:=dE c45;clear c45;by_cases c46:0≤(rd y220 x73_2)
              ·rw[if_pos c46] at H;have c46b0:decide (0≤(rd y220 x73_2))=true:=dE c46;clear c46;by_cases c47:(rd y220 x73_2) < (x8_2.length:Int)
               ·rw[if_pos c47] at H;have c47b0:decide ((rd y220 x73_2) < (x8_2.length:Int))=true:=dE c47;clear c47;obtain⟨y225,hy225⟩:∃ y_:List Int,y_=(x8_2.set ((rd y220 x73_2):Int).toNat (wrap64 ((rd x8_2 (rd y220 x73_2))+1))):=⟨_,rfl⟩;replace H:(Azf.l1 k2 y225 y220 (y220.length:Int) (wrap64 (x73_2+1)))=some (r1,r2):=by first|(rw[hy225];with_reducible exact H)|(have H2_:=(Option.bind_some _ _).symm.trans H;rw[hy225];with_reducible exact H2_)|(have H2_:=(Option.bind_some _ _).symm.trans H;with_reducible exact H2_)|with_reducible exact H|(rw[hy225];exact H)|exact H
                have Ny225:=aM hy225;clear hy225;have H':=aM H;clear H;have p223:0≤(x73_2:Int):=oE aS
                have q223:x73_2 < (y220.length:Int):=oE aS
                obtain⟨ad223,e223,hx223_0⟩:=Kd.at_int (Kd.R_reads' HO_71.out).2.2 x73_2 p223 q223;cases e223
                replace p223:=eq_true p223;replace q223:=eq_true q223;obtain⟨Ao49,co49,eo49⟩:=Kd.R_slice HO_8.out;subst eo49;have p224:0≤((rd y220 x73_2):Int):=oE aS
                have q224:(rd y220 x73_2) < (x8_2.length:Int):=oE aS
                obtain⟨ad224,e224,hx224_0⟩:=Kd.at_int (Kd.R_reads' HO_8.out).2.2 (rd y220 x73_2) p224 q224;cases e224
                replace p224:=eq_true p224;replace q224:=eq_true q224;have p48:0≤((rd y220 x73_2):Int):=oE aS
                have q48:((rd y220 x73_2):Int) < ((x8_2.length:Int):Int):=oE aS
                obtain⟨go48,co48,eo48,gb48,gl48,cl48,HG48⟩:=Kd.R_form HO_8.out (by omega)
                (first|cases eo48|(injection eo48 with ea_ en_ ec_;(first|subst ea_|(injection ea_ with ea_;subst ea_));subst ec_;clear en_))
                have GB48:=aM gb48;have GG48:=aM HG48;clear gb48 gl48 HG48;(first|simp only[add_plain] at hx224_0|skip)
                obtain⟨hx48_0,hf48_0⟩:=Kd.R_celln 0 HO_8.out ((rd y220 x73_2):Int) p48 q48;replace p48:=eq_true p48;replace q48:=eq_true q48;have HP50:=Kd.R_putg HO_8.out ((rd y220 x73_2):Int) (wrap64 ((rd x8_2 (rd y220 x73_2))+1));go_wp2_with (first|((with_reducible refine gate_store (t:=3) (p:=82) rfl ?_);refine store_event (t:=3) (p:=82) (v:=?vo_w51) (w1:=(wr.setCell ⟨go48,((rd y220 x73_2):Int).toNat,none⟩ (.int .i64 (wrap64 ((rd x8_2 (rd y220 x73_2))+1))))) ?hg ?ho ?hn ?hr ?_;(case ho=>rfl);(case hg=>rfl);(case hn=>rfl);(case hr=>first|(go_simp;done)|(go_simp;rfl));intro w51 hw;have hg:wr.grownBy w51 (some go48):=(by rw[hw];exact HP50.2);have hp_:Kd.R (Kd.int .i64) 3 w51 w.heap.size (fun k_=>some k_≠(.slice (some ad223) y220.length co39:Value).ownBlock∧some k_≠(.slice Ao40 x212000_1.length co40:Value).ownBlock) (.slice (some ⟨go48,0,none⟩) x8_2.length co49) y225:=(by rw[hw,Ny225.out];exact HP50.1);clear HP50;replace HO_71:=aM (Kd.R_after (v:=(.slice (some ⟨go48,0,none⟩) x8_2.length co49)) (v1:=(.slice (some ⟨go48,0,none⟩) x8_2.length co49)) (ok:=(fun k_=>some k_≠(.slice Ao40 x212000_1.length co40:Value).ownBlock)) (rX (Kd.R_mono HO_71.out (fun _ hk=>⟨hk.2,hk.1⟩))) hg (.inl rfl));replace HO_212000:=aM (Kd.R_after (v:=(.slice (some ⟨go48,0,none⟩) x8_2.length co49)) (v1:=(.slice (some ⟨go48,0,none⟩) x8_2.length co49)) (ok:=(fun k_=>some k_≠(.slice (some ad223) y220.length co39:Value).ownBlock)) (rX (Kd.R_mono HO_212000.out (fun _ hk=>⟨hk.2,hk.1⟩))) hg (.inl rfl));replace BK211:=aM (blk_grown (g:=gb211) (o:=.cells #[.slice Ao40 x212000_1.length co40] 22 (0,0)) (kW BK211) hg (Kd.R_ne HO_8.out BK211.out (by decide)));replace HO_8:=aM (hp_);replace HB:=aM ((by rw[hw];exact below_set (HB.out) GB48.out:Below w.heap.size w w51));clear hg hw hp_))
                go_roundg k2
                case measure=>have:=HK1.out;have:=HK2.out;omega
                case rel=>exact⟨(y225),(wrap64 (x73_2+1)),sD,H',⟨by have:=HK1.out;have:=HK2.out;omega⟩,⟨rX HO_8.out⟩,⟨by(with_reducible repeat(first|apply Kd.R_alloc|apply Kd.R_drewN|apply Kd.R_drew));exact Kd.R_mono HO_71.out (fun _ hk=>⟨hk.2,hk.1⟩)⟩,⟨by(with_reducible repeat(first|apply Kd.R_alloc|apply Kd.R_drewN|apply Kd.R_drew));exact Kd.R_mono HO_212000.out (fun _ hk=>⟨hk.2,hk.1⟩)⟩,⟨by(with_reducible repeat(first|refine blk_drewN ?_ _|refine blk_drew ?_|refine blk_alloc ?_ _));exact BK211.out⟩,⟨pB⟩⟩
               ·rw[if_neg c47] at H;exact absurd H (by simp)
              ·rw[if_neg c46] at H;exact absurd H (by simp)
             ·rw[if_neg c45] at H;exact absurd H (by simp)
            ·rw[if_neg c44] at H;exact absurd H (by simp)
           ·rw[if_neg c43] at H;have c43b0:decide (x73_2 < (y220.length:Int))=false:=decide_eq_false c43;clear c43;simp only[Option.some.injEq,Prod.mk.injEq] at H;obtain⟨rfl,rfl⟩:=H;go_wp2
            go_ret2
            exact⟨_,eW,by(with_reducible repeat(first|apply Kd.R_alloc|apply Kd.R_drewN|apply Kd.R_drew));exact Kd.R_mono HO_8.out (fun _ hk=>trivial),pB⟩
        ·rw[if_neg c38] at H;exact absurd H (by simp)
       ·rw[if_neg c37] at H;exact absurd H (by simp)
   ·rw[if_neg c6] at H;exact absurd H (by simp)
  ·rw[if_neg c5] at H;exact absurd H (by simp)
 ·rw[if_neg c4] at H;have c4b0:(t201 == 0)=false:=beq_eq_false_iff_ne.mpr c4;have c4b1:(t201 != 0)=true:=bne_iff_ne.mpr c4;simp only[Option.some.injEq,Prod.mk.injEq] at H;obtain⟨rfl,rfl⟩:=H;have hmf_:∀ (fn:Fn) (first cap:Array Value) (w:World),(Instr.makeFunc fn first cap).run Try.prog w=.ok (.func fn first cap) w:=fun _ _ _ _=>rfl
  go_enter Try.func11,Try.ntmps11
  go_wp2_with (first|((with_reducible refine gate_callee (f:=23) rfl ?_);refine goesL_ (some 19) rfl rfl Try.func23 (by kernel_rfl) rfl #[.int .i64 a0,.slice A1 l1.length c1] rfl mA ?_;(with_reducible refine(Czq.calls k a0 _ _ l1 t200 t201 _ ?side1 ?side2 A3.out).mono ?_);(case side1=>exact cX HR1.out);(case side2=>exact HC1.out);rintro e w52 ⟨rfl,hb⟩;refine⟨_,rfl,?_⟩;replace HB:=aM (below_step pB hb);(try clear hb);(try clear hb2);(try clear hk);(try clear hi)))
  go_ret2
  exact⟨_,eW,by first|exact Kd.R_nil _ _ _ _ _|exact Kd.N_nil _ _ _ _ _|exact Kd.V_nil _ _ _ _ _|exact Kd.Q_nil _ _ _ _ _|exact Kd.S_nil _ _ _ _ _,pB⟩

end Go.Proofs.Ytloihkecfommbaa.Print
