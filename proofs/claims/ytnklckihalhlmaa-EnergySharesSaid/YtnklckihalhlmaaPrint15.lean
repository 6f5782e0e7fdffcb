import Derived.Test.YtnklckihalhlmaaPrint0
import Derived.Test.YtnklckihalhlmaaPrint8
import Derived.Test.YtnklckihalhlmaaPrint14
namespace Go.Proofs.Ytnklckihalhlmaa.Print
open Go.RowKit Go.Proofs.YtnklckihalhlmaaW.PrintWords Go.Proofs.YtnklckihalhlmaaW.PrintLast Go.Proofs.YtnklckihalhlmaaW.PrintMore
attribute [local go_sem] max2_int min2_int max_two min_two max_three min_three max_four min_four
set_option linter.unusedVariables false
set_option maxRecDepth 100000
set_option maxHeartbeats 8000000
set_option linter.unusedSimpArgs false

mutual
def Bzp.l0:Nat→Int→Int→List Int→List Int→Int→List Int→Int→Int→List Int→Option (List Int × Int)
 | 0,_,_,_,_,_,_,_,_,_=>none
 | k+1,x0,x6,x8,x10,x11,x35,x36,x37,x234000=>if x37 < x36 then(if 0≤x37 then(if x37 < (x35.length:Int) then((Gzf.f x0 (rd x35 x37) x6).bind fun bt235=>(if x37 < (x8.length:Int) then((some (x8.set (x37:Int).toNat bt235.1:List Int)).bind fun y237=>(if x37 < (x234000.length:Int) then(if x37 < (x10.length:Int) then(Bzp.l0 k x0 x6 y237 (x10.set (x37:Int).toNat x37) (wrap64 (x11 - (rd y237 x37))) x35 x36 (wrap64 (x37+1)) (x234000.set (x37:Int).toNat bt235.2)) else(none)) else(none))) else(none))) else(none)) else(none)) else((Czx.f k x10 [x234000]).bind fun t241=>(if 0≤x11 then(if x11≤(x10.length:Int) then((some (t241.take (x11:Int).toNat:List Int)).bind fun y242=>(Bzp.l1 k x8 y242 (y242.length:Int) 0)) else(none)) else(none)))
def Bzp.l1:Nat→List Int→List Int→Int→Int→Option (List Int × Int)
 | 0,_,_,_,_=>none
 | k+1,x8,x71,x72,x73=>if x73 < x72 then(if 0≤x73 then(if x73 < (x71.length:Int) then(if 0≤(rd x71 x73) then(if(rd x71 x73) < (x8.length:Int) then(Bzp.l1 k (x8.set ((rd x71 x73):Int).toNat (wrap64 ((rd x8 (rd x71 x73))+1))) x71 x72 (wrap64 (x73+1))) else(none)) else(none)) else(none)) else(none)) else(some (x8,0))
end
def Bzp.f (k:Nat) (a0:Int) (l1:List Int):Option (List Int × Int):=(Ezz.f k a0 l1).bind fun bt222=>(if bt222.2=0 then(if 0≤(l1.length:Int) then(if((l1.length:Int):Int).toNat≤35184372088832 then(Bzp.l0 k a0 bt222.1 (List.replicate ((l1.length:Int):Int).toNat 0) (List.replicate ((l1.length:Int):Int).toNat 0) a0 l1 (l1.length:Int) 0 (List.replicate ((l1.length:Int):Int).toNat 0)) else(none)) else(none)) else(some (([]:List Int),bt222.2)))
theorem Bzp.mono_l:∀ k,(∀ a6 a7 a8 a9 b3 b4 b5 b6 b7,LeO (Bzp.l0 k a6 a7 a8 a9 b3 b4 b5 b6 b7) (Bzp.l0 (k+1) a6 a7 a8 a9 b3 b4 b5 b6 b7))∧(∀ a6 a7 a8 a9,LeO (Bzp.l1 k a6 a7 a8 a9) (Bzp.l1 (k+1) a6 a7 a8 a9))
 | 0=>⟨fun _ _ _ _ _ _ _ _ _ r h=>by simp [Bzp.l0] at h,fun _ _ _ _ r h=>by simp [Bzp.l1] at h⟩
 | k+1=>by
  obtain⟨ih0,ih1⟩:=Bzp.mono_l k;have i0:=@Ezz.mono;have i1:=@Czx.mono;refine⟨?_,?_⟩
  ·intro a6 a7 a8 a9 b3 b4 b5 b6 b7;unfold Bzp.l0;exact mM
  ·intro a6 a7 a8 a9;unfold Bzp.l1;exact mM
theorem Bzp.mono:∀ a6 a7 k,LeO (Bzp.f k a6 a7) (Bzp.f (k+1) a6 a7):=by
 intro a6 a7 k;obtain⟨ih0,ih1⟩:=Bzp.mono_l k;unfold Bzp.f;have i0:=@Ezz.mono;have i1:=@Czx.mono;exact mM
def Bzp.T4:Bool × List (List Nat × List Nat):=(true,[([],[]),([0],[0]),([1,1],[1]),([],[]),([3],[3]),([4,4],[4]),([],[]),([6],[6]),([7,7],[7]),([],[]),([2,0,1,2,9],[2]),([9,5,10,0,1,2,3,4,5,9,10],[5,9]),([8,11,0,1,2,3,4,5,6,7,8,9,10,11],[8])])
def Bzp.B4:List Nat:=[0,1,3,0,8,24,0,64,192,0,519,1599,4095]
theorem Bzp.tab4:rtab .any (opsOf Try.f36 4)=Bzp.T4:=by kernel_rfl
theorem Bzp.bits4:waitsOk Bzp.T4.2 Bzp.B4=true:=by kernel_rfl
def Bzp.T9:Bool × List (List Nat × List Nat):=(true,[([],[]),([],[]),([],[]),([],[]),([],[]),([],[]),([],[]),([4,5,6],[4,5,6]),([7],[7]),([8],[8]),([8],[8]),([0,1,0,1,4,5,6,7,8,9],[0,1]),([11,9,7,0,1,4,5,6,7,8,9],[9,11]),([2,3,0,1,2,3,4,5,6,7,8,9,10,11,12],[2,3]),([13,10,12,0,1,2,3,4,5,6,7,8,9,10,11,12],[10,13])])
def Bzp.B9:List Nat:=[0,0,0,0,0,0,0,112,240,496,496,1011,3059,8191,16383]
theorem Bzp.tab9:rtab .any (opsOf Try.f36 9)=Bzp.T9:=by kernel_rfl
theorem Bzp.bits9:waitsOk Bzp.T9.2 Bzp.B9=true:=by kernel_rfl
theorem Bzp.calls (k:Nat) (a6:Int) (a7:Option Addr) (a8:Nat) (l1:List Int) (a9:List Int) (b3:Int) (w:World) (b4:Kd.C (Kd.int .i64) w a7 l1.length l1) (b5:l1.length≤a8) (h:Bzp.f k a6 l1=some (a9,b3)) :
  Calls Try.prog 36 #[.int .i64 a6,.slice a7 l1.length a8] w fun e w'=>∃ v0_:Value,e=.returned (.tuple #[v0_,.int .i64 b3])∧Kd.R (Kd.int .i64) 3 w' w.heap.size (fun _=>True) v0_ a9∧Below w.heap.size w w':=by
 have b6:=aM b4;have b7:=aM b5;clear b4 b5;have HB:=aM (Below.refl w.heap.size w);have H:((Ezz.f k a6 l1).bind fun b8=>(if b8.2=0 then(if 0≤(l1.length:Int) then(if((l1.length:Int):Int).toNat≤35184372088832 then(Bzp.l0 k a6 b8.1 (List.replicate ((l1.length:Int):Int).toNat 0) (List.replicate ((l1.length:Int):Int).toNat 0) a6 l1 (l1.length:Int) 0 (List.replicate ((l1.length:Int):Int).toNat 0)) else(none)) else(none)) else(some (([]:List Int),b8.2))))=some (a9,b3):=h
 clear h;obtain⟨⟨b9,d0⟩,d1,H⟩:=bT H;(try dsimp only at H);by_cases c4:d0=0
 ·rw[if_pos c4] at H;obtain⟨d3,d4⟩:=bE c4;clear c4;obtain⟨c5,H⟩:=iO H;have d5:=eq_true c5;have d6:decide (0≤(l1.length:Int))=true:=dE c5;clear c5;obtain⟨c6,H⟩:=iO H;have d7:=eq_true c6;have d8:decide (((l1.length:Int):Int).toNat≤35184372088832)=true:=dE c6;clear c6;obtain⟨d9,e6⟩:∃ y_:List Int,y_=(List.replicate ((l1.length:Int):Int).toNat 0):=⟨_,rfl⟩;replace H:(Bzp.l0 k a6 b9 d9 (List.replicate ((l1.length:Int):Int).toNat 0) a6 l1 (l1.length:Int) 0 (List.replicate ((l1.length:Int):Int).toNat 0))=some (a9,b3):=yE e6 H
  have e7:=aM e6;clear e6;obtain⟨e8,f3⟩:∃ y_:List Int,y_=(List.replicate ((l1.length:Int):Int).toNat 0):=⟨_,rfl⟩;replace H:(Bzp.l0 k a6 b9 d9 (List.replicate ((l1.length:Int):Int).toNat 0) a6 l1 (l1.length:Int) 0 e8)=some (a9,b3):=yE f3 H
  have f4:=aM f3;clear f3;obtain⟨f5,f6⟩:∃ y_:List Int,y_=(List.replicate ((l1.length:Int):Int).toNat 0):=⟨_,rfl⟩;replace H:(Bzp.l0 k a6 b9 d9 f5 a6 l1 (l1.length:Int) 0 e8)=some (a9,b3):=yE f6 H
  have f7:=aM f6;clear f6;have H':=aM H;clear H;have hmf_:∀ (fn:Fn) (first cap:Array Value) (w:World),(Instr.makeFunc fn first cap).run Try.prog w=.ok (.func fn first cap) w:=fun _ _ _ _=>rfl
  go_enter Try.func36,Try.ntmps36
  try go_wp2_with (first|((with_reducible refine gc 52 rfl ?_);refine gC 52 (some 19) Try.func52 #[.int .i64 a6,.slice a7 l1.length a8] ?_;(with_reducible refine(Ezz.calls k a6 _ _ l1 b9 d0 _ ?_ ?_ d1.out).mono ?_);exact cX b6.out;exact b7.out;rintro e f8 ⟨rfl,hb⟩;refine⟨_,rfl,?_⟩;replace HB:=bB hb;clear hb))
  have n0_:=aM (below_drew1 HB.out);clear HB;have HB:=n0_;clear n0_;refine start_ (n:=13) (S:=fun w'=>True) (ds:=[]) (bA 13 0) (by kernel_rfl) rfl rfl trivial (fun hHeld=>?_);refine with_tabW Bzp.tab4 Bzp.bits4 (fun HT_ HW_=>?_)
  generalize f8.drew=f9 at HB hHeld ⊢;refine pS 0 25 HT_ ?_;refine pS 3 28 HT_ ?_;refine pS 6 31 HT_ ?_;refine inv_at [1,2,4,5,7,8,9,10,11,12] (fun a0_ b a w'=>∃ (g6:Value) (g7:Value) (g8:Value) (g9:Nat) (m9_:Value) (j5:Value) (j9:Value),a=putSel a0_ b [(1,26,.int .i64 (l1.length:Int)),(2,27,g6),(4,29,.int .i64 (l1.length:Int)),(5,30,g7),(7,32,.int .i64 (l1.length:Int)),(8,33,g8),(9,9,m9_),(10,8,j5),(12,10,j9)]∧(Below w.heap.size w w')∧(b 2=true→Kd.R (Kd.int .i64) 3 w' w.heap.size (fun _=>True) g6 d9)∧(b 5=true→Kd.R (Kd.int .i64) 3 w' w.heap.size (fun _=>True) g7 e8)∧(b 8=true→Kd.R (Kd.int .i64) 3 w' w.heap.size (fun _=>True) g8 f5)∧(b 9=true→b 11=false→w'.heap[g9]?=some (.cells #[.slice none 0 0] 34 (0,0)))∧(b 9=true→w.heap.size≤g9)∧(b 9=true→w.heap.size≤g9)∧(b 11=true→w'.heap[g9]?=some (.cells #[g7] 34 (0,0)))∧(b 9=true→(m9_:Value)=.pointer (some ⟨g9,0,none⟩))∧(b 10=true→(j5:Value)=g6)∧(b 12=true→(j9:Value)=g8)∧(b 2=true→b 5=true→NEb g6 g7)∧(b 2=true→b 8=true→NEb g6 g8)∧(b 5=true→b 8=true→NEb g7 g8)) HT_.out HW_.out (by kernel_rfl) (by kernel_rfl) ?_ ?_ ?_
  ·exact⟨.bool false,.bool false,.bool false,0,.bool false,.bool false,.bool false,by simp only[putSel,Bool.false_eq_true,if_false],HB.out,fun h_=>absurd h_ (by decide),fun h_=>absurd h_ (by decide),fun h_=>absurd h_ (by decide),fun h_=>absurd h_ (by decide),fun h_=>absurd h_ (by decide),fun h_=>absurd h_ (by decide),fun h_=>absurd h_ (by decide),fun h_=>absurd h_ (by decide),fun h_=>absurd h_ (by decide),fun h_=>absurd h_ (by decide),fun h_=>absurd h_ (by decide),fun h_=>absurd h_ (by decide),fun h_=>absurd h_ (by decide)⟩
  ·skip
   clear HB;refine steps_cons ?_ ?_
   ·rintro b a w' ⟨g6,g7,g8,g9,m9_,j5,j9,ha,Q_HB,l5,l6,l7,l8,l9,m4,m5,Q_X9_,Q_X10_,Q_X12_,Q_N0,Q_N1,Q_N2⟩ hb_ hon hoff;refine⟨_,rfl,fun K hK=>?_⟩
    have m6:a.tmps[25]?=some (.slice a7 l1.length a8):=by rw[ha];exact(putSel_off rfl).trans rfl
    replace ha:=aM ha;have HB:=aM Q_HB;refine value_ (w1:=w') (v:=.int .i64 (l1.length:Int)) (by rfl) rfl ?_ ?_
    ·go_simp
     (try simp only[i64_w])
     try rfl
    refine hK.out _ _ ⟨g6,g7,g8,g9,m9_,j5,j9,(by rw[ha.out];exact putSel_upk 0 hb_ rfl rfl rfl),Q_HB,fun h0_=>absurd ((hoff 2 (by kernel_rfl)).symm.trans h0_) (by decide),l6,l7,l8,l9,m4,fun h0_=>absurd ((hoff 11 (by kernel_rfl)).symm.trans h0_) (by decide),Q_X9_,fun h0_=>absurd ((hoff 10 (by kernel_rfl)).symm.trans h0_) (by decide),fun h0_=>absurd ((hoff 12 (by kernel_rfl)).symm.trans h0_) (by decide),Q_N0,Q_N1,Q_N2⟩
   refine steps_cons ?_ ?_
   ·rintro b a w' ⟨g6,g7,g8,g9,m9_,j5,j9,ha,Q_HB,l5,l6,l7,l8,l9,m4,m5,Q_X9_,Q_X10_,Q_X12_,Q_N0,Q_N1,Q_N2⟩ hb_ hon hoff;refine⟨_,rfl,fun K hK=>?_⟩
    have m7:a.tmps[26]?=some (.int .i64 (l1.length:Int)):=by rw[ha];exact putSel_on (e:=(1,26,.int .i64 (l1.length:Int))) 0 rfl rfl (hon 1 (by kernel_rfl)) rfl
    replace ha:=aM ha;have HB:=aM Q_HB;refine Kd.R_make_step (Kd.int .i64) _ 3 (by rfl) (N:=27) rfl 34 _ _ rfl (l1.length:Int) (by first|rfl|exact eval_some (by assumption)) (by first|rfl|exact eval_some (by assumption)) Try.underlying34 (.int .i64 0) 8 info3 rfl (by decide) (by omega) 0 (ok:=fun _=>True) (okp:=fun _=>True) rfl (fun _ hk=>hk) trivial (oE aS) (Nat.le_trans (Nat.mul_le_mul_right _ (oE aS:(l1.length:Int).toNat≤35184372088832)) (by omega)) (Below.refl _ _) (Nat.le_refl _) ?_
    intro g6 m8 m9 hb hg_ hnew_;have z_N0:=fun(h0_:b 5=true)=>NEb_new (l6 h0_) (Kd.R_base m9)
    have z_N1:=fun(h0_:b 8=true)=>NEb_new (l7 h0_) (Kd.R_base m9)
    clear hg_ hnew_;(first|rw[← e7.out] at m9|(simp only[Int.reduceToNat] at m9;rw[← e7.out] at m9))
    have n0_:=rL m9;have n1_:=bB hb;have n0:=fun(h0_:b 5=true)=>(show Kd.R (Kd.int .i64) 3 m8 w.heap.size (fun _=>True) g7 e8 from by first|exact(Kd.R_elder' (rX (l6 h0_)) (Kd.R_base m9) hb)|exact Kd.R_mono (Kd.R_elder' (rX (l6 h0_)) (Kd.R_base m9) hb) (fun _ h_=>by first|trivial|exact h_|exact h_.1))
    have n1:=fun(h0_:b 8=true)=>(show Kd.R (Kd.int .i64) 3 m8 w.heap.size (fun _=>True) g8 f5 from by first|exact(Kd.R_elder' (rX (l7 h0_)) (Kd.R_base m9) hb)|exact Kd.R_mono (Kd.R_elder' (rX (l7 h0_)) (Kd.R_base m9) hb) (fun _ h_=>by first|trivial|exact h_|exact h_.1))
    have n2:=fun(h0_:b 9=true) (h1_:b 11=false)=>(show m8.heap[g9]?=some (.cells #[.slice none 0 0] 34 (0,0)) from by first|exact(blk_below (g:=g9) (o:=.cells #[.slice none 0 0] 34 (0,0)) (by(with_reducible repeat(first|refine blk_drewN ?_ _|refine blk_drew ?_|refine blk_alloc ?_ _));exact(l8 h0_ h1_)) hb))
    clear HB;have n3:=n0_;have HB:=n1_;clear n0_ n1_ hb m9;refine hK.out _ _ ⟨g6,g7,g8,g9,m9_,j5,j9,(by rw[ha.out];exact putSel_upk 1 hb_ rfl rfl rfl),pB,fun _=>(rX n3.out),n0,n1,n2,l9,m4,fun h0_=>absurd ((hoff 11 (by kernel_rfl)).symm.trans h0_) (by decide),Q_X9_,fun h0_=>absurd ((hoff 10 (by kernel_rfl)).symm.trans h0_) (by decide),fun h0_=>absurd ((hoff 12 (by kernel_rfl)).symm.trans h0_) (by decide),fun _ h1_=>z_N0 h1_,fun _ h1_=>z_N1 h1_,Q_N2⟩
   refine steps_cons ?_ ?_
   ·rintro b a w' ⟨g6,g7,g8,g9,m9_,j5,j9,ha,Q_HB,l5,l6,l7,l8,l9,m4,m5,Q_X9_,Q_X10_,Q_X12_,Q_N0,Q_N1,Q_N2⟩ hb_ hon hoff;refine⟨_,rfl,fun K hK=>?_⟩
    have n4:a.tmps[28]?=some (.slice a7 l1.length a8):=by rw[ha];exact(putSel_off rfl).trans rfl
    replace ha:=aM ha;have HB:=aM Q_HB;refine value_ (w1:=w') (v:=.int .i64 (l1.length:Int)) (by rfl) rfl ?_ ?_
    ·go_simp
     (try simp only[i64_w])
     try rfl
    refine hK.out _ _ ⟨g6,g7,g8,g9,m9_,j5,j9,(by rw[ha.out];exact putSel_upk 2 hb_ rfl rfl rfl),Q_HB,l5,fun h0_=>absurd ((hoff 5 (by kernel_rfl)).symm.trans h0_) (by decide),l7,l8,l9,m4,fun h0_=>absurd ((hoff 11 (by kernel_rfl)).symm.trans h0_) (by decide),Q_X9_,Q_X10_,fun h0_=>absurd ((hoff 12 (by kernel_rfl)).symm.trans h0_) (by decide),Q_N0,Q_N1,Q_N2⟩
   refine steps_cons ?_ ?_
   ·rintro b a w' ⟨g6,g7,g8,g9,m9_,j5,j9,ha,Q_HB,l5,l6,l7,l8,l9,m4,m5,Q_X9_,Q_X10_,Q_X12_,Q_N0,Q_N1,Q_N2⟩ hb_ hon hoff;refine⟨_,rfl,fun K hK=>?_⟩
    have n5:a.tmps[29]?=some (.int .i64 (l1.length:Int)):=by rw[ha];exact putSel_on (e:=(4,29,.int .i64 (l1.length:Int))) 2 rfl rfl (hon 4 (by kernel_rfl)) rfl
    replace ha:=aM ha;have HB:=aM Q_HB;refine Kd.R_make_step (Kd.int .i64) _ 3 (by rfl) (N:=30) rfl 34 _ _ rfl (l1.length:Int) (by first|rfl|exact eval_some (by assumption)) (by first|rfl|exact eval_some (by assumption)) Try.underlying34 (.int .i64 0) 8 info3 rfl (by decide) (by omega) 0 (ok:=fun _=>True) (okp:=fun _=>True) rfl (fun _ hk=>hk) trivial (oE aS) (Nat.le_trans (Nat.mul_le_mul_right _ (oE aS:(l1.length:Int).toNat≤35184372088832)) (by omega)) (Below.refl _ _) (Nat.le_refl _) ?_
    intro g7 m8 m9 hb hg_ hnew_;have z_N0:=fun(h0_:b 2=true)=>NEb_new (l5 h0_) (Kd.R_base m9)
    have z_N2:=fun(h0_:b 8=true)=>NEb_new (l7 h0_) (Kd.R_base m9)
    clear hg_ hnew_;(first|rw[← f4.out] at m9|(simp only[Int.reduceToNat] at m9;rw[← f4.out] at m9))
    have n0_:=rL m9;have n1_:=bB hb;have n6:=fun(h0_:b 2=true)=>(show Kd.R (Kd.int .i64) 3 m8 w.heap.size (fun _=>True) g6 d9 from by first|exact(Kd.R_elder' (rX (l5 h0_)) (Kd.R_base m9) hb)|exact Kd.R_mono (Kd.R_elder' (rX (l5 h0_)) (Kd.R_base m9) hb) (fun _ h_=>by first|trivial|exact h_|exact h_.1))
    have n1:=fun(h0_:b 8=true)=>(show Kd.R (Kd.int .i64) 3 m8 w.heap.size (fun _=>True) g8 f5 from by first|exact(Kd.R_elder' (rX (l7 h0_)) (Kd.R_base m9) hb)|exact Kd.R_mono (Kd.R_elder' (rX (l7 h0_)) (Kd.R_base m9) hb) (fun _ h_=>by first|trivial|exact h_|exact h_.1))
    have n2:=fun(h0_:b 9=true) (h1_:b 11=false)=>(show m8.heap[g9]?=some (.cells #[.slice none 0 0] 34 (0,0)) from by first|exact(blk_below (g:=g9) (o:=.cells #[.slice none 0 0] 34 (0,0)) (by(with_reducible repeat(first|refine blk_drewN ?_ _|refine blk_drew ?_|refine blk_alloc ?_ _));exact(l8 h0_ h1_)) hb))
    clear HB;have n7:=n0_;have HB:=n1_;clear n0_ n1_ hb m9;refine hK.out _ _ ⟨g6,g7,g8,g9,m9_,j5,j9,(by rw[ha.out];exact putSel_upk 3 hb_ rfl rfl rfl),pB,n6,fun _=>(rX n7.out),n1,n2,l9,m4,fun h0_=>absurd ((hoff 11 (by kernel_rfl)).symm.trans h0_) (by decide),Q_X9_,Q_X10_,fun h0_=>absurd ((hoff 12 (by kernel_rfl)).symm.trans h0_) (by decide),fun h1_ _=>(z_N0 h1_).symm,Q_N1,fun _ h1_=>z_N2 h1_⟩
   refine steps_cons ?_ ?_
   ·rintro b a w' ⟨g6,g7,g8,g9,m9_,j5,j9,ha,Q_HB,l5,l6,l7,l8,l9,m4,m5,Q_X9_,Q_X10_,Q_X12_,Q_N0,Q_N1,Q_N2⟩ hb_ hon hoff;refine⟨_,rfl,fun K hK=>?_⟩
    have n8:a.tmps[31]?=some (.slice a7 l1.length a8):=by rw[ha];exact(putSel_off rfl).trans rfl
    replace ha:=aM ha;have HB:=aM Q_HB;refine value_ (w1:=w') (v:=.int .i64 (l1.length:Int)) (by rfl) rfl ?_ ?_
    ·go_simp
     (try simp only[i64_w])
     try rfl
    refine hK.out _ _ ⟨g6,g7,g8,g9,m9_,j5,j9,(by rw[ha.out];exact putSel_upk 4 hb_ rfl rfl rfl),Q_HB,l5,l6,fun h0_=>absurd ((hoff 8 (by kernel_rfl)).symm.trans h0_) (by decide),l8,l9,m4,m5,Q_X9_,Q_X10_,fun h0_=>absurd ((hoff 12 (by kernel_rfl)).symm.trans h0_) (by decide),Q_N0,Q_N1,Q_N2⟩
   refine steps_cons ?_ ?_
   ·rintro b a w' ⟨g6,g7,g8,g9,m9_,j5,j9,ha,Q_HB,l5,l6,l7,l8,l9,m4,m5,Q_X9_,Q_X10_,Q_X12_,Q_N0,Q_N1,Q_N2⟩ hb_ hon hoff;refine⟨_,rfl,fun K hK=>?_⟩
    have n9:a.tmps[32]?=some (.int .i64 (l1.length:Int)):=by rw[ha];exact putSel_on (e:=(7,32,.int .i64 (l1.length:Int))) 4 rfl rfl (hon 7 (by kernel_rfl)) rfl
    replace ha:=aM ha;have HB:=aM Q_HB;refine Kd.R_make_step (Kd.int .i64) _ 3 (by rfl) (N:=33) rfl 34 _ _ rfl (l1.length:Int) (by first|rfl|exact eval_some (by assumption)) (by first|rfl|exact eval_some (by assumption)) Try.underlying34 (.int .i64 0) 8 info3 rfl (by decide) (by omega) 0 (ok:=fun _=>True) (okp:=fun _=>True) rfl (fun _ hk=>hk) trivial (oE aS) (Nat.le_trans (Nat.mul_le_mul_right _ (oE aS:(l1.length:Int).toNat≤35184372088832)) (by omega)) (Below.refl _ _) (Nat.le_refl _) ?_
    intro g8 m8 m9 hb hg_ hnew_;have z_N1:=fun(h0_:b 2=true)=>NEb_new (l5 h0_) (Kd.R_base m9)
    have z_N2:=fun(h0_:b 5=true)=>NEb_new (l6 h0_) (Kd.R_base m9)
    clear hg_ hnew_;(first|rw[← f7.out] at m9|(simp only[Int.reduceToNat] at m9;rw[← f7.out] at m9))
    have n0_:=rL m9;have n1_:=bB hb;have n6:=fun(h0_:b 2=true)=>(show Kd.R (Kd.int .i64) 3 m8 w.heap.size (fun _=>True) g6 d9 from by first|exact(Kd.R_elder' (rX (l5 h0_)) (Kd.R_base m9) hb)|exact Kd.R_mono (Kd.R_elder' (rX (l5 h0_)) (Kd.R_base m9) hb) (fun _ h_=>by first|trivial|exact h_|exact h_.1))
    have n0:=fun(h0_:b 5=true)=>(show Kd.R (Kd.int .i64) 3 m8 w.heap.size (fun _=>True) g7 e8 from by first|exact(Kd.R_elder' (rX (l6 h0_)) (Kd.R_base m9) hb)|exact Kd.R_mono (Kd.R_elder' (rX (l6 h0_)) (Kd.R_base m9) hb) (fun _ h_=>by first|trivial|exact h_|exact h_.1))
    have n2:=fun(h0_:b 9=true) (h1_:b 11=false)=>(show m8.heap[g9]?=some (.cells #[.slice none 0 0] 34 (0,0)) from by first|exact(blk_below (g:=g9) (o:=.cells #[.slice none 0 0] 34 (0,0)) (by(with_reducible repeat(first|refine blk_drewN ?_ _|refine blk_drew ?_|refine blk_alloc ?_ _));exact(l8 h0_ h1_)) hb))
    have o0:=fun(h0_:b 11=true)=>(show m8.heap[g9]?=some (.cells #[g7] 34 (0,0)) from by first|exact(blk_below (g:=g9) (o:=.cells #[g7] 34 (0,0)) (by(with_reducible repeat(first|refine blk_drewN ?_ _|refine blk_drew ?_|refine blk_alloc ?_ _));exact(m5 h0_)) hb))
    clear HB;have o1:=n0_;have HB:=n1_;clear n0_ n1_ hb m9;refine hK.out _ _ ⟨g6,g7,g8,g9,m9_,j5,j9,(by rw[ha.out];exact putSel_upk 5 hb_ rfl rfl rfl),pB,n6,n0,fun _=>(rX o1.out),n2,l9,m4,o0,Q_X9_,Q_X10_,fun h0_=>absurd ((hoff 12 (by kernel_rfl)).symm.trans h0_) (by decide),Q_N0,fun h1_ _=>(z_N1 h1_).symm,fun h1_ _=>(z_N2 h1_).symm⟩
   refine steps_cons ?_ ?_
   ·rintro b a w' ⟨g6,g7,g8,g9,m9_,j5,j9,ha,Q_HB,l5,l6,l7,l8,l9,m4,m5,Q_X9_,Q_X10_,Q_X12_,Q_N0,Q_N1,Q_N2⟩ hb_ hon hoff;refine⟨_,rfl,fun K hK=>?_⟩
    replace ha:=aM ha;have HB:=aM Q_HB;refine box_step ?hg (N:=9) ?hd (cs:=#[.slice none 0 0]) (t:=34) ?hr ?_;(case hd=>rfl);(case hg=>rfl);(case hr=>first|(go_simp;done)|(go_simp;rfl))
    intro g9 hg m8 hbox hb;have n0_:=bB hb;have n1_:=aM (hbox);have n2_:=gA w hg;have n3_:=gA w hg;have n6:=fun(h0_:b 2=true)=>(show Kd.R (Kd.int .i64) 3 m8 w.heap.size (fun _=>True) g6 d9 from by first|exact(Kd.R_below (rX (l5 h0_)) hb)|exact Kd.R_mono (Kd.R_below (rX (l5 h0_)) hb) (fun _ h_=>by first|trivial|exact h_|exact h_.1))
    have n0:=fun(h0_:b 5=true)=>(show Kd.R (Kd.int .i64) 3 m8 w.heap.size (fun _=>True) g7 e8 from by first|exact(Kd.R_below (rX (l6 h0_)) hb)|exact Kd.R_mono (Kd.R_below (rX (l6 h0_)) hb) (fun _ h_=>by first|trivial|exact h_|exact h_.1))
    have n1:=fun(h0_:b 8=true)=>(show Kd.R (Kd.int .i64) 3 m8 w.heap.size (fun _=>True) g8 f5 from by first|exact(Kd.R_below (rX (l7 h0_)) hb)|exact Kd.R_mono (Kd.R_below (rX (l7 h0_)) hb) (fun _ h_=>by first|trivial|exact h_|exact h_.1))
    clear HB;have HB:=n0_;have o2:=n1_;have o3:=n2_;have o4:=n3_;clear n0_ n1_ n2_ n3_ hb hbox hg;refine hK.out _ _ ⟨g6,g7,g8,g9,(.pointer (some ⟨g9,0,none⟩)),j5,j9,(by rw[ha.out];exact putSel_upk 6 hb_ rfl rfl rfl),pB,n6,n0,n1,fun _ _=>(kW o2),fun _=>o3.out,fun _=>o4.out,fun h0_=>absurd ((hoff 11 (by kernel_rfl)).symm.trans h0_) (by decide),fun _=>rfl,fun h0_=>absurd ((hoff 10 (by kernel_rfl)).symm.trans h0_) (by decide),fun h0_=>absurd ((hoff 12 (by kernel_rfl)).symm.trans h0_) (by decide),Q_N0,Q_N1,Q_N2⟩
   refine steps_cons ?_ ?_
   ·rintro b a w' ⟨g6,g7,g8,g9,m9_,j5,j9,ha,Q_HB,l5,l6,l7,l8,l9,m4,m5,Q_X9_,Q_X10_,Q_X12_,Q_N0,Q_N1,Q_N2⟩ hb_ hon hoff;refine⟨_,rfl,fun K hK=>?_⟩
    have o5:a.tmps[27]?=some (g6):=by rw[ha];exact putSel_on (e:=(2,27,g6)) 1 rfl rfl (hon 2 (by kernel_rfl)) rfl
    replace ha:=aM ha;have HB:=aM Q_HB;have n3:=aM (l5 (hon 2 (by kernel_rfl)))
    have o2:=aM (l8 (hon 9 (by kernel_rfl)) (hoff 11 (by kernel_rfl)))
    have o3:=aM (l9 (hon 9 (by kernel_rfl)))
    have o4:=aM (m4 (hon 9 (by kernel_rfl)))
    refine value_ (w1:=w') (v:=g6) (by rfl) rfl ?_ ?_
    ·go_simp
     (try simp only[i64_w])
     try rfl
    refine hK.out _ _ ⟨g6,g7,g8,g9,m9_,(g6),j9,(by rw[ha.out];exact putSel_upk 7 hb_ rfl rfl rfl),Q_HB,l5,l6,l7,l8,l9,m4,fun h0_=>absurd ((hoff 11 (by kernel_rfl)).symm.trans h0_) (by decide),Q_X9_,fun _=>rfl,fun h0_=>absurd ((hoff 12 (by kernel_rfl)).symm.trans h0_) (by decide),Q_N0,Q_N1,Q_N2⟩
   refine steps_cons ?_ ?_
   ·rintro b a w' ⟨g6,g7,g8,g9,m9_,j5,j9,ha,Q_HB,l5,l6,l7,l8,l9,m4,m5,Q_X9_,Q_X10_,Q_X12_,Q_N0,Q_N1,Q_N2⟩ hb_ hon hoff;refine⟨_,rfl,fun K hK=>?_⟩
    have o6:a.tmps[9]?=some (m9_):=by rw[ha];exact putSel_on (e:=(9,9,m9_)) 6 rfl rfl (hon 9 (by kernel_rfl)) rfl
    rw[Q_X9_ (hon 9 (by kernel_rfl))] at o6
    have o7:a.tmps[30]?=some (g7):=by rw[ha];exact putSel_on (e:=(5,30,g7)) 3 rfl rfl (hon 5 (by kernel_rfl)) rfl
    replace ha:=aM ha;have HB:=aM Q_HB;have n3:=aM (l5 (hon 2 (by kernel_rfl)))
    have n7:=aM (l6 (hon 5 (by kernel_rfl)))
    have o2:=aM (l8 (hon 9 (by kernel_rfl)) hb_)
    have o3:=aM (l9 (hon 9 (by kernel_rfl)))
    have o4:=aM (m4 (hon 9 (by kernel_rfl)))
    obtain⟨o8,o9,p3⟩:=Kd.R_slice n7.out;(first|subst p3|(injection p3 with f1_ f2_ f3_;have f4_:=f1_.symm;have f5_:=f3_.symm;clear f1_ f2_ f3_;subst f4_;subst f5_))
    have p7:w'.cell? ⟨g9,0,none⟩=some (.slice none 0 0):=(blk_cell o2.out 0).trans rfl;have hfs16:=blk_frozen o2.out 0;refine skip_ (w1:=?_) (by rfl) rfl ?_ ?_
    rotate_left
    ·go_simp
     rfl
    refine hK.out _ _ ⟨g6,.slice o8 e8.length o9,g8,g9,m9_,j5,j9,(by rw[ha.out];exact putSel_none (v:=undef) rfl),pB,fun _=>(Kd.R_mono (rT n3 o2) (fun _ hk=>hk)),fun _=>(Kd.R_mono (rT n7 o2) (fun _ hk=>hk)),fun h0_=>(rX (Kd.R_mono (Kd.R_far (p:=⟨g9,0,none⟩) (Kd.R_types (l7 h0_) o2.out (by decide)) (fun _ hk=>hk.2) (.slice o8 e8.length o9)) (by first|exact(fun _ hk=>hk.1)|exact(fun _ hk=>⟨hk.1.1,hk.1.2⟩)))),fun _ h1_=>absurd ((up_self b 11).symm.trans h1_) (by decide),fun _=>o3.out,fun _=>o4.out,fun _=>(kQ o2),Q_X9_,Q_X10_,fun h0_=>absurd ((hoff 12 (by kernel_rfl)).symm.trans h0_) (by decide),Q_N0,Q_N1,Q_N2⟩
   refine steps_cons ?_ ?_
   ·rintro b a w' ⟨g6,g7,g8,g9,m9_,j5,j9,ha,Q_HB,l5,l6,l7,l8,l9,m4,m5,Q_X9_,Q_X10_,Q_X12_,Q_N0,Q_N1,Q_N2⟩ hb_ hon hoff;refine⟨_,rfl,fun K hK=>?_⟩
    have p9:a.tmps[33]?=some (g8):=by rw[ha];exact putSel_on (e:=(8,33,g8)) 5 rfl rfl (hon 8 (by kernel_rfl)) rfl
    replace ha:=aM ha;have HB:=aM Q_HB;have n3:=aM (l5 (hon 2 (by kernel_rfl)))
    have n7:=aM (l6 (hon 5 (by kernel_rfl)))
    have o1:=aM (l7 (hon 8 (by kernel_rfl)))
    have o3:=aM (l9 (hon 9 (by kernel_rfl)))
    have o4:=aM (m4 (hon 9 (by kernel_rfl)))
    have o2:=aM (m5 (hon 11 (by kernel_rfl)))
    refine value_ (w1:=w') (v:=g8) (by rfl) rfl ?_ ?_
    ·go_simp
     (try simp only[i64_w])
     try rfl
    refine hK.out _ _ ⟨g6,g7,g8,g9,m9_,j5,(g8),(by rw[ha.out];exact putSel_upk 8 hb_ rfl rfl rfl),Q_HB,l5,l6,l7,fun _ h1_=>absurd ((hon 11 (by kernel_rfl)).symm.trans h1_) (by decide),l9,m4,m5,Q_X9_,Q_X10_,fun _=>rfl,Q_N0,Q_N1,Q_N2⟩
   exact steps_nil
  rintro b a r5 hall ⟨g6,g7,g8,g9,m9_,j5,j9,ha,Q_HB,l5,l6,l7,l8,l9,m4,m5,Q_X9_,Q_X10_,Q_X12_,Q_N0,Q_N1,Q_N2⟩;clear HB;have r6:=hall 1 (by kernel_rfl)
  have r7:=hall 2 (by kernel_rfl)
  have r8:=hall 4 (by kernel_rfl)
  have r9:=hall 5 (by kernel_rfl)
  have t0:=hall 7 (by kernel_rfl)
  have t1:=hall 8 (by kernel_rfl)
  have t2:=hall 9 (by kernel_rfl)
  have t3:=hall 10 (by kernel_rfl)
  have t4:=hall 11 (by kernel_rfl)
  have t5:=hall 12 (by kernel_rfl)
  subst ha;obtain rfl:=(Q_X9_ t2).symm;obtain rfl:=(Q_X10_ t3).symm;obtain rfl:=(Q_X12_ t5).symm;simp only[putSel,r6,r7,r8,r9,t0,t1,t2,t3,t4,t5,if_true,Act.put,sA,sZ,sC];have HB:=aM Q_HB;clear Q_HB;have n3:=aM (Kd.R_reok (ok:=fun k_=>some k_≠(g7:Value).ownBlock∧some k_≠(g8:Value).ownBlock) rfl (l5 r7) (fun k_ hk_=>⟨(Q_N0 r7 r9) k_ hk_,(Q_N1 r7 t1) k_ hk_⟩))
  clear l5;have n7:=aM (Kd.R_reok (ok:=fun k_=>some k_≠(g6:Value).ownBlock∧some k_≠(g8:Value).ownBlock) rfl (l6 r9) (fun k_ hk_=>⟨(Q_N0 r7 r9).symm k_ hk_,(Q_N2 r9 t1) k_ hk_⟩))
  clear l6;have o1:=aM (Kd.R_reok (ok:=fun k_=>some k_≠(g6:Value).ownBlock∧some k_≠(g7:Value).ownBlock) rfl (l7 t1) (fun k_ hk_=>⟨(Q_N1 r7 t1).symm k_ hk_,(Q_N2 r9 t1).symm k_ hk_⟩))
  clear l7 l8;have o3:=aM (l9 t2);clear l9;have o4:=aM (m4 t2);clear m4;have o2:=aM (m5 t4);clear m5 hall r6 r7 r8 r9 t0 t1 t2 t3 t4 t5;try go_wp2
  go_loopg [11,37] k (fun kq t6 t7 w'=>∃ (t8:List Int) (t9:List Int) (z3:Int) (z4:Int) (z5:List Int) (u234000:Value),t6=.int .i64 z3∧t7=.int .i64 z4∧Aside0 (Bzp.l0 kq a6 b9 t8 t9 z3 l1 (l1.length:Int) z4 z5=some (a9,b3))∧Aside0 (kq≤k)∧Aside0 (Kd.R (Kd.int .i64) 3 w' w.heap.size (fun k_=>some k_≠(g8:Value).ownBlock∧some k_≠(u234000:Value).ownBlock) g6 t8)∧Aside0 (Kd.R (Kd.int .i64) 3 w' w.heap.size (fun k_=>some k_≠(g6:Value).ownBlock∧some k_≠(u234000:Value).ownBlock) g8 t9)∧Aside0 (Kd.R (Kd.int .i64) 3 w' w.heap.size (fun k_=>some k_≠(g6:Value).ownBlock∧some k_≠(g8:Value).ownBlock) u234000 z5)∧Aside0 (w'.heap[g9]?=some (.cells #[u234000] 34 (0,0)))∧Aside0 (Below w.heap.size w w'))
  case atStart=>exact⟨(d9),(f5),(a6),(0),(e8),(g7),sD,sD,H',⟨Nat.le_refl _⟩,⟨by exact rX (Kd.R_mono n3.out (fun _ hk=>⟨hk.2,hk.1⟩))⟩,⟨rX o1.out⟩,⟨rX n7.out⟩,⟨by exact kW o2⟩,⟨pB⟩⟩
  case round =>
   clear H';try clear a8
   obtain⟨t8,t9,z3,z4,z5,u234000,rfl,rfl,HA,z6,z7,z8,z9,o2,HB⟩:=hrel;cases gk with
   | zero=>exact absurd HA.out (by simp [Bzp.l0])
   | succ k1 =>
    have H:=HA.out;clear HA;simp only[Bzp.l0] at H;by_cases B0:z4 < (l1.length:Int)
    ·rw[if_pos B0] at H;have B1:=dE B0;clear B0;obtain⟨B8,H⟩:=iN H;obtain⟨C0,H⟩:=iN H;obtain⟨⟨C1,C2⟩,C3,H⟩:=bT H;(try dsimp only at H);obtain⟨C4,H⟩:=iN H;obtain⟨C6,C7⟩:∃ y_:List Int,y_=(t8.set (z4:Int).toNat C1):=⟨_,rfl⟩;replace H:(if z4 < (z5.length:Int) then(if z4 < (t9.length:Int) then(Bzp.l0 k1 a6 b9 C6 (t9.set (z4:Int).toNat z4) (wrap64 (z3 - (rd C6 z4))) l1 (l1.length:Int) (wrap64 (z4+1)) (z5.set (z4:Int).toNat C2)) else(none)) else(none))=some (a9,b3):=yE C7 H
     have C8:=aM C7;clear C7;obtain⟨C9,H⟩:=iN H;obtain⟨D0,D1⟩:∃ y_:List Int,y_=(z5.set (z4:Int).toNat C2):=⟨_,rfl⟩;replace H:(if z4 < (t9.length:Int) then(Bzp.l0 k1 a6 b9 C6 (t9.set (z4:Int).toNat z4) (wrap64 (z3 - (rd C6 z4))) l1 (l1.length:Int) (wrap64 (z4+1)) D0) else(none))=some (a9,b3):=yE D1 H
     have D2:=aM D1;clear D1;obtain⟨D3,H⟩:=iN H;obtain⟨D4,D5⟩:∃ y_:List Int,y_=(t9.set (z4:Int).toNat z4):=⟨_,rfl⟩;replace H:(Bzp.l0 k1 a6 b9 C6 D4 (wrap64 (z3 - (rd C6 z4))) l1 (l1.length:Int) (wrap64 (z4+1)) D0)=some (a9,b3):=yE D5 H
     have D6:=aM D5;clear D5;have H':=aM H;clear H;obtain⟨D7,D8,D9,E3,E4⟩:=aI b6.out z4;cases D8
     replace D9:=hB HB D9;try go_wp2
     have n0_:=aM (Kd.R_drew z7.out);have n1_:=aM (Kd.R_drew z8.out);have n2_:=aM (Kd.R_drew z9.out);have n3_:=aM (blk_drew o2.out);have n4_:=aM (below_drew1 HB.out);clear z7 z8 z9 o2 HB;have z7:=n0_;have z8:=n1_;have z9:=n2_;have o2:=n3_;have HB:=n4_;clear n0_ n1_ n2_ n3_ n4_;refine start_ (n:=15) (S:=fun w'=>w'.cell? ⟨g9,0,none⟩=some (u234000)) (ds:=[14]) (bA 15 0) (by kernel_rfl) rfl rfl ((blk_cell o2.out 0).trans rfl) (fun hHeld=>?_);refine with_tabW Bzp.tab9 Bzp.bits9 (fun HT_ HW_=>?_)
     generalize wr.drew=E5 at z7 z8 z9 o2 HB hHeld ⊢;refine pS 0 43 HT_ ?_;refine pS 1 44 HT_ ?_;refine pS 3 46 HT_ ?_;refine pS 4 47 HT_ ?_;refine pS 5 48 HT_ ?_;refine pS 6 49 HT_ ?_;refine tU 2 45 HT_ HW_ hHeld ?_;refine oU 7 (some 50) HT_ fun K hK=>?_
     refine goes_ Try.func53 (by kernel_rfl) rfl #[.int .i64 a6,.int .i64 (rd l1 z4),.int .i64 b9] (by rfl) rfl rfl mA ?_
     with_reducible refine(Gzf.calls a6 (rd l1 z4) b9 C1 C2 _ C3.out).mono ?_
     rintro e E6 ⟨rfl,hb⟩;refine⟨_,rfl,?_⟩;have n0_:=rB z7 hb;have n1_:=rB z8 hb;have n2_:=rB z9 hb;have n3_:=kb o2 hb;have n4_:=bB hb;clear z7 z8 z9 o2 HB;have z7:=n0_;have z8:=n1_;have z9:=n2_;have o2:=n3_;have HB:=n4_;clear n0_ n1_ n2_ n3_ n4_ hb
     (try clear E7)
     (try clear hk)
     (try clear hi)
     have E8:0≤(z4:Int):=oE aS
     have E9:(z4:Int) < ((t8.length:Int):Int):=oE aS
     obtain⟨F0,F1,F2,F3,F4,F5,F6⟩:=Kd.R_form z7.out (by omega)
     (first|cases F2|(injection F2 with ea_ en_ ec_;(first|subst ea_|(injection ea_ with ea_;subst ea_));subst ec_;clear en_))
     have F7:=aM F3;have F8:=aM F6;clear F3 F4 F6;obtain⟨F9,G0⟩:=Kd.R_celln 0 z7.out (z4:Int) E8 E9;replace E8:=eq_true E8;replace E9:=eq_true E9;have G1:=Kd.R_putn z7.out (z4:Int) C1;rw[← C8.out] at G1;have G2:=aM G1;clear G1;have G3:0≤(z4:Int):=oE aS
     have G4:(z4:Int) < ((z5.length:Int):Int):=oE aS
     obtain⟨G5,G6,G7,G8,G9,H1,H2⟩:=Kd.R_form z9.out (by omega)
     (first|cases G7|(injection G7 with ea_ en_ ec_;(first|subst ea_|(injection ea_ with ea_;subst ea_));subst ec_;clear en_))
     have H3:=aM G8;have H4:=aM H2;clear G8 G9 H2;obtain⟨H5,H6⟩:=Kd.R_celln 0 (Kd.R_far (p:=⟨F0,(z4:Int).toNat,none⟩) (Kd.R_mono z9.out (fun k_ hk=>(⟨hk,fun e_=>hk.1 (by rw[e_];rfl)⟩:_∧k_≠F0))) (fun _ hk=>hk.2) (.int .i64 C1)) (z4:Int) G3 G4
     replace G3:=eq_true G3;replace G4:=eq_true G4;have H7:=Kd.R_putn (Kd.R_far (p:=⟨F0,(z4:Int).toNat,none⟩) (Kd.R_mono z9.out (fun k_ hk=>(⟨hk,fun e_=>hk.1 (by rw[e_];rfl)⟩:_∧k_≠F0))) (fun _ hk=>hk.2) (.int .i64 C1)) (z4:Int) C2
     rw[← D2.out] at H7;have H8:=aM H7;clear H7;refine hK.out _ _ ((blk_cell o2.out 0).trans rfl) (fun hHeld=>?_)
     clear hK K;refine nm 50 ?_;refine pS 8 42 HT_ ?_;refine pS 9 51 HT_ ?_;refine pS 10 52 HT_ ?_;refine pS 11 53 HT_ ?_;refine oU 12 none HT_ fun K hK=>?_
     refine skip_ (w1:=?_) (by rfl) rfl ?_ ?_
     rotate_left
     ·go_simp
      rfl
     refine hK.out _ _ (((cell_far (by have h_:=Kd.R_ne z7.out o2.out (by decide);intro e_;exact h_ (congrArg some e_)) _).trans (hHeld))) (fun hHeld=>?_)
     clear hK K;refine pS 13 54 HT_ ?_;refine lU 14 none HT_ fun K hK=>?_
     refine skip_ (w1:=?_) (by rfl) rfl ?_ ?_
     rotate_left
     ·go_simp
      rfl
     refine hK.out _ _ ?_;clear hK K;refine done_ (done_of HT_.out (by kernel_rfl)) ?_
     have n0_:Aside0 (Kd.R (Kd.int .i64) 3 ((E6.setCell ⟨F0,(z4:Int).toNat,none⟩ (.int .i64 C1)).setCell ⟨G5,(z4:Int).toNat,none⟩ (.int .i64 C2)) w.heap.size (fun k_=>some k_≠(g8:Value).ownBlock∧some k_≠(.slice (some ⟨G5,0,none⟩) z5.length G6:Value).ownBlock) (.slice (some ⟨F0,0,none⟩) t8.length F1) C6):=⟨by exact rX (Kd.R_mono (Kd.R_far (p:=⟨G5,(z4:Int).toNat,none⟩) (Kd.R_mono G2.out (fun k_ hk=>(⟨hk,fun e_=>hk.2 (by rw[e_];rfl)⟩:_∧k_≠G5))) (fun _ hk=>hk.2) (.int .i64 C2)) (fun _ hk=>⟨hk.1.1,hk.1.2⟩))⟩
     have n1_:Aside0 (Kd.R (Kd.int .i64) 3 ((E6.setCell ⟨F0,(z4:Int).toNat,none⟩ (.int .i64 C1)).setCell ⟨G5,(z4:Int).toNat,none⟩ (.int .i64 C2)) w.heap.size (fun k_=>some k_≠(.slice (some ⟨F0,0,none⟩) t8.length F1:Value).ownBlock∧some k_≠(.slice (some ⟨G5,0,none⟩) z5.length G6:Value).ownBlock) g8 t9):=⟨by exact rX (Kd.R_mono (Kd.R_far (p:=⟨G5,(z4:Int).toNat,none⟩) (Kd.R_far (p:=⟨F0,(z4:Int).toNat,none⟩) (Kd.R_mono (Kd.R_mono z8.out (fun k_ hk=>(⟨hk,fun e_=>hk.1 (by rw[e_];rfl)⟩:_∧k_≠F0))) (fun k_ hk=>(⟨hk,fun e_=>hk.1.2 (by rw[e_];rfl)⟩:_∧k_≠G5))) (fun _ hk=>hk.1.2) (.int .i64 C1)) (fun _ hk=>hk.2) (.int .i64 C2)) (fun _ hk=>⟨hk.1.1.1,hk.1.1.2⟩))⟩
     have n2_:Aside0 (Kd.R (Kd.int .i64) 3 ((E6.setCell ⟨F0,(z4:Int).toNat,none⟩ (.int .i64 C1)).setCell ⟨G5,(z4:Int).toNat,none⟩ (.int .i64 C2)) w.heap.size (fun k_=>some k_≠(.slice (some ⟨F0,0,none⟩) t8.length F1:Value).ownBlock∧some k_≠(g8:Value).ownBlock) (.slice (some ⟨G5,0,none⟩) z5.length G6) D0):=⟨by exact rX (Kd.R_mono H8.out (fun _ hk=>⟨hk.1.1,hk.1.2⟩))⟩
     have n3_:Aside0 (((E6.setCell ⟨F0,(z4:Int).toNat,none⟩ (.int .i64 C1)).setCell ⟨G5,(z4:Int).toNat,none⟩ (.int .i64 C2)).heap[g9]?=some (.cells #[.slice (some ⟨G5,0,none⟩) z5.length G6] 34 (0,0))):=⟨by refine bD ?_;refine blk_far ?_ (by have h_:=Kd.R_ne z9.out o2.out (by decide);intro e_;exact h_ (by rw[e_];rfl)) _;refine bD ?_;refine blk_far ?_ (by have h_:=Kd.R_ne z7.out o2.out (by decide);intro e_;exact h_ (by rw[e_];rfl)) _;(with_reducible repeat(first|refine blk_drewN ?_ _|refine blk_drew ?_|refine blk_alloc ?_ _));exact o2.out⟩
     have n4_:Aside0 (Below w.heap.size w ((E6.setCell ⟨F0,(z4:Int).toNat,none⟩ (.int .i64 C1)).setCell ⟨G5,(z4:Int).toNat,none⟩ (.int .i64 C2))):=⟨pB⟩;(try clear z7)
     (try clear z8)
     (try clear z9)
     (try clear o2)
     (try clear HB)
     generalize ((E6.setCell ⟨F0,(z4:Int).toNat,none⟩ (.int .i64 C1)).setCell ⟨G5,(z4:Int).toNat,none⟩ (.int .i64 C2))=H9 at n0_ n1_ n2_ n3_ n4_ ⊢;have z7:=n0_;have z8:=n1_;have z9:=n2_;have o2:=n3_;have HB:=n4_;clear n0_ n1_ n2_ n3_ n4_;have I0:0≤(z4:Int):=oE aS
     have I1:(z4:Int) < ((t9.length:Int):Int):=oE aS
     obtain⟨I2,I3,I4,I5,I6,I7,I8⟩:=Kd.R_form z8.out (by omega)
     (first|cases I4|(injection I4 with ea_ en_ ec_;(first|subst ea_|(injection ea_ with ea_;subst ea_));subst ec_;clear en_))
     have I9:=aM I5;have J0:=aM I8;clear I5 I6 I8;obtain⟨J1,J2⟩:=Kd.R_celln 0 z8.out (z4:Int) I0 I1;replace I0:=eq_true I0;replace I1:=eq_true I1;obtain⟨J3,hz34_⟩:=Kd.R_celln 0 z8.out (z4:Int) (oE aS) (oE aS)
     have J4:=Kd.R_putg z8.out (z4:Int) z4;try go_wp2_with (first|((with_reducible refine gate_store (t:=3) (p:=58) rfl ?_);refine store_event (t:=3) (p:=58) (v:=?vo_w35) (w1:=(H9.setCell ⟨I2,(z4:Int).toNat,none⟩ (.int .i64 z4))) ?hg ?ho ?hn ?hr ?_;(case ho=>rfl);(case hg=>rfl);(case hn=>rfl);(case hr=>first|(go_simp;done)|(go_simp;rfl));intro J5 hw;have hg:H9.grownBy J5 (some I2):=(by rw[hw];exact J4.2);have hp_:Kd.R (Kd.int .i64) 3 J5 w.heap.size (fun k_=>some k_≠(.slice (some ⟨F0,0,none⟩) t8.length F1:Value).ownBlock∧some k_≠(.slice (some ⟨G5,0,none⟩) z5.length G6:Value).ownBlock) (.slice (some ⟨I2,0,none⟩) t9.length I3) D4:=(by rw[hw,D6.out];exact J4.1);clear J4;replace z7:=aM (Kd.R_after (v:=(.slice (some ⟨I2,0,none⟩) t9.length I3)) (v1:=(.slice (some ⟨I2,0,none⟩) t9.length I3)) (ok:=(fun k_=>some k_≠(.slice (some ⟨G5,0,none⟩) z5.length G6:Value).ownBlock)) (rX (Kd.R_mono z7.out (fun _ hk=>⟨hk.2,hk.1⟩))) hg (.inl rfl));replace z9:=aM (Kd.R_after (v:=(.slice (some ⟨I2,0,none⟩) t9.length I3)) (v1:=(.slice (some ⟨I2,0,none⟩) t9.length I3)) (ok:=(fun k_=>some k_≠(.slice (some ⟨F0,0,none⟩) t8.length F1:Value).ownBlock)) (rX z9.out) hg (.inl rfl));replace o2:=aM (blk_grown (g:=g9) (o:=.cells #[.slice (some ⟨G5,0,none⟩) z5.length G6] 34 (0,0)) (kW o2) hg (Kd.R_ne z8.out o2.out (by decide)));replace z8:=aM (hp_);replace HB:=aM ((by rw[hw];exact below_set (HB.out) I9.out:Below w.heap.size w J5));clear hg hw hp_;have J6:0≤(z4:Int):=oE aS;have J7:z4 < (C6.length:Int):=(by have h_:(z4:Int) < ((t8.length:Int):Int):=oE aS;first|(have e_:=(Kd.R_reads' z7.out).1;omega)|simpa only[C8.out,List.length_set] using h_);have ql240:((z4:Int) < ((t8.length:Int):Int))=True:=eq_true (oE aS);obtain⟨J8,J9,K0⟩:=Kd.at_int (Kd.R_reads' z7.out).2.2 z4 J6 J7;obtain rfl:(⟨F0,0,none⟩:Addr)=J8:=(by injection J9);(first|simp only[add_plain] at K0|simp only[add_at] at K0|simp only[Addr.add,Nat.zero_add] at K0|skip);replace J6:=eq_true J6;replace J7:=eq_true J7))
     go_roundg k1
     case measure=>have:=z6.out;omega
     case rel=>exact⟨(C6),(D4),(wrap64 (z3 - (rd C6 z4))),(wrap64 (z4+1)),(D0),(.slice (some ⟨G5,0,none⟩) z5.length G6),sD,sD,H',⟨by have:=z6.out;omega⟩,⟨by exact rX (Kd.R_mono z7.out (fun _ hk=>⟨hk.2,hk.1⟩))⟩,⟨rX z8.out⟩,⟨rX z9.out⟩,⟨by exact kW o2⟩,⟨pB⟩⟩
    ·rw[if_neg B0] at H;have B1:decide (z4 < (l1.length:Int))=false:=decide_eq_false B0;clear B0;obtain⟨K1,K2,H⟩:=bT H;(try dsimp only at H);obtain⟨K3,H⟩:=iO H;have K4:=eq_true K3;have K5:decide (0≤z3)=true:=dE K3;clear K3;obtain⟨K6,H⟩:=iO H;have K7:=eq_true K6;have K8:decide (z3≤(t9.length:Int))=true:=dE K6;clear K6;obtain⟨K9,L0⟩:∃ y_:List Int,y_=(K1.take (z3:Int).toNat):=⟨_,rfl⟩;replace H:(Bzp.l1 k1 t8 K9 (K9.length:Int) 0)=some (a9,b3):=yE L0 H
     have L3:=aM L0;clear L0;have H':=aM H;clear H;obtain⟨L4,L5,rfl⟩:=Kd.R_slice z8.out;obtain⟨L6,L7,rfl⟩:=Kd.R_slice z9.out;go_wp2_with (first|((with_reducible refine gc 54 rfl ?_);refine gC 54 (some 68) Try.func54 #[.slice L4 t9.length L5,.func (.func 55) #[] #[.pointer (some ⟨g9,0,none⟩)]] ?_;(with_reducible refine(Czx.calls k1 (fun k_=>some k_=(.slice L4 t9.length L5:Value).ownBlock) (.slice L4 t9.length L5) t9 _ 1 [z5] K1 w _ ?_ ?_ ?_ ?_ K2.out).mono ?_);(focus(repeat(first|(with_reducible first|exact HB.out|apply below_alloc|apply pw_below_drewN|apply below_drew1|refine below_set ?_ o4.out)|exact HB.out)));exact Kd.R_tight rfl z8.out;exact Kd.cap_kept (kW o2) (fun hs_=>(fun e_=>(Kd.R_ne z8.out o2.out (by decide)) e_) hs_) (fun W_ hk_=>⟨_,_,rfl,by exact(Kd.R_reads' z9.out).2.1,(Kd.C_kept_own (z9.out) (fun k_ hk_ hs_=>(hk_.2) hs_)) W_ hk_⟩);exact Nat.le_refl _;rintro e L8 ⟨rfl,L9,hb,hkp⟩;refine⟨_,rfl,?_⟩;replace z7:=aM (Kd.R_mono (ok':=fun k_=>some k_≠(.slice L4 t9.length L5:Value).ownBlock∧some k_≠(.slice L6 z5.length L7:Value).ownBlock) (Kd.R_keptB (z7.out) hkp (fun k_ hk_ hs_=>(hk_.1) hs_)) (fun k_ hk_=>⟨hk_.1.1,hk_.1.2⟩));replace z9:=aM (Kd.R_mono (ok':=fun k_=>some k_≠(g6:Value).ownBlock∧some k_≠(.slice L4 t9.length L5:Value).ownBlock) (Kd.R_keptB (z9.out) hkp (fun k_ hk_ hs_=>(hk_.2) hs_)) (fun k_ hk_=>⟨hk_.1.1,hk_.1.2⟩));replace o2:=aM (blk_kept (kW o2) hkp (fun hs_=>(fun e_=>(Kd.R_ne z8.out o2.out (by decide)) e_) hs_));replace z8:=aM (Kd.R_reok rfl L9 (fun k_ e_=>z8.out.1 k_ e_));replace HB:=aM (hb);clear hb hkp L9;have M0:(z3:Int)≤((t9.length:Int):Int):=oE aS;obtain⟨i042,M1,_,hsz42,_⟩:=info_parts info3;have hcut42:=cut_to (P:=Try.prog) 34 3 .i64 Try.underlying34 M1 L4 t9.length L5 z3 (oE aS) M0 (Kd.R_reads' z8.out).2.1;have hlx42:=(Kd.R_reads' z8.out).1;have M2:=Kd.R_take (m:=(z3:Int).toNat) z8.out (by omega);have M3:K9.length=(z3:Int).toNat:=(by rw[L3.out,List.length_take];omega);rw[← L3.out] at M2;rw[← M3] at M2 hcut42;clear hlx42 M3 M1 hsz42 z8;have M4:=aM M2;clear M2;replace M0:=eq_true M0))
     go_loopg [73] k1 (fun kq M5 w'=>∃ (M6:List Int) (M7:Int),M5=.int .i64 M7∧Aside0 (Bzp.l1 kq M6 K9 (K9.length:Int) M7=some (a9,b3))∧Aside0 (kq≤k1)∧Aside0 (Kd.R (Kd.int .i64) 3 w' w.heap.size (fun k_=>some k_≠((.slice L4 K9.length L5):Value).ownBlock∧some k_≠((.slice L6 z5.length L7):Value).ownBlock) g6 M6)∧Aside0 (Kd.R (Kd.int .i64) 3 w' w.heap.size (fun k_=>some k_≠(g6:Value).ownBlock∧some k_≠((.slice L6 z5.length L7):Value).ownBlock) (.slice L4 K9.length L5) K9)∧Aside0 (Kd.R (Kd.int .i64) 3 w' w.heap.size (fun k_=>some k_≠(g6:Value).ownBlock∧some k_≠((.slice L4 K9.length L5):Value).ownBlock) (.slice L6 z5.length L7) z5)∧Aside0 (w'.heap[g9]?=some (.cells #[(.slice L6 z5.length L7)] 34 (0,0)))∧Aside0 (Below w.heap.size w w'))
     case atStart=>exact⟨(t8),(0),sD,H',⟨Nat.le_refl _⟩,⟨by(with_reducible repeat(first|apply Kd.R_alloc|apply Kd.R_drewN|apply Kd.R_drew));first|exact z7.out|exact Kd.R_mono z7.out (fun k_ hk_=>by refine⟨?_,?_⟩ <;> first|exact hk_.1|exact hk_.2|exact fun h_=>hk_.1 (h_.trans (own_len _ _ _ _))|exact fun h_=>hk_.2 (h_.trans (own_len _ _ _ _)))⟩,⟨rX M4.out⟩,⟨by(with_reducible repeat(first|apply Kd.R_alloc|apply Kd.R_drewN|apply Kd.R_drew));first|exact z9.out|exact Kd.R_mono z9.out (fun k_ hk_=>by refine⟨?_,?_⟩ <;> first|exact hk_.1|exact hk_.2|exact fun h_=>hk_.1 (h_.trans (own_len _ _ _ _))|exact fun h_=>hk_.2 (h_.trans (own_len _ _ _ _)))⟩,⟨by exact kW o2⟩,⟨pB⟩⟩
     case round =>
      clear H';try clear a8
      obtain⟨M6,M7,rfl,HA,M8,z7,M9,z9,o2,HB⟩:=hrel;cases gk with
      | zero=>exact absurd HA.out (by simp [Bzp.l1])
      | succ k2 =>
       have H:=HA.out;clear HA;simp only[Bzp.l1] at H;by_cases N0:M7 < (K9.length:Int)
       ·rw[if_pos N0] at H;have N1:=dE N0;clear N0;obtain⟨N2,H⟩:=iN H;obtain⟨N3,H⟩:=iN H;obtain⟨N4,H⟩:=iN H;obtain⟨N5,H⟩:=iN H;obtain⟨N6,N7⟩:∃ y_:List Int,y_=(M6.set ((rd K9 M7):Int).toNat (wrap64 ((rd M6 (rd K9 M7))+1))):=⟨_,rfl⟩;replace H:(Bzp.l1 k2 N6 K9 (K9.length:Int) (wrap64 (M7+1)))=some (a9,b3):=yE N7 H
        have N8:=aM N7;clear N7;have H':=aM H;clear H;obtain⟨N9,O0,O1,O2,O3⟩:=aI (Kd.R_reads' M9.out).2.2 M7;cases O0;obtain⟨O4,O5,rfl⟩:=Kd.R_slice z7.out;obtain⟨O6,O7,O8,O9,P2⟩:=aI (Kd.R_reads' z7.out).2.2 (rd K9 M7);cases O7;have P3:0≤((rd K9 M7):Int):=oE aS
        have P4:((rd K9 M7):Int) < ((M6.length:Int):Int):=oE aS
        obtain⟨P5,P6,P7,P8,P9,Q2,Q3⟩:=Kd.R_form z7.out (by omega)
        (first|cases P7|(injection P7 with ea_ en_ ec_;(first|subst ea_|(injection ea_ with ea_;subst ea_));subst ec_;clear en_))
        have Q4:=aM P8;have Q5:=aM Q3;clear P8 P9 Q3;(first|simp only[add_plain] at O8|skip)
        obtain⟨Q6,Q7⟩:=Kd.R_celln 0 z7.out ((rd K9 M7):Int) P3 P4;replace P3:=eq_true P3;replace P4:=eq_true P4;have Q8:=Kd.R_putg z7.out ((rd K9 M7):Int) (wrap64 ((rd M6 (rd K9 M7))+1));go_wp2_with (first|((with_reducible refine gate_store (t:=3) (p:=82) rfl ?_);refine store_event (t:=3) (p:=82) (v:=?vo_w51) (w1:=(wr.setCell ⟨P5,((rd K9 M7):Int).toNat,none⟩ (.int .i64 (wrap64 ((rd M6 (rd K9 M7))+1))))) ?hg ?ho ?hn ?hr ?_;(case ho=>rfl);(case hg=>rfl);(case hn=>rfl);(case hr=>first|(go_simp;done)|(go_simp;rfl));intro Q9 hw;have hg:wr.grownBy Q9 (some P5):=(by rw[hw];exact Q8.2);have hp_:Kd.R (Kd.int .i64) 3 Q9 w.heap.size (fun k_=>some k_≠(.slice (some N9) K9.length L5:Value).ownBlock∧some k_≠(.slice L6 z5.length L7:Value).ownBlock) (.slice (some ⟨P5,0,none⟩) M6.length O5) N6:=(by rw[hw,N8.out];exact Q8.1);clear Q8;replace M9:=aM (Kd.R_after (v:=(.slice (some ⟨P5,0,none⟩) M6.length O5)) (v1:=(.slice (some ⟨P5,0,none⟩) M6.length O5)) (ok:=(fun k_=>some k_≠(.slice L6 z5.length L7:Value).ownBlock)) (rX (Kd.R_mono M9.out (fun _ hk=>⟨hk.2,hk.1⟩))) hg (.inl rfl));replace z9:=aM (Kd.R_after (v:=(.slice (some ⟨P5,0,none⟩) M6.length O5)) (v1:=(.slice (some ⟨P5,0,none⟩) M6.length O5)) (ok:=(fun k_=>some k_≠(.slice (some N9) K9.length L5:Value).ownBlock)) (rX (Kd.R_mono z9.out (fun _ hk=>⟨hk.2,hk.1⟩))) hg (.inl rfl));replace o2:=aM (blk_grown (g:=g9) (o:=.cells #[.slice L6 z5.length L7] 34 (0,0)) (kW o2) hg (Kd.R_ne z7.out o2.out (by decide)));replace z7:=aM (hp_);replace HB:=aM ((by rw[hw];exact below_set (HB.out) Q4.out:Below w.heap.size w Q9));clear hg hw hp_))
        go_roundg k2
        case measure=>have:=z6.out;have:=M8.out;omega
        case rel=>exact⟨(N6),(wrap64 (M7+1)),sD,H',⟨by have:=z6.out;have:=M8.out;omega⟩,⟨rX z7.out⟩,⟨by exact rX (Kd.R_mono M9.out (fun _ hk=>⟨hk.2,hk.1⟩))⟩,⟨by exact rX (Kd.R_mono z9.out (fun _ hk=>⟨hk.2,hk.1⟩))⟩,⟨by exact kW o2⟩,⟨pB⟩⟩
       ·rw[if_neg N0] at H;have N1:decide (M7 < (K9.length:Int))=false:=decide_eq_false N0;clear N0;obtain⟨rfl,rfl⟩:=q2 H;go_wp2
        go_ret2
        exact⟨_,eW,by exact rX (Kd.R_mono z7.out (fun _ hk=>trivial)),pB⟩
 ·rw[if_neg c4] at H;obtain⟨d3,d4⟩:=bI c4;obtain⟨rfl,rfl⟩:=q2 H;have hmf_:∀ (fn:Fn) (first cap:Array Value) (w:World),(Instr.makeFunc fn first cap).run Try.prog w=.ok (.func fn first cap) w:=fun _ _ _ _=>rfl
  go_enter Try.func36,Try.ntmps36
  go_wp2_with (first|((with_reducible refine gc 52 rfl ?_);refine gC 52 (some 19) Try.func52 #[.int .i64 a6,.slice a7 l1.length a8] ?_;(with_reducible refine(Ezz.calls k a6 _ _ l1 b9 d0 _ ?_ ?_ d1.out).mono ?_);exact cX b6.out;exact b7.out;rintro e R0 ⟨rfl,hb⟩;refine⟨_,rfl,?_⟩;replace HB:=bB hb;clear hb))
  go_ret2
  exact⟨_,eW,nK,pB⟩

end Go.Proofs.Ytnklckihalhlmaa.Print
