import Derived.Test.YtnklckihalhlmaaPrint0
namespace Go.Proofs.Ytnklckihalhlmaa.Print
open Go.RowKit Go.Proofs.YtnklckihalhlmaaW.PrintWords Go.Proofs.YtnklckihalhlmaaW.PrintLast Go.Proofs.YtnklckihalhlmaaW.PrintMore
attribute [local go_sem] max2_int min2_int max_two min_two max_three min_three max_four min_four
set_option linter.unusedVariables false
set_option maxRecDepth 100000
set_option maxHeartbeats 8000000
set_option linter.unusedSimpArgs false

def Azv.l0:Nat→List Int→Int→Int→Int→Int→Option (List Int)
 | 0,_,_,_,_,_=>none
 | k+1,x0,x1,x2,x3,x10=>if x10 < x3 then(if 0≤(wrap64 (x2+x10)) then(if(wrap64 (x2+x10)) < (x0.length:Int) then(if 0≤(wrap64 (x1+x10)) then(if(wrap64 (x1+x10)) < (x0.length:Int) then(Azv.l0 k ((x0.set ((wrap64 (x1+x10)):Int).toNat (rd x0 (wrap64 (x2+x10)))).set ((wrap64 (x2+x10)):Int).toNat (rd x0 (wrap64 (x1+x10)))) x1 x2 x3 (wrap64 (x10+1))) else(none)) else(none)) else(none)) else(none)) else(some x0)
def Azv.f (k:Nat) (l0:List Int) (a1:Int) (a2:Int) (a3:Int) (l4_0:List (List Int)):Option (List Int):=Azv.l0 k l0 a1 a2 a3 0
theorem Azv.mono_l:∀ k,(∀ a6 a7 a8 a9 b3,LeO (Azv.l0 k a6 a7 a8 a9 b3) (Azv.l0 (k+1) a6 a7 a8 a9 b3))
 | 0=>fun _ _ _ _ _ r h=>by simp [Azv.l0] at h
 | k+1=>by
  have ih0:=Azv.mono_l k
  ·intro a6 a7 a8 a9 b3;unfold Azv.l0;exact mM
theorem Azv.mono:∀ a6 a7 a8 a9 b3 k,LeO (Azv.f k a6 a7 a8 a9 b3) (Azv.f (k+1) a6 a7 a8 a9 b3):=by
 intro a6 a7 a8 a9 b3 k;have ih0:=Azv.mono_l k;unfold Azv.f;exact mM
def Azv.T3:Bool × List (List Nat × List Nat):=(true,[([],[]),([],[]),([],[]),([1,2],[1,2]),([],[]),([],[]),([],[]),([5,6],[5,6]),([],[]),([],[]),([],[]),([9,10],[9,10]),([8,11],[8,11]),([12],[12]),([],[]),([],[]),([],[]),([15,16],[15,16]),([14,17],[14,17]),([18],[18]),([0,3,0,1,2,3,8,9,10,11,12,13,19],[0,3]),([20,13,0,1,2,3,8,9,10,11,12,13,19],[13,20]),([4,7,0,1,2,3,4,5,6,7,8,9,10,11,12,13,14,15,16,17,18,19,20,21],[4,7]),([22,19,21,0,1,2,3,4,5,6,7,8,9,10,11,12,13,14,15,16,17,18,19,20,21],[19,22])])
def Azv.B3:List Nat:=[0,0,0,6,0,0,0,96,0,0,0,1536,3840,7936,0,0,0,98304,245760,507904,1048335,2096911,4194303,8388607]
theorem Azv.tab3:rtab .any (opsOf Try.f101 3)=Azv.T3:=by kernel_rfl
theorem Azv.bits3:waitsOk Azv.T3.2 Azv.B3=true:=by kernel_rfl
theorem Azv.calls (k:Nat) (a6:Nat→Prop) (u9000_:Value) (l0:List Int) (a7:Int) (a8:Int) (a9:Int) (b3:Option Addr) (b4:Nat) (b5:List (List Int)) (r:List Int) (b6 w:World) (hB:Below b6.heap.size b6 w) (b7:Kd.R (Kd.int .i64) 3 w b6.heap.size a6 u9000_ l0) (b8:∀ W_,Kept w W_ (fun k_=>a6 k_)→Kd.C (Kd.slice 3 (Kd.int .i64)) W_ b3 b5.length b5) (b9:b5.length≤b4) (h:Azv.f k l0 a7 a8 a9 b5=some r) :
  Calls Try.prog 101 #[u9000_,.int .i64 a7,.int .i64 a8,.int .i64 a9,.func (.func 55) #[] #[.pointer b3]] w fun e w'=>e=.returned (.tuple #[])∧Kd.R (Kd.int .i64) 3 w' b6.heap.size (fun k_=>(a6 k_∨w.heap.size≤k_)) u9000_ r∧Below b6.heap.size b6 w'∧Kept w w' (fun k_=>a6 k_):=by
 have d0:=aM (show Kd.R (Kd.int .i64) 3 w b6.heap.size (fun k_=>(a6 k_∨w.heap.size≤k_)) u9000_ l0 from Kd.R_mono b7 (fun k_ hk=>(.inl hk)))
 have d1:=aM b8;have d3:=aM b9;clear b8 b9;have HK:=aM (Kept.refl w (fun k_=>a6 k_))
 have HW0:=aM hB.size;have HB:=aM hB;clear hB;have H:(Azv.l0 k l0 a7 a8 a9 0)=some r:=h;clear h;have H':=aM H;clear H;go_enter Try.func101,Try.ntmps101
 go_wp2
 go_loopg [10] k (fun kq d4 w'=>∃ (d5:List Int) (d6:Int),d4=.int .i64 d6∧Aside0 (Azv.l0 kq d5 a7 a8 a9 d6=some r)∧Aside0 (kq≤k)∧Aside0 (Kd.R (Kd.int .i64) 3 w' b6.heap.size (fun k_=>(a6 k_∨w.heap.size≤k_)) u9000_ d5)∧Aside0 (Kept w w' (fun k_=>a6 k_))∧Aside0 (Below b6.heap.size b6 w'))
 case atStart=>exact⟨(l0),(0),sD,H',⟨Nat.le_refl _⟩,⟨rX d0.out⟩,⟨kK HK⟩,⟨pB⟩⟩
 case round =>
  clear H';try clear p2
  obtain⟨d5,d6,rfl,HA,d7,d8,HK,HB⟩:=hrel;cases gk with
  | zero=>exact absurd HA.out (by simp [Azv.l0])
  | succ k1 =>
   have H:=HA.out;clear HA;simp only[Azv.l0] at H;by_cases c6:d6 < a9
   ·rw[if_pos c6] at H;have d9:=dE c6;clear c6;obtain⟨e6,e7⟩:∃ j_:Int,(wrap64 (a8+d6))=j_:=⟨_,rfl⟩;replace H:(if 0≤(e6) then(if(e6) < (d5.length:Int) then(if 0≤(wrap64 (a7+d6)) then(if(wrap64 (a7+d6)) < (d5.length:Int) then(Azv.l0 k1 ((d5.set ((wrap64 (a7+d6)):Int).toNat (rd d5 (e6))).set ((e6):Int).toNat (rd d5 (wrap64 (a7+d6)))) a7 a8 a9 (wrap64 (d6+1))) else(none)) else(none)) else(none)) else(none))=some r:=by first|(rw[e7] at H;exact H)|(simp only[e7] at H ⊢;exact H)
    have e8:(IntKind.i64.wrap (a8+d6))=e6:=(i64_w _).trans e7;obtain⟨f3,H⟩:=iN H;obtain⟨f4,H⟩:=iN H;obtain⟨f5,f6⟩:∃ j_:Int,(wrap64 (a7+d6))=j_:=⟨_,rfl⟩;replace H:(if 0≤(f5) then(if(f5) < (d5.length:Int) then(Azv.l0 k1 ((d5.set ((f5):Int).toNat (rd d5 (e6))).set ((e6):Int).toNat (rd d5 (f5))) a7 a8 a9 (wrap64 (d6+1))) else(none)) else(none))=some r:=by first|(rw[f6] at H;exact H)|(simp only[f6] at H ⊢;exact H)
    have f7:(IntKind.i64.wrap (a7+d6))=f5:=(i64_w _).trans f6;obtain⟨f8,H⟩:=iN H;obtain⟨f9,H⟩:=iN H;obtain⟨g6,g7⟩:∃ y_:List Int,y_=(d5.set ((f5):Int).toNat (rd d5 (e6))):=⟨_,rfl⟩;replace H:(Azv.l0 k1 (g6.set ((e6):Int).toNat (rd d5 (f5))) a7 a8 a9 (wrap64 (d6+1)))=some r:=yE g7 H
    have g8:=aM g7;clear g7;obtain⟨g9,j5⟩:∃ y_:List Int,y_=(g6.set ((e6):Int).toNat (rd d5 (f5))):=⟨_,rfl⟩;replace H:(Azv.l0 k1 g9 a7 a8 a9 (wrap64 (d6+1)))=some r:=yE j5 H
    have j9:=aM j5;clear j5;have H':=aM H;clear H;try go_wp2
    have n0_:=aM (Kd.R_drew d8.out);have n1_:=aM (Kept.drew HK.out);have n2_:=aM (below_drew1 HB.out);clear d8 HK HB;have d8:=n0_;have HK:=n1_;have HB:=n2_;clear n0_ n1_ n2_;obtain⟨l5,l6,l7⟩:=Kd.R_slice d8.out;(first|subst l7|(injection l7 with f1_ f2_ f3_;have f4_:=f1_.symm;have f5_:=f3_.symm;clear f1_ f2_ f3_;subst f4_;subst f5_))
    obtain⟨l8,l9,m4,m5,m6⟩:=aI (Kd.R_reads' d8.out).2.2 (e6);cases l9;obtain⟨m7,m8,m9,n0,n1⟩:=aI (Kd.R_reads' d8.out).2.2 (f5);obtain rfl:l8=m7:=(by injection m8);have n2:0≤((f5):Int):=oE aS
    have n3:((f5):Int) < ((d5.length:Int):Int):=oE aS
    obtain⟨n4,n5,n6,n7,n8,n9,o0⟩:=Kd.R_form d8.out (by omega)
    (first|cases n6|(injection n6 with ea_ en_ ec_;(first|subst ea_|(injection ea_ with ea_;subst ea_));subst ec_;clear en_))
    have o1:=aM n7;have o2:=aM o0;clear n7 n8 o0;have HMgo13:=aM (show(a6 n4∨w.heap.size≤n4) from(d8.out.1 _ rfl))
    (first|simp only[add_plain] at m4|skip)
    (first|simp only[add_plain] at m9|skip)
    obtain⟨o3,o4⟩:=Kd.R_celln 0 d8.out ((f5):Int) n2 n3;replace n2:=eq_true n2;replace n3:=eq_true n3;have o5:=Kd.R_putn d8.out ((f5):Int) (rd d5 (e6));rw[← g8.out] at o5;have o6:=aM o5;clear o5;obtain⟨o7,o8⟩:=Kd.R_celln 0 o6.out ((e6):Int) (oE aS) (oE aS);have o9:=eT ((e6));have p3:=eU ((e6)) d5.length;have p7:=Kd.R_putn o6.out ((e6):Int) (rd d5 (f5));rw[← j9.out] at p7;have p9:=aM p7;clear p7;refine start_ (n:=24) (S:=fun w'=>w'.cell? ⟨n4,((e6)).toNat,none⟩=some (.int .i64 (rd d5 (e6)))∧w'.cell? ⟨n4,((f5)).toNat,none⟩=some (.int .i64 (rd d5 (f5)))) (ds:=[21,23]) (bA 24 0) (by kernel_rfl) rfl rfl ⟨m4,m9⟩ (fun hHeld=>?_);refine with_tabW Azv.tab3 Azv.bits3 (fun HT_ HW_=>?_)
    generalize wr.drew=r5 at d8 HK HB o2 o6 p9 o4 o8 o3 o7 m4 m9 hHeld ⊢;refine pS 0 16 HT_ ?_;refine pS 1 17 HT_ ?_;refine pS 2 18 HT_ ?_;refine pS 3 19 HT_ ?_;refine pS 4 20 HT_ ?_;refine pS 5 21 HT_ ?_;refine pS 6 22 HT_ ?_;refine pS 7 23 HT_ ?_;refine pS 8 24 HT_ ?_;refine pS 9 25 HT_ ?_;refine pS 10 26 HT_ ?_;refine pS 11 27 HT_ ?_;refine pS 12 28 HT_ ?_;refine pS 14 30 HT_ ?_;refine pS 15 31 HT_ ?_;refine pS 16 32 HT_ ?_;refine pS 17 33 HT_ ?_;refine pS 18 34 HT_ ?_;refine tU 13 29 HT_ HW_ hHeld ?_;refine tU 19 35 HT_ HW_ hHeld ?_;refine pS 20 36 HT_ ?_;refine lU 21 none HT_ fun K hK=>?_
    refine skip_ (w1:=?_) (by rfl) rfl ?_ ?_
    rotate_left
    ·go_simp
     rfl
    refine hK.out _ _ ?_;clear hK K;refine pS 22 37 HT_ ?_;refine lU 23 none HT_ fun K hK=>?_
    refine skip_ (w1:=?_) (by rfl) rfl ?_ ?_
    rotate_left
    ·go_simp
     rfl
    refine hK.out _ _ ?_;clear hK K;refine done_ (done_of HT_.out (by kernel_rfl)) ?_
    try go_wp2
    go_roundg k1
    case measure=>have:=d7.out;omega
    case rel=>exact⟨(g9),(wrap64 (d6+1)),sD,H',⟨by have:=d7.out;omega⟩,⟨rX p9.out⟩,⟨by repeat(first|(with_reducible first|exact HK.out|apply Kept.alloc|apply Kept.drewN|apply Kept.drew|refine Kept.setCell ?_ HMgo13.out _|refine Kept.setCell ?_ HMgo13.out _)|exact HK.out)⟩,⟨pB⟩⟩
   ·rw[if_neg c6] at H;have d9:decide (d6 < a9)=false:=decide_eq_false c6;clear c6;obtain rfl:=Option.some.inj H;go_wp2
    first|go_end0|((try simp only[Exit.inBlock,Exit.then]);refine bodyPost_ret (results_none rfl _ _ _) rfl ?_)
    exact⟨eW,rX d8.out,pB,kK HK⟩


def Azb.l0:Nat→List Int→Int→Int→Int→List (List Int)→Option (List Int)
 | 0,_,_,_,_,_=>none
 | k+1,x0,x2,x10,x11,x940=>if x10=x11 then((Azv.f k x0 (wrap64 (x2 - x10)) x2 x10 x940).bind fun t193=>(some t193)) else(if x10 > x11 then((Azv.f k x0 (wrap64 (x2 - x10)) x2 x11 x940).bind fun t194=>(Azb.l0 k t194 x2 (wrap64 (x10 - x11)) x11 x940)) else((Azv.f k x0 (wrap64 (x2 - x10)) (wrap64 ((wrap64 (x2+x11)) - x10)) x10 x940).bind fun t195=>(Azb.l0 k t195 x2 x10 (wrap64 (x11 - x10)) x940)))
def Azb.f (k:Nat) (l0:List Int) (a1:Int) (a2:Int) (a3:Int) (l4_0:List (List Int)):Option (List Int):=Azb.l0 k l0 a2 (wrap64 (a2 - a1)) (wrap64 (a3 - a2)) l4_0
theorem Azb.mono_l:∀ k,(∀ a6 a7 a8 a9 b3,LeO (Azb.l0 k a6 a7 a8 a9 b3) (Azb.l0 (k+1) a6 a7 a8 a9 b3))
 | 0=>fun _ _ _ _ _ r h=>by simp [Azb.l0] at h
 | k+1=>by
  have ih0:=Azb.mono_l k
  ·intro a6 a7 a8 a9 b3;unfold Azb.l0;have i0:=@Azv.mono;exact mM
theorem Azb.mono:∀ a6 a7 a8 a9 b3 k,LeO (Azb.f k a6 a7 a8 a9 b3) (Azb.f (k+1) a6 a7 a8 a9 b3):=by
 intro a6 a7 a8 a9 b3 k;have ih0:=Azb.mono_l k;unfold Azb.f;have i0:=@Azv.mono;exact mM
theorem Azb.calls (k:Nat) (a6:Nat→Prop) (u9000_:Value) (l0:List Int) (a7:Int) (a8:Int) (a9:Int) (b3:Option Addr) (b4:Nat) (b5:List (List Int)) (r:List Int) (b6 w:World) (hB:Below b6.heap.size b6 w) (b7:Kd.R (Kd.int .i64) 3 w b6.heap.size a6 u9000_ l0) (b8:∀ W_,Kept w W_ (fun k_=>a6 k_)→Kd.C (Kd.slice 3 (Kd.int .i64)) W_ b3 b5.length b5) (b9:b5.length≤b4) (h:Azb.f k l0 a7 a8 a9 b5=some r) :
  Calls Try.prog 97 #[u9000_,.int .i64 a7,.int .i64 a8,.int .i64 a9,.func (.func 55) #[] #[.pointer b3]] w fun e w'=>e=.returned (.tuple #[])∧Kd.R (Kd.int .i64) 3 w' b6.heap.size (fun k_=>(a6 k_∨w.heap.size≤k_)) u9000_ r∧Below b6.heap.size b6 w'∧Kept w w' (fun k_=>a6 k_):=by
 have d0:=aM (show Kd.R (Kd.int .i64) 3 w b6.heap.size (fun k_=>(a6 k_∨w.heap.size≤k_)) u9000_ l0 from Kd.R_mono b7 (fun k_ hk=>(.inl hk)))
 have d1:=aM b8;have d3:=aM b9;clear b8 b9;have HK:=aM (Kept.refl w (fun k_=>a6 k_))
 have HW0:=aM hB.size;have HB:=aM hB;clear hB;have H:(Azb.l0 k l0 a8 (wrap64 (a8 - a7)) (wrap64 (a9 - a8)) b5)=some r:=h;clear h;have H':=aM H;clear H;go_enter Try.func97,Try.ntmps97
 go_wp2
 go_loopg [10,11] k (fun kq d4 d5 w'=>∃ (d6:List Int) (d7:Int) (d8:Int),d4=.int .i64 d7∧d5=.int .i64 d8∧Aside0 (Azb.l0 kq d6 a8 d7 d8 b5=some r)∧Aside0 (kq≤k)∧Aside0 (Kd.R (Kd.int .i64) 3 w' b6.heap.size (fun k_=>(a6 k_∨w.heap.size≤k_)) u9000_ d6)∧Aside0 (Kept w w' (fun k_=>a6 k_))∧Aside0 (Below b6.heap.size b6 w'))
 case atStart=>exact⟨(l0),(wrap64 (a8 - a7)),(wrap64 (a9 - a8)),sD,sD,H',⟨Nat.le_refl _⟩,⟨rX d0.out⟩,⟨kK HK⟩,⟨pB⟩⟩
 case round =>
  clear H';try clear p2
  obtain⟨d6,d7,d8,rfl,rfl,HA,d9,e6,HK,HB⟩:=hrel;cases gk with
  | zero=>exact absurd HA.out (by simp [Azb.l0])
  | succ k1 =>
   have H:=HA.out;clear HA;simp only[Azb.l0] at H;by_cases c6:d7=d8
   ·rw[if_pos c6] at H;obtain⟨e7,e8⟩:=bE c6;clear c6;replace H:=bS H;obtain⟨f3,f4,H⟩:=H;replace H:(some f3)=some r:=H;have f5:=aM f4;clear f4;obtain rfl:=Option.some.inj H;obtain⟨f6,f7,rfl⟩:=Kd.R_slice e6.out;go_wp2_with (first|((with_reducible refine gc 101 rfl ?_);refine gC 101 (some 57) Try.func101 #[.slice f6 d6.length f7,.int .i64 (wrap64 (a8 - d7)),.int .i64 a8,.int .i64 d7,.func (.func 55) #[] #[.pointer b3]] ?_;(with_reducible refine(Azv.calls k1 (fun k_=>some k_=(.slice f6 d6.length f7:Value).ownBlock) (.slice f6 d6.length f7) d6 (wrap64 (a8 - d7)) a8 d7 _ b4 b5 f3 b6 _ ?_ ?_ ?_ ?_ f5.out).mono ?_);exact pB;exact Kd.R_tight rfl e6.out;exact Kd.C_kept_call d1.out (kK HK) (fun k_ hs_=>(fun e_=>(e6.out.1 k_ e_.symm)) hs_);exact d3.out;rintro e f8 ⟨rfl,f9,hb,hkp⟩;refine⟨_,rfl,?_⟩;replace HK:=aM (Kept.then_ (S:=(fun k_=>a6 k_)) (kK HK) hkp (fun k_ hs_=>(fun e_=>(e6.out.1 k_ e_.symm)) hs_));replace e6:=aM (Kd.R_reok rfl f9 (fun k_ e_=>e6.out.1 k_ e_));replace HB:=aM (hb);clear hb hkp f9))
    first|go_end0|((try simp only[Exit.inBlock,Exit.then]);refine bodyPost_ret (results_none rfl _ _ _) rfl ?_)
    exact⟨eW,rX e6.out,pB,kK HK⟩
   ·rw[if_neg c6] at H;obtain⟨e7,e8⟩:=bI c6;by_cases c10:d7 > d8
    ·rw[if_pos c10] at H;have g6:decide (d8 < d7)=true:=dE c10;clear c10;obtain⟨g7,g8,H⟩:=bT H;(try dsimp only at H);have H':=aM H;clear H;obtain⟨g9,j5,rfl⟩:=Kd.R_slice e6.out;go_wp2_with (first|((with_reducible refine gc 101 rfl ?_);refine gC 101 (some 31) Try.func101 #[.slice g9 d6.length j5,.int .i64 (wrap64 (a8 - d7)),.int .i64 a8,.int .i64 d8,.func (.func 55) #[] #[.pointer b3]] ?_;(with_reducible refine(Azv.calls k1 (fun k_=>some k_=(.slice g9 d6.length j5:Value).ownBlock) (.slice g9 d6.length j5) d6 (wrap64 (a8 - d7)) a8 d8 _ b4 b5 g7 b6 _ ?_ ?_ ?_ ?_ g8.out).mono ?_);exact pB;exact Kd.R_tight rfl e6.out;exact Kd.C_kept_call d1.out (kK HK) (fun k_ hs_=>(fun e_=>(e6.out.1 k_ e_.symm)) hs_);exact d3.out;rintro e j9 ⟨rfl,f9,hb,hkp⟩;refine⟨_,rfl,?_⟩;replace HK:=aM (Kept.then_ (S:=(fun k_=>a6 k_)) (kK HK) hkp (fun k_ hs_=>(fun e_=>(e6.out.1 k_ e_.symm)) hs_));replace e6:=aM (Kd.R_reok rfl f9 (fun k_ e_=>e6.out.1 k_ e_));replace HB:=aM (hb);clear hb hkp f9))
     go_roundg k1
     case measure=>have:=d9.out;omega
     case rel=>exact⟨(g7),(wrap64 (d7 - d8)),(d8),sD,sD,H',⟨by have:=d9.out;omega⟩,⟨rX e6.out⟩,⟨kK HK⟩,⟨pB⟩⟩
    ·rw[if_neg c10] at H;have g6:decide (d8 < d7)=false:=decide_eq_false c10;clear c10;obtain⟨l5,l6,H⟩:=bT H;(try dsimp only at H);have H':=aM H;clear H;obtain⟨l7,l8,rfl⟩:=Kd.R_slice e6.out;go_wp2_with (first|((with_reducible refine gc 101 rfl ?_);refine gC 101 (some 46) Try.func101 #[.slice l7 d6.length l8,.int .i64 (wrap64 (a8 - d7)),.int .i64 (wrap64 ((wrap64 (a8+d8)) - d7)),.int .i64 d7,.func (.func 55) #[] #[.pointer b3]] ?_;(with_reducible refine(Azv.calls k1 (fun k_=>some k_=(.slice l7 d6.length l8:Value).ownBlock) (.slice l7 d6.length l8) d6 (wrap64 (a8 - d7)) (wrap64 ((wrap64 (a8+d8)) - d7)) d7 _ b4 b5 l5 b6 _ ?_ ?_ ?_ ?_ l6.out).mono ?_);exact pB;exact Kd.R_tight rfl e6.out;exact Kd.C_kept_call d1.out (kK HK) (fun k_ hs_=>(fun e_=>(e6.out.1 k_ e_.symm)) hs_);exact d3.out;rintro e l9 ⟨rfl,f9,hb,hkp⟩;refine⟨_,rfl,?_⟩;replace HK:=aM (Kept.then_ (S:=(fun k_=>a6 k_)) (kK HK) hkp (fun k_ hs_=>(fun e_=>(e6.out.1 k_ e_.symm)) hs_));replace e6:=aM (Kd.R_reok rfl f9 (fun k_ e_=>e6.out.1 k_ e_));replace HB:=aM (hb);clear hb hkp f9))
     go_roundg k1
     case measure=>have:=d9.out;omega
     case rel=>exact⟨(l5),(d7),(wrap64 (d8 - d7)),sD,sD,H',⟨by have:=d9.out;omega⟩,⟨rX e6.out⟩,⟨kK HK⟩,⟨pB⟩⟩

end Go.Proofs.Ytnklckihalhlmaa.Print
