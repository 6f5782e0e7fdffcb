import Derived.Test.YtblifmmcmngdnaaPrint0
namespace Go.Proofs.Ytblifmmcmngdnaa.Print
open Go.RowKit Go.Proofs.YtblifmmcmngdnaaW.PrintWords Go.Proofs.YtblifmmcmngdnaaW.PrintLast Go.Proofs.YtblifmmcmngdnaaW.PrintMore
attribute [local go_sem] max2_int min2_int max_two min_two max_three min_three max_four min_four
set_option linter.unusedVariables false
set_option maxRecDepth 100000
set_option maxHeartbeats 8000000
set_option linter.unusedSimpArgs false

def Czk.f (a0:Int) (a1:Int) (a2:Int):Option (Int × Int):=if a2=0 then(some (0,0)) else((Azj.f a0 a1 a2 0).bind fun bt116=>(some (bt116.1,wrap64 ((wrap64 (a0 * a1)) - (wrap64 (bt116.1 * a2))))))
theorem Czk.calls (a5:Int) (a6:Int) (a7:Int) (a8:Int) (a9:Int) (w:World) (h:Czk.f a5 a6 a7=some (a8,a9)) :
  Calls Try.prog 14 #[.int .i64 a5,.int .i64 a6,.int .i64 a7] w fun e w'=>e=.returned (.tuple #[.int .i64 a8,.int .i64 a9])∧bw w w':=by
 have HB:=aM (Below.refl w.heap.size w);have H:(if a7=0 then(some (0,0)) else((Azj.f a5 a6 a7 0).bind fun b3=>(some (b3.1,wrap64 ((wrap64 (a5 * a6)) - (wrap64 (b3.1 * a7)))))))=some (a8,a9):=h
 clear h;replace H:=iE H;rcases H with⟨b4,b5,H⟩|⟨c4,b4,b5,H⟩
 ·obtain⟨rfl,rfl⟩:=q2 H;go_enter Try.func14,Try.ntmps14
  go_wp2
  go_ret2
  exact⟨eW,pB⟩
 ·replace H:=bS H;obtain⟨⟨b6,b7⟩,b8,H⟩:=H;replace H:(some (b6,wrap64 ((wrap64 (a5 * a6)) - (wrap64 (b6 * a7)))))=some (a8,a9):=H;have b9:=aM b8;clear b8;obtain⟨rfl,rfl⟩:=q2 H;go_enter Try.func14,Try.ntmps14
  go_wp2_with (first|((with_reducible refine gc 25 rfl ?_);refine gC 25 (some 16) Try.func25 #[.int .i64 a5,.int .i64 a6,.int .i64 a7,.int .i64 0] ?_;(with_reducible refine(Azj.calls a5 a6 a7 0 b6 b7 _ b9.out).mono ?_);rintro e d0 ⟨rfl,hb⟩;refine⟨_,rfl,?_⟩;replace HB:=bB hb;clear hb))
  go_ret2
  exact⟨eW,pB⟩







def Czj.f (a0:Int) (a1:Int) (l2:List (List Int)):Option (Int):=if 0 < (l2.length:Int) then(if 0≤a1 then(if a1 < ((rd_L4 l2 0).length:Int) then(if 0≤a0 then(if a0 < ((rd_L4 l2 0).length:Int) then(some (wrap64 ((rd (rd_L4 l2 0) a1) - (rd (rd_L4 l2 0) a0)))) else(none)) else(none)) else(none)) else(none)) else(none)
theorem Czj.calls (a5:Int) (a6:Int) (a7:Option Addr) (c2:Nat) (l2:List (List Int)) (r:Int) (w:World) (a8:Kd.C (Kd.slice 3 (Kd.int .i64)) w a7 l2.length l2) (a9:l2.length≤c2) (h:Czj.f a5 a6 l2=some r) :
  Calls Try.prog 16 #[.int .i64 a5,.int .i64 a6,.pointer a7] w fun e w'=>e=.returned (.int .i64 r)∧Drawn0 w w':=by
 have b3:=aM a8;have b4:=aM a9;clear a8 a9;have H:(if 0 < (l2.length:Int) then(if 0≤a6 then(if a6 < ((rd_L4 l2 0).length:Int) then(if 0≤a5 then(if a5 < ((rd_L4 l2 0).length:Int) then(some (wrap64 ((rd (rd_L4 l2 0) a6) - (rd (rd_L4 l2 0) a5)))) else(none)) else(none)) else(none)) else(none)) else(none))=some r:=h
 clear h;by_cases c4:0 < (l2.length:Int)
 ·rw[if_pos c4] at H;have b5:=dE c4;have b6:decide (0 < l2.length)=true:=dE (by omega)
  clear c4;obtain⟨b7,H⟩:=iN H;obtain⟨b8,H⟩:=iN H;obtain⟨b9,H⟩:=iN H;obtain⟨d0,H⟩:=iN H;obtain rfl:=Option.some.inj H;have d3:0≤(0:Int):=(by omega)
  have d4:0 < (l2.length:Int):=oE aS
  obtain⟨d5,d6,d7,d8,d9,e0,e8⟩:=at_L4 b3.out 0 d3 d4;cases d8
  have f2:(0 < l2.length)=True:=eq_true (by omega)
  (try rw[show((0:Int)).toNat=0 from rfl] at d9)
  (try rw[Addr.add_zero'] at d9)
  have f3:=aM e8;have f4:=aM e0;clear e8 e0;replace d3:=eq_true d3;replace d4:=eq_true d4;obtain⟨f5,f6,f7,f9,g4⟩:=aI f3.out a6;cases f6;have g5:0≤(0:Int):=(by omega)
  have g6:0 < (l2.length:Int):=oE aS
  obtain⟨g7,g8,g9,j2,j3,j5,j9⟩:=at_L4 b3.out 0 g5 g6;obtain rfl:d5=g7:=(by injection j2)
  have l5:(0 < l2.length)=True:=eq_true (by omega)
  (try rw[show((0:Int)).toNat=0 from rfl] at j3)
  (try rw[Addr.add_zero'] at j3)
  have l6:=aM j9;have l7:=aM j5;clear j9 j5;replace g5:=eq_true g5;replace g6:=eq_true g6;have ea_:=Option.some.inj (d9.symm.trans j3);injection ea_ with ea_ en_ ec_
  subst ea_;subst ec_;clear en_;obtain⟨l8,l9,m0,m4,m5⟩:=aI l6.out a5;cases l9;go_enter Try.func16,Try.ntmps16
  go_wp2
  repeat(go_quiet (fail);try go_wp2)
  go_ret
  exact⟨sD,dR⟩
 ·rw[if_neg c4] at H;exact absurd H (by simp)


mutual
def Azq.l0:Nat→List Int→Int→Int→Int→List (List Int)→Option (List Int)
 | 0,_,_,_,_,_=>none
 | k+1,x0,x1,x2,x8,x930=>if x8 < x2 then(Azq.l1 k x0 x1 x2 x8 x8 x930) else(some x0)
def Azq.l1:Nat→List Int→Int→Int→Int→Int→List (List Int)→Option (List Int)
 | 0,_,_,_,_,_,_=>none
 | k+1,x0,x1,x2,x8,x9,x930=>if x9 > x1 then(if 0≤x9 then(if x9 < (x0.length:Int) then(if 0≤(wrap64 (x9 - 1)) then(if(wrap64 (x9 - 1)) < (x0.length:Int) then((Czj.f (rd x0 x9) (rd x0 (wrap64 (x9 - 1))) x930).bind fun t143=>(if t143 < 0 then(Azq.l1 k ((x0.set (x9:Int).toNat (rd x0 (wrap64 (x9 - 1)))).set ((wrap64 (x9 - 1)):Int).toNat (rd x0 x9)) x1 x2 x8 (wrap64 (x9 - 1)) x930) else(Azq.l0 k x0 x1 x2 (wrap64 (x8+1)) x930))) else(none)) else(none)) else(none)) else(none)) else(Azq.l0 k x0 x1 x2 (wrap64 (x8+1)) x930)
end
def Azq.f (k:Nat) (l0:List Int) (a1:Int) (a2:Int) (l3_0:List (List Int)):Option (List Int):=Azq.l0 k l0 a1 a2 (wrap64 (a1+1)) l3_0
theorem Azq.mono_l:∀ k,(∀ a5 a6 a7 a8 a9,LeO (Azq.l0 k a5 a6 a7 a8 a9) (Azq.l0 (k+1) a5 a6 a7 a8 a9))∧(∀ a5 a6 a7 a8 a9 b3,LeO (Azq.l1 k a5 a6 a7 a8 a9 b3) (Azq.l1 (k+1) a5 a6 a7 a8 a9 b3))
 | 0=>⟨fun _ _ _ _ _ r h=>by simp [Azq.l0] at h,fun _ _ _ _ _ _ r h=>by simp [Azq.l1] at h⟩
 | k+1=>by
  obtain⟨ih0,ih1⟩:=Azq.mono_l k;refine⟨?_,?_⟩
  ·intro a5 a6 a7 a8 a9;unfold Azq.l0;exact mM
  ·intro a5 a6 a7 a8 a9 b3;unfold Azq.l1;exact mM
theorem Azq.mono:∀ a5 a6 a7 a8 k,LeO (Azq.f k a5 a6 a7 a8) (Azq.f (k+1) a5 a6 a7 a8):=by
 intro a5 a6 a7 a8 k;obtain⟨ih0,ih1⟩:=Azq.mono_l k;unfold Azq.f;exact mM
def Azq.T4:Bool × List (List Nat × List Nat):=(true,[([],[]),([],[]),([0,1],[0,1]),([2],[2]),([3],[3]),([3],[3]),([3],[3]),([5,6,3],[3,5,6]),([7,3],[3,7]),([3],[3]),([3],[3]),([10,3],[3,10]),([9,11,3],[3,9,11]),([12,3],[3,12]),([4,8,13,3,3],[3,4,8,13]),([14,3],[3,14]),([3,15],[3,15])])
def Azq.B4:List Nat:=[0,0,3,7,15,15,15,111,239,15,15,1039,3599,7695,16383,32767,65535]
theorem Azq.tab4:rtab .any (opsOf Try.f35 4)=Azq.T4:=by kernel_rfl
theorem Azq.bits4:waitsOk Azq.T4.2 Azq.B4=true:=by kernel_rfl
def Azq.T6:Bool × List (List Nat × List Nat):=(true,[([],[]),([],[]),([],[]),([],[]),([3],[3]),([],[]),([],[]),([6],[6]),([5,7],[5,7]),([8],[8]),([],[]),([],[]),([10,11],[10,11]),([12],[12]),([0,1,0,1,5,6,7,8,9,13],[0,1]),([14,9,0,1,5,6,7,8,9,13],[9,14]),([2,4,0,1,2,3,4,5,6,7,8,9,10,11,12,13,14,15],[2,4]),([16,13,15,0,1,2,3,4,5,6,7,8,9,10,11,12,13,14,15],[13,16])])
def Azq.B6:List Nat:=[0,0,0,0,8,0,0,64,224,480,0,0,3072,7168,16355,32739,65535,131071]
theorem Azq.tab6:rtab .any (opsOf Try.f35 6)=Azq.T6:=by kernel_rfl
theorem Azq.bits6:waitsOk Azq.T6.2 Azq.B6=true:=by kernel_rfl
theorem Azq.calls (k:Nat) (a5:Nat→Prop) (u9000_:Value) (l0:List Int) (a6:Int) (a7:Int) (a8:Option Addr) (a9:Nat) (b3:List (List Int)) (r:List Int) (b4 w:World) (hB:Below b4.heap.size b4 w) (b5:Kd.R (Kd.int .i64) 3 w b4.heap.size a5 u9000_ l0) (b6:∀ W_,Kept w W_ (fun k_=>a5 k_)→Kd.C (Kd.slice 3 (Kd.int .i64)) W_ a8 b3.length b3) (b7:b3.length≤a9) (h:Azq.f k l0 a6 a7 b3=some r) :
  Calls Try.prog 35 #[u9000_,.int .i64 a6,.int .i64 a7,.func (.func 16) #[] #[.pointer a8]] w fun e w'=>e=.returned (.tuple #[])∧Kd.R (Kd.int .i64) 3 w' b4.heap.size (fun k_=>(a5 k_∨w.heap.size≤k_)) u9000_ r∧Below b4.heap.size b4 w'∧Kept w w' (fun k_=>a5 k_):=by
 have b8:=aM (show Kd.R (Kd.int .i64) 3 w b4.heap.size (fun k_=>(a5 k_∨w.heap.size≤k_)) u9000_ l0 from Kd.R_mono b5 (fun k_ hk=>(.inl hk)))
 have b9:=aM b6;have d0:=aM b7;clear b6 b7;have HK:=aM (Kept.refl w (fun k_=>a5 k_))
 have HW0:=aM hB.size;have HB:=aM hB;clear hB;have H:(Azq.l0 k l0 a6 a7 (wrap64 (a6+1)) b3)=some r:=h;clear h;have H':=aM H;clear H;go_enter Try.func35,Try.ntmps35
 go_wp2
 go_loopg [8] k (fun kq d3 w'=>∃ (d4:List Int) (d5:Int),d3=.int .i64 d5∧Aside0 (Azq.l0 kq d4 a6 a7 d5 b3=some r)∧Aside0 (kq≤k)∧Aside0 (Kd.R (Kd.int .i64) 3 w' b4.heap.size (fun k_=>(a5 k_∨w.heap.size≤k_)) u9000_ d4)∧Aside0 (Kept w w' (fun k_=>a5 k_))∧Aside0 (Below b4.heap.size b4 w'))
 case atStart=>exact⟨(l0),(wrap64 (a6+1)),sD,H',⟨Nat.le_refl _⟩,⟨rX b8.out⟩,⟨kK HK⟩,⟨pB⟩⟩
 case round =>
  clear H';try clear p2
  obtain⟨d4,d5,rfl,HA,d6,d7,HK,HB⟩:=hrel;cases gk with
  | zero=>exact absurd HA.out (by simp [Azq.l0])
  | succ k1 =>
   have H:=HA.out;clear HA;simp only[Azq.l0] at H;replace H:=iD H;rcases H with⟨d8,H⟩|⟨d8,H⟩
   ·have H':=aM H;clear H;go_wp2
    go_loopg [9] k1 (fun kq d9 w'=>∃ (e0:List Int) (e8:Int),d9=.int .i64 e8∧Aside0 (Azq.l1 kq e0 a6 a7 d5 e8 b3=some r)∧Aside0 (kq≤k1)∧Aside0 (Kd.R (Kd.int .i64) 3 w' b4.heap.size (fun k_=>(a5 k_∨w.heap.size≤k_)) u9000_ e0)∧Aside0 (Kept w w' (fun k_=>a5 k_))∧Aside0 (Below b4.heap.size b4 w'))
    case atStart=>exact⟨(d4),(d5),sD,H',⟨Nat.le_refl _⟩,⟨rX d7.out⟩,⟨kK HK⟩,⟨pB⟩⟩
    case round =>
     clear H';try clear p2
     obtain⟨e0,e8,rfl,HA,f2,d7,HK,HB⟩:=hrel;cases gk with
     | zero=>exact absurd HA.out (by simp [Azq.l1])
     | succ k2 =>
      have H:=HA.out;clear HA;simp only[Azq.l1] at H;by_cases c6:e8 > a6
      ·rw[if_pos c6] at H;have f3:decide (a6 < e8)=true:=dE c6;clear c6;obtain⟨f4,H⟩:=iN H;obtain⟨f5,H⟩:=iN H;obtain⟨f6,f7⟩:∃ j_:Int,(wrap64 (e8 - 1))=j_:=⟨_,rfl⟩;replace H:(if 0≤(f6) then(if(f6) < (e0.length:Int) then((Czj.f (rd e0 e8) (rd e0 (f6)) b3).bind fun f9=>(if f9 < 0 then(Azq.l1 k2 ((e0.set (e8:Int).toNat (rd e0 (f6))).set ((f6):Int).toNat (rd e0 e8)) a6 a7 d5 f6 b3) else(Azq.l0 k2 e0 a6 a7 (wrap64 (d5+1)) b3))) else(none)) else(none))=some r:=by first|(rw[f7] at H;exact H)|(simp only[f7] at H ⊢;exact H)
       have g4:(IntKind.i64.wrap (e8 - 1))=f6:=(i64_w _).trans f7;obtain⟨g5,H⟩:=iN H;obtain⟨g6,H⟩:=iN H;obtain⟨f9,g7,H⟩:=bT H;(try dsimp only at H);replace H:=iD H;rcases H with⟨g9,H⟩|⟨g9,H⟩
       ·obtain⟨j2,j3⟩:∃ y_:List Int,y_=(e0.set (e8:Int).toNat (rd e0 (f6))):=⟨_,rfl⟩;replace H:(Azq.l1 k2 (j2.set ((f6):Int).toNat (rd e0 e8)) a6 a7 d5 f6 b3)=some r:=yE j3 H
        have j5:=aM j3;clear j3;obtain⟨j9,l5⟩:∃ y_:List Int,y_=(j2.set ((f6):Int).toNat (rd e0 e8)):=⟨_,rfl⟩;replace H:(Azq.l1 k2 j9 a6 a7 d5 f6 b3)=some r:=yE l5 H
        have l6:=aM l5;clear l5;have H':=aM H;clear H;try go_wp2
        have n0_:=aM (Kd.R_drew d7.out);have n1_:=aM (Kept.drew HK.out);have n2_:=aM (below_drew1 HB.out);clear d7 HK HB;have d7:=n0_;have HK:=n1_;have HB:=n2_;clear n0_ n1_ n2_;obtain⟨l7,l8,l9⟩:=Kd.R_slice d7.out;(first|subst l9|(injection l9 with f1_ f2_ f3_;have f4_:=f1_.symm;have f5_:=f3_.symm;clear f1_ f2_ f3_;subst f4_;subst f5_))
        obtain⟨m0,m4,m5,m6,m7⟩:=aI (Kd.R_reads' d7.out).2.2 e8;cases m4;obtain⟨m8,m9,n0,n1,n2⟩:=aI (Kd.R_reads' d7.out).2.2 (f6);obtain rfl:m0=m8:=(by injection m9);refine start_ (n:=17) (S:=fun w'=>w'.cell? (m0.add (e8).toNat)=some (.int .i64 (rd e0 e8))∧w'.cell? (m0.add ((f6)).toNat)=some (.int .i64 (rd e0 (f6)))) (ds:=[]) (bA 17 0) (by kernel_rfl) rfl rfl ⟨m5,n0⟩ (fun hHeld=>?_);refine with_tabW Azq.tab4 Azq.bits4 (fun HT_ HW_=>?_)
        generalize wr.drew=n3 at d7 HK HB m5 n0 hHeld ⊢;refine pS 0 18 HT_ ?_;refine pS 1 19 HT_ ?_;refine pS 2 20 HT_ ?_;refine pS 3 21 HT_ ?_;refine pS 4 22 HT_ ?_;refine pS 5 23 HT_ ?_;refine pS 6 24 HT_ ?_;refine pS 7 25 HT_ ?_;refine pS 9 27 HT_ ?_;refine pS 10 28 HT_ ?_;refine pS 11 29 HT_ ?_;refine pS 12 30 HT_ ?_;refine tU 8 26 HT_ HW_ hHeld ?_;refine tU 13 31 HT_ HW_ hHeld ?_;refine oU 14 (some 32) HT_ fun K hK=>?_
        refine goesv_ Try.func16 (by kernel_rfl) rfl #[.int .i64 (rd e0 e8),.int .i64 (rd e0 (f6)),.pointer a8] (by rfl) rfl rfl (by(try simp only[List.map_toArray,List.map_cons,List.map_nil]);first|done|(simp only[f7];rfl)|rfl|(simp only[List.length_drop,List.length_take];rfl)) ?_
        with_reducible refine(Czj.calls (rd e0 e8) (rd e0 (f6)) _ a9 b3 f9 _ ?side1 ?side2 g7.out).mono ?_
        (case side1=>exact Kd.C_kept_now b9.out (kK HK))
        (case side2=>exact d0.out)
        rintro e w' ⟨rfl,⟨nd,rfl⟩⟩;refine⟨_,rfl,?_⟩;refine hK.out _ _ ⟨hHeld.1,hHeld.2⟩ (fun hHeld=>?_)
        clear hK K;refine nm 32 ?_;refine pS 15 33 HT_ ?_;refine pS 16 34 HT_ ?_;refine done_ (done_of HT_.out (by kernel_rfl)) ?_
        try go_wp2
        (try(rw[drewN_self n3];generalize hq_:World.drewN n3 _=n3;have n0_:Aside0 (Kd.R (Kd.int .i64) 3 n3 b4.heap.size (fun k_=>(a5 k_∨w.heap.size≤k_)) (.slice (some m0) e0.length l8) e0):=⟨by rw[← hq_];exact(rX d7.out)⟩;have n1_:Aside0 (Kept w n3 (fun k_=>a5 k_)):=⟨by rw[← hq_];exact(kK HK)⟩;have n2_:Aside0 (Below b4.heap.size b4 n3):=⟨by rw[← hq_];exact pB⟩;clear d7 HK HB hq_;have d7:=n0_;have HK:=n1_;have HB:=n2_;clear n0_ n1_ n2_))
        have n0_:=aM (Kd.R_drew d7.out);have n1_:=aM (Kept.drew HK.out);have n2_:=aM (below_drew1 HB.out);clear d7 HK HB;have d7:=n0_;have HK:=n1_;have HB:=n2_;clear n0_ n1_ n2_;obtain⟨n4,n5,n6,n7,n8⟩:=aI (Kd.R_reads' d7.out).2.2 (f6);obtain rfl:m0=n4:=(by injection n5);obtain⟨n9,o0,o1,o2,o3⟩:=aI (Kd.R_reads' d7.out).2.2 e8;obtain rfl:m0=n9:=(by injection o0);have o4:0≤(e8:Int):=oE aS
        have o5:(e8:Int) < ((e0.length:Int):Int):=oE aS
        obtain⟨o6,o7,o8,o9,p0,p3,p4⟩:=Kd.R_form d7.out (by omega)
        (first|cases o8|(injection o8 with ea_ en_ ec_;(first|subst ea_|(injection ea_ with ea_;subst ea_));subst ec_;clear en_))
        have p7:=aM o9;have p8:=aM p4;clear o9 p0 p4;have HMgo14:=aM (show(a5 o6∨w.heap.size≤o6) from(d7.out.1 _ rfl))
        (first|simp only[add_plain] at m5|skip)
        (first|simp only[add_plain] at n0|skip)
        (first|simp only[add_plain] at n6|skip)
        (first|simp only[add_plain] at o1|skip)
        obtain⟨p9,r0⟩:=Kd.R_celln 0 d7.out (e8:Int) o4 o5;replace o4:=eq_true o4;replace o5:=eq_true o5;have r4:=Kd.R_putn d7.out (e8:Int) (rd e0 (f6));rw[← j5.out] at r4;have r5:=aM r4;clear r4;obtain⟨r6,r7⟩:=Kd.R_celln 0 r5.out ((f6):Int) (oE aS) (oE aS);have r8:=eT ((f6));have r9:=eU ((f6)) e0.length;have t0:=Kd.R_putn r5.out ((f6):Int) (rd e0 e8);rw[← l6.out] at t0;have t1:=aM t0;clear t0;refine start_ (n:=18) (S:=fun w'=>w'.cell? ⟨o6,((f6)).toNat,none⟩=some (.int .i64 (rd e0 (f6)))∧w'.cell? ⟨o6,(e8).toNat,none⟩=some (.int .i64 (rd e0 e8))) (ds:=[15,17]) (bA 18 0) (by kernel_rfl) rfl rfl ⟨n6,o1⟩ (fun hHeld=>?_);refine with_tabW Azq.tab6 Azq.bits6 (fun HT_ HW_=>?_)
        generalize n3.drew=t2 at d7 HK HB p8 r5 t1 r0 r7 m5 n0 n6 o1 p9 r6 hHeld ⊢;refine pS 0 37 HT_ ?_;refine pS 1 38 HT_ ?_;refine pS 2 39 HT_ ?_;refine pS 3 40 HT_ ?_;refine pS 4 41 HT_ ?_;refine pS 5 42 HT_ ?_;refine pS 6 43 HT_ ?_;refine pS 7 44 HT_ ?_;refine pS 8 45 HT_ ?_;refine pS 10 47 HT_ ?_;refine pS 11 48 HT_ ?_;refine pS 12 49 HT_ ?_;refine tU 9 46 HT_ HW_ hHeld ?_;refine tU 13 50 HT_ HW_ hHeld ?_;refine pS 14 51 HT_ ?_;refine lU 15 none HT_ fun K hK=>?_
        refine skip_ (w1:=?_) (by rfl) rfl ?_ ?_
        rotate_left
        ·go_simp
         rfl
        refine hK.out _ _ ?_;clear hK K;refine pS 16 52 HT_ ?_;refine lU 17 none HT_ fun K hK=>?_
        refine skip_ (w1:=?_) (by rfl) rfl ?_ ?_
        rotate_left
        ·go_simp
         rfl
        refine hK.out _ _ ?_;clear hK K;refine done_ (done_of HT_.out (by kernel_rfl)) ?_
        try go_wp2
        go_roundg k2
        case measure=>have:=d6.out;have:=f2.out;omega
        case rel=>exact⟨(j9),(f6),(by first|rfl|(simp;done)|(simp only[← f7] <;> (first|rfl|simp))|(simp [*];done)),H',⟨by have:=d6.out;have:=f2.out;omega⟩,⟨rX t1.out⟩,⟨by repeat(first|(with_reducible first|exact HK.out|apply Kept.alloc|apply Kept.drewN|apply Kept.drew|refine Kept.setCell ?_ HMgo14.out _|refine Kept.setCell ?_ HMgo14.out _)|exact HK.out)⟩,⟨pB⟩⟩
       ·have H':=aM H;clear H;try go_wp2
        have n0_:=aM (Kd.R_drew d7.out);have n1_:=aM (Kept.drew HK.out);have n2_:=aM (below_drew1 HB.out);clear d7 HK HB;have d7:=n0_;have HK:=n1_;have HB:=n2_;clear n0_ n1_ n2_;obtain⟨t3,t4,t5⟩:=Kd.R_slice d7.out;(first|subst t5|(injection t5 with f1_ f2_ f3_;have f4_:=f1_.symm;have f5_:=f3_.symm;clear f1_ f2_ f3_;subst f4_;subst f5_))
        obtain⟨m0,m4,m5,m6,m7⟩:=aI (Kd.R_reads' d7.out).2.2 e8;cases m4;obtain⟨m8,m9,n0,n1,n2⟩:=aI (Kd.R_reads' d7.out).2.2 (f6);obtain rfl:m0=m8:=(by injection m9);refine start_ (n:=17) (S:=fun w'=>w'.cell? (m0.add (e8).toNat)=some (.int .i64 (rd e0 e8))∧w'.cell? (m0.add ((f6)).toNat)=some (.int .i64 (rd e0 (f6)))) (ds:=[]) (bA 17 0) (by kernel_rfl) rfl rfl ⟨m5,n0⟩ (fun hHeld=>?_);refine with_tabW Azq.tab4 Azq.bits4 (fun HT_ HW_=>?_)
        generalize wr.drew=t6 at d7 HK HB m5 n0 hHeld ⊢;refine pS 0 18 HT_ ?_;refine pS 1 19 HT_ ?_;refine pS 2 20 HT_ ?_;refine pS 3 21 HT_ ?_;refine pS 4 22 HT_ ?_;refine pS 5 23 HT_ ?_;refine pS 6 24 HT_ ?_;refine pS 7 25 HT_ ?_;refine pS 9 27 HT_ ?_;refine pS 10 28 HT_ ?_;refine pS 11 29 HT_ ?_;refine pS 12 30 HT_ ?_;refine tU 8 26 HT_ HW_ hHeld ?_;refine tU 13 31 HT_ HW_ hHeld ?_;refine oU 14 (some 32) HT_ fun K hK=>?_
        refine goesv_ Try.func16 (by kernel_rfl) rfl #[.int .i64 (rd e0 e8),.int .i64 (rd e0 (f6)),.pointer a8] (by rfl) rfl rfl (by(try simp only[List.map_toArray,List.map_cons,List.map_nil]);first|done|(simp only[f7];rfl)|rfl|(simp only[List.length_drop,List.length_take];rfl)) ?_
        with_reducible refine(Czj.calls (rd e0 e8) (rd e0 (f6)) _ a9 b3 f9 _ ?side1 ?side2 g7.out).mono ?_
        (case side1=>exact Kd.C_kept_now b9.out (kK HK))
        (case side2=>exact d0.out)
        rintro e w' ⟨rfl,⟨nd,rfl⟩⟩;refine⟨_,rfl,?_⟩;refine hK.out _ _ ⟨hHeld.1,hHeld.2⟩ (fun hHeld=>?_)
        clear hK K;refine nm 32 ?_;refine pS 15 33 HT_ ?_;refine pS 16 34 HT_ ?_;refine done_ (done_of HT_.out (by kernel_rfl)) ?_
        try go_wp2
        go_roundg k2
        case measure=>have:=d6.out;have:=f2.out;omega
        case rel=>exact⟨(e0),(wrap64 (d5+1)),sD,H',⟨by have:=d6.out;have:=f2.out;omega⟩,⟨rX d7.out⟩,⟨kK HK⟩,⟨pB⟩⟩
      ·rw[if_neg c6] at H;have f3:decide (a6 < e8)=false:=decide_eq_false c6;clear c6;have H':=aM H;clear H;try go_wp2
       have n0_:=aM (Kd.R_drew d7.out);have n1_:=aM (Kept.drew HK.out);have n2_:=aM (below_drew1 HB.out);clear d7 HK HB;have d7:=n0_;have HK:=n1_;have HB:=n2_;clear n0_ n1_ n2_;refine start_ (n:=17) (S:=fun w'=>True) (ds:=[]) (bA 17 0) (by kernel_rfl) rfl rfl trivial (fun hHeld=>?_);refine with_tabW Azq.tab4 Azq.bits4 (fun HT_ HW_=>?_)
       generalize wr.drew=t7 at d7 HK HB hHeld ⊢;refine pS 0 18 HT_ ?_;refine pS 1 19 HT_ ?_;refine pS 2 20 HT_ ?_;refine pS 3 21 HT_ ?_;refine pN 4 22 HT_ ?_;refine pN 5 23 HT_ ?_;refine pN 6 24 HT_ ?_;refine pN 7 25 HT_ ?_;refine pN 8 26 HT_ ?_;refine pN 9 27 HT_ ?_;refine pN 10 28 HT_ ?_;refine pN 11 29 HT_ ?_;refine pN 12 30 HT_ ?_;refine pN 13 31 HT_ ?_;refine pN 14 32 HT_ ?_;refine pN 15 33 HT_ ?_;refine pS 16 34 HT_ ?_;refine done_ (done_of HT_.out (by kernel_rfl)) ?_
       try go_wp2
       go_roundg k2
       case measure=>have:=d6.out;have:=f2.out;omega
       case rel=>exact⟨(e0),(wrap64 (d5+1)),sD,H',⟨by have:=d6.out;have:=f2.out;omega⟩,⟨rX d7.out⟩,⟨kK HK⟩,⟨pB⟩⟩
   ·obtain rfl:=Option.some.inj H;go_wp2
    first|go_end0|((try simp only[Exit.inBlock,Exit.then]);refine bodyPost_ret (results_none rfl _ _ _) rfl ?_)
    exact⟨eW,rX d7.out,pB,kK HK⟩


def Azv.l0:Nat→List Int→Int→Int→Int→Int→Option (List Int)
 | 0,_,_,_,_,_=>none
 | k+1,x0,x1,x2,x3,x10=>if x10 < x3 then(if 0≤(wrap64 (x2+x10)) then(if(wrap64 (x2+x10)) < (x0.length:Int) then(if 0≤(wrap64 (x1+x10)) then(if(wrap64 (x1+x10)) < (x0.length:Int) then(Azv.l0 k ((x0.set ((wrap64 (x1+x10)):Int).toNat (rd x0 (wrap64 (x2+x10)))).set ((wrap64 (x2+x10)):Int).toNat (rd x0 (wrap64 (x1+x10)))) x1 x2 x3 (wrap64 (x10+1))) else(none)) else(none)) else(none)) else(none)) else(some x0)
def Azv.f (k:Nat) (l0:List Int) (a1:Int) (a2:Int) (a3:Int) (l4_0:List (List Int)):Option (List Int):=Azv.l0 k l0 a1 a2 a3 0
theorem Azv.mono_l:∀ k,(∀ a5 a6 a7 a8 a9,LeO (Azv.l0 k a5 a6 a7 a8 a9) (Azv.l0 (k+1) a5 a6 a7 a8 a9))
 | 0=>fun _ _ _ _ _ r h=>by simp [Azv.l0] at h
 | k+1=>by
  have ih0:=Azv.mono_l k
  ·intro a5 a6 a7 a8 a9;unfold Azv.l0;exact mM
theorem Azv.mono:∀ a5 a6 a7 a8 a9 k,LeO (Azv.f k a5 a6 a7 a8 a9) (Azv.f (k+1) a5 a6 a7 a8 a9):=by
 intro a5 a6 a7 a8 a9 k;have ih0:=Azv.mono_l k;unfold Azv.f;exact mM
def Azv.T3:Bool × List (List Nat × List Nat):=(true,[([],[]),([],[]),([],[]),([1,2],[1,2]),([],[]),([],[]),([],[]),([5,6],[5,6]),([],[]),([],[]),([],[]),([9,10],[9,10]),([8,11],[8,11]),([12],[12]),([],[]),([],[]),([],[]),([15,16],[15,16]),([14,17],[14,17]),([18],[18]),([0,3,0,1,2,3,8,9,10,11,12,13,19],[0,3]),([20,13,0,1,2,3,8,9,10,11,12,13,19],[13,20]),([4,7,0,1,2,3,4,5,6,7,8,9,10,11,12,13,14,15,16,17,18,19,20,21],[4,7]),([22,19,21,0,1,2,3,4,5,6,7,8,9,10,11,12,13,14,15,16,17,18,19,20,21],[19,22])])
def Azv.B3:List Nat:=[0,0,0,6,0,0,0,96,0,0,0,1536,3840,7936,0,0,0,98304,245760,507904,1048335,2096911,4194303,8388607]
theorem Azv.tab3:rtab .any (opsOf Try.f38 3)=Azv.T3:=by kernel_rfl
theorem Azv.bits3:waitsOk Azv.T3.2 Azv.B3=true:=by kernel_rfl
theorem Azv.calls (k:Nat) (a5:Nat→Prop) (u9000_:Value) (l0:List Int) (a6:Int) (a7:Int) (a8:Int) (a9:Option Addr) (b3:Nat) (b4:List (List Int)) (r:List Int) (b5 w:World) (hB:Below b5.heap.size b5 w) (b6:Kd.R (Kd.int .i64) 3 w b5.heap.size a5 u9000_ l0) (b7:∀ W_,Kept w W_ (fun k_=>a5 k_)→Kd.C (Kd.slice 3 (Kd.int .i64)) W_ a9 b4.length b4) (b8:b4.length≤b3) (h:Azv.f k l0 a6 a7 a8 b4=some r) :
  Calls Try.prog 38 #[u9000_,.int .i64 a6,.int .i64 a7,.int .i64 a8,.func (.func 16) #[] #[.pointer a9]] w fun e w'=>e=.returned (.tuple #[])∧Kd.R (Kd.int .i64) 3 w' b5.heap.size (fun k_=>(a5 k_∨w.heap.size≤k_)) u9000_ r∧Below b5.heap.size b5 w'∧Kept w w' (fun k_=>a5 k_):=by
 have b9:=aM (show Kd.R (Kd.int .i64) 3 w b5.heap.size (fun k_=>(a5 k_∨w.heap.size≤k_)) u9000_ l0 from Kd.R_mono b6 (fun k_ hk=>(.inl hk)))
 have d0:=aM b7;have d3:=aM b8;clear b7 b8;have HK:=aM (Kept.refl w (fun k_=>a5 k_))
 have HW0:=aM hB.size;have HB:=aM hB;clear hB;have H:(Azv.l0 k l0 a6 a7 a8 0)=some r:=h;clear h;have H':=aM H;clear H;go_enter Try.func38,Try.ntmps38
 go_wp2
 go_loopg [10] k (fun kq d4 w'=>∃ (d5:List Int) (d6:Int),d4=.int .i64 d6∧Aside0 (Azv.l0 kq d5 a6 a7 a8 d6=some r)∧Aside0 (kq≤k)∧Aside0 (Kd.R (Kd.int .i64) 3 w' b5.heap.size (fun k_=>(a5 k_∨w.heap.size≤k_)) u9000_ d5)∧Aside0 (Kept w w' (fun k_=>a5 k_))∧Aside0 (Below b5.heap.size b5 w'))
 case atStart=>exact⟨(l0),(0),sD,H',⟨Nat.le_refl _⟩,⟨rX b9.out⟩,⟨kK HK⟩,⟨pB⟩⟩
 case round =>
  clear H';try clear p2
  obtain⟨d5,d6,rfl,HA,d7,d8,HK,HB⟩:=hrel;cases gk with
  | zero=>exact absurd HA.out (by simp [Azv.l0])
  | succ k1 =>
   have H:=HA.out;clear HA;simp only[Azv.l0] at H;replace H:=iD H;rcases H with⟨d9,H⟩|⟨d9,H⟩
   ·obtain⟨e0,e8⟩:∃ j_:Int,(wrap64 (a7+d6))=j_:=⟨_,rfl⟩;replace H:(if 0≤(e0) then(if(e0) < (d5.length:Int) then(if 0≤(wrap64 (a6+d6)) then(if(wrap64 (a6+d6)) < (d5.length:Int) then(Azv.l0 k1 ((d5.set ((wrap64 (a6+d6)):Int).toNat (rd d5 (e0))).set ((e0):Int).toNat (rd d5 (wrap64 (a6+d6)))) a6 a7 a8 (wrap64 (d6+1))) else(none)) else(none)) else(none)) else(none))=some r:=by first|(rw[e8] at H;exact H)|(simp only[e8] at H ⊢;exact H)
    have f2:(IntKind.i64.wrap (a7+d6))=e0:=(i64_w _).trans e8;obtain⟨f3,H⟩:=iN H;obtain⟨f4,H⟩:=iN H;obtain⟨f5,f6⟩:∃ j_:Int,(wrap64 (a6+d6))=j_:=⟨_,rfl⟩;replace H:(if 0≤(f5) then(if(f5) < (d5.length:Int) then(Azv.l0 k1 ((d5.set ((f5):Int).toNat (rd d5 (e0))).set ((e0):Int).toNat (rd d5 (f5))) a6 a7 a8 (wrap64 (d6+1))) else(none)) else(none))=some r:=by first|(rw[f6] at H;exact H)|(simp only[f6] at H ⊢;exact H)
    have f7:(IntKind.i64.wrap (a6+d6))=f5:=(i64_w _).trans f6;obtain⟨f9,H⟩:=iN H;obtain⟨g4,H⟩:=iN H;obtain⟨g5,g6⟩:∃ y_:List Int,y_=(d5.set ((f5):Int).toNat (rd d5 (e0))):=⟨_,rfl⟩;replace H:(Azv.l0 k1 (g5.set ((e0):Int).toNat (rd d5 (f5))) a6 a7 a8 (wrap64 (d6+1)))=some r:=yE g6 H
    have g7:=aM g6;clear g6;obtain⟨g8,g9⟩:∃ y_:List Int,y_=(g5.set ((e0):Int).toNat (rd d5 (f5))):=⟨_,rfl⟩;replace H:(Azv.l0 k1 g8 a6 a7 a8 (wrap64 (d6+1)))=some r:=yE g9 H
    have j2:=aM g9;clear g9;have H':=aM H;clear H;try go_wp2
    have n0_:=aM (Kd.R_drew d8.out);have n1_:=aM (Kept.drew HK.out);have n2_:=aM (below_drew1 HB.out);clear d8 HK HB;have d8:=n0_;have HK:=n1_;have HB:=n2_;clear n0_ n1_ n2_;obtain⟨j3,j5,j9⟩:=Kd.R_slice d8.out;(first|subst j9|(injection j9 with f1_ f2_ f3_;have f4_:=f1_.symm;have f5_:=f3_.symm;clear f1_ f2_ f3_;subst f4_;subst f5_))
    obtain⟨l5,l6,l7,l8,l9⟩:=aI (Kd.R_reads' d8.out).2.2 (e0);cases l6;obtain⟨m0,m4,m5,m6,m7⟩:=aI (Kd.R_reads' d8.out).2.2 (f5);obtain rfl:l5=m0:=(by injection m4);have m8:0≤((f5):Int):=oE aS
    have m9:((f5):Int) < ((d5.length:Int):Int):=oE aS
    obtain⟨n0,n1,n2,n3,n4,n5,n6⟩:=Kd.R_form d8.out (by omega)
    (first|cases n2|(injection n2 with ea_ en_ ec_;(first|subst ea_|(injection ea_ with ea_;subst ea_));subst ec_;clear en_))
    have n7:=aM n3;have n8:=aM n6;clear n3 n4 n6;have HMgo13:=aM (show(a5 n0∨w.heap.size≤n0) from(d8.out.1 _ rfl))
    (first|simp only[add_plain] at l7|skip)
    (first|simp only[add_plain] at m5|skip)
    obtain⟨n9,o0⟩:=Kd.R_celln 0 d8.out ((f5):Int) m8 m9;replace m8:=eq_true m8;replace m9:=eq_true m9;have o1:=Kd.R_putn d8.out ((f5):Int) (rd d5 (e0));rw[← g7.out] at o1;have o2:=aM o1;clear o1;obtain⟨o3,o4⟩:=Kd.R_celln 0 o2.out ((e0):Int) (oE aS) (oE aS);have o5:=eT ((e0));have o6:=eU ((e0)) d5.length;have o7:=Kd.R_putn o2.out ((e0):Int) (rd d5 (f5));rw[← j2.out] at o7;have o8:=aM o7;clear o7;refine start_ (n:=24) (S:=fun w'=>w'.cell? ⟨n0,((e0)).toNat,none⟩=some (.int .i64 (rd d5 (e0)))∧w'.cell? ⟨n0,((f5)).toNat,none⟩=some (.int .i64 (rd d5 (f5)))) (ds:=[21,23]) (bA 24 0) (by kernel_rfl) rfl rfl ⟨l7,m5⟩ (fun hHeld=>?_);refine with_tabW Azv.tab3 Azv.bits3 (fun HT_ HW_=>?_)
    generalize wr.drew=o9 at d8 HK HB n8 o2 o8 o0 o4 n9 o3 l7 m5 hHeld ⊢;refine pS 0 16 HT_ ?_;refine pS 1 17 HT_ ?_;refine pS 2 18 HT_ ?_;refine pS 3 19 HT_ ?_;refine pS 4 20 HT_ ?_;refine pS 5 21 HT_ ?_;refine pS 6 22 HT_ ?_;refine pS 7 23 HT_ ?_;refine pS 8 24 HT_ ?_;refine pS 9 25 HT_ ?_;refine pS 10 26 HT_ ?_;refine pS 11 27 HT_ ?_;refine pS 12 28 HT_ ?_;refine pS 14 30 HT_ ?_;refine pS 15 31 HT_ ?_;refine pS 16 32 HT_ ?_;refine pS 17 33 HT_ ?_;refine pS 18 34 HT_ ?_;refine tU 13 29 HT_ HW_ hHeld ?_;refine tU 19 35 HT_ HW_ hHeld ?_;refine pS 20 36 HT_ ?_;refine lU 21 none HT_ fun K hK=>?_
    refine skip_ (w1:=?_) (by rfl) rfl ?_ ?_
    rotate_left
    ·go_simp
     rfl
    refine hK.out _ _ ?_;clear hK K;refine pS 22 37 HT_ ?_;refine lU 23 none HT_ fun K hK=>?_
    refine skip_ (w1:=?_) (by rfl) rfl ?_ ?_
    rotate_left
    ·go_simp
     rfl
    refine hK.out _ _ ?_;clear hK K;refine done_ (done_of HT_.out (by kernel_rfl)) ?_
    try go_wp2
    go_roundg k1
    case measure=>have:=d7.out;omega
    case rel=>exact⟨(g8),(wrap64 (d6+1)),sD,H',⟨by have:=d7.out;omega⟩,⟨rX o8.out⟩,⟨by repeat(first|(with_reducible first|exact HK.out|apply Kept.alloc|apply Kept.drewN|apply Kept.drew|refine Kept.setCell ?_ HMgo13.out _|refine Kept.setCell ?_ HMgo13.out _)|exact HK.out)⟩,⟨pB⟩⟩
   ·obtain rfl:=Option.some.inj H;go_wp2
    first|go_end0|((try simp only[Exit.inBlock,Exit.then]);refine bodyPost_ret (results_none rfl _ _ _) rfl ?_)
    exact⟨eW,rX d8.out,pB,kK HK⟩


def Azk.l0:Nat→List Int→Int→Int→Int→List (List Int)→Option (List Int)
 | 0,_,_,_,_,_=>none
 | k+1,x0,x2,x10,x11,x940=>if x10=x11 then((Azv.f k x0 (wrap64 (x2 - x10)) x2 x10 x940).bind fun t171=>(some t171)) else(if x10 > x11 then((Azv.f k x0 (wrap64 (x2 - x10)) x2 x11 x940).bind fun t172=>(Azk.l0 k t172 x2 (wrap64 (x10 - x11)) x11 x940)) else((Azv.f k x0 (wrap64 (x2 - x10)) (wrap64 ((wrap64 (x2+x11)) - x10)) x10 x940).bind fun t173=>(Azk.l0 k t173 x2 x10 (wrap64 (x11 - x10)) x940)))
def Azk.f (k:Nat) (l0:List Int) (a1:Int) (a2:Int) (a3:Int) (l4_0:List (List Int)):Option (List Int):=Azk.l0 k l0 a2 (wrap64 (a2 - a1)) (wrap64 (a3 - a2)) l4_0
theorem Azk.mono_l:∀ k,(∀ a5 a6 a7 a8 a9,LeO (Azk.l0 k a5 a6 a7 a8 a9) (Azk.l0 (k+1) a5 a6 a7 a8 a9))
 | 0=>fun _ _ _ _ _ r h=>by simp [Azk.l0] at h
 | k+1=>by
  have ih0:=Azk.mono_l k
  ·intro a5 a6 a7 a8 a9;unfold Azk.l0;have i0:=@Azv.mono;exact mM
theorem Azk.mono:∀ a5 a6 a7 a8 a9 k,LeO (Azk.f k a5 a6 a7 a8 a9) (Azk.f (k+1) a5 a6 a7 a8 a9):=by
 intro a5 a6 a7 a8 a9 k;have ih0:=Azk.mono_l k;unfold Azk.f;have i0:=@Azv.mono;exact mM
theorem Azk.calls (k:Nat) (a5:Nat→Prop) (u9000_:Value) (l0:List Int) (a6:Int) (a7:Int) (a8:Int) (a9:Option Addr) (b3:Nat) (b4:List (List Int)) (r:List Int) (b5 w:World) (hB:Below b5.heap.size b5 w) (b6:Kd.R (Kd.int .i64) 3 w b5.heap.size a5 u9000_ l0) (b7:∀ W_,Kept w W_ (fun k_=>a5 k_)→Kd.C (Kd.slice 3 (Kd.int .i64)) W_ a9 b4.length b4) (b8:b4.length≤b3) (h:Azk.f k l0 a6 a7 a8 b4=some r) :
  Calls Try.prog 37 #[u9000_,.int .i64 a6,.int .i64 a7,.int .i64 a8,.func (.func 16) #[] #[.pointer a9]] w fun e w'=>e=.returned (.tuple #[])∧Kd.R (Kd.int .i64) 3 w' b5.heap.size (fun k_=>(a5 k_∨w.heap.size≤k_)) u9000_ r∧Below b5.heap.size b5 w'∧Kept w w' (fun k_=>a5 k_):=by
 have b9:=aM (show Kd.R (Kd.int .i64) 3 w b5.heap.size (fun k_=>(a5 k_∨w.heap.size≤k_)) u9000_ l0 from Kd.R_mono b6 (fun k_ hk=>(.inl hk)))
 have d0:=aM b7;have d3:=aM b8;clear b7 b8;have HK:=aM (Kept.refl w (fun k_=>a5 k_))
 have HW0:=aM hB.size;have HB:=aM hB;clear hB;have H:(Azk.l0 k l0 a7 (wrap64 (a7 - a6)) (wrap64 (a8 - a7)) b4)=some r:=h;clear h;have H':=aM H;clear H;go_enter Try.func37,Try.ntmps37
 go_wp2
 go_loopg [10,11] k (fun kq d4 d5 w'=>∃ (d6:List Int) (d7:Int) (d8:Int),d4=.int .i64 d7∧d5=.int .i64 d8∧Aside0 (Azk.l0 kq d6 a7 d7 d8 b4=some r)∧Aside0 (kq≤k)∧Aside0 (Kd.R (Kd.int .i64) 3 w' b5.heap.size (fun k_=>(a5 k_∨w.heap.size≤k_)) u9000_ d6)∧Aside0 (Kept w w' (fun k_=>a5 k_))∧Aside0 (Below b5.heap.size b5 w'))
 case atStart=>exact⟨(l0),(wrap64 (a7 - a6)),(wrap64 (a8 - a7)),sD,sD,H',⟨Nat.le_refl _⟩,⟨rX b9.out⟩,⟨kK HK⟩,⟨pB⟩⟩
 case round =>
  clear H';try clear p2
  obtain⟨d6,d7,d8,rfl,rfl,HA,d9,e0,HK,HB⟩:=hrel;cases gk with
  | zero=>exact absurd HA.out (by simp [Azk.l0])
  | succ k1 =>
   have H:=HA.out;clear HA;simp only[Azk.l0] at H;replace H:=iE H;rcases H with⟨e8,f2,H⟩|⟨c6,e8,f2,H⟩
   ·replace H:=bS H;obtain⟨f3,f4,H⟩:=H;replace H:(some f3)=some r:=H;have f5:=aM f4;clear f4;obtain rfl:=Option.some.inj H;obtain⟨f6,f7,rfl⟩:=Kd.R_slice e0.out;go_wp2_with (first|((with_reducible refine gc 38 rfl ?_);refine gC 38 (some 57) Try.func38 #[.slice f6 d6.length f7,.int .i64 (wrap64 (a7 - d7)),.int .i64 a7,.int .i64 d7,.func (.func 16) #[] #[.pointer a9]] ?_;(with_reducible refine(Azv.calls k1 (fun k_=>some k_=(.slice f6 d6.length f7:Value).ownBlock) (.slice f6 d6.length f7) d6 (wrap64 (a7 - d7)) a7 d7 _ b3 b4 f3 b5 _ ?_ ?_ ?_ ?_ f5.out).mono ?_);exact pB;exact Kd.R_tight rfl e0.out;exact Kd.C_kept_call d0.out (kK HK) (fun k_ hs_=>(fun e_=>(e0.out.1 k_ e_.symm)) hs_);exact d3.out;rintro e f9 ⟨rfl,g4,hb,hkp⟩;refine⟨_,rfl,?_⟩;replace HK:=aM (Kept.then_ (S:=(fun k_=>a5 k_)) (kK HK) hkp (fun k_ hs_=>(fun e_=>(e0.out.1 k_ e_.symm)) hs_));replace e0:=aM (Kd.R_reok rfl g4 (fun k_ e_=>e0.out.1 k_ e_));replace HB:=aM (hb);clear hb hkp g4))
    first|go_end0|((try simp only[Exit.inBlock,Exit.then]);refine bodyPost_ret (results_none rfl _ _ _) rfl ?_)
    exact⟨eW,rX e0.out,pB,kK HK⟩
   ·by_cases c10:d7 > d8
    ·rw[if_pos c10] at H;have g5:decide (d8 < d7)=true:=dE c10;clear c10;obtain⟨g6,g7,H⟩:=bT H;(try dsimp only at H);have H':=aM H;clear H;obtain⟨g8,g9,rfl⟩:=Kd.R_slice e0.out;go_wp2_with (first|((with_reducible refine gc 38 rfl ?_);refine gC 38 (some 31) Try.func38 #[.slice g8 d6.length g9,.int .i64 (wrap64 (a7 - d7)),.int .i64 a7,.int .i64 d8,.func (.func 16) #[] #[.pointer a9]] ?_;(with_reducible refine(Azv.calls k1 (fun k_=>some k_=(.slice g8 d6.length g9:Value).ownBlock) (.slice g8 d6.length g9) d6 (wrap64 (a7 - d7)) a7 d8 _ b3 b4 g6 b5 _ ?_ ?_ ?_ ?_ g7.out).mono ?_);exact pB;exact Kd.R_tight rfl e0.out;exact Kd.C_kept_call d0.out (kK HK) (fun k_ hs_=>(fun e_=>(e0.out.1 k_ e_.symm)) hs_);exact d3.out;rintro e j2 ⟨rfl,g4,hb,hkp⟩;refine⟨_,rfl,?_⟩;replace HK:=aM (Kept.then_ (S:=(fun k_=>a5 k_)) (kK HK) hkp (fun k_ hs_=>(fun e_=>(e0.out.1 k_ e_.symm)) hs_));replace e0:=aM (Kd.R_reok rfl g4 (fun k_ e_=>e0.out.1 k_ e_));replace HB:=aM (hb);clear hb hkp g4))
     go_roundg k1
     case measure=>have:=d9.out;omega
     case rel=>exact⟨(g6),(wrap64 (d7 - d8)),(d8),sD,sD,H',⟨by have:=d9.out;omega⟩,⟨rX e0.out⟩,⟨kK HK⟩,⟨pB⟩⟩
    ·rw[if_neg c10] at H;have g5:decide (d8 < d7)=false:=decide_eq_false c10;clear c10;obtain⟨j3,j5,H⟩:=bT H;(try dsimp only at H);have H':=aM H;clear H;obtain⟨j9,l5,rfl⟩:=Kd.R_slice e0.out;go_wp2_with (first|((with_reducible refine gc 38 rfl ?_);refine gC 38 (some 46) Try.func38 #[.slice j9 d6.length l5,.int .i64 (wrap64 (a7 - d7)),.int .i64 (wrap64 ((wrap64 (a7+d8)) - d7)),.int .i64 d7,.func (.func 16) #[] #[.pointer a9]] ?_;(with_reducible refine(Azv.calls k1 (fun k_=>some k_=(.slice j9 d6.length l5:Value).ownBlock) (.slice j9 d6.length l5) d6 (wrap64 (a7 - d7)) (wrap64 ((wrap64 (a7+d8)) - d7)) d7 _ b3 b4 j3 b5 _ ?_ ?_ ?_ ?_ j5.out).mono ?_);exact pB;exact Kd.R_tight rfl e0.out;exact Kd.C_kept_call d0.out (kK HK) (fun k_ hs_=>(fun e_=>(e0.out.1 k_ e_.symm)) hs_);exact d3.out;rintro e l6 ⟨rfl,g4,hb,hkp⟩;refine⟨_,rfl,?_⟩;replace HK:=aM (Kept.then_ (S:=(fun k_=>a5 k_)) (kK HK) hkp (fun k_ hs_=>(fun e_=>(e0.out.1 k_ e_.symm)) hs_));replace e0:=aM (Kd.R_reok rfl g4 (fun k_ e_=>e0.out.1 k_ e_));replace HB:=aM (hb);clear hb hkp g4))
     go_roundg k1
     case measure=>have:=d9.out;omega
     case rel=>exact⟨(j3),(d7),(wrap64 (d8 - d7)),sD,sD,H',⟨by have:=d9.out;omega⟩,⟨rX e0.out⟩,⟨kK HK⟩,⟨pB⟩⟩

end Go.Proofs.Ytblifmmcmngdnaa.Print
