import Derived.Test.YtbnpcplckcipfaaPrint0
import Derived.Test.YtbnpcplckcipfaaPrint10
namespace Go.Proofs.Ytbnpcplckcipfaa.Print
open Go.RowKit Go.Proofs.YtbnpcplckcipfaaW.PrintWords Go.Proofs.YtbnpcplckcipfaaW.PrintLast Go.Proofs.YtbnpcplckcipfaaW.PrintMore
attribute [local go_sem] max2_int min2_int max_two min_two max_three min_three max_four min_four
set_option linter.unusedVariables false
set_option maxRecDepth 100000
set_option maxHeartbeats 8000000
set_option linter.unusedSimpArgs false

def Fzy.f (k:Nat) (a0_0:Bool) (l0_1:List Int) (l0_2:List Int):Option (Bool):=(Azy.f k l0_1).bind fun t302=>(if t302=true then((Azy.f k l0_2).bind fun t303=>(if t303=true then(if(l0_2.length:Int)=0 then(some false) else(if a0_0=true then(if(l0_1.length:Int)=0 then(some false) else((Czk.f k l0_1 l0_2).bind fun bt304=>(if bt304.2=0 then(if(bt304.1.length:Int)=1 then(if 0 < (bt304.1.length:Int) then(some ((rd bt304.1 0) == 1)) else(none)) else(some false)) else(some false)))) else((Czk.f k l0_1 l0_2).bind fun bt309=>(if bt309.2=0 then(if(bt309.1.length:Int)=1 then(if 0 < (bt309.1.length:Int) then(some ((rd bt309.1 0) == 1)) else(none)) else(some false)) else(some false))))) else(some false))) else(some false))
theorem Fzy.mono:∀ a6 a7 a8 k,LeO (Fzy.f k a6 a7 a8) (Fzy.f (k+1) a6 a7 a8):=by
 intro a6 a7 a8 k;unfold Fzy.f;have i0:=@Czk.mono;have i1:=@Azy.mono;exact mM
theorem Fzy.calls (k:Nat) (a6:Bool) (a7:Option Addr) (a8:Nat) (a9:List Int) (b4:Option Addr) (b5:Nat) (b6:List Int) (r:Bool) (w:World) (b7:cI w a7 a9) (b8:a9.length≤a8) (b9:cI w b4 b6) (d6:b6.length≤b5) (h:Fzy.f k a6 a9 b6=some r) :
  Calls Try.prog 37 #[.agg #[.bool a6,.slice a7 a9.length a8,.slice b4 b6.length b5]] w fun e w'=>e=.returned (.bool r)∧bw w w':=by
 have hu33:=Try.underlying33;have d7:=aM b7;have d8:=aM b8;clear b7 b8;have d9:=aM b9;have e6:=aM d6;clear b9 d6;have HB:=aM (Below.refl w.heap.size w);have H:((Azy.f k a9).bind fun e7=>(if e7=true then((Azy.f k b6).bind fun e8=>(if e8=true then(if(b6.length:Int)=0 then(some false) else(if a6=true then(if(a9.length:Int)=0 then(some false) else((Czk.f k a9 b6).bind fun e9=>(if e9.2=0 then(if(e9.1.length:Int)=1 then(if 0 < (e9.1.length:Int) then(some ((rd e9.1 0) == 1)) else(none)) else(some false)) else(some false)))) else((Czk.f k a9 b6).bind fun f3=>(if f3.2=0 then(if(f3.1.length:Int)=1 then(if 0 < (f3.1.length:Int) then(some ((rd f3.1 0) == 1)) else(none)) else(some false)) else(some false))))) else(some false))) else(some false)))=some r:=h
 clear h;obtain⟨e7,f4,H⟩:=bT H;(try dsimp only at H);by_cases c3:e7=true
 ·subst c3;rw[if_pos rfl] at H;obtain⟨e8,f5,H⟩:=bT H;(try dsimp only at H);by_cases c5:e8=true
  ·subst c5;rw[if_pos rfl] at H;replace H:=iE H;rcases H with⟨f6,f7,H⟩|⟨c6,f6,f7,H⟩
   ·obtain rfl:=Option.some.inj H;go_enter Try.func37,Try.ntmps37
    go_wp2_with (first|((with_reducible refine gd 1 rfl ?_);refine bxg #[.bool a6,.slice a7 a9.length a8,.slice b4 b6.length b5] 33 ?_;intro f8 hg f9 g4 hb;have g5:=gA w hg;replace HB:=bB hb;clear hb hg;obtain⟨g7,g8,g9,j3,j4,j5⟩:=bk3 g4)|((with_reducible refine gc 65 rfl ?_);refine gC 65 (some 7) Try.func65 #[.slice a7 a9.length a8] ?_;(with_reducible refine(Azy.calls k _ _ a9 true _ ?_ ?_ f4.out).mono ?_);exact cB d7;exact d8.out;rintro e w' ⟨rfl,⟨nd,rfl⟩⟩;refine⟨_,rfl,?_⟩)|(go_at_call 65;(with_reducible refine(Azy.calls k _ _ b6 true _ ?_ ?_ f5.out).mono ?_);exact cB d9;exact e6.out;rintro e w' ⟨rfl,⟨nd,rfl⟩⟩))
    go_ret
    exact⟨eW,pB⟩
   ·have j6:¬ (b6=[]):=fun h_=>c6 (by rw[h_];rfl)
    by_cases c9:a6=true
    ·subst c9;rw[if_pos rfl] at H;have j7:=aM H;clear H;go_enter Try.func37,Try.ntmps37
     go_upto_if 30 with (first|((with_reducible refine gd 1 rfl ?_);refine bxg #[.bool true,.slice a7 a9.length a8,.slice b4 b6.length b5] 33 ?_;intro f8 hg j8 g4 hb;have g5:=gA w hg;replace HB:=bB hb;clear hb hg;obtain⟨j9,l5,l6,l7,l8,l9⟩:=bk3 g4)|((with_reducible refine gc 65 rfl ?_);refine gC 65 (some 7) Try.func65 #[.slice a7 a9.length a8] ?_;(with_reducible refine(Azy.calls k _ _ a9 true _ ?_ ?_ f4.out).mono ?_);exact cB d7;exact d8.out;rintro e w' ⟨rfl,⟨nd,rfl⟩⟩;refine⟨_,rfl,?_⟩)|(go_at_call 65;(with_reducible refine(Azy.calls k _ _ b6 true _ ?_ ?_ f5.out).mono ?_);exact cB d9;exact e6.out;rintro e w' ⟨rfl,⟨nd,rfl⟩⟩))
     have H:=j7.out;clear j7;replace H:=iE H;rcases H with⟨m4,m5,H⟩|⟨m0,m4,m5,H⟩
     ·(first|rw[m4]|(simp only[i64_w,i32_w];rw[m4])|skip)
      obtain rfl:=Option.some.inj H;go_wp2
      go_ret
      exact⟨eW,pB⟩
     ·have m6:¬ (a9=[]):=fun h_=>m0 (by rw[h_];rfl)
      (first|rw[m4]|(simp only[i64_w,i32_w];rw[m4])|skip)
      obtain⟨⟨m7,m8⟩,m9,H⟩:=bT H;(try dsimp only at H);replace H:=iE H;rcases H with⟨n7,n8,H⟩|⟨n0,n7,n8,H⟩
      ·replace H:=iE H;rcases H with⟨o0,o8,H⟩|⟨n9,o0,o8,H⟩
       ·obtain⟨o9,H⟩:=iO H;have p0:decide (0 < (m7.length:Int))=true:=dE o9;have p4:decide (0 < m7.length)=true:=dE (by omega)
        clear o9;obtain rfl:=Option.some.inj H;obtain⟨p7,p9,r5,r6,r7,r8⟩:=bk3 g4;go_wp2_with (first|((with_reducible refine gc 66 rfl ?_);refine gC 66 (some 36) Try.func66 #[.slice a7 a9.length a8,.slice b4 b6.length b5] ?_;(with_reducible refine(Czk.calls k (fun k_=>k_ < w.heap.size) _ _ a9 (fun k_=>k_ < w.heap.size) _ _ b6 m7 m8 _ ?_ ?_ m9.out).mono ?_);exact Kd.V_mk d8.out (Kd.F_below (Kd.C_F (Kd.heap_int .i64) d7.out) pB);exact Kd.V_mk e6.out (Kd.F_below (Kd.C_F (Kd.heap_int .i64) d9.out) pB);rintro e r9 ⟨t4,rfl,t5,hb⟩;refine⟨_,rfl,?_⟩;have t6:=rL (Kd.R_mono (ok':=fun k_=>True) t5 (fun _ hk_=>trivial));replace g4:=kb g4 hb;replace HB:=bB hb;clear hb t5;obtain⟨t7,t8,rfl⟩:=Kd.R_slice t6.out;have t9:0≤(0:Int):=(by omega);have z3:0 < (m7.length:Int):=oE aS;obtain⟨z4,z5,z6⟩:=Kd.at_int (Kd.R_reads' t6.out).2.2 0 t9 z3;cases z5;have z7:(0 < m7.length)=True:=eq_true (by omega);(try rw[show((0:Int)).toNat=0 from rfl] at z6);(try rw[Addr.add_zero'] at z6);replace t9:=eq_true t9;replace z3:=eq_true z3))
        go_ret
        exact⟨eW,pB⟩
       ·obtain rfl:=Option.some.inj H;obtain⟨z8,z9,B0,B5,B9,C0⟩:=bk3 g4;go_wp2_with (first|((with_reducible refine gc 66 rfl ?_);refine gC 66 (some 36) Try.func66 #[.slice a7 a9.length a8,.slice b4 b6.length b5] ?_;(with_reducible refine(Czk.calls k (fun k_=>k_ < w.heap.size) _ _ a9 (fun k_=>k_ < w.heap.size) _ _ b6 m7 m8 _ ?_ ?_ m9.out).mono ?_);exact Kd.V_mk d8.out (Kd.F_below (Kd.C_F (Kd.heap_int .i64) d7.out) pB);exact Kd.V_mk e6.out (Kd.F_below (Kd.C_F (Kd.heap_int .i64) d9.out) pB);rintro e C1 ⟨t4,rfl,t5,hb⟩;refine⟨_,rfl,?_⟩;have t6:=rL (Kd.R_mono (ok':=fun k_=>True) t5 (fun _ hk_=>trivial));replace g4:=kb g4 hb;replace HB:=bB hb;clear hb t5;obtain⟨C2,C3,rfl⟩:=Kd.R_slice t6.out))
        go_ret
        exact⟨eW,pB⟩
      ·obtain rfl:=Option.some.inj H;obtain⟨C4,C6,C7,C8,C9,D2⟩:=bk3 g4;go_wp2_with (first|((with_reducible refine gc 66 rfl ?_);refine gC 66 (some 36) Try.func66 #[.slice a7 a9.length a8,.slice b4 b6.length b5] ?_;(with_reducible refine(Czk.calls k (fun k_=>k_ < w.heap.size) _ _ a9 (fun k_=>k_ < w.heap.size) _ _ b6 m7 m8 _ ?_ ?_ m9.out).mono ?_);exact Kd.V_mk d8.out (Kd.F_below (Kd.C_F (Kd.heap_int .i64) d7.out) pB);exact Kd.V_mk e6.out (Kd.F_below (Kd.C_F (Kd.heap_int .i64) d9.out) pB);rintro e D3 ⟨t4,rfl,t5,hb⟩;refine⟨_,rfl,?_⟩;have t6:=rL (Kd.R_mono (ok':=fun k_=>True) t5 (fun _ hk_=>trivial));replace g4:=kb g4 hb;replace HB:=bB hb;clear hb t5))
       go_ret
       exact⟨eW,pB⟩
    ·obtain rfl:=bN c9;rw[if_neg nF] at H
     obtain⟨⟨D4,D5⟩,D6,H⟩:=bT H;(try dsimp only at H);replace H:=iE H;rcases H with⟨D8,D9,H⟩|⟨D7,D8,D9,H⟩
     ·replace H:=iE H;rcases H with⟨E1,E2,H⟩|⟨E0,E1,E2,H⟩
      ·obtain⟨E3,H⟩:=iO H;have E4:decide (0 < (D4.length:Int))=true:=dE E3;have E5:decide (0 < D4.length)=true:=dE (by omega)
       clear E3;obtain rfl:=Option.some.inj H;go_enter Try.func37,Try.ntmps37
       go_wp2_with (first|((with_reducible refine gd 1 rfl ?_);refine bxg #[.bool false,.slice a7 a9.length a8,.slice b4 b6.length b5] 33 ?_;intro f8 hg E6 g4 hb;have g5:=gA w hg;replace HB:=bB hb;clear hb hg;obtain⟨E7,E8,E9,F0,F2,F3⟩:=bk3 g4)|((with_reducible refine gc 65 rfl ?_);refine gC 65 (some 7) Try.func65 #[.slice a7 a9.length a8] ?_;(with_reducible refine(Azy.calls k _ _ a9 true _ ?_ ?_ f4.out).mono ?_);exact cB d7;exact d8.out;rintro e w' ⟨rfl,⟨nd,rfl⟩⟩;refine⟨_,rfl,?_⟩)|(go_at_call 65;(with_reducible refine(Azy.calls k _ _ b6 true _ ?_ ?_ f5.out).mono ?_);exact cB d9;exact e6.out;rintro e w' ⟨rfl,⟨nd,rfl⟩⟩)|((with_reducible refine gc 66 rfl ?_);refine gC 66 (some 36) Try.func66 #[.slice a7 a9.length a8,.slice b4 b6.length b5] ?_;(with_reducible refine(Czk.calls k (fun k_=>k_ < w.heap.size) _ _ a9 (fun k_=>k_ < w.heap.size) _ _ b6 D4 D5 _ ?_ ?_ D6.out).mono ?_);exact Kd.V_mk d8.out (Kd.F_below (Kd.C_F (Kd.heap_int .i64) d7.out) pB);exact Kd.V_mk e6.out (Kd.F_below (Kd.C_F (Kd.heap_int .i64) d9.out) pB);rintro e F4 ⟨F5,rfl,t5,hb⟩;refine⟨_,rfl,?_⟩;have F6:=rL (Kd.R_mono (ok':=fun k_=>True) t5 (fun _ hk_=>trivial));replace g4:=kb g4 hb;replace HB:=bB hb;clear hb t5;obtain⟨F7,F8,rfl⟩:=Kd.R_slice F6.out;have F9:0≤(0:Int):=(by omega);have G5:0 < (D4.length:Int):=oE aS;obtain⟨G9,H5,H6⟩:=Kd.at_int (Kd.R_reads' F6.out).2.2 0 F9 G5;cases H5;have H7:(0 < D4.length)=True:=eq_true (by omega);(try rw[show((0:Int)).toNat=0 from rfl] at H6);(try rw[Addr.add_zero'] at H6);replace F9:=eq_true F9;replace G5:=eq_true G5))
       go_ret
       exact⟨eW,pB⟩
      ·obtain rfl:=Option.some.inj H;go_enter Try.func37,Try.ntmps37
       go_wp2_with (first|((with_reducible refine gd 1 rfl ?_);refine bxg #[.bool false,.slice a7 a9.length a8,.slice b4 b6.length b5] 33 ?_;intro f8 hg H8 g4 hb;have g5:=gA w hg;replace HB:=bB hb;clear hb hg;obtain⟨H9,I0,I3,I4,I5,I6⟩:=bk3 g4)|((with_reducible refine gc 65 rfl ?_);refine gC 65 (some 7) Try.func65 #[.slice a7 a9.length a8] ?_;(with_reducible refine(Azy.calls k _ _ a9 true _ ?_ ?_ f4.out).mono ?_);exact cB d7;exact d8.out;rintro e w' ⟨rfl,⟨nd,rfl⟩⟩;refine⟨_,rfl,?_⟩)|(go_at_call 65;(with_reducible refine(Azy.calls k _ _ b6 true _ ?_ ?_ f5.out).mono ?_);exact cB d9;exact e6.out;rintro e w' ⟨rfl,⟨nd,rfl⟩⟩)|((with_reducible refine gc 66 rfl ?_);refine gC 66 (some 36) Try.func66 #[.slice a7 a9.length a8,.slice b4 b6.length b5] ?_;(with_reducible refine(Czk.calls k (fun k_=>k_ < w.heap.size) _ _ a9 (fun k_=>k_ < w.heap.size) _ _ b6 D4 D5 _ ?_ ?_ D6.out).mono ?_);exact Kd.V_mk d8.out (Kd.F_below (Kd.C_F (Kd.heap_int .i64) d7.out) pB);exact Kd.V_mk e6.out (Kd.F_below (Kd.C_F (Kd.heap_int .i64) d9.out) pB);rintro e I7 ⟨F5,rfl,t5,hb⟩;refine⟨_,rfl,?_⟩;have F6:=rL (Kd.R_mono (ok':=fun k_=>True) t5 (fun _ hk_=>trivial));replace g4:=kb g4 hb;replace HB:=bB hb;clear hb t5;obtain⟨I8,I9,rfl⟩:=Kd.R_slice F6.out))
       go_ret
       exact⟨eW,pB⟩
     ·obtain rfl:=Option.some.inj H;go_enter Try.func37,Try.ntmps37
      go_wp2_with (first|((with_reducible refine gd 1 rfl ?_);refine bxg #[.bool false,.slice a7 a9.length a8,.slice b4 b6.length b5] 33 ?_;intro f8 hg J0 g4 hb;have g5:=gA w hg;replace HB:=bB hb;clear hb hg;obtain⟨J1,J2,J3,J4,J5,J6⟩:=bk3 g4)|((with_reducible refine gc 65 rfl ?_);refine gC 65 (some 7) Try.func65 #[.slice a7 a9.length a8] ?_;(with_reducible refine(Azy.calls k _ _ a9 true _ ?_ ?_ f4.out).mono ?_);exact cB d7;exact d8.out;rintro e w' ⟨rfl,⟨nd,rfl⟩⟩;refine⟨_,rfl,?_⟩)|(go_at_call 65;(with_reducible refine(Azy.calls k _ _ b6 true _ ?_ ?_ f5.out).mono ?_);exact cB d9;exact e6.out;rintro e w' ⟨rfl,⟨nd,rfl⟩⟩)|((with_reducible refine gc 66 rfl ?_);refine gC 66 (some 36) Try.func66 #[.slice a7 a9.length a8,.slice b4 b6.length b5] ?_;(with_reducible refine(Czk.calls k (fun k_=>k_ < w.heap.size) _ _ a9 (fun k_=>k_ < w.heap.size) _ _ b6 D4 D5 _ ?_ ?_ D6.out).mono ?_);exact Kd.V_mk d8.out (Kd.F_below (Kd.C_F (Kd.heap_int .i64) d7.out) pB);exact Kd.V_mk e6.out (Kd.F_below (Kd.C_F (Kd.heap_int .i64) d9.out) pB);rintro e J7 ⟨F5,rfl,t5,hb⟩;refine⟨_,rfl,?_⟩;have F6:=rL (Kd.R_mono (ok':=fun k_=>True) t5 (fun _ hk_=>trivial));replace g4:=kb g4 hb;replace HB:=bB hb;clear hb t5))
      go_ret
      exact⟨eW,pB⟩
  ·obtain rfl:=bN c5;rw[if_neg nF] at H
   obtain rfl:=Option.some.inj H;go_enter Try.func37,Try.ntmps37
   go_wp2_with (first|((with_reducible refine gd 1 rfl ?_);refine bxg #[.bool a6,.slice a7 a9.length a8,.slice b4 b6.length b5] 33 ?_;intro f8 hg J8 g4 hb;have g5:=gA w hg;replace HB:=bB hb;clear hb hg;obtain⟨J9,K0,K1,K2,K3,K4⟩:=bk3 g4)|((with_reducible refine gc 65 rfl ?_);refine gC 65 (some 7) Try.func65 #[.slice a7 a9.length a8] ?_;(with_reducible refine(Azy.calls k _ _ a9 true _ ?_ ?_ f4.out).mono ?_);exact cB d7;exact d8.out;rintro e w' ⟨rfl,⟨nd,rfl⟩⟩;refine⟨_,rfl,?_⟩)|(go_at_call 65;(with_reducible refine(Azy.calls k _ _ b6 false _ ?_ ?_ f5.out).mono ?_);exact cB d9;exact e6.out;rintro e w' ⟨rfl,⟨nd,rfl⟩⟩))
   go_ret
   exact⟨eW,pB⟩
 ·obtain rfl:=bN c3;rw[if_neg nF] at H
  obtain rfl:=Option.some.inj H;go_enter Try.func37,Try.ntmps37
  go_wp2_with (first|((with_reducible refine gd 1 rfl ?_);refine bxg #[.bool a6,.slice a7 a9.length a8,.slice b4 b6.length b5] 33 ?_;intro f8 hg K5 g4 hb;have g5:=gA w hg;replace HB:=bB hb;clear hb hg;obtain⟨K6,K7,K8,K9,L0,L7⟩:=bk3 g4)|((with_reducible refine gc 65 rfl ?_);refine gC 65 (some 7) Try.func65 #[.slice a7 a9.length a8] ?_;(with_reducible refine(Azy.calls k _ _ a9 false _ ?_ ?_ f4.out).mono ?_);exact cB d7;exact d8.out;rintro e w' ⟨rfl,⟨nd,rfl⟩⟩;refine⟨_,rfl,?_⟩))
  go_ret
  exact⟨eW,pB⟩

def Czy.l0:Nat→List (S33)→Int→Int→Option (Bool)
 | 0,_,_,_=>none
 | k+1,x5,x6,x7=>if x7 < x6 then(if 0≤x7 then(if x7 < (x5.length:Int) then((Fzy.f k ((rd_T33 x5 x7).f0) ((rd_T33 x5 x7).f1) ((rd_T33 x5 x7).f2)).bind fun t316=>(if t316=true then(Czy.l0 k x5 x6 (wrap64 (x7+1))) else(some false))) else(none)) else(none)) else(some true)
def Czy.f (k:Nat) (l0:List (S33)):Option (Bool):=Czy.l0 k l0 (l0.length:Int) 0
theorem Czy.mono_l:∀ k,(∀ a6 a7 a8,LeO (Czy.l0 k a6 a7 a8) (Czy.l0 (k+1) a6 a7 a8))
 | 0=>fun _ _ _ r h=>by simp [Czy.l0] at h
 | k+1=>by
  have ih0:=Czy.mono_l k
  ·intro a6 a7 a8;unfold Czy.l0;have i0:=@Fzy.mono;exact mM
theorem Czy.mono:∀ a6 k,LeO (Czy.f k a6) (Czy.f (k+1) a6):=by
 intro a6 k;have ih0:=Czy.mono_l k;unfold Czy.f;have i0:=@Fzy.mono;exact mM
theorem Czy.calls (k:Nat) (a6:Option Addr) (a7:Nat) (l0:List (S33)) (r:Bool) (w:World) (a8:Kd.C k33 w a6 l0.length l0) (a9:l0.length≤a7) (h:Czy.f k l0=some r) :
  Calls Try.prog 62 #[.slice a6 l0.length a7] w fun e w'=>e=.returned (.bool r)∧bw w w':=by
 have hu33:=Try.underlying33;have b4:=aM a8;have b5:=aM a9;clear a8 a9;have HB:=aM (Below.refl w.heap.size w);have H:(Czy.l0 k l0 (l0.length:Int) 0)=some r:=h;clear h;have H':=aM H;clear H;go_enter Try.func62,Try.ntmps62
 go_wp2
 go_loopg [7] k (fun kq b6 w'=>∃ (b7:Int),b6=.int .i64 b7∧Aside0 (Czy.l0 kq l0 (l0.length:Int) b7=some r)∧Aside0 (kq≤k)∧Aside0 (bw w w'))
 case atStart=>exact⟨(0),sD,H',⟨Nat.le_refl _⟩,⟨pB⟩⟩
 case round =>
  clear H';obtain⟨b7,rfl,HA,b8,HB⟩:=hrel;cases gk with
  | zero=>exact absurd HA.out (by simp [Czy.l0])
  | succ k1 =>
   have H:=HA.out;clear HA;simp only[Czy.l0] at H;replace H:=iD H;rcases H with⟨b9,H⟩|⟨b9,H⟩
   ·obtain⟨d6,H⟩:=iN H;obtain⟨d7,H⟩:=iN H;obtain⟨d8,d9,H⟩:=bT H;(try dsimp only at H);have e6:=aM H;clear H;obtain⟨e7,e8,e9,f3,f4,f5,f6,f7,f8,f9,g4,g5,g6⟩:=at_T33 b4.out b7 (oE aS) (oE aS);cases f5
    replace f6:=hB HB f6;replace f7:=hB HB f7;replace f8:=hB HB f8;have g7:=aM g4;have g8:=aM f9;clear g4 f9;have g9:=aM g6;have j3:=aM g5;clear g6 g5;have j4:=eT (b7);have j5:=eU (b7) l0.length;go_upto_if 13 with (first|((with_reducible refine gd 4 rfl ?_);refine bz 33 ?_;intro j6 hg j7 j8 hb;have j9:=gA w hg;replace HB:=bB hb;clear hb hg;obtain⟨l6,l7,l8,l9,m0,m4⟩:=bk3 j8)|((with_reducible refine gc 37 rfl ?_);refine gC 37 (some 12) Try.func37 #[.agg #[.bool ((rd_T33 l0 b7).f0),.slice e8 ((rd_T33 l0 b7).f1).length e9,.slice f3 ((rd_T33 l0 b7).f2).length f4]] ?_;(with_reducible refine(Fzy.calls k1 ((rd_T33 l0 b7).f0) _ _ ((rd_T33 l0 b7).f1) _ _ ((rd_T33 l0 b7).f2) d8 _ ?_ ?_ ?_ ?_ d9.out).mono ?_);exact Kd.C_below g7.out pB;exact g8.out;exact Kd.C_below g9.out pB;exact j3.out;rintro e m5 ⟨rfl,hb⟩;refine⟨_,rfl,?_⟩;replace j8:=kP (o':=.cells #[.bool ((rd_T33 l0 b7).f0),.slice e8 ((rd_T33 l0 b7).f1).length e9,.slice f3 ((rd_T33 l0 b7).f2).length f4] 33 (0,0)) j8 hb;replace HB:=bB hb;clear hb))
    have H:=e6.out;clear e6;by_cases c10:d8=true
    ·subst c10;rw[if_pos rfl] at H;have H':=aM H;clear H;go_wp2
     go_roundg k1
     case measure=>have:=b8.out;omega
     case rel=>exact⟨(wrap64 (b7+1)),sD,H',⟨by have:=b8.out;omega⟩,⟨pB⟩⟩
    ·obtain rfl:=bN c10;rw[if_neg nF] at H
     obtain rfl:=Option.some.inj H;go_wp2
     go_ret
     exact⟨eW,pB⟩
   ·obtain rfl:=Option.some.inj H;go_wp2
    go_ret
    exact⟨eW,pB⟩

def Hzf.f  : Option (List Int):=some (([1]:List Int))
theorem Hzf.calls  (r:List Int) (w:World) (h:Hzf.f  = some r) :
  Calls Try.prog 63 #[] w fun e w'=>∃ v0_:Value,e=.returned (v0_)∧rI w' w (fun _=>True) v0_ r∧bw w w':=by
 have HB:=aM (Below.refl w.heap.size w);have H:(some (([1]:List Int)))=some r:=h;clear h;obtain⟨a6,a7⟩:∃ y_:List Int,y_=(([1]:List Int)):=⟨_,rfl⟩;replace H:(some a6)=some r:=yE a7 H
 have a8:=aM a7;clear a7;obtain rfl:=Option.some.inj H;go_enter Try.func63,Try.ntmps63
 go_wp2_with (first|((with_reducible refine gd 1 rfl ?_);refine iL 1 [1] ?_;intro a9 b4 b5 hb;replace b5:=rY a8 b5;have b6:=rL b5;replace HB:=bB hb;clear hb b5))
 go_ret
 exact⟨_,eW,rX b6.out,pB⟩


def Fzk.f (k:Nat) (l0:List Int):Option (List Int × Int):=(Bzp.f k l0).bind fun t325=>(if(t325.length:Int) > 48 then(some (([]:List Int),2)) else(some (t325,0)))
theorem Fzk.mono:∀ a6 k,LeO (Fzk.f k a6) (Fzk.f (k+1) a6):=by
 intro a6 k;unfold Fzk.f;have i0:=@Bzp.mono;exact mM
theorem Fzk.calls (k:Nat) (a6:Nat→Prop) (u9000_:Value) (l0:List Int) (a7:List Int) (a8:Int) (a9 w:World) (hB:Below a9.heap.size a9 w) (b4:Kd.R (Kd.int .i64) 3 w a9.heap.size a6 u9000_ l0) (h:Fzk.f k l0=some (a7,a8)) :
  Calls Try.prog 110 #[u9000_] w fun e w'=>∃ v0_:Value,e=.returned (.tuple #[v0_,.int .i64 a8])∧Kd.R (Kd.int .i64) 3 w' a9.heap.size (fun k_=>(a6 k_∨w.heap.size≤k_)) v0_ a7∧Below a9.heap.size a9 w'∧Kept w w' (fun k_=>a6 k_):=by
 have b5:=aM (show Kd.R (Kd.int .i64) 3 w a9.heap.size (fun k_=>(a6 k_∨w.heap.size≤k_)) u9000_ l0 from Kd.R_mono b4 (fun k_ hk=>(.inl hk)))
 have HK:=aM (Kept.refl w (fun k_=>a6 k_))
 have HW0:=aM hB.size;have HB:=aM hB;clear hB;have H:((Bzp.f k l0).bind fun b6=>(if(b6.length:Int) > 48 then(some (([]:List Int),2)) else(some (b6,0))))=some (a7,a8):=h
 clear h;obtain⟨b6,b7,H⟩:=bT H;(try dsimp only at H);have b8:=aM H;clear H;obtain⟨b9,d6,rfl⟩:=Kd.R_slice b5.out;go_enter Try.func110,Try.ntmps110
 go_upto_if 9 with (first|((with_reducible refine gc 92 rfl ?_);refine gC 92 (some 6) Try.func92 #[.slice b9 l0.length d6] ?_;(with_reducible refine(Bzp.calls k (fun k_=>some k_=(.slice b9 l0.length d6:Value).ownBlock) (.slice b9 l0.length d6) l0 b6 a9 _ ?_ ?_ b7.out).mono ?_);exact pB;exact Kd.R_tight rfl b5.out;rintro e d7 ⟨d8,rfl,b4,hb,hkp⟩;refine⟨_,rfl,?_⟩;have d9:=aM (Kd.R_mono (ok':=fun k_=>(a6 k_∨w.heap.size≤k_)) b4 (fun k_ hk_=>Or.elim hk_ (fun hs_=>(b5.out.1 k_ (hs_).symm)) (fun hn_=>(.inr (Nat.le_trans (by first|exact HK.out.1|exact(show Kept w _ (fun k_=>a6 k_) from kK HK).1) hn_)))));replace HK:=aM (Kept.then_ (S:=(fun k_=>a6 k_)) (kK HK) hkp (fun k_ hs_=>(fun e_=>(b5.out.1 k_ e_.symm)) hs_));replace HB:=aM (hb);clear b5 hb hkp b4;obtain⟨e6,e7,rfl⟩:=Kd.R_slice d9.out))
 have H:=b8.out;clear b8;by_cases c7:(b6.length:Int) > 48
 ·rw[if_pos c7] at H;have e8:decide (48 < (b6.length:Int))=true:=dE c7;have e9:decide (48 < b6.length)=true:=dE (by omega)
  clear c7;(first|rw[e8]|(simp only[i64_w,i32_w];rw[e8])|skip)
  obtain⟨rfl,rfl⟩:=q2 H;go_wp2
  go_ret2
  exact⟨_,eW,nK,pB,kK HK⟩
 ·rw[if_neg c7] at H;have e8:decide (48 < (b6.length:Int))=false:=decide_eq_false c7;have e9:decide (48 < b6.length)=false:=decide_eq_false (by omega)
  clear c7;(first|rw[e8]|(simp only[i64_w,i32_w];rw[e8])|skip)
  obtain⟨rfl,rfl⟩:=q2 H;go_wp2
  go_ret2
  exact⟨_,eW,rX d9.out,pB,kK HK⟩


mutual
def Czx.j0:Nat→List Int→List Int→Bool→Option (List Int × Int)
 | 0,_,_,_=>none
 | k+1,x0,x1,x18=>if x18=true then(some (([]:List Int),3)) else(if 0≤(wrap64 ((wrap64 ((x0.length:Int)+(x1.length:Int)))+1)) then(if(wrap64 ((wrap64 ((x0.length:Int)+(x1.length:Int)))+1):Int).toNat≤35184372088832 then(Czx.l0 k x0 x1 (List.replicate (wrap64 ((wrap64 ((x0.length:Int)+(x1.length:Int)))+1):Int).toNat 0) (x0.length:Int) 0) else(none)) else(none))
def Czx.l0:Nat→List Int→List Int→List Int→Int→Int→Option (List Int × Int)
 | 0,_,_,_,_,_=>none
 | k+1,x0,x1,x6,x27,x28=>if x28 < x27 then(Czx.l1 k x0 x1 x6 x28 0 x27 x28 (x1.length:Int) 0) else((Fzk.f k x6).bind fun bt333=>(some (bt333.1,bt333.2)))
def Czx.l1:Nat→List Int→List Int→List Int→Int→Int→Int→Int→Int→Int→Option (List Int × Int)
 | 0,_,_,_,_,_,_,_,_,_=>none
 | k+1,x0,x1,x6,x7,x8,x27,x28,x32,x33=>if x33 < x32 then(if 0≤(wrap64 (x7+x33)) then(if(wrap64 (x7+x33)) < (x6.length:Int) then(if 0≤x7 then(if x7 < (x0.length:Int) then(if 0≤x33 then(if x33 < (x1.length:Int) then(Czx.l1 k x0 x1 (x6.set ((wrap64 (x7+x33)):Int).toNat (Int.tmod (wrap64 ((wrap64 ((rd x6 (wrap64 (x7+x33)))+(wrap64 ((rd x0 x7) * (rd x1 x33)))))+x8)) 1000000000)) x7 (wrap64 (Int.tdiv (wrap64 ((wrap64 ((rd x6 (wrap64 (x7+x33)))+(wrap64 ((rd x0 x7) * (rd x1 x33)))))+x8)) 1000000000)) x27 x28 x32 (wrap64 (x33+1))) else(none)) else(none)) else(none)) else(none)) else(none)) else(none)) else(if 0≤(wrap64 (x7+(x1.length:Int))) then(if(wrap64 (x7+(x1.length:Int))) < (x6.length:Int) then(Czx.l0 k x0 x1 (x6.set ((wrap64 (x7+(x1.length:Int))):Int).toNat x8) x27 (wrap64 (x28+1))) else(none)) else(none))
end
def Czx.f (k:Nat) (l0:List Int) (l1:List Int):Option (List Int × Int):=(Azy.f k l0).bind fun t328=>(if t328=true then((Azy.f k l1).bind fun t329=>(Czx.j0 k l0 l1 (!t329))) else(Czx.j0 k l0 l1 true))
theorem Czx.mono_l:∀ k,(∀ a6 a7 a8,LeO (Czx.j0 k a6 a7 a8) (Czx.j0 (k+1) a6 a7 a8))∧(∀ a6 a7 a8 a9 b4,LeO (Czx.l0 k a6 a7 a8 a9 b4) (Czx.l0 (k+1) a6 a7 a8 a9 b4))∧(∀ a6 a7 a8 a9 b4 b5 b6 b7 b8,LeO (Czx.l1 k a6 a7 a8 a9 b4 b5 b6 b7 b8) (Czx.l1 (k+1) a6 a7 a8 a9 b4 b5 b6 b7 b8))
 | 0=>⟨fun _ _ _ r h=>by simp [Czx.j0] at h,fun _ _ _ _ _ r h=>by simp [Czx.l0] at h,fun _ _ _ _ _ _ _ _ _ r h=>by simp [Czx.l1] at h⟩
 | k+1=>by
  obtain⟨ih0,ih1,ih2⟩:=Czx.mono_l k;have i0:=@Azy.mono;have i1:=@Fzk.mono;refine⟨?_,?_,?_⟩
  ·intro a6 a7 a8;unfold Czx.j0;exact mM
  ·intro a6 a7 a8 a9 b4;unfold Czx.l0;exact mM
  ·intro a6 a7 a8 a9 b4 b5 b6 b7 b8;unfold Czx.l1;exact mM
theorem Czx.mono:∀ a6 a7 k,LeO (Czx.f k a6 a7) (Czx.f (k+1) a6 a7):=by
 intro a6 a7 k;obtain⟨ih0,ih1,ih2⟩:=Czx.mono_l k;unfold Czx.f;have i0:=@Azy.mono;have i1:=@Fzk.mono;exact mM
theorem Czx.calls (k:Nat) (a6:Option Addr) (a7:Nat) (l0:List Int) (a8:Option Addr) (a9:Nat) (l1:List Int) (b4:List Int) (b5:Int) (w:World) (b6:cI w a6 l0) (b7:l0.length≤a7) (b8:cI w a8 l1) (b9:l1.length≤a9) (h:Czx.f k l0 l1=some (b4,b5)) :
  Calls Try.prog 97 #[.slice a6 l0.length a7,.slice a8 l1.length a9] w fun e w'=>∃ v0_:Value,e=.returned (.tuple #[v0_,.int .i64 b5])∧rI w' w (fun _=>True) v0_ b4∧bw w w':=by
 have d6:=aM b6;have d7:=aM b7;clear b6 b7;have d8:=aM b8;have d9:=aM b9;clear b8 b9;have HB:=aM (Below.refl w.heap.size w);have H:((Azy.f k l0).bind fun e6=>(if e6=true then((Azy.f k l1).bind fun e7=>(Czx.j0 k l0 l1 (!e7))) else(Czx.j0 k l0 l1 true)))=some (b4,b5):=h
 clear h;have e8:=aM H;clear H;go_enter Try.func97,Try.ntmps97
 go_upto_region 1 with (fail)
 repeat(go_quiet (fail);go_upto_region 1 with (fail))
 go_cut [18] (fun e9 wc=>∃ (kq:Nat) (f3:Bool),e9=.bool f3∧Aside0 (Czx.j0 kq l0 l1 f3=some (b4,b5))∧Aside0 (kq≤k)∧Aside0 (bw w wc))
 case first =>
  have H:=e8.out;clear e8;obtain⟨e6,f4,H⟩:=bT H;(try dsimp only at H);by_cases c5:e6=true
  ·subst c5;rw[if_pos rfl] at H;obtain⟨e7,f5,H⟩:=bT H;(try dsimp only at H);have H':=aM H;clear H;have fl_:True:=trivial;repeat((first|clear fl_|go_quiet (first|(go_at_call 65;(with_reducible refine(Azy.calls k _ _ l0 true _ ?_ ?_ f4.out).mono ?_);exact cB d6;exact d7.out;rintro e w' ⟨rfl,⟨nd,rfl⟩⟩;(try exact dD))|(go_at_call 65;(with_reducible refine(Azy.calls k _ _ l1 e7 _ ?_ ?_ f5.out).mono ?_);exact cB d8;exact d9.out;rintro e w' ⟨rfl,⟨nd,rfl⟩⟩;(try exact dD))));go_wp2_with (first|(go_at_call 65;(with_reducible refine(Azy.calls k _ _ l0 true _ ?_ ?_ f4.out).mono ?_);exact cB d6;exact d7.out;rintro e w' ⟨rfl,⟨nd,rfl⟩⟩;(try exact dD))|(go_at_call 65;(with_reducible refine(Azy.calls k _ _ l1 e7 _ ?_ ?_ f5.out).mono ?_);exact cB d8;exact d9.out;rintro e w' ⟨rfl,⟨nd,rfl⟩⟩;(try exact dD))))
   go_meet
   case rel=>exact⟨_,(!e7),sD,H',⟨by first|omega|exact Nat.le_refl _⟩,⟨pB⟩⟩
  ·obtain rfl:=bN c5;rw[if_neg nF] at H
   have H':=aM H;clear H;have fl_:True:=trivial;repeat((first|clear fl_|go_quiet (first|(go_at_call 65;(with_reducible refine(Azy.calls k _ _ l0 false _ ?_ ?_ f4.out).mono ?_);exact cB d6;exact d7.out;rintro e w' ⟨rfl,⟨nd,rfl⟩⟩;(try exact dD))));go_wp2_with (first|(go_at_call 65;(with_reducible refine(Azy.calls k _ _ l0 false _ ?_ ?_ f4.out).mono ?_);exact cB d6;exact d7.out;rintro e w' ⟨rfl,⟨nd,rfl⟩⟩;(try exact dD))))
   go_meet
   case rel=>exact⟨_,(true),sD,H',⟨by first|omega|exact Nat.le_refl _⟩,⟨pB⟩⟩
 case rest =>
  clear e8;try clear a9
  obtain⟨kq,f3,rfl,HA,f6,HB⟩:=hcut;cases kq with
  | zero=>exact absurd HA.out (by simp [Czx.j0])
  | succ f7 =>
   have H:=HA.out;clear HA;simp only[Czx.j0] at H;by_cases c7:f3=true
   ·subst c7;rw[if_pos rfl] at H;obtain⟨rfl,rfl⟩:=q2 H;go_wp2
    repeat(go_quiet (fail);try go_wp2)
    go_ret2
    exact⟨_,eW,nK,pB⟩
   ·obtain rfl:=bN c7;rw[if_neg nF] at H
    obtain⟨f8,f9⟩:∃ j_:Int,(wrap64 ((wrap64 ((l0.length:Int)+(l1.length:Int)))+1))=j_:=⟨_,rfl⟩;replace H:(if 0≤(f8) then(if(f8:Int).toNat≤35184372088832 then(Czx.l0 f7 l0 l1 (List.replicate (f8:Int).toNat 0) (l0.length:Int) 0) else(none)) else(none))=some (b4,b5):=by first|(rw[f9] at H;exact H)|(simp only[f9] at H ⊢;exact H)
    have g4:(IntKind.i64.wrap ((wrap64 ((l0.length:Int)+(l1.length:Int)))+1))=f8:=(i64_w _).trans f9;by_cases c9:0≤(f8)
    ·rw[if_pos c9] at H;have g5:=eq_true c9;have g6:=dE c9;clear c9;obtain⟨c10,H⟩:=iO H;have g7:=eq_true c10;have g8:decide ((f8:Int).toNat≤35184372088832)=true:=dE c10;clear c10;obtain⟨g9,j3⟩:∃ y_:List Int,y_=(List.replicate (f8:Int).toNat 0):=⟨_,rfl⟩;replace H:(Czx.l0 f7 l0 l1 g9 (l0.length:Int) 0)=some (b4,b5):=yE j3 H
     have j4:=aM j3;clear j3;have H':=aM H;clear H;have fl_:True:=trivial;repeat((first|clear fl_|go_quiet (first|((with_reducible refine gate_dst (N:=25) rfl ?_);refine Kd.R_make (Kd.int .i64) _ 3 rfl (N:=25) rfl 30 _ _ rfl f8 rfl rfl Try.underlying30 (.int .i64 0) 8 info3 rfl (by decide) (by omega) 0 (ok:=fun _=>True) (okp:=fun _=>True) rfl (fun _ hk=>hk) trivial (oE aS) (Nat.le_trans (Nat.mul_le_mul_right _ (oE aS:f8.toNat≤35184372088832)) (by omega)) (Below.refl _ _) (Nat.le_refl _) ?_;intro j5 j6 j7 hb hg_ hnew_;clear hg_ hnew_;replace j7:=rY j4 j7;have j8:=rL j7;replace HB:=bB hb;clear hb j7)));go_wp2_with (first|((with_reducible refine gate_dst (N:=25) rfl ?_);refine Kd.R_make (Kd.int .i64) _ 3 rfl (N:=25) rfl 30 _ _ rfl f8 rfl rfl Try.underlying30 (.int .i64 0) 8 info3 rfl (by decide) (by omega) 0 (ok:=fun _=>True) (okp:=fun _=>True) rfl (fun _ hk=>hk) trivial (oE aS) (Nat.le_trans (Nat.mul_le_mul_right _ (oE aS:f8.toNat≤35184372088832)) (by omega)) (Below.refl _ _) (Nat.le_refl _) ?_;intro j5 j6 j7 hb hg_ hnew_;clear hg_ hnew_;replace j7:=rY j4 j7;have j8:=rL j7;replace HB:=bB hb;clear hb j7)))
     go_loopg [28] f7 (fun kq j9 w'=>∃ (l5:List Int) (l6:Int),j9=.int .i64 l6∧Aside0 (Czx.l0 kq l0 l1 l5 (l0.length:Int) l6=some (b4,b5))∧Aside0 (kq≤f7)∧Aside0 (rI w' w (fun _=>True) j5 l5)∧Aside0 (bw w w'))
     case atStart=>exact⟨(g9),(0),sD,H',⟨Nat.le_refl _⟩,⟨rX j8.out⟩,⟨pB⟩⟩
     case round =>
      clear H';try clear a9
      obtain⟨l5,l6,rfl,HA,l7,l8,HB⟩:=hrel;cases gk with
      | zero=>exact absurd HA.out (by simp [Czx.l0])
      | succ k2 =>
       have H:=HA.out;clear HA;simp only[Czx.l0] at H;replace H:=iD H;rcases H with⟨m0,H⟩|⟨m0,H⟩
       ·have H':=aM H;clear H;go_wp2
        repeat(go_quiet (fail);try go_wp2)
        go_loopg [8,33] k2 (fun kq m4 m5 w'=>∃ (m6:List Int) (m7:Int) (m8:Int),m4=.int .i64 m7∧m5=.int .i64 m8∧Aside0 (Czx.l1 kq l0 l1 m6 l6 m7 (l0.length:Int) l6 (l1.length:Int) m8=some (b4,b5))∧Aside0 (kq≤k2)∧Aside0 (rI w' w (fun _=>True) j5 m6)∧Aside0 (bw w w'))
        case atStart=>exact⟨(l5),(0),(0),sD,sD,H',⟨Nat.le_refl _⟩,⟨rX l8.out⟩,⟨pB⟩⟩
        case round =>
         clear H';try clear a9
         obtain⟨m6,m7,m8,rfl,rfl,HA,m9,l8,HB⟩:=hrel;cases gk with
         | zero=>exact absurd HA.out (by simp [Czx.l1])
         | succ k3 =>
          have H:=HA.out;clear HA;simp only[Czx.l1] at H;replace H:=iD H;rcases H with⟨n7,H⟩|⟨n7,H⟩
          ·obtain⟨n8,n9⟩:∃ j_:Int,(wrap64 (l6+m8))=j_:=⟨_,rfl⟩;replace H:(if 0≤(n8) then(if(n8) < (m6.length:Int) then(if 0≤l6 then(if l6 < (l0.length:Int) then(if 0≤m8 then(if m8 < (l1.length:Int) then(Czx.l1 k3 l0 l1 (m6.set ((n8):Int).toNat (Int.tmod (wrap64 ((wrap64 ((rd m6 (n8))+(wrap64 ((rd l0 l6) * (rd l1 m8)))))+m7)) 1000000000)) l6 (wrap64 (Int.tdiv (wrap64 ((wrap64 ((rd m6 (n8))+(wrap64 ((rd l0 l6) * (rd l1 m8)))))+m7)) 1000000000)) (l0.length:Int) l6 (l1.length:Int) (wrap64 (m8+1))) else(none)) else(none)) else(none)) else(none)) else(none)) else(none))=some (b4,b5):=by first|(rw[n9] at H;exact H)|(simp only[n9] at H ⊢;exact H)
           have o0:(IntKind.i64.wrap (l6+m8))=n8:=(i64_w _).trans n9;obtain⟨o8,H⟩:=iN H;obtain⟨o9,H⟩:=iN H;obtain⟨p0,H⟩:=iN H;obtain⟨p4,H⟩:=iN H;obtain⟨p7,H⟩:=iN H;obtain⟨p9,H⟩:=iN H;obtain⟨r5,r6⟩:∃ y_:List Int,y_=(m6.set ((n8):Int).toNat (Int.tmod (wrap64 ((wrap64 ((rd m6 (n8))+(wrap64 ((rd l0 l6) * (rd l1 m8)))))+m7)) 1000000000)):=⟨_,rfl⟩;replace H:(Czx.l1 k3 l0 l1 r5 l6 (wrap64 (Int.tdiv (wrap64 ((wrap64 ((rd m6 (n8))+(wrap64 ((rd l0 l6) * (rd l1 m8)))))+m7)) 1000000000)) (l0.length:Int) l6 (l1.length:Int) (wrap64 (m8+1)))=some (b4,b5):=yE r6 H
           have r7:=aM r6;clear r6;have H':=aM H;clear H;obtain⟨r8,r9,rfl⟩:=Kd.R_slice l8.out;obtain⟨t4,t5,t6,t7,t8⟩:=aI (Kd.R_reads' l8.out).2.2 (n8);cases t5;obtain⟨t9,z3,z4,z5,z6⟩:=aI d6.out l6;cases z3
           replace z4:=hB HB z4;obtain⟨z7,z8,z9,B0,B5⟩:=aI d8.out m8;cases z8
           replace z9:=hB HB z9;have B9:0≤((n8):Int):=oE aS
           have C0:((n8):Int) < ((m6.length:Int):Int):=oE aS
           obtain⟨C1,C2,C3,C4,C6,C7,C8⟩:=Kd.R_form l8.out (by omega)
           (first|cases C3|(injection C3 with ea_ en_ ec_;(first|subst ea_|(injection ea_ with ea_;subst ea_));subst ec_;clear en_))
           have C9:=aM C4;have D2:=aM C8;clear C4 C6 C8;(first|simp only[add_plain] at t6|skip)
           obtain⟨D3,D4⟩:=Kd.R_celln 0 l8.out ((n8):Int) B9 C0;replace B9:=eq_true B9;replace C0:=eq_true C0;have D5:=Kd.R_putg l8.out ((n8):Int) (Int.tmod (wrap64 ((wrap64 ((rd m6 (n8))+(wrap64 ((rd l0 l6) * (rd l1 m8)))))+m7)) 1000000000);have fl_:True:=trivial;repeat((first|clear fl_|go_quiet (first|((with_reducible refine gate_store (t:=3) (p:=62) rfl ?_);(try(rw[drewN_self wr];generalize hq_:World.drewN wr _=wr;have n0_:=aM (Kd.R_at hq_ l8.out);have n1_:=aM (below_at hq_ HB.out);clear hq_ l8 HB;have l8:=n0_;have HB:=n1_;clear n0_ n1_;(try(obtain⟨D3,D4⟩:=Kd.R_celln 0 l8.out ((n8):Int) (of_eq_true B9) (of_eq_true C0)));(try(have D5:=Kd.R_putg l8.out ((n8):Int) (Int.tmod (wrap64 ((wrap64 ((rd m6 (n8))+(wrap64 ((rd l0 l6) * (rd l1 m8)))))+m7)) 1000000000)))));refine store_event (t:=3) (p:=62) (v:=?vo_w25) (w1:=(wr.setCell ⟨C1,((n8):Int).toNat,none⟩ (.int .i64 (Int.tmod (wrap64 ((wrap64 ((rd m6 (n8))+(wrap64 ((rd l0 l6) * (rd l1 m8)))))+m7)) 1000000000)))) ?hg ?ho ?hn ?hr ?_;(case ho=>rfl);(case hg=>rfl);(case hn=>rfl);(case hr=>first|(go_simp;done)|(go_simp;rfl));intro D6 hw;have hg:wr.grownBy D6 (some C1):=(by rw[hw];exact D5.2);have hp_:rI D6 w (fun _=>True) (.slice (some ⟨C1,0,none⟩) m6.length r9) r5:=(by rw[hw,r7.out];exact D5.1);clear D5;replace l8:=aM (hp_);replace HB:=aM ((by rw[hw];exact below_set (HB.out) C9.out:bw w D6));clear hg hw hp_)));go_wp2_with (first|((with_reducible refine gate_store (t:=3) (p:=62) rfl ?_);(try(rw[drewN_self wr];generalize hq_:World.drewN wr _=wr;have n0_:=aM (Kd.R_at hq_ l8.out);have n1_:=aM (below_at hq_ HB.out);clear hq_ l8 HB;have l8:=n0_;have HB:=n1_;clear n0_ n1_;(try(obtain⟨D3,D4⟩:=Kd.R_celln 0 l8.out ((n8):Int) (of_eq_true B9) (of_eq_true C0)));(try(have D5:=Kd.R_putg l8.out ((n8):Int) (Int.tmod (wrap64 ((wrap64 ((rd m6 (n8))+(wrap64 ((rd l0 l6) * (rd l1 m8)))))+m7)) 1000000000)))));refine store_event (t:=3) (p:=62) (v:=?vo_w25) (w1:=(wr.setCell ⟨C1,((n8):Int).toNat,none⟩ (.int .i64 (Int.tmod (wrap64 ((wrap64 ((rd m6 (n8))+(wrap64 ((rd l0 l6) * (rd l1 m8)))))+m7)) 1000000000)))) ?hg ?ho ?hn ?hr ?_;(case ho=>rfl);(case hg=>rfl);(case hn=>rfl);(case hr=>first|(go_simp;done)|(go_simp;rfl));intro D6 hw;have hg:wr.grownBy D6 (some C1):=(by rw[hw];exact D5.2);have hp_:rI D6 w (fun _=>True) (.slice (some ⟨C1,0,none⟩) m6.length r9) r5:=(by rw[hw,r7.out];exact D5.1);clear D5;replace l8:=aM (hp_);replace HB:=aM ((by rw[hw];exact below_set (HB.out) C9.out:bw w D6));clear hg hw hp_)))
           go_roundg k3
           case measure=>have:=f6.out;have:=l7.out;have:=m9.out;omega
           case rel=>exact⟨(r5),(wrap64 (Int.tdiv (wrap64 ((wrap64 ((rd m6 (n8))+(wrap64 ((rd l0 l6) * (rd l1 m8)))))+m7)) 1000000000)),(wrap64 (m8+1)),(by first|rfl|(simp;done)|(simp only[← n9] <;> (first|rfl|simp))|(simp [*];done)),sD,H',⟨by have:=f6.out;have:=l7.out;have:=m9.out;omega⟩,⟨rX l8.out⟩,⟨pB⟩⟩
          ·obtain⟨D7,D8⟩:∃ j_:Int,(wrap64 (l6+(l1.length:Int)))=j_:=⟨_,rfl⟩;replace H:(if 0≤(D7) then(if(D7) < (m6.length:Int) then(Czx.l0 k3 l0 l1 (m6.set ((D7):Int).toNat m7) (l0.length:Int) (wrap64 (l6+1))) else(none)) else(none))=some (b4,b5):=by first|(rw[D8] at H;exact H)|(simp only[D8] at H ⊢;exact H)
           have D9:(IntKind.i64.wrap (l6+(l1.length:Int)))=D7:=(i64_w _).trans D8;obtain⟨E0,H⟩:=iN H;obtain⟨E1,H⟩:=iN H;obtain⟨E2,E3⟩:∃ y_:List Int,y_=(m6.set ((D7):Int).toNat m7):=⟨_,rfl⟩;replace H:(Czx.l0 k3 l0 l1 E2 (l0.length:Int) (wrap64 (l6+1)))=some (b4,b5):=yE E3 H
           have E4:=aM E3;clear E3;have H':=aM H;clear H;have E5:0≤((D7):Int):=oE aS
           have E6:((D7):Int) < ((m6.length:Int):Int):=oE aS
           obtain⟨E7,E8,E9,F0,F2,F3,F4⟩:=Kd.R_form l8.out (by omega)
           (first|cases E9|(injection E9 with ea_ en_ ec_;(first|subst ea_|(injection ea_ with ea_;subst ea_));subst ec_;clear en_))
           have F5:=aM F0;have F6:=aM F4;clear F0 F2 F4;obtain⟨F7,F8⟩:=Kd.R_celln 0 l8.out ((D7):Int) E5 E6;replace E5:=eq_true E5;replace E6:=eq_true E6;have F9:=Kd.R_putg l8.out ((D7):Int) m7;have fl_:True:=trivial;repeat((first|clear fl_|go_quiet (first|((with_reducible refine gate_store (t:=3) (p:=70) rfl ?_);(try(rw[drewN_self wr];generalize hq_:World.drewN wr _=wr;have n0_:=aM (Kd.R_at hq_ l8.out);have n1_:=aM (below_at hq_ HB.out);clear hq_ l8 HB;have l8:=n0_;have HB:=n1_;clear n0_ n1_;(try(obtain⟨F7,F8⟩:=Kd.R_celln 0 l8.out ((D7):Int) (of_eq_true E5) (of_eq_true E6)));(try(have F9:=Kd.R_putg l8.out ((D7):Int) m7))));refine store_event (t:=3) (p:=70) (v:=?vo_w31) (w1:=(wr.setCell ⟨E7,((D7):Int).toNat,none⟩ (.int .i64 m7))) ?hg ?ho ?hn ?hr ?_;(case ho=>rfl);(case hg=>rfl);(case hn=>rfl);(case hr=>first|(go_simp;done)|(go_simp;rfl));intro G5 hw;have hg:wr.grownBy G5 (some E7):=(by rw[hw];exact F9.2);have hp_:rI G5 w (fun _=>True) (.slice (some ⟨E7,0,none⟩) m6.length E8) E2:=(by rw[hw,E4.out];exact F9.1);clear F9;replace l8:=aM (hp_);replace HB:=aM ((by rw[hw];exact below_set (HB.out) F5.out:bw w G5));clear hg hw hp_)));go_wp2_with (first|((with_reducible refine gate_store (t:=3) (p:=70) rfl ?_);(try(rw[drewN_self wr];generalize hq_:World.drewN wr _=wr;have n0_:=aM (Kd.R_at hq_ l8.out);have n1_:=aM (below_at hq_ HB.out);clear hq_ l8 HB;have l8:=n0_;have HB:=n1_;clear n0_ n1_;(try(obtain⟨F7,F8⟩:=Kd.R_celln 0 l8.out ((D7):Int) (of_eq_true E5) (of_eq_true E6)));(try(have F9:=Kd.R_putg l8.out ((D7):Int) m7))));refine store_event (t:=3) (p:=70) (v:=?vo_w31) (w1:=(wr.setCell ⟨E7,((D7):Int).toNat,none⟩ (.int .i64 m7))) ?hg ?ho ?hn ?hr ?_;(case ho=>rfl);(case hg=>rfl);(case hn=>rfl);(case hr=>first|(go_simp;done)|(go_simp;rfl));intro G5 hw;have hg:wr.grownBy G5 (some E7):=(by rw[hw];exact F9.2);have hp_:rI G5 w (fun _=>True) (.slice (some ⟨E7,0,none⟩) m6.length E8) E2:=(by rw[hw,E4.out];exact F9.1);clear F9;replace l8:=aM (hp_);replace HB:=aM ((by rw[hw];exact below_set (HB.out) F5.out:bw w G5));clear hg hw hp_)))
           go_roundg k3
           case measure=>have:=f6.out;have:=l7.out;have:=m9.out;omega
           case rel=>exact⟨(E2),(wrap64 (l6+1)),sD,H',⟨by have:=f6.out;have:=l7.out;have:=m9.out;omega⟩,⟨rX l8.out⟩,⟨pB⟩⟩
       ·replace H:=bS H;obtain⟨⟨G9,H5⟩,H6,H⟩:=H;replace H:(some (G9,H5))=some (b4,b5):=H;have H7:=aM H6;clear H6;obtain⟨rfl,rfl⟩:=q2 H;obtain⟨H8,H9,rfl⟩:=Kd.R_slice l8.out;have fl_:True:=trivial;repeat((first|clear fl_|go_quiet (first|(go_at_call 110;(with_reducible refine(Fzk.calls k2 (fun k_=>some k_=(.slice H8 l5.length H9:Value).ownBlock) (.slice H8 l5.length H9) l5 G9 H5 w _ ?_ ?_ H7.out).mono ?_);exact pB;exact Kd.R_tight rfl l8.out;rintro e I0 ⟨I3,rfl,I4,hb,hkp⟩;have I5:=aM (Kd.R_mono (ok':=fun k_=>True) I4 (fun k_ hk_=>trivial));replace HB:=aM (hb);clear l8 hb hkp I4)));go_wp2_with (first|(go_at_call 110;(with_reducible refine(Fzk.calls k2 (fun k_=>some k_=(.slice H8 l5.length H9:Value).ownBlock) (.slice H8 l5.length H9) l5 G9 H5 w _ ?_ ?_ H7.out).mono ?_);exact pB;exact Kd.R_tight rfl l8.out;rintro e I0 ⟨I3,rfl,I4,hb,hkp⟩;have I5:=aM (Kd.R_mono (ok':=fun k_=>True) I4 (fun k_ hk_=>trivial));replace HB:=aM (hb);clear l8 hb hkp I4)))
        go_ret2
        exact⟨_,by first|rfl|(simp [errW_none,errW_some] <;> rfl)|(simp only[← f9];first|rfl|(simp [errW_none,errW_some] <;> rfl))|(simp [*,errW_none,errW_some] <;> rfl),rX I5.out,pB⟩
    ·rw[if_neg c9] at H;exact absurd H (by simp)

end Go.Proofs.Ytbnpcplckcipfaa.Print
