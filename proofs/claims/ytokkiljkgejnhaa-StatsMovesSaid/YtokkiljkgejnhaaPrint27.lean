import Derived.Test.YtokkiljkgejnhaaPrint0
import Derived.Test.YtokkiljkgejnhaaPrint13
import Derived.Test.YtokkiljkgejnhaaPrint24
namespace Go.Proofs.Ytokkiljkgejnhaa.Print
open Go.RowKit Go.Proofs.YtokkiljkgejnhaaW.PrintWords Go.Proofs.YtokkiljkgejnhaaW.PrintLast Go.Proofs.YtokkiljkgejnhaaW.PrintMore
attribute [local go_sem] max2_int min2_int max_two min_two max_three min_three max_four min_four
set_option linter.unusedVariables false
set_option maxRecDepth 100000
set_option maxHeartbeats 8000000
set_option linter.unusedSimpArgs false

def Dzq.f (k:Nat) (a0_0:Bool) (l0_1:List Int) (l0_2:List Int):Option (Bool):=(Azq.f k l0_1).bind fun t455=>(if t455=true then((Azq.f k l0_2).bind fun t456=>(if t456=true then(if(l0_2.length:Int)=0 then(some false) else(if a0_0=true then(if(l0_1.length:Int)=0 then(some false) else((Bzj.f k l0_1 l0_2).bind fun bt457=>(if bt457.2=0 then(if(bt457.1.length:Int)=1 then(if 0 < (bt457.1.length:Int) then(some ((rd bt457.1 0) == 1)) else(none)) else(some false)) else(some false)))) else((Bzj.f k l0_1 l0_2).bind fun bt462=>(if bt462.2=0 then(if(bt462.1.length:Int)=1 then(if 0 < (bt462.1.length:Int) then(some ((rd bt462.1 0) == 1)) else(none)) else(some false)) else(some false))))) else(some false))) else(some false))
theorem Dzq.mono:∀ a6 a7 a8 k,LeO (Dzq.f k a6 a7 a8) (Dzq.f (k+1) a6 a7 a8):=by
 intro a6 a7 a8 k;unfold Dzq.f;have i0:=@Bzj.mono;have i1:=@Azq.mono;exact mM
theorem Dzq.calls (k:Nat) (a6:Bool) (a7:Option Addr) (a8:Nat) (b4:List Int) (b5:Option Addr) (b6:Nat) (b7:List Int) (r:Bool) (w:World) (b8:Kd.C (Kd.int .i64) w a7 b4.length b4) (b9:b4.length≤a8) (d0:Kd.C (Kd.int .i64) w b5 b7.length b7) (d6:b7.length≤b6) (h:Dzq.f k a6 b4 b7=some r) :
  Calls Try.prog 44 #[.agg #[.bool a6,.slice a7 b4.length a8,.slice b5 b7.length b6]] w fun e w'=>e=.returned (.bool r)∧Below w.heap.size w w':=by
 have hu38:=Try.underlying38;have d7:=aM b8;have d8:=aM b9;clear b8 b9;have d9:=aM d0;have e6:=aM d6;clear d0 d6;have HB:=aM (Below.refl w.heap.size w);have H:((Azq.f k b4).bind fun e7=>(if e7=true then((Azq.f k b7).bind fun e8=>(if e8=true then(if(b7.length:Int)=0 then(some false) else(if a6=true then(if(b4.length:Int)=0 then(some false) else((Bzj.f k b4 b7).bind fun e9=>(if e9.2=0 then(if(e9.1.length:Int)=1 then(if 0 < (e9.1.length:Int) then(some ((rd e9.1 0) == 1)) else(none)) else(some false)) else(some false)))) else((Bzj.f k b4 b7).bind fun f3=>(if f3.2=0 then(if(f3.1.length:Int)=1 then(if 0 < (f3.1.length:Int) then(some ((rd f3.1 0) == 1)) else(none)) else(some false)) else(some false))))) else(some false))) else(some false)))=some r:=h
 clear h;obtain⟨e7,f4,H⟩:=bT H;(try dsimp only at H);by_cases c3:e7=true
 ·subst c3;rw[if_pos rfl] at H;obtain⟨e8,f6,H⟩:=bT H;(try dsimp only at H);by_cases c5:e8=true
  ·subst c5;rw[if_pos rfl] at H;by_cases c6:(b7.length:Int)=0
   ·rw[if_pos c6] at H;have f9:((b7.length:Int) == 0)=true:=beq_iff_eq.mpr c6;have g4:((b7.length:Int) != 0)=false:=bne_eq_false_iff_eq.mpr c6;clear c6;obtain rfl:=Option.some.inj H;go_enter Try.func44,Try.ntmps44
    go_wp2_with (first|((with_reducible refine gd 1 rfl ?_);refine bxg #[.bool a6,.slice a7 b4.length a8,.slice b5 b7.length b6] 38 ?_;intro g5 hg g6 g7 hb;have g8:=gA w hg;have g9:=gA w hg;replace HB:=bB hb;clear hb hg;obtain⟨j5,j6,j7,j8,j9,l5⟩:=bk3 g7)|((with_reducible refine gc 65 rfl ?_);refine gC 65 (some 7) Try.func65 #[.slice a7 b4.length a8] ?_;(with_reducible refine(Azq.calls k _ _ b4 true _ ?_ ?_ f4.out).mono ?_);exact cB d7;exact d8.out;rintro e w' ⟨rfl,⟨nd,rfl⟩⟩;refine⟨_,rfl,?_⟩)|(go_at_call 65;(with_reducible refine(Azq.calls k _ _ b7 true _ ?_ ?_ f6.out).mono ?_);exact cB d9;exact e6.out;rintro e w' ⟨rfl,⟨nd,rfl⟩⟩))
    go_ret
    exact⟨eW,pB⟩
   ·rw[if_neg c6] at H;have f9:((b7.length:Int) == 0)=false:=beq_eq_false_iff_ne.mpr c6;have g4:((b7.length:Int) != 0)=true:=bne_iff_ne.mpr c6;have l6:¬ (b7=[]):=fun h_=>c6 (by rw[h_];rfl)
    by_cases c9:a6=true
    ·subst c9;rw[if_pos rfl] at H;by_cases c10:(b4.length:Int)=0
     ·rw[if_pos c10] at H;have l7:((b4.length:Int) == 0)=true:=beq_iff_eq.mpr c10;have l8:((b4.length:Int) != 0)=false:=bne_eq_false_iff_eq.mpr c10;clear c10;obtain rfl:=Option.some.inj H;go_enter Try.func44,Try.ntmps44
      go_wp2_with (first|((with_reducible refine gd 1 rfl ?_);refine bxg #[.bool true,.slice a7 b4.length a8,.slice b5 b7.length b6] 38 ?_;intro g5 hg l9 g7 hb;have g8:=gA w hg;have g9:=gA w hg;replace HB:=bB hb;clear hb hg;obtain⟨m0,m2,m3,m4,m5,m6⟩:=bk3 g7)|((with_reducible refine gc 65 rfl ?_);refine gC 65 (some 7) Try.func65 #[.slice a7 b4.length a8] ?_;(with_reducible refine(Azq.calls k _ _ b4 true _ ?_ ?_ f4.out).mono ?_);exact cB d7;exact d8.out;rintro e w' ⟨rfl,⟨nd,rfl⟩⟩;refine⟨_,rfl,?_⟩)|(go_at_call 65;(with_reducible refine(Azq.calls k _ _ b7 true _ ?_ ?_ f6.out).mono ?_);exact cB d9;exact e6.out;rintro e w' ⟨rfl,⟨nd,rfl⟩⟩))
      go_ret
      exact⟨eW,pB⟩
     ·rw[if_neg c10] at H;have l7:((b4.length:Int) == 0)=false:=beq_eq_false_iff_ne.mpr c10;have l8:((b4.length:Int) != 0)=true:=bne_iff_ne.mpr c10;have m7:¬ (b4=[]):=fun h_=>c10 (by rw[h_];rfl)
      obtain⟨⟨m8,m9⟩,n0,H⟩:=bT H;(try dsimp only at H);by_cases n6:m9=0
      ·rw[if_pos n6] at H;have n7:(m9 == 0)=true:=beq_iff_eq.mpr n6;have n8:(m9 != 0)=false:=bne_eq_false_iff_eq.mpr n6;clear n6;by_cases n9:(m8.length:Int)=1
       ·rw[if_pos n9] at H;have o0:((m8.length:Int) == 1)=true:=beq_iff_eq.mpr n9;have o8:((m8.length:Int) != 1)=false:=bne_eq_false_iff_eq.mpr n9;clear n9;obtain⟨o9,H⟩:=iO H;have p0:decide (0 < (m8.length:Int))=true:=dE o9;have p4:decide (0 < m8.length)=true:=dE (by omega)
        clear o9;obtain rfl:=Option.some.inj H;go_enter Try.func44,Try.ntmps44
        go_wp2_with (first|((with_reducible refine gd 1 rfl ?_);refine bxg #[.bool true,.slice a7 b4.length a8,.slice b5 b7.length b6] 38 ?_;intro g5 hg p5 g7 hb;have g8:=gA w hg;have g9:=gA w hg;replace HB:=bB hb;clear hb hg;obtain⟨p9,r5,r6,r7,r8,r9⟩:=bk3 g7)|((with_reducible refine gc 65 rfl ?_);refine gC 65 (some 7) Try.func65 #[.slice a7 b4.length a8] ?_;(with_reducible refine(Azq.calls k _ _ b4 true _ ?_ ?_ f4.out).mono ?_);exact cB d7;exact d8.out;rintro e w' ⟨rfl,⟨nd,rfl⟩⟩;refine⟨_,rfl,?_⟩)|(go_at_call 65;(with_reducible refine(Azq.calls k _ _ b7 true _ ?_ ?_ f6.out).mono ?_);exact cB d9;exact e6.out;rintro e w' ⟨rfl,⟨nd,rfl⟩⟩)|((with_reducible refine gc 66 rfl ?_);refine gC 66 (some 36) Try.func66 #[.slice a7 b4.length a8,.slice b5 b7.length b6] ?_;(with_reducible refine(Bzj.calls k (fun k_=>k_ < w.heap.size) _ _ b4 (fun k_=>k_ < w.heap.size) _ _ b7 m8 m9 _ ?_ ?_ n0.out).mono ?_);exact Kd.V_mk d8.out (Kd.F_below (Kd.C_F (Kd.heap_int .i64) d7.out) pB);exact Kd.V_mk e6.out (Kd.F_below (Kd.C_F (Kd.heap_int .i64) d9.out) pB);rintro e t6 ⟨t7,rfl,t8,hb⟩;refine⟨_,rfl,?_⟩;have z1:=rL (Kd.R_mono (ok':=fun k_=>True) t8 (fun _ hk_=>trivial));replace g7:=kb g7 hb;replace HB:=bB hb;clear hb t8;obtain⟨z2,z6,rfl⟩:=Kd.R_slice z1.out;have z7:0≤(0:Int):=(by omega);have z8:0 < (m8.length:Int):=oE aS;obtain⟨B0,B5,B6⟩:=Kd.at_int (Kd.R_reads' z1.out).2.2 0 z7 z8;cases B5;have B8:(0 < m8.length)=True:=eq_true (by omega);(try rw[show((0:Int)).toNat=0 from rfl] at B6);(try rw[Addr.add_zero'] at B6);replace z7:=eq_true z7;replace z8:=eq_true z8))
        go_ret
        exact⟨eW,pB⟩
       ·rw[if_neg n9] at H;have o0:((m8.length:Int) == 1)=false:=beq_eq_false_iff_ne.mpr n9;have o8:((m8.length:Int) != 1)=true:=bne_iff_ne.mpr n9;obtain rfl:=Option.some.inj H;go_enter Try.func44,Try.ntmps44
        go_wp2_with (first|((with_reducible refine gd 1 rfl ?_);refine bxg #[.bool true,.slice a7 b4.length a8,.slice b5 b7.length b6] 38 ?_;intro g5 hg B9 g7 hb;have g8:=gA w hg;have g9:=gA w hg;replace HB:=bB hb;clear hb hg;obtain⟨C0,C1,C2,C3,C4,C6⟩:=bk3 g7)|((with_reducible refine gc 65 rfl ?_);refine gC 65 (some 7) Try.func65 #[.slice a7 b4.length a8] ?_;(with_reducible refine(Azq.calls k _ _ b4 true _ ?_ ?_ f4.out).mono ?_);exact cB d7;exact d8.out;rintro e w' ⟨rfl,⟨nd,rfl⟩⟩;refine⟨_,rfl,?_⟩)|(go_at_call 65;(with_reducible refine(Azq.calls k _ _ b7 true _ ?_ ?_ f6.out).mono ?_);exact cB d9;exact e6.out;rintro e w' ⟨rfl,⟨nd,rfl⟩⟩)|((with_reducible refine gc 66 rfl ?_);refine gC 66 (some 36) Try.func66 #[.slice a7 b4.length a8,.slice b5 b7.length b6] ?_;(with_reducible refine(Bzj.calls k (fun k_=>k_ < w.heap.size) _ _ b4 (fun k_=>k_ < w.heap.size) _ _ b7 m8 m9 _ ?_ ?_ n0.out).mono ?_);exact Kd.V_mk d8.out (Kd.F_below (Kd.C_F (Kd.heap_int .i64) d7.out) pB);exact Kd.V_mk e6.out (Kd.F_below (Kd.C_F (Kd.heap_int .i64) d9.out) pB);rintro e C7 ⟨t7,rfl,t8,hb⟩;refine⟨_,rfl,?_⟩;have z1:=rL (Kd.R_mono (ok':=fun k_=>True) t8 (fun _ hk_=>trivial));replace g7:=kb g7 hb;replace HB:=bB hb;clear hb t8;obtain⟨C8,C9,rfl⟩:=Kd.R_slice z1.out))
        go_ret
        exact⟨eW,pB⟩
      ·rw[if_neg n6] at H;have n7:(m9 == 0)=false:=beq_eq_false_iff_ne.mpr n6;have n8:(m9 != 0)=true:=bne_iff_ne.mpr n6;obtain rfl:=Option.some.inj H;go_enter Try.func44,Try.ntmps44
       go_wp2_with (first|((with_reducible refine gd 1 rfl ?_);refine bxg #[.bool true,.slice a7 b4.length a8,.slice b5 b7.length b6] 38 ?_;intro g5 hg D0 g7 hb;have g8:=gA w hg;have g9:=gA w hg;replace HB:=bB hb;clear hb hg;obtain⟨D1,D2,D3,D4,D5,D6⟩:=bk3 g7)|((with_reducible refine gc 65 rfl ?_);refine gC 65 (some 7) Try.func65 #[.slice a7 b4.length a8] ?_;(with_reducible refine(Azq.calls k _ _ b4 true _ ?_ ?_ f4.out).mono ?_);exact cB d7;exact d8.out;rintro e w' ⟨rfl,⟨nd,rfl⟩⟩;refine⟨_,rfl,?_⟩)|(go_at_call 65;(with_reducible refine(Azq.calls k _ _ b7 true _ ?_ ?_ f6.out).mono ?_);exact cB d9;exact e6.out;rintro e w' ⟨rfl,⟨nd,rfl⟩⟩)|((with_reducible refine gc 66 rfl ?_);refine gC 66 (some 36) Try.func66 #[.slice a7 b4.length a8,.slice b5 b7.length b6] ?_;(with_reducible refine(Bzj.calls k (fun k_=>k_ < w.heap.size) _ _ b4 (fun k_=>k_ < w.heap.size) _ _ b7 m8 m9 _ ?_ ?_ n0.out).mono ?_);exact Kd.V_mk d8.out (Kd.F_below (Kd.C_F (Kd.heap_int .i64) d7.out) pB);exact Kd.V_mk e6.out (Kd.F_below (Kd.C_F (Kd.heap_int .i64) d9.out) pB);rintro e D7 ⟨t7,rfl,t8,hb⟩;refine⟨_,rfl,?_⟩;have z1:=rL (Kd.R_mono (ok':=fun k_=>True) t8 (fun _ hk_=>trivial));replace g7:=kb g7 hb;replace HB:=bB hb;clear hb t8))
       go_ret
       exact⟨eW,pB⟩
    ·obtain rfl:=bN c9;rw[if_neg nF] at H
     obtain⟨⟨D8,D9⟩,E0,H⟩:=bT H;(try dsimp only at H);by_cases E1:D9=0
     ·rw[if_pos E1] at H;have E2:(D9 == 0)=true:=beq_iff_eq.mpr E1;have E3:(D9 != 0)=false:=bne_eq_false_iff_eq.mpr E1;clear E1;by_cases E4:(D8.length:Int)=1
      ·rw[if_pos E4] at H;have E5:((D8.length:Int) == 1)=true:=beq_iff_eq.mpr E4;have E6:((D8.length:Int) != 1)=false:=bne_eq_false_iff_eq.mpr E4;clear E4;obtain⟨E7,H⟩:=iO H;have E8:decide (0 < (D8.length:Int))=true:=dE E7;have E9:decide (0 < D8.length)=true:=dE (by omega)
       clear E7;obtain rfl:=Option.some.inj H;go_enter Try.func44,Try.ntmps44
       go_wp2_with (first|((with_reducible refine gd 1 rfl ?_);refine bxg #[.bool false,.slice a7 b4.length a8,.slice b5 b7.length b6] 38 ?_;intro g5 hg F0 g7 hb;have g8:=gA w hg;have g9:=gA w hg;replace HB:=bB hb;clear hb hg;obtain⟨F1,F2,F3,F4,F5,F6⟩:=bk3 g7)|((with_reducible refine gc 65 rfl ?_);refine gC 65 (some 7) Try.func65 #[.slice a7 b4.length a8] ?_;(with_reducible refine(Azq.calls k _ _ b4 true _ ?_ ?_ f4.out).mono ?_);exact cB d7;exact d8.out;rintro e w' ⟨rfl,⟨nd,rfl⟩⟩;refine⟨_,rfl,?_⟩)|(go_at_call 65;(with_reducible refine(Azq.calls k _ _ b7 true _ ?_ ?_ f6.out).mono ?_);exact cB d9;exact e6.out;rintro e w' ⟨rfl,⟨nd,rfl⟩⟩)|((with_reducible refine gc 66 rfl ?_);refine gC 66 (some 36) Try.func66 #[.slice a7 b4.length a8,.slice b5 b7.length b6] ?_;(with_reducible refine(Bzj.calls k (fun k_=>k_ < w.heap.size) _ _ b4 (fun k_=>k_ < w.heap.size) _ _ b7 D8 D9 _ ?_ ?_ E0.out).mono ?_);exact Kd.V_mk d8.out (Kd.F_below (Kd.C_F (Kd.heap_int .i64) d7.out) pB);exact Kd.V_mk e6.out (Kd.F_below (Kd.C_F (Kd.heap_int .i64) d9.out) pB);rintro e F7 ⟨F8,rfl,t8,hb⟩;refine⟨_,rfl,?_⟩;have F9:=rL (Kd.R_mono (ok':=fun k_=>True) t8 (fun _ hk_=>trivial));replace g7:=kb g7 hb;replace HB:=bB hb;clear hb t8;obtain⟨G0,G4,rfl⟩:=Kd.R_slice F9.out;have G5:0≤(0:Int):=(by omega);have G6:0 < (D8.length:Int):=oE aS;obtain⟨G7,G8,G9⟩:=Kd.at_int (Kd.R_reads' F9.out).2.2 0 G5 G6;cases G8;have H5:(0 < D8.length)=True:=eq_true (by omega);(try rw[show((0:Int)).toNat=0 from rfl] at G9);(try rw[Addr.add_zero'] at G9);replace G5:=eq_true G5;replace G6:=eq_true G6))
       go_ret
       exact⟨eW,pB⟩
      ·rw[if_neg E4] at H;have E5:((D8.length:Int) == 1)=false:=beq_eq_false_iff_ne.mpr E4;have E6:((D8.length:Int) != 1)=true:=bne_iff_ne.mpr E4;obtain rfl:=Option.some.inj H;go_enter Try.func44,Try.ntmps44
       go_wp2_with (first|((with_reducible refine gd 1 rfl ?_);refine bxg #[.bool false,.slice a7 b4.length a8,.slice b5 b7.length b6] 38 ?_;intro g5 hg H6 g7 hb;have g8:=gA w hg;have g9:=gA w hg;replace HB:=bB hb;clear hb hg;obtain⟨H7,H8,H9,I0,I1,I2⟩:=bk3 g7)|((with_reducible refine gc 65 rfl ?_);refine gC 65 (some 7) Try.func65 #[.slice a7 b4.length a8] ?_;(with_reducible refine(Azq.calls k _ _ b4 true _ ?_ ?_ f4.out).mono ?_);exact cB d7;exact d8.out;rintro e w' ⟨rfl,⟨nd,rfl⟩⟩;refine⟨_,rfl,?_⟩)|(go_at_call 65;(with_reducible refine(Azq.calls k _ _ b7 true _ ?_ ?_ f6.out).mono ?_);exact cB d9;exact e6.out;rintro e w' ⟨rfl,⟨nd,rfl⟩⟩)|((with_reducible refine gc 66 rfl ?_);refine gC 66 (some 36) Try.func66 #[.slice a7 b4.length a8,.slice b5 b7.length b6] ?_;(with_reducible refine(Bzj.calls k (fun k_=>k_ < w.heap.size) _ _ b4 (fun k_=>k_ < w.heap.size) _ _ b7 D8 D9 _ ?_ ?_ E0.out).mono ?_);exact Kd.V_mk d8.out (Kd.F_below (Kd.C_F (Kd.heap_int .i64) d7.out) pB);exact Kd.V_mk e6.out (Kd.F_below (Kd.C_F (Kd.heap_int .i64) d9.out) pB);rintro e I3 ⟨F8,rfl,t8,hb⟩;refine⟨_,rfl,?_⟩;have F9:=rL (Kd.R_mono (ok':=fun k_=>True) t8 (fun _ hk_=>trivial));replace g7:=kb g7 hb;replace HB:=bB hb;clear hb t8;obtain⟨I4,I5,rfl⟩:=Kd.R_slice F9.out))
       go_ret
       exact⟨eW,pB⟩
     ·rw[if_neg E1] at H;have E2:(D9 == 0)=false:=beq_eq_false_iff_ne.mpr E1;have E3:(D9 != 0)=true:=bne_iff_ne.mpr E1;obtain rfl:=Option.some.inj H;go_enter Try.func44,Try.ntmps44
      go_wp2_with (first|((with_reducible refine gd 1 rfl ?_);refine bxg #[.bool false,.slice a7 b4.length a8,.slice b5 b7.length b6] 38 ?_;intro g5 hg I6 g7 hb;have g8:=gA w hg;have g9:=gA w hg;replace HB:=bB hb;clear hb hg;obtain⟨I7,I8,I9,J0,J1,J2⟩:=bk3 g7)|((with_reducible refine gc 65 rfl ?_);refine gC 65 (some 7) Try.func65 #[.slice a7 b4.length a8] ?_;(with_reducible refine(Azq.calls k _ _ b4 true _ ?_ ?_ f4.out).mono ?_);exact cB d7;exact d8.out;rintro e w' ⟨rfl,⟨nd,rfl⟩⟩;refine⟨_,rfl,?_⟩)|(go_at_call 65;(with_reducible refine(Azq.calls k _ _ b7 true _ ?_ ?_ f6.out).mono ?_);exact cB d9;exact e6.out;rintro e w' ⟨rfl,⟨nd,rfl⟩⟩)|((with_reducible refine gc 66 rfl ?_);refine gC 66 (some 36) Try.func66 #[.slice a7 b4.length a8,.slice b5 b7.length b6] ?_;(with_reducible refine(Bzj.calls k (fun k_=>k_ < w.heap.size) _ _ b4 (fun k_=>k_ < w.heap.size) _ _ b7 D8 D9 _ ?_ ?_ E0.out).mono ?_);exact Kd.V_mk d8.out (Kd.F_below (Kd.C_F (Kd.heap_int .i64) d7.out) pB);exact Kd.V_mk e6.out (Kd.F_below (Kd.C_F (Kd.heap_int .i64) d9.out) pB);rintro e J3 ⟨F8,rfl,t8,hb⟩;refine⟨_,rfl,?_⟩;have F9:=rL (Kd.R_mono (ok':=fun k_=>True) t8 (fun _ hk_=>trivial));replace g7:=kb g7 hb;replace HB:=bB hb;clear hb t8))
      go_ret
      exact⟨eW,pB⟩
  ·obtain rfl:=bN c5;rw[if_neg nF] at H
   obtain rfl:=Option.some.inj H;go_enter Try.func44,Try.ntmps44
   go_wp2_with (first|((with_reducible refine gd 1 rfl ?_);refine bxg #[.bool a6,.slice a7 b4.length a8,.slice b5 b7.length b6] 38 ?_;intro g5 hg J4 g7 hb;have g8:=gA w hg;have g9:=gA w hg;replace HB:=bB hb;clear hb hg;obtain⟨J5,J6,J7,J8,J9,K0⟩:=bk3 g7)|((with_reducible refine gc 65 rfl ?_);refine gC 65 (some 7) Try.func65 #[.slice a7 b4.length a8] ?_;(with_reducible refine(Azq.calls k _ _ b4 true _ ?_ ?_ f4.out).mono ?_);exact cB d7;exact d8.out;rintro e w' ⟨rfl,⟨nd,rfl⟩⟩;refine⟨_,rfl,?_⟩)|(go_at_call 65;(with_reducible refine(Azq.calls k _ _ b7 false _ ?_ ?_ f6.out).mono ?_);exact cB d9;exact e6.out;rintro e w' ⟨rfl,⟨nd,rfl⟩⟩))
   go_ret
   exact⟨eW,pB⟩
 ·obtain rfl:=bN c3;rw[if_neg nF] at H
  obtain rfl:=Option.some.inj H;go_enter Try.func44,Try.ntmps44
  go_wp2_with (first|((with_reducible refine gd 1 rfl ?_);refine bxg #[.bool a6,.slice a7 b4.length a8,.slice b5 b7.length b6] 38 ?_;intro g5 hg K1 g7 hb;have g8:=gA w hg;have g9:=gA w hg;replace HB:=bB hb;clear hb hg;obtain⟨K2,K3,K4,K5,K6,K7⟩:=bk3 g7)|((with_reducible refine gc 65 rfl ?_);refine gC 65 (some 7) Try.func65 #[.slice a7 b4.length a8] ?_;(with_reducible refine(Azq.calls k _ _ b4 false _ ?_ ?_ f4.out).mono ?_);exact cB d7;exact d8.out;rintro e w' ⟨rfl,⟨nd,rfl⟩⟩;refine⟨_,rfl,?_⟩))
  go_ret
  exact⟨eW,pB⟩

def Bzk.l0:Nat→List (S38)→Int→Int→Option (Bool)
 | 0,_,_,_=>none
 | k+1,x5,x6,x7=>if x7 < x6 then(if 0≤x7 then(if x7 < (x5.length:Int) then((Dzq.f k ((rd_T38 x5 x7).f0) ((rd_T38 x5 x7).f1) ((rd_T38 x5 x7).f2)).bind fun t469=>(if t469=true then(Bzk.l0 k x5 x6 (wrap64 (x7+1))) else(some false))) else(none)) else(none)) else(some true)
def Bzk.f (k:Nat) (l0:List (S38)):Option (Bool):=Bzk.l0 k l0 (l0.length:Int) 0
theorem Bzk.mono_l:∀ k,(∀ a6 a7 a8,LeO (Bzk.l0 k a6 a7 a8) (Bzk.l0 (k+1) a6 a7 a8))
 | 0=>fun _ _ _ r h=>by simp [Bzk.l0] at h
 | k+1=>by
  have ih0:=Bzk.mono_l k
  ·intro a6 a7 a8;unfold Bzk.l0;have i0:=@Dzq.mono;exact mM
theorem Bzk.mono:∀ a6 k,LeO (Bzk.f k a6) (Bzk.f (k+1) a6):=by
 intro a6 k;have ih0:=Bzk.mono_l k;unfold Bzk.f;have i0:=@Dzq.mono;exact mM
theorem Bzk.calls (k:Nat) (a6:Option Addr) (a7:Nat) (l0:List (S38)) (r:Bool) (w:World) (a8:Kd.C k38 w a6 l0.length l0) (b4:l0.length≤a7) (h:Bzk.f k l0=some r) :
  Calls Try.prog 47 #[.slice a6 l0.length a7] w fun e w'=>e=.returned (.bool r)∧Below w.heap.size w w':=by
 have hu38:=Try.underlying38;have b5:=aM a8;have b6:=aM b4;clear a8 b4;have HB:=aM (Below.refl w.heap.size w);have H:(Bzk.l0 k l0 (l0.length:Int) 0)=some r:=h;clear h;have H':=aM H;clear H;go_enter Try.func47,Try.ntmps47
 go_wp2
 go_loopg [7] k (fun kq b7 w'=>∃ (b8:Int),b7=.int .i64 b8∧Aside0 (Bzk.l0 kq l0 (l0.length:Int) b8=some r)∧Aside0 (kq≤k)∧Aside0 (Below w.heap.size w w'))
 case atStart=>exact⟨(0),sD,H',⟨Nat.le_refl _⟩,⟨pB⟩⟩
 case round =>
  clear H';obtain⟨b8,rfl,HA,b9,HB⟩:=hrel;cases gk with
  | zero=>exact absurd HA.out (by simp [Bzk.l0])
  | succ k1 =>
   have H:=HA.out;clear HA;simp only[Bzk.l0] at H;by_cases c2:b8 < (l0.length:Int)
   ·rw[if_pos c2] at H;have d0:=dE c2;clear c2;obtain⟨d6,H⟩:=iN H;obtain⟨d7,H⟩:=iN H;obtain⟨d8,d9,H⟩:=bT H;(try dsimp only at H);by_cases c6:d8=true
    ·subst c6;rw[if_pos rfl] at H;have H':=aM H;clear H;obtain⟨e6,e7,e8,e9,f3,f4,f6,f9,g4,g5,g6,g7,g8⟩:=at_T38 b5.out b8 (oE aS) (oE aS);cases f4
     replace f6:=hB HB f6;replace f9:=hB HB f9;replace g4:=hB HB g4;have g9:=aM g6;have j5:=aM g5;clear g6 g5;have j6:=aM g8;have j7:=aM g7;clear g8 g7;have j8:=eT (b8);have j9:=eU (b8) l0.length;go_wp2_with (first|((with_reducible refine gd 4 rfl ?_);refine bx #[.bool false,.slice none 0 0,.slice none 0 0] 38 ?_;intro l5 hg l6 l7 hb;have l8:=gA w hg;have l9:=gA w hg;replace HB:=bB hb;clear hb hg;obtain⟨m0,m2,m3,m4,m5,m6⟩:=bk3 l7)|((with_reducible refine gc 44 rfl ?_);refine gC 44 (some 12) Try.func44 #[.agg #[.bool ((rd_T38 l0 b8).f0),.slice e7 ((rd_T38 l0 b8).f1).length e8,.slice e9 ((rd_T38 l0 b8).f2).length f3]] ?_;(with_reducible refine(Dzq.calls k1 ((rd_T38 l0 b8).f0) _ _ ((rd_T38 l0 b8).f1) _ _ ((rd_T38 l0 b8).f2) true _ ?_ ?_ ?_ ?_ d9.out).mono ?_);exact Kd.C_below g9.out pB;exact j5.out;exact Kd.C_below j6.out pB;exact j7.out;rintro e m7 ⟨rfl,hb⟩;refine⟨_,rfl,?_⟩;replace l7:=kP (o':=.cells #[.bool ((rd_T38 l0 b8).f0),.slice e7 ((rd_T38 l0 b8).f1).length e8,.slice e9 ((rd_T38 l0 b8).f2).length f3] 38 (0,0)) l7 hb;replace HB:=bB hb;clear hb))
     go_roundg k1
     case measure=>have:=b9.out;omega
     case rel=>exact⟨(wrap64 (b8+1)),sD,H',⟨by have:=b9.out;omega⟩,⟨pB⟩⟩
    ·obtain rfl:=bN c6;rw[if_neg nF] at H
     obtain rfl:=Option.some.inj H;obtain⟨e6,e7,e8,e9,f3,f4,f6,f9,g4,g5,g6,g7,g8⟩:=at_T38 b5.out b8 (oE aS) (oE aS);cases f4
     replace f6:=hB HB f6;replace f9:=hB HB f9;replace g4:=hB HB g4;have g9:=aM g6;have j5:=aM g5;clear g6 g5;have j6:=aM g8;have j7:=aM g7;clear g8 g7;have j8:=eT (b8);have j9:=eU (b8) l0.length;go_wp2_with (first|((with_reducible refine gd 4 rfl ?_);refine bx #[.bool false,.slice none 0 0,.slice none 0 0] 38 ?_;intro l5 hg m8 l7 hb;have l8:=gA w hg;have l9:=gA w hg;replace HB:=bB hb;clear hb hg;obtain⟨m9,n0,n6,n7,n8,n9⟩:=bk3 l7)|((with_reducible refine gc 44 rfl ?_);refine gC 44 (some 12) Try.func44 #[.agg #[.bool ((rd_T38 l0 b8).f0),.slice e7 ((rd_T38 l0 b8).f1).length e8,.slice e9 ((rd_T38 l0 b8).f2).length f3]] ?_;(with_reducible refine(Dzq.calls k1 ((rd_T38 l0 b8).f0) _ _ ((rd_T38 l0 b8).f1) _ _ ((rd_T38 l0 b8).f2) false _ ?_ ?_ ?_ ?_ d9.out).mono ?_);exact Kd.C_below g9.out pB;exact j5.out;exact Kd.C_below j6.out pB;exact j7.out;rintro e o0 ⟨rfl,hb⟩;refine⟨_,rfl,?_⟩;replace l7:=kP (o':=.cells #[.bool ((rd_T38 l0 b8).f0),.slice e7 ((rd_T38 l0 b8).f1).length e8,.slice e9 ((rd_T38 l0 b8).f2).length f3] 38 (0,0)) l7 hb;replace HB:=bB hb;clear hb))
     go_ret
     exact⟨eW,pB⟩
   ·rw[if_neg c2] at H;have d0:decide (b8 < (l0.length:Int))=false:=decide_eq_false c2;clear c2;obtain rfl:=Option.some.inj H;go_wp2
    go_ret
    exact⟨eW,pB⟩

end Go.Proofs.Ytokkiljkgejnhaa.Print
