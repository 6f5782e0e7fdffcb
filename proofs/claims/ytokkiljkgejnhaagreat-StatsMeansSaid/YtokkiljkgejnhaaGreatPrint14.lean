import Derived.Test.YtokkiljkgejnhaaGreatPrint0
import Derived.Test.YtokkiljkgejnhaaGreatPrint10
namespace Go.Proofs.YtokkiljkgejnhaaGreat.Print
open Go.RowKit Go.Proofs.YtokkiljkgejnhaaGreatW.PrintWords Go.Proofs.YtokkiljkgejnhaaGreatW.PrintLast Go.Proofs.YtokkiljkgejnhaaGreatW.PrintMore
attribute [local go_sem] max2_int min2_int max_two min_two max_three min_three max_four min_four
set_option linter.unusedVariables false
set_option maxRecDepth 100000
set_option maxHeartbeats 8000000
set_option linter.unusedSimpArgs false

def Gzp.f (k:Nat) (a0_0:Bool) (l0_1:List Int) (l0_2:List Int):Option (Bool):=(Azy.f k l0_1).bind fun t281=>(if t281=true then((Azy.f k l0_2).bind fun t282=>(if t282=true then(if(l0_2.length:Int)=0 then(some false) else(if a0_0=true then(if(l0_1.length:Int)=0 then(some false) else((Czp.f k l0_1 l0_2).bind fun bt283=>(if bt283.2=0 then(if(bt283.1.length:Int)=1 then(if 0 < (bt283.1.length:Int) then(some ((rd bt283.1 0) == 1)) else(none)) else(some false)) else(some false)))) else((Czp.f k l0_1 l0_2).bind fun bt288=>(if bt288.2=0 then(if(bt288.1.length:Int)=1 then(if 0 < (bt288.1.length:Int) then(some ((rd bt288.1 0) == 1)) else(none)) else(some false)) else(some false))))) else(some false))) else(some false))
theorem Gzp.mono:∀ a6 a7 a8 k,LeO (Gzp.f k a6 a7 a8) (Gzp.f (k+1) a6 a7 a8):=by
 intro a6 a7 a8 k;unfold Gzp.f;have i0:=@Czp.mono;have i1:=@Azy.mono;exact mM
theorem Gzp.calls (k:Nat) (a6:Bool) (a7:Option Addr) (a8:Nat) (b4:List Int) (b5:Option Addr) (b6:Nat) (b7:List Int) (r:Bool) (w:World) (b8:Kd.C (Kd.int .i64) w a7 b4.length b4) (b9:b4.length≤a8) (d0:Kd.C (Kd.int .i64) w b5 b7.length b7) (d6:b7.length≤b6) (h:Gzp.f k a6 b4 b7=some r) :
  Calls Tryz.prog 62 #[.agg #[.bool a6,.slice a7 b4.length a8,.slice b5 b7.length b6]] w fun e w'=>e=.returned (.bool r)∧Below w.heap.size w w':=by
 have hu26:=Tryz.underlying26;have d7:=aM b8;have d8:=aM b9;clear b8 b9;have d9:=aM d0;have e6:=aM d6;clear d0 d6;have HB:=aM (Below.refl w.heap.size w);have H:((Azy.f k b4).bind fun e7=>(if e7=true then((Azy.f k b7).bind fun e8=>(if e8=true then(if(b7.length:Int)=0 then(some false) else(if a6=true then(if(b4.length:Int)=0 then(some false) else((Czp.f k b4 b7).bind fun e9=>(if e9.2=0 then(if(e9.1.length:Int)=1 then(if 0 < (e9.1.length:Int) then(some ((rd e9.1 0) == 1)) else(none)) else(some false)) else(some false)))) else((Czp.f k b4 b7).bind fun f3=>(if f3.2=0 then(if(f3.1.length:Int)=1 then(if 0 < (f3.1.length:Int) then(some ((rd f3.1 0) == 1)) else(none)) else(some false)) else(some false))))) else(some false))) else(some false)))=some r:=h
 clear h;obtain⟨e7,f4,H⟩:=bT H;(try dsimp only at H);by_cases c3:e7=true
 ·subst c3;rw[if_pos rfl] at H;obtain⟨e8,f6,H⟩:=bT H;(try dsimp only at H);by_cases c5:e8=true
  ·subst c5;rw[if_pos rfl] at H;by_cases c6:(b7.length:Int)=0
   ·rw[if_pos c6] at H;obtain⟨f9,g4⟩:=bE c6;clear c6;obtain rfl:=Option.some.inj H;go_enter Tryz.func62,Tryz.ntmps62
    go_wp2_with (first|((with_reducible refine gd 1 rfl ?_);refine bxg #[.bool a6,.slice a7 b4.length a8,.slice b5 b7.length b6] 26 ?_;intro g5 hg g6 g7 hb;have g8:=gA w hg;have g9:=gA w hg;replace HB:=bB hb;clear hb hg;obtain⟨j3,j4,j5,j6,j7,j8⟩:=bk3 g7)|((with_reducible refine gc 78 rfl ?_);refine gC 78 (some 7) Tryz.func78 #[.slice a7 b4.length a8] ?_;(with_reducible refine(Azy.calls k _ _ b4 true _ ?_ ?_ f4.out).mono ?_);exact cB d7;exact d8.out;rintro e w' ⟨rfl,⟨nd,rfl⟩⟩;refine⟨_,rfl,?_⟩)|(go_at_call 78;(with_reducible refine(Azy.calls k _ _ b7 true _ ?_ ?_ f6.out).mono ?_);exact cB d9;exact e6.out;rintro e w' ⟨rfl,⟨nd,rfl⟩⟩))
    go_ret
    exact⟨eW,pB⟩
   ·rw[if_neg c6] at H;obtain⟨f9,g4⟩:=bI c6;have j9:¬ (b7=[]):=fun h_=>c6 (by rw[h_];rfl)
    by_cases c9:a6=true
    ·subst c9;rw[if_pos rfl] at H;by_cases c10:(b4.length:Int)=0
     ·rw[if_pos c10] at H;obtain⟨l5,l6⟩:=bE c10;clear c10;obtain rfl:=Option.some.inj H;go_enter Tryz.func62,Tryz.ntmps62
      go_wp2_with (first|((with_reducible refine gd 1 rfl ?_);refine bxg #[.bool true,.slice a7 b4.length a8,.slice b5 b7.length b6] 26 ?_;intro g5 hg l7 g7 hb;have g8:=gA w hg;have g9:=gA w hg;replace HB:=bB hb;clear hb hg;obtain⟨l8,l9,m0,m3,m4,m5⟩:=bk3 g7)|((with_reducible refine gc 78 rfl ?_);refine gC 78 (some 7) Tryz.func78 #[.slice a7 b4.length a8] ?_;(with_reducible refine(Azy.calls k _ _ b4 true _ ?_ ?_ f4.out).mono ?_);exact cB d7;exact d8.out;rintro e w' ⟨rfl,⟨nd,rfl⟩⟩;refine⟨_,rfl,?_⟩)|(go_at_call 78;(with_reducible refine(Azy.calls k _ _ b7 true _ ?_ ?_ f6.out).mono ?_);exact cB d9;exact e6.out;rintro e w' ⟨rfl,⟨nd,rfl⟩⟩))
      go_ret
      exact⟨eW,pB⟩
     ·rw[if_neg c10] at H;obtain⟨l5,l6⟩:=bI c10;have m6:¬ (b4=[]):=fun h_=>c10 (by rw[h_];rfl)
      obtain⟨⟨m7,m8⟩,m9,H⟩:=bT H;(try dsimp only at H);by_cases n0:m8=0
      ·rw[if_pos n0] at H;obtain⟨n6,n7⟩:=bE n0;clear n0;by_cases n8:(m7.length:Int)=1
       ·rw[if_pos n8] at H;obtain⟨n9,o0⟩:=bE n8;clear n8;obtain⟨o8,H⟩:=iO H;have o9:decide (0 < (m7.length:Int))=true:=dE o8;have p0:decide (0 < m7.length)=true:=dE (by omega)
        clear o8;obtain rfl:=Option.some.inj H;go_enter Tryz.func62,Tryz.ntmps62
        go_wp2_with (first|((with_reducible refine gd 1 rfl ?_);refine bxg #[.bool true,.slice a7 b4.length a8,.slice b5 b7.length b6] 26 ?_;intro g5 hg p3 g7 hb;have g8:=gA w hg;have g9:=gA w hg;replace HB:=bB hb;clear hb hg;obtain⟨p4,p5,r5,r6,r7,r8⟩:=bk3 g7)|((with_reducible refine gc 78 rfl ?_);refine gC 78 (some 7) Tryz.func78 #[.slice a7 b4.length a8] ?_;(with_reducible refine(Azy.calls k _ _ b4 true _ ?_ ?_ f4.out).mono ?_);exact cB d7;exact d8.out;rintro e w' ⟨rfl,⟨nd,rfl⟩⟩;refine⟨_,rfl,?_⟩)|(go_at_call 78;(with_reducible refine(Azy.calls k _ _ b7 true _ ?_ ?_ f6.out).mono ?_);exact cB d9;exact e6.out;rintro e w' ⟨rfl,⟨nd,rfl⟩⟩)|((with_reducible refine gc 58 rfl ?_);refine gC 58 (some 36) Tryz.func58 #[.slice a7 b4.length a8,.slice b5 b7.length b6] ?_;(with_reducible refine(Czp.calls k (fun k_=>k_ < w.heap.size) _ _ b4 (fun k_=>k_ < w.heap.size) _ _ b7 m7 m8 _ ?_ ?_ m9.out).mono ?_);exact Kd.V_mk d8.out (Kd.F_below (Kd.C_F (Kd.heap_int .i64) d7.out) pB);exact Kd.V_mk e6.out (Kd.F_below (Kd.C_F (Kd.heap_int .i64) d9.out) pB);rintro e r9 ⟨t6,rfl,t7,hb⟩;refine⟨_,rfl,?_⟩;have t8:=rL (Kd.R_mono (ok':=fun k_=>True) t7 (fun _ hk_=>trivial));replace g7:=kb g7 hb;replace HB:=bB hb;clear hb t7;obtain⟨z1,z2,rfl⟩:=Kd.R_slice t8.out;have z6:0≤(0:Int):=(by omega);have z7:0 < (m7.length:Int):=oE aS;obtain⟨z8,B0,B5⟩:=Kd.at_int (Kd.R_reads' t8.out).2.2 0 z6 z7;cases B0;have B6:(0 < m7.length)=True:=eq_true (by omega);(try rw[show((0:Int)).toNat=0 from rfl] at B5);(try rw[Addr.add_zero'] at B5);replace z6:=eq_true z6;replace z7:=eq_true z7))
        go_ret
        exact⟨eW,pB⟩
       ·rw[if_neg n8] at H;obtain⟨n9,o0⟩:=bI n8;obtain rfl:=Option.some.inj H;go_enter Tryz.func62,Tryz.ntmps62
        go_wp2_with (first|((with_reducible refine gd 1 rfl ?_);refine bxg #[.bool true,.slice a7 b4.length a8,.slice b5 b7.length b6] 26 ?_;intro g5 hg B8 g7 hb;have g8:=gA w hg;have g9:=gA w hg;replace HB:=bB hb;clear hb hg;obtain⟨B9,C0,C1,C2,C3,C4⟩:=bk3 g7)|((with_reducible refine gc 78 rfl ?_);refine gC 78 (some 7) Tryz.func78 #[.slice a7 b4.length a8] ?_;(with_reducible refine(Azy.calls k _ _ b4 true _ ?_ ?_ f4.out).mono ?_);exact cB d7;exact d8.out;rintro e w' ⟨rfl,⟨nd,rfl⟩⟩;refine⟨_,rfl,?_⟩)|(go_at_call 78;(with_reducible refine(Azy.calls k _ _ b7 true _ ?_ ?_ f6.out).mono ?_);exact cB d9;exact e6.out;rintro e w' ⟨rfl,⟨nd,rfl⟩⟩)|((with_reducible refine gc 58 rfl ?_);refine gC 58 (some 36) Tryz.func58 #[.slice a7 b4.length a8,.slice b5 b7.length b6] ?_;(with_reducible refine(Czp.calls k (fun k_=>k_ < w.heap.size) _ _ b4 (fun k_=>k_ < w.heap.size) _ _ b7 m7 m8 _ ?_ ?_ m9.out).mono ?_);exact Kd.V_mk d8.out (Kd.F_below (Kd.C_F (Kd.heap_int .i64) d7.out) pB);exact Kd.V_mk e6.out (Kd.F_below (Kd.C_F (Kd.heap_int .i64) d9.out) pB);rintro e C6 ⟨t6,rfl,t7,hb⟩;refine⟨_,rfl,?_⟩;have t8:=rL (Kd.R_mono (ok':=fun k_=>True) t7 (fun _ hk_=>trivial));replace g7:=kb g7 hb;replace HB:=bB hb;clear hb t7;obtain⟨C7,C8,rfl⟩:=Kd.R_slice t8.out))
        go_ret
        exact⟨eW,pB⟩
      ·rw[if_neg n0] at H;obtain⟨n6,n7⟩:=bI n0;obtain rfl:=Option.some.inj H;go_enter Tryz.func62,Tryz.ntmps62
       go_wp2_with (first|((with_reducible refine gd 1 rfl ?_);refine bxg #[.bool true,.slice a7 b4.length a8,.slice b5 b7.length b6] 26 ?_;intro g5 hg C9 g7 hb;have g8:=gA w hg;have g9:=gA w hg;replace HB:=bB hb;clear hb hg;obtain⟨D0,D1,D2,D3,D4,D5⟩:=bk3 g7)|((with_reducible refine gc 78 rfl ?_);refine gC 78 (some 7) Tryz.func78 #[.slice a7 b4.length a8] ?_;(with_reducible refine(Azy.calls k _ _ b4 true _ ?_ ?_ f4.out).mono ?_);exact cB d7;exact d8.out;rintro e w' ⟨rfl,⟨nd,rfl⟩⟩;refine⟨_,rfl,?_⟩)|(go_at_call 78;(with_reducible refine(Azy.calls k _ _ b7 true _ ?_ ?_ f6.out).mono ?_);exact cB d9;exact e6.out;rintro e w' ⟨rfl,⟨nd,rfl⟩⟩)|((with_reducible refine gc 58 rfl ?_);refine gC 58 (some 36) Tryz.func58 #[.slice a7 b4.length a8,.slice b5 b7.length b6] ?_;(with_reducible refine(Czp.calls k (fun k_=>k_ < w.heap.size) _ _ b4 (fun k_=>k_ < w.heap.size) _ _ b7 m7 m8 _ ?_ ?_ m9.out).mono ?_);exact Kd.V_mk d8.out (Kd.F_below (Kd.C_F (Kd.heap_int .i64) d7.out) pB);exact Kd.V_mk e6.out (Kd.F_below (Kd.C_F (Kd.heap_int .i64) d9.out) pB);rintro e D6 ⟨t6,rfl,t7,hb⟩;refine⟨_,rfl,?_⟩;have t8:=rL (Kd.R_mono (ok':=fun k_=>True) t7 (fun _ hk_=>trivial));replace g7:=kb g7 hb;replace HB:=bB hb;clear hb t7))
       go_ret
       exact⟨eW,pB⟩
    ·obtain rfl:=bN c9;rw[if_neg nF] at H
     obtain⟨⟨D7,D8⟩,D9,H⟩:=bT H;(try dsimp only at H);by_cases E0:D8=0
     ·rw[if_pos E0] at H;obtain⟨E1,E2⟩:=bE E0;clear E0;by_cases E3:(D7.length:Int)=1
      ·rw[if_pos E3] at H;obtain⟨E4,E5⟩:=bE E3;clear E3;obtain⟨E6,H⟩:=iO H;have E7:decide (0 < (D7.length:Int))=true:=dE E6;have E8:decide (0 < D7.length)=true:=dE (by omega)
       clear E6;obtain rfl:=Option.some.inj H;go_enter Tryz.func62,Tryz.ntmps62
       go_wp2_with (first|((with_reducible refine gd 1 rfl ?_);refine bxg #[.bool false,.slice a7 b4.length a8,.slice b5 b7.length b6] 26 ?_;intro g5 hg E9 g7 hb;have g8:=gA w hg;have g9:=gA w hg;replace HB:=bB hb;clear hb hg;obtain⟨F0,F1,F2,F3,F4,F5⟩:=bk3 g7)|((with_reducible refine gc 78 rfl ?_);refine gC 78 (some 7) Tryz.func78 #[.slice a7 b4.length a8] ?_;(with_reducible refine(Azy.calls k _ _ b4 true _ ?_ ?_ f4.out).mono ?_);exact cB d7;exact d8.out;rintro e w' ⟨rfl,⟨nd,rfl⟩⟩;refine⟨_,rfl,?_⟩)|(go_at_call 78;(with_reducible refine(Azy.calls k _ _ b7 true _ ?_ ?_ f6.out).mono ?_);exact cB d9;exact e6.out;rintro e w' ⟨rfl,⟨nd,rfl⟩⟩)|((with_reducible refine gc 58 rfl ?_);refine gC 58 (some 36) Tryz.func58 #[.slice a7 b4.length a8,.slice b5 b7.length b6] ?_;(with_reducible refine(Czp.calls k (fun k_=>k_ < w.heap.size) _ _ b4 (fun k_=>k_ < w.heap.size) _ _ b7 D7 D8 _ ?_ ?_ D9.out).mono ?_);exact Kd.V_mk d8.out (Kd.F_below (Kd.C_F (Kd.heap_int .i64) d7.out) pB);exact Kd.V_mk e6.out (Kd.F_below (Kd.C_F (Kd.heap_int .i64) d9.out) pB);rintro e F6 ⟨F7,rfl,t7,hb⟩;refine⟨_,rfl,?_⟩;have F8:=rL (Kd.R_mono (ok':=fun k_=>True) t7 (fun _ hk_=>trivial));replace g7:=kb g7 hb;replace HB:=bB hb;clear hb t7;obtain⟨F9,G0,rfl⟩:=Kd.R_slice F8.out;have G4:0≤(0:Int):=(by omega);have G5:0 < (D7.length:Int):=oE aS;obtain⟨G6,G7,G8⟩:=Kd.at_int (Kd.R_reads' F8.out).2.2 0 G4 G5;cases G7;have G9:(0 < D7.length)=True:=eq_true (by omega);(try rw[show((0:Int)).toNat=0 from rfl] at G8);(try rw[Addr.add_zero'] at G8);replace G4:=eq_true G4;replace G5:=eq_true G5))
       go_ret
       exact⟨eW,pB⟩
      ·rw[if_neg E3] at H;obtain⟨E4,E5⟩:=bI E3;obtain rfl:=Option.some.inj H;go_enter Tryz.func62,Tryz.ntmps62
       go_wp2_with (first|((with_reducible refine gd 1 rfl ?_);refine bxg #[.bool false,.slice a7 b4.length a8,.slice b5 b7.length b6] 26 ?_;intro g5 hg H5 g7 hb;have g8:=gA w hg;have g9:=gA w hg;replace HB:=bB hb;clear hb hg;obtain⟨H6,H7,H8,H9,I0,I1⟩:=bk3 g7)|((with_reducible refine gc 78 rfl ?_);refine gC 78 (some 7) Tryz.func78 #[.slice a7 b4.length a8] ?_;(with_reducible refine(Azy.calls k _ _ b4 true _ ?_ ?_ f4.out).mono ?_);exact cB d7;exact d8.out;rintro e w' ⟨rfl,⟨nd,rfl⟩⟩;refine⟨_,rfl,?_⟩)|(go_at_call 78;(with_reducible refine(Azy.calls k _ _ b7 true _ ?_ ?_ f6.out).mono ?_);exact cB d9;exact e6.out;rintro e w' ⟨rfl,⟨nd,rfl⟩⟩)|((with_reducible refine gc 58 rfl ?_);refine gC 58 (some 36) Tryz.func58 #[.slice a7 b4.length a8,.slice b5 b7.length b6] ?_;(with_reducible refine(Czp.calls k (fun k_=>k_ < w.heap.size) _ _ b4 (fun k_=>k_ < w.heap.size) _ _ b7 D7 D8 _ ?_ ?_ D9.out).mono ?_);exact Kd.V_mk d8.out (Kd.F_below (Kd.C_F (Kd.heap_int .i64) d7.out) pB);exact Kd.V_mk e6.out (Kd.F_below (Kd.C_F (Kd.heap_int .i64) d9.out) pB);rintro e I2 ⟨F7,rfl,t7,hb⟩;refine⟨_,rfl,?_⟩;have F8:=rL (Kd.R_mono (ok':=fun k_=>True) t7 (fun _ hk_=>trivial));replace g7:=kb g7 hb;replace HB:=bB hb;clear hb t7;obtain⟨I3,I4,rfl⟩:=Kd.R_slice F8.out))
       go_ret
       exact⟨eW,pB⟩
     ·rw[if_neg E0] at H;obtain⟨E1,E2⟩:=bI E0;obtain rfl:=Option.some.inj H;go_enter Tryz.func62,Tryz.ntmps62
      go_wp2_with (first|((with_reducible refine gd 1 rfl ?_);refine bxg #[.bool false,.slice a7 b4.length a8,.slice b5 b7.length b6] 26 ?_;intro g5 hg I5 g7 hb;have g8:=gA w hg;have g9:=gA w hg;replace HB:=bB hb;clear hb hg;obtain⟨I6,I7,I8,I9,J0,J1⟩:=bk3 g7)|((with_reducible refine gc 78 rfl ?_);refine gC 78 (some 7) Tryz.func78 #[.slice a7 b4.length a8] ?_;(with_reducible refine(Azy.calls k _ _ b4 true _ ?_ ?_ f4.out).mono ?_);exact cB d7;exact d8.out;rintro e w' ⟨rfl,⟨nd,rfl⟩⟩;refine⟨_,rfl,?_⟩)|(go_at_call 78;(with_reducible refine(Azy.calls k _ _ b7 true _ ?_ ?_ f6.out).mono ?_);exact cB d9;exact e6.out;rintro e w' ⟨rfl,⟨nd,rfl⟩⟩)|((with_reducible refine gc 58 rfl ?_);refine gC 58 (some 36) Tryz.func58 #[.slice a7 b4.length a8,.slice b5 b7.length b6] ?_;(with_reducible refine(Czp.calls k (fun k_=>k_ < w.heap.size) _ _ b4 (fun k_=>k_ < w.heap.size) _ _ b7 D7 D8 _ ?_ ?_ D9.out).mono ?_);exact Kd.V_mk d8.out (Kd.F_below (Kd.C_F (Kd.heap_int .i64) d7.out) pB);exact Kd.V_mk e6.out (Kd.F_below (Kd.C_F (Kd.heap_int .i64) d9.out) pB);rintro e J2 ⟨F7,rfl,t7,hb⟩;refine⟨_,rfl,?_⟩;have F8:=rL (Kd.R_mono (ok':=fun k_=>True) t7 (fun _ hk_=>trivial));replace g7:=kb g7 hb;replace HB:=bB hb;clear hb t7))
      go_ret
      exact⟨eW,pB⟩
  ·obtain rfl:=bN c5;rw[if_neg nF] at H
   obtain rfl:=Option.some.inj H;go_enter Tryz.func62,Tryz.ntmps62
   go_wp2_with (first|((with_reducible refine gd 1 rfl ?_);refine bxg #[.bool a6,.slice a7 b4.length a8,.slice b5 b7.length b6] 26 ?_;intro g5 hg J3 g7 hb;have g8:=gA w hg;have g9:=gA w hg;replace HB:=bB hb;clear hb hg;obtain⟨J4,J5,J6,J7,J8,J9⟩:=bk3 g7)|((with_reducible refine gc 78 rfl ?_);refine gC 78 (some 7) Tryz.func78 #[.slice a7 b4.length a8] ?_;(with_reducible refine(Azy.calls k _ _ b4 true _ ?_ ?_ f4.out).mono ?_);exact cB d7;exact d8.out;rintro e w' ⟨rfl,⟨nd,rfl⟩⟩;refine⟨_,rfl,?_⟩)|(go_at_call 78;(with_reducible refine(Azy.calls k _ _ b7 false _ ?_ ?_ f6.out).mono ?_);exact cB d9;exact e6.out;rintro e w' ⟨rfl,⟨nd,rfl⟩⟩))
   go_ret
   exact⟨eW,pB⟩
 ·obtain rfl:=bN c3;rw[if_neg nF] at H
  obtain rfl:=Option.some.inj H;go_enter Tryz.func62,Tryz.ntmps62
  go_wp2_with (first|((with_reducible refine gd 1 rfl ?_);refine bxg #[.bool a6,.slice a7 b4.length a8,.slice b5 b7.length b6] 26 ?_;intro g5 hg K0 g7 hb;have g8:=gA w hg;have g9:=gA w hg;replace HB:=bB hb;clear hb hg;obtain⟨K1,K2,K3,K4,K5,K6⟩:=bk3 g7)|((with_reducible refine gc 78 rfl ?_);refine gC 78 (some 7) Tryz.func78 #[.slice a7 b4.length a8] ?_;(with_reducible refine(Azy.calls k _ _ b4 false _ ?_ ?_ f4.out).mono ?_);exact cB d7;exact d8.out;rintro e w' ⟨rfl,⟨nd,rfl⟩⟩;refine⟨_,rfl,?_⟩))
  go_ret
  exact⟨eW,pB⟩

def Dzj.l0:Nat→List (S26)→Int→Int→Option (Bool)
 | 0,_,_,_=>none
 | k+1,x5,x6,x7=>if x7 < x6 then(if 0≤x7 then(if x7 < (x5.length:Int) then((Gzp.f k ((rd_T26 x5 x7).f0) ((rd_T26 x5 x7).f1) ((rd_T26 x5 x7).f2)).bind fun t295=>(if t295=true then(Dzj.l0 k x5 x6 (wrap64 (x7+1))) else(some false))) else(none)) else(none)) else(some true)
def Dzj.f (k:Nat) (l0:List (S26)):Option (Bool):=Dzj.l0 k l0 (l0.length:Int) 0
theorem Dzj.mono_l:∀ k,(∀ a6 a7 a8,LeO (Dzj.l0 k a6 a7 a8) (Dzj.l0 (k+1) a6 a7 a8))
 | 0=>fun _ _ _ r h=>by simp [Dzj.l0] at h
 | k+1=>by
  have ih0:=Dzj.mono_l k
  ·intro a6 a7 a8;unfold Dzj.l0;have i0:=@Gzp.mono;exact mM
theorem Dzj.mono:∀ a6 k,LeO (Dzj.f k a6) (Dzj.f (k+1) a6):=by
 intro a6 k;have ih0:=Dzj.mono_l k;unfold Dzj.f;have i0:=@Gzp.mono;exact mM
theorem Dzj.calls (k:Nat) (a6:Option Addr) (a7:Nat) (l0:List (S26)) (r:Bool) (w:World) (a8:Kd.C k26 w a6 l0.length l0) (b4:l0.length≤a7) (h:Dzj.f k l0=some r) :
  Calls Tryz.prog 43 #[.slice a6 l0.length a7] w fun e w'=>e=.returned (.bool r)∧Below w.heap.size w w':=by
 have hu26:=Tryz.underlying26;have b5:=aM a8;have b6:=aM b4;clear a8 b4;have HB:=aM (Below.refl w.heap.size w);have H:(Dzj.l0 k l0 (l0.length:Int) 0)=some r:=h;clear h;have H':=aM H;clear H;go_enter Tryz.func43,Tryz.ntmps43
 go_wp2
 go_loopg [7] k (fun kq b7 w'=>∃ (b8:Int),b7=.int .i64 b8∧Aside0 (Dzj.l0 kq l0 (l0.length:Int) b8=some r)∧Aside0 (kq≤k)∧Aside0 (Below w.heap.size w w'))
 case atStart=>exact⟨(0),sD,H',⟨Nat.le_refl _⟩,⟨pB⟩⟩
 case round =>
  clear H';obtain⟨b8,rfl,HA,b9,HB⟩:=hrel;cases gk with
  | zero=>exact absurd HA.out (by simp [Dzj.l0])
  | succ k1 =>
   have H:=HA.out;clear HA;simp only[Dzj.l0] at H;by_cases c2:b8 < (l0.length:Int)
   ·rw[if_pos c2] at H;have d0:=dE c2;clear c2;obtain⟨d6,H⟩:=iN H;obtain⟨d7,H⟩:=iN H;obtain⟨d8,d9,H⟩:=bT H;(try dsimp only at H);by_cases c6:d8=true
    ·subst c6;rw[if_pos rfl] at H;have H':=aM H;clear H;obtain⟨e6,e7,e8,e9,f3,f4,f6,f9,g4,g5,g6,g7,g8⟩:=at_T26 b5.out b8 (oE aS) (oE aS);cases f4
     replace f6:=hB HB f6;replace f9:=hB HB f9;replace g4:=hB HB g4;have g9:=aM g6;have j3:=aM g5;clear g6 g5;have j4:=aM g8;have j5:=aM g7;clear g8 g7;have j6:=eT (b8);have j7:=eU (b8) l0.length;go_wp2_with (first|((with_reducible refine gd 4 rfl ?_);refine bx #[.bool false,.slice none 0 0,.slice none 0 0] 26 ?_;intro j8 hg j9 l5 hb;have l6:=gA w hg;have l7:=gA w hg;replace HB:=bB hb;clear hb hg;obtain⟨l8,l9,m0,m3,m4,m5⟩:=bk3 l5)|((with_reducible refine gc 62 rfl ?_);refine gC 62 (some 12) Tryz.func62 #[.agg #[.bool ((rd_T26 l0 b8).f0),.slice e7 ((rd_T26 l0 b8).f1).length e8,.slice e9 ((rd_T26 l0 b8).f2).length f3]] ?_;(with_reducible refine(Gzp.calls k1 ((rd_T26 l0 b8).f0) _ _ ((rd_T26 l0 b8).f1) _ _ ((rd_T26 l0 b8).f2) true _ ?_ ?_ ?_ ?_ d9.out).mono ?_);exact Kd.C_below g9.out pB;exact j3.out;exact Kd.C_below j4.out pB;exact j5.out;rintro e m6 ⟨rfl,hb⟩;refine⟨_,rfl,?_⟩;replace l5:=kP (o':=.cells #[.bool ((rd_T26 l0 b8).f0),.slice e7 ((rd_T26 l0 b8).f1).length e8,.slice e9 ((rd_T26 l0 b8).f2).length f3] 26 (0,0)) l5 hb;replace HB:=bB hb;clear hb))
     go_roundg k1
     case measure=>have:=b9.out;omega
     case rel=>exact⟨(wrap64 (b8+1)),sD,H',⟨by have:=b9.out;omega⟩,⟨pB⟩⟩
    ·obtain rfl:=bN c6;rw[if_neg nF] at H
     obtain rfl:=Option.some.inj H;obtain⟨e6,e7,e8,e9,f3,f4,f6,f9,g4,g5,g6,g7,g8⟩:=at_T26 b5.out b8 (oE aS) (oE aS);cases f4
     replace f6:=hB HB f6;replace f9:=hB HB f9;replace g4:=hB HB g4;have g9:=aM g6;have j3:=aM g5;clear g6 g5;have j4:=aM g8;have j5:=aM g7;clear g8 g7;have j6:=eT (b8);have j7:=eU (b8) l0.length;go_wp2_with (first|((with_reducible refine gd 4 rfl ?_);refine bx #[.bool false,.slice none 0 0,.slice none 0 0] 26 ?_;intro j8 hg m7 l5 hb;have l6:=gA w hg;have l7:=gA w hg;replace HB:=bB hb;clear hb hg;obtain⟨m8,m9,n0,n6,n7,n8⟩:=bk3 l5)|((with_reducible refine gc 62 rfl ?_);refine gC 62 (some 12) Tryz.func62 #[.agg #[.bool ((rd_T26 l0 b8).f0),.slice e7 ((rd_T26 l0 b8).f1).length e8,.slice e9 ((rd_T26 l0 b8).f2).length f3]] ?_;(with_reducible refine(Gzp.calls k1 ((rd_T26 l0 b8).f0) _ _ ((rd_T26 l0 b8).f1) _ _ ((rd_T26 l0 b8).f2) false _ ?_ ?_ ?_ ?_ d9.out).mono ?_);exact Kd.C_below g9.out pB;exact j3.out;exact Kd.C_below j4.out pB;exact j5.out;rintro e n9 ⟨rfl,hb⟩;refine⟨_,rfl,?_⟩;replace l5:=kP (o':=.cells #[.bool ((rd_T26 l0 b8).f0),.slice e7 ((rd_T26 l0 b8).f1).length e8,.slice e9 ((rd_T26 l0 b8).f2).length f3] 26 (0,0)) l5 hb;replace HB:=bB hb;clear hb))
     go_ret
     exact⟨eW,pB⟩
   ·rw[if_neg c2] at H;have d0:decide (b8 < (l0.length:Int))=false:=decide_eq_false c2;clear c2;obtain rfl:=Option.some.inj H;go_wp2
    go_ret
    exact⟨eW,pB⟩


def Fzp.f (k:Nat) (l0:List Int):Option (List Int × Int):=(Bzf.f k l0).bind fun t301=>(if(t301.length:Int) > 48 then(some (([]:List Int),2)) else(some (t301,0)))
theorem Fzp.mono:∀ a6 k,LeO (Fzp.f k a6) (Fzp.f (k+1) a6):=by
 intro a6 k;unfold Fzp.f;have i0:=@Bzf.mono;exact mM
theorem Fzp.calls (k:Nat) (a6:Nat→Prop) (u9000_:Value) (l0:List Int) (a7:List Int) (a8:Int) (b4 w:World) (hB:Below b4.heap.size b4 w) (b5:Kd.R (Kd.int .i64) 3 w b4.heap.size a6 u9000_ l0) (h:Fzp.f k l0=some (a7,a8)) :
  Calls Tryz.prog 84 #[u9000_] w fun e w'=>∃ v0_:Value,e=.returned (.tuple #[v0_,.int .i64 a8])∧Kd.R (Kd.int .i64) 3 w' b4.heap.size (fun k_=>(a6 k_∨w.heap.size≤k_)) v0_ a7∧Below b4.heap.size b4 w'∧Kept w w' (fun k_=>a6 k_):=by
 have b6:=aM (show Kd.R (Kd.int .i64) 3 w b4.heap.size (fun k_=>(a6 k_∨w.heap.size≤k_)) u9000_ l0 from Kd.R_mono b5 (fun k_ hk=>(.inl hk)))
 have HK:=aM (Kept.refl w (fun k_=>a6 k_))
 have HW0:=aM hB.size;have HB:=aM hB;clear hB;have H:((Bzf.f k l0).bind fun b7=>(if(b7.length:Int) > 48 then(some (([]:List Int),2)) else(some (b7,0))))=some (a7,a8):=h
 clear h;obtain⟨b7,b8,H⟩:=bT H;(try dsimp only at H);by_cases c3:(b7.length:Int) > 48
 ·rw[if_pos c3] at H;have b9:decide (48 < (b7.length:Int))=true:=dE c3;have d0:decide (48 < b7.length)=true:=dE (by omega)
  clear c3;obtain⟨rfl,rfl⟩:=q2 H;obtain⟨d6,d7,rfl⟩:=Kd.R_slice b6.out;go_enter Tryz.func84,Tryz.ntmps84
  go_wp2_with (first|((with_reducible refine gc 80 rfl ?_);refine gC 80 (some 6) Tryz.func80 #[.slice d6 l0.length d7] ?_;(with_reducible refine(Bzf.calls k (fun k_=>some k_=(.slice d6 l0.length d7:Value).ownBlock) (.slice d6 l0.length d7) l0 b7 b4 _ ?_ ?_ b8.out).mono ?_);exact pB;exact Kd.R_tight rfl b6.out;rintro e d8 ⟨d9,rfl,b5,hb,hkp⟩;refine⟨_,rfl,?_⟩;have e6:=aM (Kd.R_mono (ok':=fun k_=>(a6 k_∨w.heap.size≤k_)) b5 (fun k_ hk_=>Or.elim hk_ (fun hs_=>(b6.out.1 k_ (hs_).symm)) (fun hn_=>(.inr (Nat.le_trans (by first|exact HK.out.1|exact(show Kept w _ (fun k_=>a6 k_) from kK HK).1) hn_)))));replace HK:=aM (Kept.then_ (S:=(fun k_=>a6 k_)) (kK HK) hkp (fun k_ hs_=>(fun e_=>(b6.out.1 k_ e_.symm)) hs_));replace HB:=aM (hb);clear b6 hb hkp b5;obtain⟨e7,e8,rfl⟩:=Kd.R_slice e6.out))
  go_ret2
  exact⟨_,eW,nK,pB,kK HK⟩
 ·rw[if_neg c3] at H;have b9:decide (48 < (b7.length:Int))=false:=decide_eq_false c3;have d0:decide (48 < b7.length)=false:=decide_eq_false (by omega)
  clear c3;obtain⟨rfl,rfl⟩:=q2 H;obtain⟨e9,f3,rfl⟩:=Kd.R_slice b6.out;go_enter Tryz.func84,Tryz.ntmps84
  go_wp2_with (first|((with_reducible refine gc 80 rfl ?_);refine gC 80 (some 6) Tryz.func80 #[.slice e9 l0.length f3] ?_;(with_reducible refine(Bzf.calls k (fun k_=>some k_=(.slice e9 l0.length f3:Value).ownBlock) (.slice e9 l0.length f3) l0 b7 b4 _ ?_ ?_ b8.out).mono ?_);exact pB;exact Kd.R_tight rfl b6.out;rintro e f4 ⟨d9,rfl,b5,hb,hkp⟩;refine⟨_,rfl,?_⟩;have e6:=aM (Kd.R_mono (ok':=fun k_=>(a6 k_∨w.heap.size≤k_)) b5 (fun k_ hk_=>Or.elim hk_ (fun hs_=>(b6.out.1 k_ (hs_).symm)) (fun hn_=>(.inr (Nat.le_trans (by first|exact HK.out.1|exact(show Kept w _ (fun k_=>a6 k_) from kK HK).1) hn_)))));replace HK:=aM (Kept.then_ (S:=(fun k_=>a6 k_)) (kK HK) hkp (fun k_ hs_=>(fun e_=>(b6.out.1 k_ e_.symm)) hs_));replace HB:=aM (hb);clear b6 hb hkp b5;obtain⟨f6,f9,rfl⟩:=Kd.R_slice e6.out))
  go_ret2
  exact⟨_,eW,rX e6.out,pB,kK HK⟩


mutual
def Czf.j0:Nat→List Int→List Int→Bool→Option (List Int × Int)
 | 0,_,_,_=>none
 | k+1,x0,x1,x18=>if x18=true then(some (([]:List Int),3)) else(if 0≤(wrap64 ((wrap64 ((x0.length:Int)+(x1.length:Int)))+1)) then(if(wrap64 ((wrap64 ((x0.length:Int)+(x1.length:Int)))+1):Int).toNat≤35184372088832 then(Czf.l0 k x0 x1 (List.replicate (wrap64 ((wrap64 ((x0.length:Int)+(x1.length:Int)))+1):Int).toNat 0) (x0.length:Int) 0) else(none)) else(none))
def Czf.l0:Nat→List Int→List Int→List Int→Int→Int→Option (List Int × Int)
 | 0,_,_,_,_,_=>none
 | k+1,x0,x1,x6,x27,x28=>if x28 < x27 then(Czf.l1 k x0 x1 x6 x28 0 x27 x28 (x1.length:Int) 0) else((Fzp.f k x6).bind fun bt309=>(some (bt309.1,bt309.2)))
def Czf.l1:Nat→List Int→List Int→List Int→Int→Int→Int→Int→Int→Int→Option (List Int × Int)
 | 0,_,_,_,_,_,_,_,_,_=>none
 | k+1,x0,x1,x6,x7,x8,x27,x28,x32,x33=>if x33 < x32 then(if 0≤(wrap64 (x7+x33)) then(if(wrap64 (x7+x33)) < (x6.length:Int) then(if 0≤x7 then(if x7 < (x0.length:Int) then(if 0≤x33 then(if x33 < (x1.length:Int) then(Czf.l1 k x0 x1 (x6.set ((wrap64 (x7+x33)):Int).toNat (Int.tmod (wrap64 ((wrap64 ((rd x6 (wrap64 (x7+x33)))+(wrap64 ((rd x0 x7) * (rd x1 x33)))))+x8)) 1000000000)) x7 (wrap64 (Int.tdiv (wrap64 ((wrap64 ((rd x6 (wrap64 (x7+x33)))+(wrap64 ((rd x0 x7) * (rd x1 x33)))))+x8)) 1000000000)) x27 x28 x32 (wrap64 (x33+1))) else(none)) else(none)) else(none)) else(none)) else(none)) else(none)) else(if 0≤(wrap64 (x7+(x1.length:Int))) then(if(wrap64 (x7+(x1.length:Int))) < (x6.length:Int) then(Czf.l0 k x0 x1 (x6.set ((wrap64 (x7+(x1.length:Int))):Int).toNat x8) x27 (wrap64 (x28+1))) else(none)) else(none))
end
def Czf.f (k:Nat) (l0:List Int) (l1:List Int):Option (List Int × Int):=(Azy.f k l0).bind fun t304=>(if t304=true then((Azy.f k l1).bind fun t305=>(Czf.j0 k l0 l1 (!t305))) else(Czf.j0 k l0 l1 true))
theorem Czf.mono_l:∀ k,(∀ a6 a7 a8,LeO (Czf.j0 k a6 a7 a8) (Czf.j0 (k+1) a6 a7 a8))∧(∀ a6 a7 a8 b4 b5,LeO (Czf.l0 k a6 a7 a8 b4 b5) (Czf.l0 (k+1) a6 a7 a8 b4 b5))∧(∀ a6 a7 a8 b4 b5 b6 b7 b8 b9,LeO (Czf.l1 k a6 a7 a8 b4 b5 b6 b7 b8 b9) (Czf.l1 (k+1) a6 a7 a8 b4 b5 b6 b7 b8 b9))
 | 0=>⟨fun _ _ _ r h=>by simp [Czf.j0] at h,fun _ _ _ _ _ r h=>by simp [Czf.l0] at h,fun _ _ _ _ _ _ _ _ _ r h=>by simp [Czf.l1] at h⟩
 | k+1=>by
  obtain⟨ih0,ih1,ih2⟩:=Czf.mono_l k;have i0:=@Azy.mono;have i1:=@Fzp.mono;refine⟨?_,?_,?_⟩
  ·intro a6 a7 a8;unfold Czf.j0;exact mM
  ·intro a6 a7 a8 b4 b5;unfold Czf.l0;exact mM
  ·intro a6 a7 a8 b4 b5 b6 b7 b8 b9;unfold Czf.l1;exact mM
theorem Czf.mono:∀ a6 a7 k,LeO (Czf.f k a6 a7) (Czf.f (k+1) a6 a7):=by
 intro a6 a7 k;obtain⟨ih0,ih1,ih2⟩:=Czf.mono_l k;unfold Czf.f;have i0:=@Azy.mono;have i1:=@Fzp.mono;exact mM
theorem Czf.calls (k:Nat) (a6:Option Addr) (a7:Nat) (l0:List Int) (a8:Option Addr) (b4:Nat) (l1:List Int) (b5:List Int) (b6:Int) (w:World) (b7:Kd.C (Kd.int .i64) w a6 l0.length l0) (b8:l0.length≤a7) (b9:Kd.C (Kd.int .i64) w a8 l1.length l1) (d0:l1.length≤b4) (h:Czf.f k l0 l1=some (b5,b6)) :
  Calls Tryz.prog 64 #[.slice a6 l0.length a7,.slice a8 l1.length b4] w fun e w'=>∃ v0_:Value,e=.returned (.tuple #[v0_,.int .i64 b6])∧Kd.R (Kd.int .i64) 3 w' w.heap.size (fun _=>True) v0_ b5∧Below w.heap.size w w':=by
 have d6:=aM b7;have d7:=aM b8;clear b7 b8;have d8:=aM b9;have d9:=aM d0;clear b9 d0;have HB:=aM (Below.refl w.heap.size w);have H:((Azy.f k l0).bind fun e6=>(if e6=true then((Azy.f k l1).bind fun e7=>(Czf.j0 k l0 l1 (!e7))) else(Czf.j0 k l0 l1 true)))=some (b5,b6):=h
 clear h;have e8:=aM H;clear H;go_enter Tryz.func64,Tryz.ntmps64
 go_upto_region 1 with (fail)
 repeat(go_quiet (fail);go_upto_region 1 with (fail))
 go_cut [18] (fun e9 wc=>∃ (kq:Nat) (f3:Bool),e9=.bool f3∧Aside0 (Czf.j0 kq l0 l1 f3=some (b5,b6))∧Aside0 (kq≤k)∧Aside0 (Below w.heap.size w wc))
 case first =>
  have H:=e8.out;clear e8;obtain⟨e6,f4,H⟩:=bT H;(try dsimp only at H);by_cases c5:e6=true
  ·subst c5;rw[if_pos rfl] at H;obtain⟨e7,f6,H⟩:=bT H;(try dsimp only at H);have H':=aM H;clear H;have fl_:True:=trivial;repeat((first|clear fl_|go_quiet (first|(go_at_call 78;(with_reducible refine(Azy.calls k _ _ l0 true _ ?_ ?_ f4.out).mono ?_);exact cB d6;exact d7.out;rintro e w' ⟨rfl,⟨nd,rfl⟩⟩;(try exact dD))|(go_at_call 78;(with_reducible refine(Azy.calls k _ _ l1 e7 _ ?_ ?_ f6.out).mono ?_);exact cB d8;exact d9.out;rintro e w' ⟨rfl,⟨nd,rfl⟩⟩;(try exact dD))));go_wp2_with (first|(go_at_call 78;(with_reducible refine(Azy.calls k _ _ l0 true _ ?_ ?_ f4.out).mono ?_);exact cB d6;exact d7.out;rintro e w' ⟨rfl,⟨nd,rfl⟩⟩;(try exact dD))|(go_at_call 78;(with_reducible refine(Azy.calls k _ _ l1 e7 _ ?_ ?_ f6.out).mono ?_);exact cB d8;exact d9.out;rintro e w' ⟨rfl,⟨nd,rfl⟩⟩;(try exact dD))))
   go_meet
   case rel=>exact⟨_,(!e7),sD,H',⟨by first|omega|exact Nat.le_refl _⟩,⟨pB⟩⟩
  ·obtain rfl:=bN c5;rw[if_neg nF] at H
   have H':=aM H;clear H;have fl_:True:=trivial;repeat((first|clear fl_|go_quiet (first|(go_at_call 78;(with_reducible refine(Azy.calls k _ _ l0 false _ ?_ ?_ f4.out).mono ?_);exact cB d6;exact d7.out;rintro e w' ⟨rfl,⟨nd,rfl⟩⟩;(try exact dD))));go_wp2_with (first|(go_at_call 78;(with_reducible refine(Azy.calls k _ _ l0 false _ ?_ ?_ f4.out).mono ?_);exact cB d6;exact d7.out;rintro e w' ⟨rfl,⟨nd,rfl⟩⟩;(try exact dD))))
   go_meet
   case rel=>exact⟨_,(true),sD,H',⟨by first|omega|exact Nat.le_refl _⟩,⟨pB⟩⟩
 case rest =>
  clear e8;try clear b4
  obtain⟨kq,f3,rfl,HA,f9,HB⟩:=hcut;cases kq with
  | zero=>exact absurd HA.out (by simp [Czf.j0])
  | succ g4 =>
   have H:=HA.out;clear HA;simp only[Czf.j0] at H;by_cases c7:f3=true
   ·subst c7;rw[if_pos rfl] at H;obtain⟨rfl,rfl⟩:=q2 H;go_wp2
    repeat(go_quiet (fail);try go_wp2)
    go_ret2
    exact⟨_,eW,nK,pB⟩
   ·obtain rfl:=bN c7;rw[if_neg nF] at H
    obtain⟨g5,g6⟩:∃ j_:Int,(wrap64 ((wrap64 ((l0.length:Int)+(l1.length:Int)))+1))=j_:=⟨_,rfl⟩;replace H:(if 0≤(g5) then(if(g5:Int).toNat≤35184372088832 then(Czf.l0 g4 l0 l1 (List.replicate (g5:Int).toNat 0) (l0.length:Int) 0) else(none)) else(none))=some (b5,b6):=by first|(rw[g6] at H;exact H)|(simp only[g6] at H ⊢;exact H)
    have g7:(IntKind.i64.wrap ((wrap64 ((l0.length:Int)+(l1.length:Int)))+1))=g5:=(i64_w _).trans g6;by_cases c9:0≤(g5)
    ·rw[if_pos c9] at H;have g8:=eq_true c9;have g9:=dE c9;clear c9;obtain⟨c10,H⟩:=iO H;have j3:=eq_true c10;have j4:decide ((g5:Int).toNat≤35184372088832)=true:=dE c10;clear c10;obtain⟨j5,j6⟩:∃ y_:List Int,y_=(List.replicate (g5:Int).toNat 0):=⟨_,rfl⟩;replace H:(Czf.l0 g4 l0 l1 j5 (l0.length:Int) 0)=some (b5,b6):=yE j6 H
     have j7:=aM j6;clear j6;have H':=aM H;clear H;have fl_:True:=trivial;repeat((first|clear fl_|go_quiet (first|((with_reducible refine gate_dst (N:=25) rfl ?_);refine Kd.R_make (Kd.int .i64) _ 3 rfl (N:=25) rfl 22 _ _ rfl g5 rfl rfl Tryz.underlying22 (.int .i64 0) 8 info3 rfl (by decide) (by omega) 0 (ok:=fun _=>True) (okp:=fun _=>True) rfl (fun _ hk=>hk) trivial (oE aS) (Nat.le_trans (Nat.mul_le_mul_right _ (oE aS:g5.toNat≤35184372088832)) (by omega)) (Below.refl _ _) (Nat.le_refl _) ?_;intro j8 j9 l5 hb hg_ hnew_;clear hg_ hnew_;replace l5:=rY j7 l5;have l6:=rL l5;replace HB:=bB hb;clear hb l5)));go_wp2_with (first|((with_reducible refine gate_dst (N:=25) rfl ?_);refine Kd.R_make (Kd.int .i64) _ 3 rfl (N:=25) rfl 22 _ _ rfl g5 rfl rfl Tryz.underlying22 (.int .i64 0) 8 info3 rfl (by decide) (by omega) 0 (ok:=fun _=>True) (okp:=fun _=>True) rfl (fun _ hk=>hk) trivial (oE aS) (Nat.le_trans (Nat.mul_le_mul_right _ (oE aS:g5.toNat≤35184372088832)) (by omega)) (Below.refl _ _) (Nat.le_refl _) ?_;intro j8 j9 l5 hb hg_ hnew_;clear hg_ hnew_;replace l5:=rY j7 l5;have l6:=rL l5;replace HB:=bB hb;clear hb l5)))
     go_loopg [28] g4 (fun kq l7 w'=>∃ (l8:List Int) (l9:Int),l7=.int .i64 l9∧Aside0 (Czf.l0 kq l0 l1 l8 (l0.length:Int) l9=some (b5,b6))∧Aside0 (kq≤g4)∧Aside0 (Kd.R (Kd.int .i64) 3 w' w.heap.size (fun _=>True) j8 l8)∧Aside0 (Below w.heap.size w w'))
     case atStart=>exact⟨(j5),(0),sD,H',⟨Nat.le_refl _⟩,⟨rX l6.out⟩,⟨pB⟩⟩
     case round =>
      clear H';try clear b4
      obtain⟨l8,l9,rfl,HA,m0,m3,HB⟩:=hrel;cases gk with
      | zero=>exact absurd HA.out (by simp [Czf.l0])
      | succ k2 =>
       have H:=HA.out;clear HA;simp only[Czf.l0] at H;by_cases m4:l9 < (l0.length:Int)
       ·rw[if_pos m4] at H;have m5:=dE m4;clear m4;have H':=aM H;clear H;go_wp2
        repeat(go_quiet (fail);try go_wp2)
        go_loopg [8,33] k2 (fun kq m6 m7 w'=>∃ (m8:List Int) (m9:Int) (n0:Int),m6=.int .i64 m9∧m7=.int .i64 n0∧Aside0 (Czf.l1 kq l0 l1 m8 l9 m9 (l0.length:Int) l9 (l1.length:Int) n0=some (b5,b6))∧Aside0 (kq≤k2)∧Aside0 (Kd.R (Kd.int .i64) 3 w' w.heap.size (fun _=>True) j8 m8)∧Aside0 (Below w.heap.size w w'))
        case atStart=>exact⟨(l8),(0),(0),sD,sD,H',⟨Nat.le_refl _⟩,⟨rX m3.out⟩,⟨pB⟩⟩
        case round =>
         clear H';try clear b4
         obtain⟨m8,m9,n0,rfl,rfl,HA,n6,m3,HB⟩:=hrel;cases gk with
         | zero=>exact absurd HA.out (by simp [Czf.l1])
         | succ k3 =>
          have H:=HA.out;clear HA;simp only[Czf.l1] at H;by_cases n7:n0 < (l1.length:Int)
          ·rw[if_pos n7] at H;have n8:=dE n7;clear n7;obtain⟨n9,o0⟩:∃ j_:Int,(wrap64 (l9+n0))=j_:=⟨_,rfl⟩;replace H:(if 0≤(n9) then(if(n9) < (m8.length:Int) then(if 0≤l9 then(if l9 < (l0.length:Int) then(if 0≤n0 then(if n0 < (l1.length:Int) then(Czf.l1 k3 l0 l1 (m8.set ((n9):Int).toNat (Int.tmod (wrap64 ((wrap64 ((rd m8 (n9))+(wrap64 ((rd l0 l9) * (rd l1 n0)))))+m9)) 1000000000)) l9 (wrap64 (Int.tdiv (wrap64 ((wrap64 ((rd m8 (n9))+(wrap64 ((rd l0 l9) * (rd l1 n0)))))+m9)) 1000000000)) (l0.length:Int) l9 (l1.length:Int) (wrap64 (n0+1))) else(none)) else(none)) else(none)) else(none)) else(none)) else(none))=some (b5,b6):=by first|(rw[o0] at H;exact H)|(simp only[o0] at H ⊢;exact H)
           have o8:(IntKind.i64.wrap (l9+n0))=n9:=(i64_w _).trans o0;obtain⟨o9,H⟩:=iN H;obtain⟨p0,H⟩:=iN H;obtain⟨p3,H⟩:=iN H;obtain⟨p4,H⟩:=iN H;obtain⟨p5,H⟩:=iN H;obtain⟨r5,H⟩:=iN H;obtain⟨r6,r7⟩:∃ y_:List Int,y_=(m8.set ((n9):Int).toNat (Int.tmod (wrap64 ((wrap64 ((rd m8 (n9))+(wrap64 ((rd l0 l9) * (rd l1 n0)))))+m9)) 1000000000)):=⟨_,rfl⟩;replace H:(Czf.l1 k3 l0 l1 r6 l9 (wrap64 (Int.tdiv (wrap64 ((wrap64 ((rd m8 (n9))+(wrap64 ((rd l0 l9) * (rd l1 n0)))))+m9)) 1000000000)) (l0.length:Int) l9 (l1.length:Int) (wrap64 (n0+1)))=some (b5,b6):=yE r7 H
           have r8:=aM r7;clear r7;have H':=aM H;clear H;obtain⟨r9,t6,rfl⟩:=Kd.R_slice m3.out;obtain⟨t7,t8,z1,z2,z6⟩:=aI (Kd.R_reads' m3.out).2.2 (n9);cases t8;obtain⟨z7,z8,B0,B5,B6⟩:=aI d6.out l9;cases z8
           replace B0:=hB HB B0;obtain⟨B8,B9,C0,C1,C2⟩:=aI d8.out n0;cases B9
           replace C0:=hB HB C0;have C3:0≤((n9):Int):=oE aS
           have C4:((n9):Int) < ((m8.length:Int):Int):=oE aS
           obtain⟨C6,C7,C8,C9,D0,D1,D2⟩:=Kd.R_form m3.out (by omega)
           (first|cases C8|(injection C8 with ea_ en_ ec_;(first|subst ea_|(injection ea_ with ea_;subst ea_));subst ec_;clear en_))
           have D3:=aM C9;have D4:=aM D2;clear C9 D0 D2;(first|simp only[add_plain] at z1|skip)
           obtain⟨D5,D6⟩:=Kd.R_celln 0 m3.out ((n9):Int) C3 C4;replace C3:=eq_true C3;replace C4:=eq_true C4;have D7:=Kd.R_putg m3.out ((n9):Int) (Int.tmod (wrap64 ((wrap64 ((rd m8 (n9))+(wrap64 ((rd l0 l9) * (rd l1 n0)))))+m9)) 1000000000);have fl_:True:=trivial;repeat((first|clear fl_|go_quiet (first|((with_reducible refine gate_store (t:=3) (p:=62) rfl ?_);(try(rw[drewN_self wr];generalize hq_:World.drewN wr _=wr;have n0_:=aM (Kd.R_at hq_ m3.out);have n1_:=aM (below_at hq_ HB.out);clear hq_ m3 HB;have m3:=n0_;have HB:=n1_;clear n0_ n1_;(try(obtain⟨D5,D6⟩:=Kd.R_celln 0 m3.out ((n9):Int) (of_eq_true C3) (of_eq_true C4)));(try(have D7:=Kd.R_putg m3.out ((n9):Int) (Int.tmod (wrap64 ((wrap64 ((rd m8 (n9))+(wrap64 ((rd l0 l9) * (rd l1 n0)))))+m9)) 1000000000)))));refine store_event (t:=3) (p:=62) (v:=?vo_w25) (w1:=(wr.setCell ⟨C6,((n9):Int).toNat,none⟩ (.int .i64 (Int.tmod (wrap64 ((wrap64 ((rd m8 (n9))+(wrap64 ((rd l0 l9) * (rd l1 n0)))))+m9)) 1000000000)))) ?hg ?ho ?hn ?hr ?_;(case ho=>rfl);(case hg=>rfl);(case hn=>rfl);(case hr=>first|(go_simp;done)|(go_simp;rfl));intro D8 hw;have hg:wr.grownBy D8 (some C6):=(by rw[hw];exact D7.2);have hp_:Kd.R (Kd.int .i64) 3 D8 w.heap.size (fun _=>True) (.slice (some ⟨C6,0,none⟩) m8.length t6) r6:=(by rw[hw,r8.out];exact D7.1);clear D7;replace m3:=aM (hp_);replace HB:=aM ((by rw[hw];exact below_set (HB.out) D3.out:Below w.heap.size w D8));clear hg hw hp_)));go_wp2_with (first|((with_reducible refine gate_store (t:=3) (p:=62) rfl ?_);(try(rw[drewN_self wr];generalize hq_:World.drewN wr _=wr;have n0_:=aM (Kd.R_at hq_ m3.out);have n1_:=aM (below_at hq_ HB.out);clear hq_ m3 HB;have m3:=n0_;have HB:=n1_;clear n0_ n1_;(try(obtain⟨D5,D6⟩:=Kd.R_celln 0 m3.out ((n9):Int) (of_eq_true C3) (of_eq_true C4)));(try(have D7:=Kd.R_putg m3.out ((n9):Int) (Int.tmod (wrap64 ((wrap64 ((rd m8 (n9))+(wrap64 ((rd l0 l9) * (rd l1 n0)))))+m9)) 1000000000)))));refine store_event (t:=3) (p:=62) (v:=?vo_w25) (w1:=(wr.setCell ⟨C6,((n9):Int).toNat,none⟩ (.int .i64 (Int.tmod (wrap64 ((wrap64 ((rd m8 (n9))+(wrap64 ((rd l0 l9) * (rd l1 n0)))))+m9)) 1000000000)))) ?hg ?ho ?hn ?hr ?_;(case ho=>rfl);(case hg=>rfl);(case hn=>rfl);(case hr=>first|(go_simp;done)|(go_simp;rfl));intro D8 hw;have hg:wr.grownBy D8 (some C6):=(by rw[hw];exact D7.2);have hp_:Kd.R (Kd.int .i64) 3 D8 w.heap.size (fun _=>True) (.slice (some ⟨C6,0,none⟩) m8.length t6) r6:=(by rw[hw,r8.out];exact D7.1);clear D7;replace m3:=aM (hp_);replace HB:=aM ((by rw[hw];exact below_set (HB.out) D3.out:Below w.heap.size w D8));clear hg hw hp_)))
           go_roundg k3
           case measure=>have:=f9.out;have:=m0.out;have:=n6.out;omega
           case rel=>exact⟨(r6),(wrap64 (Int.tdiv (wrap64 ((wrap64 ((rd m8 (n9))+(wrap64 ((rd l0 l9) * (rd l1 n0)))))+m9)) 1000000000)),(wrap64 (n0+1)),(by first|rfl|(simp;done)|(simp only[← o0] <;> (first|rfl|simp))|(simp [*];done)),sD,H',⟨by have:=f9.out;have:=m0.out;have:=n6.out;omega⟩,⟨rX m3.out⟩,⟨pB⟩⟩
          ·rw[if_neg n7] at H;have n8:decide (n0 < (l1.length:Int))=false:=decide_eq_false n7;clear n7;obtain⟨D9,E0⟩:∃ j_:Int,(wrap64 (l9+(l1.length:Int)))=j_:=⟨_,rfl⟩;replace H:(if 0≤(D9) then(if(D9) < (m8.length:Int) then(Czf.l0 k3 l0 l1 (m8.set ((D9):Int).toNat m9) (l0.length:Int) (wrap64 (l9+1))) else(none)) else(none))=some (b5,b6):=by first|(rw[E0] at H;exact H)|(simp only[E0] at H ⊢;exact H)
           have E1:(IntKind.i64.wrap (l9+(l1.length:Int)))=D9:=(i64_w _).trans E0;obtain⟨E2,H⟩:=iN H;obtain⟨E3,H⟩:=iN H;obtain⟨E4,E5⟩:∃ y_:List Int,y_=(m8.set ((D9):Int).toNat m9):=⟨_,rfl⟩;replace H:(Czf.l0 k3 l0 l1 E4 (l0.length:Int) (wrap64 (l9+1)))=some (b5,b6):=yE E5 H
           have E6:=aM E5;clear E5;have H':=aM H;clear H;have E7:0≤((D9):Int):=oE aS
           have E8:((D9):Int) < ((m8.length:Int):Int):=oE aS
           obtain⟨E9,F0,F1,F2,F3,F4,F5⟩:=Kd.R_form m3.out (by omega)
           (first|cases F1|(injection F1 with ea_ en_ ec_;(first|subst ea_|(injection ea_ with ea_;subst ea_));subst ec_;clear en_))
           have F6:=aM F2;have F7:=aM F5;clear F2 F3 F5;obtain⟨F8,F9⟩:=Kd.R_celln 0 m3.out ((D9):Int) E7 E8;replace E7:=eq_true E7;replace E8:=eq_true E8;have G0:=Kd.R_putg m3.out ((D9):Int) m9;have fl_:True:=trivial;repeat((first|clear fl_|go_quiet (first|((with_reducible refine gate_store (t:=3) (p:=70) rfl ?_);(try(rw[drewN_self wr];generalize hq_:World.drewN wr _=wr;have n0_:=aM (Kd.R_at hq_ m3.out);have n1_:=aM (below_at hq_ HB.out);clear hq_ m3 HB;have m3:=n0_;have HB:=n1_;clear n0_ n1_;(try(obtain⟨F8,F9⟩:=Kd.R_celln 0 m3.out ((D9):Int) (of_eq_true E7) (of_eq_true E8)));(try(have G0:=Kd.R_putg m3.out ((D9):Int) m9))));refine store_event (t:=3) (p:=70) (v:=?vo_w31) (w1:=(wr.setCell ⟨E9,((D9):Int).toNat,none⟩ (.int .i64 m9))) ?hg ?ho ?hn ?hr ?_;(case ho=>rfl);(case hg=>rfl);(case hn=>rfl);(case hr=>first|(go_simp;done)|(go_simp;rfl));intro G4 hw;have hg:wr.grownBy G4 (some E9):=(by rw[hw];exact G0.2);have hp_:Kd.R (Kd.int .i64) 3 G4 w.heap.size (fun _=>True) (.slice (some ⟨E9,0,none⟩) m8.length F0) E4:=(by rw[hw,E6.out];exact G0.1);clear G0;replace m3:=aM (hp_);replace HB:=aM ((by rw[hw];exact below_set (HB.out) F6.out:Below w.heap.size w G4));clear hg hw hp_)));go_wp2_with (first|((with_reducible refine gate_store (t:=3) (p:=70) rfl ?_);(try(rw[drewN_self wr];generalize hq_:World.drewN wr _=wr;have n0_:=aM (Kd.R_at hq_ m3.out);have n1_:=aM (below_at hq_ HB.out);clear hq_ m3 HB;have m3:=n0_;have HB:=n1_;clear n0_ n1_;(try(obtain⟨F8,F9⟩:=Kd.R_celln 0 m3.out ((D9):Int) (of_eq_true E7) (of_eq_true E8)));(try(have G0:=Kd.R_putg m3.out ((D9):Int) m9))));refine store_event (t:=3) (p:=70) (v:=?vo_w31) (w1:=(wr.setCell ⟨E9,((D9):Int).toNat,none⟩ (.int .i64 m9))) ?hg ?ho ?hn ?hr ?_;(case ho=>rfl);(case hg=>rfl);(case hn=>rfl);(case hr=>first|(go_simp;done)|(go_simp;rfl));intro G4 hw;have hg:wr.grownBy G4 (some E9):=(by rw[hw];exact G0.2);have hp_:Kd.R (Kd.int .i64) 3 G4 w.heap.size (fun _=>True) (.slice (some ⟨E9,0,none⟩) m8.length F0) E4:=(by rw[hw,E6.out];exact G0.1);clear G0;replace m3:=aM (hp_);replace HB:=aM ((by rw[hw];exact below_set (HB.out) F6.out:Below w.heap.size w G4));clear hg hw hp_)))
           go_roundg k3
           case measure=>have:=f9.out;have:=m0.out;have:=n6.out;omega
           case rel=>exact⟨(E4),(wrap64 (l9+1)),sD,H',⟨by have:=f9.out;have:=m0.out;have:=n6.out;omega⟩,⟨rX m3.out⟩,⟨pB⟩⟩
       ·rw[if_neg m4] at H;have m5:decide (l9 < (l0.length:Int))=false:=decide_eq_false m4;clear m4;replace H:=bS H;obtain⟨⟨G5,G6⟩,G7,H⟩:=H;replace H:(some (G5,G6))=some (b5,b6):=H;have G8:=aM G7;clear G7;obtain⟨rfl,rfl⟩:=q2 H;obtain⟨G9,H5,rfl⟩:=Kd.R_slice m3.out;have fl_:True:=trivial;repeat((first|clear fl_|go_quiet (first|(go_at_call 84;(with_reducible refine(Fzp.calls k2 (fun k_=>some k_=(.slice G9 l8.length H5:Value).ownBlock) (.slice G9 l8.length H5) l8 G5 G6 w _ ?_ ?_ G8.out).mono ?_);exact pB;exact Kd.R_tight rfl m3.out;rintro e H6 ⟨H7,rfl,H8,hb,hkp⟩;have H9:=aM (Kd.R_mono (ok':=fun k_=>True) H8 (fun k_ hk_=>trivial));replace HB:=aM (hb);clear m3 hb hkp H8)));go_wp2_with (first|(go_at_call 84;(with_reducible refine(Fzp.calls k2 (fun k_=>some k_=(.slice G9 l8.length H5:Value).ownBlock) (.slice G9 l8.length H5) l8 G5 G6 w _ ?_ ?_ G8.out).mono ?_);exact pB;exact Kd.R_tight rfl m3.out;rintro e H6 ⟨H7,rfl,H8,hb,hkp⟩;have H9:=aM (Kd.R_mono (ok':=fun k_=>True) H8 (fun k_ hk_=>trivial));replace HB:=aM (hb);clear m3 hb hkp H8)))
        go_ret2
        exact⟨_,by first|rfl|(simp [errW_none,errW_some] <;> rfl)|(simp only[← g6];first|rfl|(simp [errW_none,errW_some] <;> rfl))|(simp [*,errW_none,errW_some] <;> rfl),rX H9.out,pB⟩
    ·rw[if_neg c9] at H;exact absurd H (by simp)


theorem goesvL_ {P:Program} {ops:Array Oper} {Q:Exit→Act→World→Prop} {rest:List Oper} {oi:Oper} {a:Act} {w:World} (N:Option Tmp) (hd:oi.dst=N) (hg:oi.guard=none) {f:FuncId} {caps:Array Value} {fn:Func} {c:Operand} {ts:Array TypeId} (hf:P.funcs[f]?=some fn) (hname:(fn.name == "runtime.NumGoroutine")=false) (hb:fn.body.isSome=true)
  (hop:oi.op=.call { callee:=.value c,args:=#[],argTypes:=ts }) (hc:a.eval c=.func (.func f) #[] caps)
  (h:Calls P f caps w fun e w'=>∃ v,e=.returned v∧wpList P ops Q rest (a.put N v) w'):wpList P ops Q (oi :: rest) a w:=by
 refine wpList_plain hg fun K hK=>?_
 have he:=enters_ hf hname hb caps w;have hrun:(execOp a.eval oi).run P w=.ok (.enter f caps) w:=by
  unfold execOp;simp [hop,resolve,hc,Deferred.ofValue,invoke,he]
 unfold Oper.wp;rw[hrun,Oper.upon_enter];refine h.mono fun e w'' hh=>?_
 obtain⟨v,rfl,hk⟩:=hh;subst hd;exact hK _ _ hk
/-- What 'products' does with functions one after the other. -/
structure Steps_ (xs:List (Nat × Array Value)) (ad:Addr) (I:Nat→World→Prop) (Q:Int→World→Prop):Prop where
 cell:∀ j W,I j W→∀ i x,xs[i]?=some x→W.cell? (ad.add i)=some (.func (.func x.1) #[] x.2)
 step:∀ j W x,I j W→xs[j]?=some x→(∃ fn,Tryz.prog.funcs[x.1]?=some fn∧(fn.name == "runtime.NumGoroutine")=false∧fn.body.isSome=true)∧Calls Tryz.prog x.1 x.2 W fun e W'=>∃ r:Int,e=.returned (.int .i64 r)∧(r=0→I (j+1) W')∧(r≠0→Q r W')
 done:∀ W,I xs.length W→Q 0 W
theorem Hzp.calls (xs:List (Nat × Array Value)) (ad:Addr) (c:Nat) (w:World) (I:Nat→World→Prop) (Q:Int→World→Prop) (hS:Steps_ xs ad I Q) (a6:I 0 w) (hn:xs.length < 4611686018427387904) :
  Calls Tryz.prog 44 #[.slice (some ad) xs.length c] w fun e w'=>∃ r:Int,e=.returned (.int .i64 r)∧Q r w':=by
 have HS:=aM hS;have H0:=aM a6;have HN:=aM hn;clear hS a6 hn;go_enter Tryz.func44,Tryz.ntmps44
 go_wp2
 go_loopg [8] (xs.length+1) (fun kq a7 w'=>∃ (j_:Nat),a7=.int .i64 (j_:Int)∧Aside0 (j_+kq=xs.length+1∧0 < kq)∧Aside0 (I j_ w'))
 case atStart=>exact⟨0,rfl,⟨by omega,by omega⟩,H0⟩
 case round =>
  obtain⟨j_,rfl,HJ,HI⟩:=hrel;cases gk with
  | zero=>exact absurd HJ.out.2 (by omega)
  | succ k1 =>
   by_cases c5:(j_:Int) < (xs.length:Int)
   ·have a8:=dE c5;have b4:decide (j_ < xs.length)=true:=dE (by omega)
    obtain⟨x_,hx_⟩:∃ x_,xs[j_]?=some x_:=⟨xs[j_]'(by omega),List.getElem?_eq_getElem (by omega)⟩
    have b5:=aM c5;clear c5;have b6:=HS.out.cell j_ wr HI.out j_ x_ hx_;have HX:=aM hx_;clear hx_;have b7:(0:Int)≤(j_:Int):=by omega
    obtain⟨⟨fn_,hf_,hn_,hb_⟩,hC_⟩:=HS.out.step j_ wr x_ HI.out HX.out;have HF:=aM hf_;have HNM:=aM hn_;have HBD:=aM hb_;have HC:=aM hC_;clear hf_ hn_ hb_ hC_;go_wp2_with (first|(refine goesvL_ (some 13) rfl rfl (f:=x_.1) (caps:=x_.2) HF.out HNM.out HBD.out rfl (by first|rfl|(simp [Act.eval];done)) ?_;refine HC.out.mono ?_;rintro e b8 ⟨r_,rfl,b9,d0⟩;refine⟨_,rfl,?_⟩;have d6:=aM b9;have d7:=aM d0;clear b9 d0))
    ·rename_i hr_
     go_ret
     exact⟨r_,rfl,d7.out (by simpa using hr_)⟩
    ·rename_i hr_
     go_roundg k1
     case measure=>omega
     case rel =>
      refine⟨j_+1,?_,⟨by have:=HJ.out;omega,by have:=HJ.out;have:=b5.out;omega⟩,⟨d6.out (by simpa using hr_)⟩⟩
      have e_:wrap64 ((j_:Int)+1)=((j_+1:Nat):Int):=by have:=HN.out;have:=b5.out;unfold wrap64;omega
      rw[e_]
    all_goals (exfalso;have:=b5.out;omega)
   ·have a8:decide ((j_:Int) < (xs.length:Int))=false:=decide_eq_false c5;have b4:decide (j_ < xs.length)=false:=decide_eq_false (by omega)
    have b5:=aM c5;clear c5;go_wp2
    go_ret
    refine⟨_,rfl,HS.out.done _ ?_⟩;have e_:j_=xs.length:=by have:=b5.out;have:=HJ.out;omega
    rw[← e_];exact HI.out

/-- A function value that computes a product: where it lies,and what it has captured. -/
structure Thk (W:World) (b gp:Nat) (A:Option Addr) (n c:Nat) (A':Option Addr) (n' c':Nat):Prop where
 tp:W.heap[b]?=some (.cells #[.pointer (some ⟨gp,0,none⟩)] 64 (0,0))
 fa:W.heap[b+1]?=some (.cells #[.slice A n c] 24 (0,0))
 fb:W.heap[b+2]?=some (.cells #[.slice A' n' c'] 24 (0,0))
 lt:gp < b
theorem Thk.below {W W1:World} {b gp n c n' c':Nat} {A A':Option Addr} (h:Thk W b gp A n c A' n' c') (hb:Below W.heap.size W W1):Thk W1 b gp A n c A' n' c' :=
 ⟨(hb.block _ (Array.getElem?_eq_some_iff.1 h.tp).1).trans h.tp,(hb.block _ (Array.getElem?_eq_some_iff.1 h.fa).1).trans h.fa,(hb.block _ (Array.getElem?_eq_some_iff.1 h.fb).1).trans h.fb,h.lt⟩
theorem Thk.keep {W W1:World} {b gp n c n' c':Nat} {A A':Option Addr} (h:Thk W b gp A n c A' n' c') (a6:W1.heap[b]?=W.heap[b]?) (a7:W1.heap[b+1]?=W.heap[b+1]?) (a8:W1.heap[b+2]?=W.heap[b+2]?):Thk W1 b gp A n c A' n' c' :=
 ⟨a6.trans h.tp,a7.trans h.fa,a8.trans h.fb,h.lt⟩
def thkFn (f b:Nat):Nat × Array Value:=(f,#[.pointer (some ⟨b+1,0,none⟩),.pointer (some ⟨b+2,0,none⟩),.pointer (some ⟨b,0,none⟩)])
theorem Fzf.calls (gp:Nat) (A:Option Addr) (n c:Nat) (A':Option Addr) (n' c':Nat) (w:World) (hgp:gp < w.heap.size) :
  Calls Tryz.prog 45 #[.pointer (some ⟨gp,0,none⟩),.slice A n c,.slice A' n' c'] w fun e w'=>∃ b,e=.returned (.func (.func (thkFn 63 b).1) #[] (thkFn 63 b).2)∧Thk w' b gp A n c A' n' c'∧w.heap.size≤b∧Below w.heap.size w w':=by
 have hmf_:∀ (fn:Fn) (first cap:Array Value) (w:World),(Instr.makeFunc fn first cap).run Tryz.prog w=.ok (.func fn first cap) w:=fun _ _ _ _=>rfl
 have HGP:=aM hgp;clear hgp;go_enter Tryz.func45,Tryz.ntmps45
 go_wp2
 go_ret
 refine⟨w.heap.size,rfl,⟨?_,?_,?_,HGP.out⟩,Nat.le_refl _,?_⟩
 ·exact blk_alloc (blk_alloc (blk_new w _) _) _
 ·have:=blk_alloc (blk_new (w.alloc (Obj.cells #[Value.pointer (some { block:=gp,off:=0 })] 64)) (Obj.cells #[.slice A n c] 24)) (.cells #[.slice A' n' c'] 24);simpa using this
 ·have:=blk_new (((w.alloc (Obj.cells #[Value.pointer (some { block:=gp,off:=0 })] 64)).alloc (Obj.cells #[Value.slice A n c] 24))) (Obj.cells #[.slice A' n' c'] 24);simpa using this
 ·exact(((Below.refl _ _).alloc (Nat.le_refl _) _).alloc (by simp) _).alloc (by simp;omega) _
/-- The step that computes a product. -/
theorem Gzm.calls (k b gp:Nat) (A:Option Addr) (c:Nat) (l:List Int) (A':Option Addr) (c':Nat) (l':List Int) (u:Value) (a6:List Int) (a7:Int) (w:World) (hT:Thk w b gp A l.length c A' l'.length c') (hp:w.heap[gp]?=some (.cells #[u] 24 (0,0)))
  (a8:Kd.C (Kd.int .i64) w A l.length l) (b4:l.length≤c) (b5:Kd.C (Kd.int .i64) w A' l'.length l') (b6:l'.length≤c') (h:Czf.f k l l'=some (a6,a7)) :
  Calls Tryz.prog (thkFn 63 b).1 (thkFn 63 b).2 w fun e w'=>∃ (b7:World) (v:Value),e=.returned (.int .i64 a7)∧w'=b7.setCell ⟨gp,0,none⟩ v∧Kd.R (Kd.int .i64) 3 b7 w.heap.size (fun _=>True) v a6∧Below w.heap.size w b7:=by
 have HA:=aM h;have b8:=aM a8;have b9:=aM b4;have d0:=aM b5;have d6:=aM b6;have HT:=aM hT;have HP:=aM hp;have HB:=aM (Below.refl w.heap.size w);have d7:=(blk_cell hT.tp 0).trans rfl;have d8:=(blk_cell hT.fa 0).trans rfl;have d9:=(blk_cell hT.fb 0).trans rfl;clear h a8 b4 b5 b6 hT hp;show Calls Tryz.prog 63 #[.pointer (some ⟨b+1,0,none⟩),.pointer (some ⟨b+2,0,none⟩),.pointer (some ⟨b,0,none⟩)] w _
 go_enter Tryz.func63,Tryz.ntmps63
 go_wp2_with (first|((with_reducible refine gc 64 rfl ?_);refine gC 64 (some 9) Tryz.func64 #[.slice A l.length c,.slice A' l'.length c'] ?_;(with_reducible refine(Czf.calls k _ _ l _ _ l' a6 a7 _ ?_ ?_ ?_ ?_ HA.out).mono ?_);exact b8.out;exact b9.out;exact d0.out;exact d6.out;rintro e e6 ⟨e7,rfl,e8,hb⟩;refine⟨_,rfl,?_⟩;obtain⟨Ao_,co_,eo_⟩:=Kd.R_slice e8;subst eo_;have HO:=aM e8;have e9:=kb HP hb;have f3:=(blk_cell (kB (aM HT.out.tp) hb) 0).trans rfl;have f4:=(blk_cell e9.out 0).trans rfl;have f6:=blk_frozen e9.out 0;replace HB:=aM hb;clear hb e8))
 go_ret
 exact⟨_,_,rfl,rfl,HO.out,HB.out⟩
/-- What the pure text tells of a step's making: nothing. -/
def Fzf.f (_:Unit) (_ _:List Int):Option Int:=some 0
theorem fun_lit_step {P:Program} {ops:Array Oper} {Q:Exit→Act→World→Prop} {o:Oper} {a:Act} {Kc:Act→World→Prop} {W:World} (hw:Region.wanted o (yielded ops a.tmps)=true) {N:Tmp} (_hd:o.dst=some N) {cs:Array Value} {t:TypeId} {n:Nat}
  (hrun:(execOp a.eval o).run P W=.ok (.value (.slice (some ⟨W.heap.size,0,none⟩) n n)) (W.alloc (.cells cs t (0,0))))
  (h:∀ g a6,a6.heap[g]?=some (.cells cs t (0,0))→Below W.heap.size W a6→Kc (a.put o.dst (.slice (some ⟨g,0,none⟩) n n)) a6):if Region.wanted o (yielded ops a.tmps)=true then Oper.wp P o a W Kc Q else Kc (a.put o.dst undef) W :=
 event_step hw hrun (h _ _ (blk_new W _) (below_alloc (Below.refl _ _) _))
theorem V_keptC {W W_:World} {e base n c:Nat} {ok S:Nat→Prop} {A:Option Addr} {xs:List Int} (h:Kd.V (Kd.int .i64) e W base ok (.slice A n c) xs) (hk:Kept W W_ S) (hne:∀ k,ok k→¬ S k):Kd.C (Kd.int .i64) W_ A n xs:=by
 obtain⟨hn,_,_⟩:=Kd.V_reads' h;have a6:=Kd.V_reads' (Kd.V_step h (fun k hk1 hk2=>hk.2 k hk2 (hne k hk1)))
 rw[hn];exact a6.2.2
theorem C_V {w:World} {e base n c:Nat} {A:Option Addr} {xs:List Int} (h:Kd.C (Kd.int .i64) w A n xs) (hc:n≤c):Kd.V (Kd.int .i64) e w base (fun _=>True) (.slice A n c) xs:=by
 have hn:=h.1;subst hn;refine⟨A,c,rfl,hc,fun W' hW=>⟨h.1,h.2.1,fun hp=>?_⟩⟩
 obtain⟨ad,a6,a7⟩:=h.2.2 hp;refine⟨ad,a6,fun j q hj=>?_⟩
 obtain⟨cs,a8,b4,b5⟩:=a7 j q hj;refine⟨cs,a8,b4,fun i u hu=>?_⟩
 have b6:=b5 i u hu;have b7:=hW _ trivial (World.block_lt_of_cell? w _ b6);rw[← b6];simp only[World.cell?,b7]
/-- What two steps one after the other come to. -/
def Ezx.f (k:Nat) (l1 l1' l2 l2':List Int):Option (Int × List Int × List Int):=(Czf.f k l1 l1').bind fun x=>if x.2=0 then(Czf.f k l2 l2').bind fun y=>some (y.2,x.1,y.1) else some (x.2,x.1,([]:List Int))
theorem Ezx.mono:∀ a6 a7 a8 b4 k,LeO (Ezx.f k a6 a7 a8 b4) (Ezx.f (k+1) a6 a7 a8 b4):=by
 intro a6 a7 a8 b4 k;unfold Ezx.f;exact LeO.bind (Czf.mono _ _ k) (fun _=>LeO.ite (LeO.bind (Czf.mono _ _ k) (fun _=>LeO.refl _)) (LeO.refl _))
theorem kept_far {w a6:World} {S:Nat→Prop} {B g:Nat} (h:Below B w a6) (hB:w.heap.size≤B) (hg:S g) (v:Value):Kept w (a6.setCell ⟨g,0,none⟩ v) S :=
 Kept.setCell (p:=⟨g,0,none⟩) ⟨h.size,fun i hi _=>h.block i (Nat.lt_of_lt_of_le hi hB)⟩ (.inl hg) v
theorem kept_trans {a b c:World} {S:Nat→Prop} (h:Kept a b S) (h':Kept b c S):Kept a c S :=
 ⟨Nat.le_trans h.1 h'.1,fun i hi hn=>(h'.2 i (Nat.lt_of_lt_of_le hi h.1) hn).trans (h.2 i hi hn)⟩
/-- What two products leave. -/
structure Fin2 (w0 w W:World) (gp gq:Nat) (vp vq:Value) (x y:List Int):Prop where
 p:W.heap[gp]?=some (.cells #[vp] 24 (0,0))
 q:W.heap[gq]?=some (.cells #[vq] 24 (0,0))
 rp:Kd.R (Kd.int .i64) 3 W w0.heap.size (fun k_=>w.heap.size≤k_∧some k_≠vq.ownBlock) vp x
 rq:Kd.R (Kd.int .i64) 3 W w0.heap.size (fun k_=>w.heap.size≤k_∧some k_≠vp.ownBlock) vq y
 below:Below w0.heap.size w0 W
 kept:Kept w W (fun k_=>k_=gp∨k_=gq)
theorem below_far {B:Nat} {a6 w a7:World} {g:Nat} (h:Below B a6 w) (hB:B≤w.heap.size) (a8:Below w.heap.size w a7) (hg:B≤g) (v:Value):Below B a6 (a7.setCell ⟨g,0,none⟩ v) :=
 Below.setCell (below_then h hB a8) hg v
set_option maxHeartbeats 2000000 in
theorem Ezx.calls (k a6 a7 gp gq:Nat) (a8:Option Addr) (b4:Nat) (l1:List Int) (b5:Option Addr) (b6:Nat) (b7:List Int) (b8:Option Addr) (c2:Nat) (l2:List Int) (b9:Option Addr) (d0:Nat) (d6:List Int) (d7:Int) (d8 d9:List Int) (g cg:Nat) (e6 w:World) (hB:Below e6.heap.size e6 w)
  (hg:w.heap[g]?=some (.cells #[.func (.func (thkFn 63 a6).1) #[] (thkFn 63 a6).2,.func (.func (thkFn 63 a7).1) #[] (thkFn 63 a7).2] 62 (0,0)))
  (e7:Thk w a6 gp a8 l1.length b4 b5 b7.length b6) (e8:Thk w a7 gq b8 l2.length c2 b9 d6.length d0) (hp:w.heap[gp]?=some (.cells #[.slice none 0 0] 24 (0,0))) (hq:w.heap[gq]?=some (.cells #[.slice none 0 0] 24 (0,0))) (hne:gp≠gq) (hgp:e6.heap.size≤gp) (hgq:e6.heap.size≤gq) (e9:gp < a7) (f3:gq < a6)
  (f4:∀ W_,Kept w W_ (fun k_=>k_=gp∨k_=gq)→Kd.C (Kd.int .i64) W_ a8 l1.length l1) (f6:l1.length≤b4) (f9:∀ W_,Kept w W_ (fun k_=>k_=gp∨k_=gq)→Kd.C (Kd.int .i64) W_ b5 b7.length b7) (g4:b7.length≤b6)
  (g5:∀ W_,Kept w W_ (fun k_=>k_=gp∨k_=gq)→Kd.C (Kd.int .i64) W_ b8 l2.length l2) (g6:l2.length≤c2) (g7:∀ W_,Kept w W_ (fun k_=>k_=gp∨k_=gq)→Kd.C (Kd.int .i64) W_ b9 d6.length d6) (g8:d6.length≤d0)
  (h:Ezx.f k l1 b7 l2 d6=some (d7,d8,d9)) :
  Calls Tryz.prog 44 #[.slice (some ⟨g,0,none⟩) 2 cg] w fun e w'=>e=.returned (.int .i64 d7)∧∃ vp vq:Value,Fin2 e6 w w' gp gq vp vq d8 d9:=by
 have hfn:∃ fn,Tryz.prog.funcs[63]?=some fn∧(fn.name == "runtime.NumGoroutine")=false∧fn.body.isSome=true:=⟨_,Tryz.func63,by kernel_rfl,rfl⟩
 have hgl:=blk_lt hg;have hgne:g≠gp∧g≠gq:=⟨blk_ne hg hp (by decide),blk_ne hg hq (by decide)⟩
 have hK1:∀ (g9:World) (v:Value),Below w.heap.size w g9→Kept w (g9.setCell ⟨gp,0,none⟩ v) (fun k_=>k_=gp∨k_=gq):=fun g9 v hb=>kept_far hb (Nat.le_refl _) (.inl rfl) v
 have hfar:∀ (W:World) (i:Nat) (o:Obj),Kept w W (fun k_=>k_=gp∨k_=gq)→i≠gp→i≠gq→w.heap[i]?=some o→W.heap[i]?=some o:=fun W i o hk j3 j4 ho=>blk_kept ho hk (fun e=>e.elim j3 j4)
 have hBs:=hB.size;let I:Nat→World→Prop:=fun j W=>Kept w W (fun k_=>k_=gp∨k_=gq)∧match j with
  | 0=>W=w
  | 1=>∃ (g9:World) (v:Value) (x:List Int),W=g9.setCell ⟨gp,0,none⟩ v∧Czf.f k l1 b7=some (x,0)∧Kd.R (Kd.int .i64) 3 g9 w.heap.size (fun _=>True) v x∧Below w.heap.size w g9
  | _=>∃ (vp vq:Value) (x y:List Int),Fin2 e6 w W gp gq vp vq x y∧Ezx.f k l1 b7 l2 d6=some (0,x,y)
 let Qr:Int→World→Prop:=fun r W=>∃ (vp vq:Value) (x y:List Int),Fin2 e6 w W gp gq vp vq x y∧Ezx.f k l1 b7 l2 d6=some (r,x,y)
 have hS:Steps_ [thkFn 63 a6,thkFn 63 a7] ⟨g,0,none⟩ I Qr:=by
  refine⟨fun j W hI i x hx=>?_,fun j W x hI hx=>?_,fun W hI=>hI.2⟩
  ·rw[add_plain];have j3:=hfar W g _ hI.1 hgne.1 hgne.2 hg;rw[blk_cell j3 i];match i,hx with
   | 0,hx=>cases hx;rfl
   | 1,hx=>cases hx;rfl
   | i+2,hx=>simp at hx
  ·match j,hx,hI with
   | 0,hx,hI =>
    cases hx
    obtain⟨hk,hw⟩:=hI;cases hw
    refine⟨hfn,?_⟩;unfold Ezx.f at h;rw[Option.bind_eq_some_iff] at h;obtain⟨⟨x,j5⟩,hm,h⟩:=h;refine(Gzm.calls k a6 gp a8 b4 l1 b5 b6 b7 _ x j5 w e7 hp (f4 w hk) f6 (f9 w hk) g4 hm).mono ?_;rintro e W' ⟨g9,v,rfl,rfl,hR,hb⟩;refine⟨j5,rfl,fun j6=>⟨hK1 g9 v hb,g9,v,x,rfl,j6 ▸ hm,hR,hb⟩,fun j6=>?_⟩
    have hp1:g9.heap[gp]?=some (.cells #[.slice none 0 0] 24 (0,0)):=(hb.block gp (blk_lt hp)).trans hp;have hq1:g9.heap[gq]?=some (.cells #[.slice none 0 0] 24 (0,0)):=(hb.block gq (blk_lt hq)).trans hq;refine⟨v,.slice none 0 0,x,[],⟨blk_put hp1 0 v rfl,blk_far hq1 (Ne.symm hne) v,?_,Kd.R_nil _ _ _ _ _,below_far hB hBs hb hgp v,hK1 g9 v hb⟩,?_⟩
    ·refine Kd.R_mono (Kd.R_far (p:=⟨gp,0,none⟩) (ok:=fun k_=>w.heap.size≤k_) (Kd.R_lower (Kd.R_reok rfl hR (fun k_ hk_=>Kd.R_base hR k_ hk_)) hBs) (fun k_ hk_ e_=>?_) v) (fun k_ hk_=>⟨hk_,by simp [Value.ownBlock]⟩)
     have:=blk_lt hp;subst e_;omega
    ·unfold Ezx.f;rw[hm];simp only[Option.bind_some];rw[if_neg j6]
   | 1,hx,hI =>
    cases hx
    obtain⟨hk,g9,v,x,rfl,hm,hR,hb⟩:=hI;refine⟨hfn,?_⟩;unfold Ezx.f at h;rw[Option.bind_eq_some_iff] at h;obtain⟨⟨x',j5⟩,hm',h⟩:=h;rw[hm] at hm';cases hm'
    simp only[if_true] at h;rw[Option.bind_eq_some_iff] at h;obtain⟨⟨y,j7⟩,j8,h⟩:=h;have hp1:g9.heap[gp]?=some (.cells #[.slice none 0 0] 24 (0,0)):=(hb.block gp (blk_lt hp)).trans hp;have hq1:(g9.setCell ⟨gp,0,none⟩ v).heap[gq]?=some (.cells #[.slice none 0 0] 24 (0,0)):=blk_far ((hb.block gq (blk_lt hq)).trans hq) (Ne.symm hne) v;have j9:Thk (g9.setCell ⟨gp,0,none⟩ v) a7 gq b8 l2.length c2 b9 d6.length d0:=⟨hfar _ _ _ hk (by omega) (by have:=e8.lt;omega) e8.tp,hfar _ _ _ hk (by omega) (by have:=e8.lt;omega) e8.fa,hfar _ _ _ hk (by omega) (by have:=e8.lt;omega) e8.fb,e8.lt⟩
    refine(Gzm.calls k a7 gq b8 c2 l2 b9 d0 d6 _ y j7 _ j9 hq1 (g5 _ hk) g6 (g7 _ hk) g8 j8).mono ?_;rintro e W' ⟨l5,u,rfl,rfl,l6,l7⟩;have hps:gp < w.heap.size:=blk_lt hp;have hqs:gq < w.heap.size:=blk_lt hq;have l8:w.heap.size≤(g9.setCell ⟨gp,0,none⟩ v).heap.size:=hk.1;have hRv:Kd.R (Kd.int .i64) 3 (g9.setCell ⟨gp,0,none⟩ v) w.heap.size (fun k_=>w.heap.size≤k_) v x:=Kd.R_far (p:=⟨gp,0,none⟩) (Kd.R_reok rfl hR (fun k_ hk_=>Kd.R_base hR k_ hk_)) (fun k_ hk_ e_=>by subst e_;omega) v
    have hkk:Kept w (l5.setCell ⟨gq,0,none⟩ u) (fun k_=>k_=gp∨k_=gq):=kept_trans hk (kept_far l7 (Nat.le_refl _) (.inr rfl) u)
    have hFin:Fin2 e6 w (l5.setCell ⟨gq,0,none⟩ u) gp gq v u x y:=by
     refine⟨blk_far ((l7.block gp (by omega)).trans (blk_put hp1 0 v rfl)) hne u,blk_put ((l7.block gq (by omega)).trans hq1) 0 u rfl,?_,?_,below_far (below_far hB hBs hb hgp v) (by omega) l7 hgq u,hkk⟩
     ·refine Kd.R_far (p:=⟨gq,0,none⟩) ?_ (fun k_ hk_ e_=>by subst e_;omega) u
      exact Kd.R_lower (Kd.R_elder' (rX hRv) (fun k_ hk_=>Kd.R_base l6 k_ hk_) l7) hBs
     ·refine Kd.R_far (p:=⟨gq,0,none⟩) ?_ (fun k_ hk_ e_=>by subst e_;omega) u
      refine Kd.R_lower (Kd.R_reok rfl l6 (fun k_ hk_=>⟨Nat.le_trans l8 (Kd.R_base l6 k_ hk_),fun e_=>?_⟩)) (by omega)
      have:=Kd.R_lt hRv k_ e_.symm;have:=Kd.R_base l6 k_ hk_;omega
    have l9:Ezx.f k l1 b7 l2 d6=some (j7,x,y):=by
     unfold Ezx.f;rw[hm];simp only[Option.bind_some,if_true];rw[j8];rfl
    exact⟨j7,rfl,fun j6=>⟨hkk,v,u,x,y,hFin,by rw[l9,j6]⟩,fun _=>⟨v,u,x,y,hFin,l9⟩⟩
   | j+2,hx,hI=>simp at hx
 have hI0:I 0 w:=⟨⟨Nat.le_refl _,fun _ _ _=>rfl⟩,rfl⟩
 refine(Hzp.calls [thkFn 63 a6,thkFn 63 a7] ⟨g,0,none⟩ cg w I Qr hS hI0 (by simp)).mono ?_
 rintro e w' ⟨r,rfl,vp,vq,x,y,hF,hf⟩;rw[h] at hf;cases hf
 exact⟨rfl,vp,vq,hF⟩



end Go.Proofs.YtokkiljkgejnhaaGreat.Print
