import Derived.Test.YtnklckihalhlmaaPrint0
import Derived.Test.YtnklckihalhlmaaPrint16
import Derived.Test.YtnklckihalhlmaaPrint25
namespace Go.Proofs.Ytnklckihalhlmaa.Print
open Go.RowKit Go.Proofs.YtnklckihalhlmaaW.PrintWords Go.Proofs.YtnklckihalhlmaaW.PrintLast Go.Proofs.YtnklckihalhlmaaW.PrintMore
attribute [local go_sem] max2_int min2_int max_two min_two max_three min_three max_four min_four
set_option linter.unusedVariables false
set_option maxRecDepth 100000
set_option maxHeartbeats 8000000
set_option linter.unusedSimpArgs false

def Dzm.j0:Nat→List Int→List Int→Bool→Option (List Int × List Int × Int)
 | 0,_,_,_=>none
 | k+1,x0,x1,x16=>if x16=true then(some (([]:List Int),([]:List Int),3)) else(if(x1.length:Int)=0 then(some (([]:List Int),([]:List Int),16)) else((Fzz.f k x0 x1).bind fun bt360=>(some (bt360.1,bt360.2,0))))
def Dzm.f (k:Nat) (l0:List Int) (l1:List Int):Option (List Int × List Int × Int):=(Bzv.f k l0).bind fun t358=>(if t358=true then((Bzv.f k l1).bind fun t359=>(Dzm.j0 k l0 l1 (!t359))) else(Dzm.j0 k l0 l1 true))
theorem Dzm.mono_l:∀ k,(∀ a6 a7 a8,LeO (Dzm.j0 k a6 a7 a8) (Dzm.j0 (k+1) a6 a7 a8))
 | 0=>fun _ _ _ r h=>by simp [Dzm.j0] at h
 | k+1=>by
  have ih0:=Dzm.mono_l k
  ·intro a6 a7 a8;unfold Dzm.j0;have i0:=@Bzv.mono;have i1:=@Fzz.mono;exact mM
theorem Dzm.mono:∀ a6 a7 k,LeO (Dzm.f k a6 a7) (Dzm.f (k+1) a6 a7):=by
 intro a6 a7 k;have ih0:=Dzm.mono_l k;unfold Dzm.f;have i0:=@Bzv.mono;have i1:=@Fzz.mono;exact mM
theorem Dzm.calls (k:Nat) (a6:Option Addr) (a7:Nat) (l0:List Int) (a8:Option Addr) (a9:Nat) (l1:List Int) (b3:List Int) (b4:List Int) (b5:Int) (w:World) (b6:Kd.C (Kd.int .i64) w a6 l0.length l0) (b7:l0.length≤a7) (b8:Kd.C (Kd.int .i64) w a8 l1.length l1) (b9:l1.length≤a9) (h:Dzm.f k l0 l1=some (b3,b4,b5)) :
  Calls Try.prog 78 #[.slice a6 l0.length a7,.slice a8 l1.length a9] w fun e w'=>∃ v0_ v1_:Value,e=.returned (.tuple #[v0_,v1_,.int .i64 b5])∧Kd.R (Kd.int .i64) 3 w' w.heap.size (fun k_=>some k_≠(v1_:Value).ownBlock) v0_ b3∧Kd.R (Kd.int .i64) 3 w' w.heap.size (fun k_=>some k_≠(v0_:Value).ownBlock) v1_ b4∧Below w.heap.size w w':=by
 have d0:=aM b6;have d1:=aM b7;clear b6 b7;have d3:=aM b8;have d4:=aM b9;clear b8 b9;have HB:=aM (Below.refl w.heap.size w);have H:((Bzv.f k l0).bind fun d5=>(if d5=true then((Bzv.f k l1).bind fun d6=>(Dzm.j0 k l0 l1 (!d6))) else(Dzm.j0 k l0 l1 true)))=some (b3,b4,b5):=h
 clear h;have d7:=aM H;clear H;go_enter Try.func78,Try.ntmps78
 go_upto_region 1 with (fail)
 go_cut [16] (fun d8 wc=>∃ (kq:Nat) (d9:Bool),d8=.bool d9∧Aside0 (Dzm.j0 kq l0 l1 d9=some (b3,b4,b5))∧Aside0 (kq≤k)∧Aside0 (Below w.heap.size w wc))
 case first =>
  have H:=d7.out;clear d7;obtain⟨d5,e6,H⟩:=bT H;(try dsimp only at H);by_cases c5:d5=true
  ·subst c5;rw[if_pos rfl] at H;obtain⟨d6,e7,H⟩:=bT H;(try dsimp only at H);have H':=aM H;clear H;go_wp2_with (first|((with_reducible refine gc 90 rfl ?_);refine gC 90 (some 10) Try.func90 #[.slice a6 l0.length a7] ?_;(with_reducible refine(Bzv.calls k _ _ l0 true _ ?_ ?_ e6.out).mono ?_);exact cB d0;exact d1.out;rintro e w' ⟨rfl,⟨nd,rfl⟩⟩;refine⟨_,rfl,?_⟩)|(go_at_call 90;(with_reducible refine(Bzv.calls k _ _ l1 d6 _ ?_ ?_ e7.out).mono ?_);exact cB d3;exact d4.out;rintro e w' ⟨rfl,⟨nd,rfl⟩⟩))
   go_meet
   case rel=>exact⟨_,(!d6),sD,H',⟨by first|omega|exact Nat.le_refl _⟩,⟨pB⟩⟩
  ·obtain rfl:=bN c5;rw[if_neg nF] at H
   have H':=aM H;clear H;go_wp2_with (first|((with_reducible refine gc 90 rfl ?_);refine gC 90 (some 10) Try.func90 #[.slice a6 l0.length a7] ?_;(with_reducible refine(Bzv.calls k _ _ l0 false _ ?_ ?_ e6.out).mono ?_);exact cB d0;exact d1.out;rintro e w' ⟨rfl,⟨nd,rfl⟩⟩;refine⟨_,rfl,?_⟩))
   go_meet
   case rel=>exact⟨_,(true),sD,H',⟨by first|omega|exact Nat.le_refl _⟩,⟨pB⟩⟩
 case rest =>
  clear d7;try clear a9
  obtain⟨kq,d9,rfl,HA,e8,HB⟩:=hcut;cases kq with
  | zero=>exact absurd HA.out (by simp [Dzm.j0])
  | succ f3 =>
   have H:=HA.out;clear HA;simp only[Dzm.j0] at H;by_cases c7:d9=true
   ·subst c7;rw[if_pos rfl] at H;obtain⟨rfl,rfl,rfl⟩:=q3 H;go_wp2
    go_ret3
    exact⟨_,_,eW,nK,nK,pB⟩
   ·obtain rfl:=bN c7;rw[if_neg nF] at H
    by_cases c8:(l1.length:Int)=0
    ·rw[if_pos c8] at H;obtain⟨f4,f5⟩:=bE c8;clear c8;obtain⟨rfl,rfl,rfl⟩:=q3 H;go_wp2
     go_ret3
     exact⟨_,_,eW,nK,nK,pB⟩
    ·rw[if_neg c8] at H;obtain⟨f4,f5⟩:=bI c8;have f6:¬ (l1=[]):=fun h_=>c8 (by rw[h_];rfl)
     replace H:=bS H;obtain⟨⟨f7,f8⟩,f9,H⟩:=H;replace H:(some (f7,f8,0))=some (b3,b4,b5):=H;have g6:=aM f9;clear f9;obtain⟨rfl,rfl,rfl⟩:=q3 H;go_wp2_with (first|((with_reducible refine gc 91 rfl ?_);refine gC 91 (some 23) Try.func91 #[.slice a6 l0.length a7,.slice a8 l1.length a9] ?_;(with_reducible refine(Fzz.calls f3 _ _ l0 _ _ l1 f7 f8 _ ?_ ?_ ?_ ?_ g6.out).mono ?_);exact cB d0;exact d1.out;exact cB d3;exact d4.out;rintro e g7 ⟨g8,g9,rfl,j5,j9,hb⟩;refine⟨_,rfl,?_⟩;have l5:=rL j5;have l6:=rL j9;replace HB:=bB hb;clear hb j5 j9))
     go_ret3
     exact⟨_,_,eW,rX l5.out,rX l6.out,pB⟩

def Fzk.f (k:Nat) (a0:Bool) (l1:List Int) (l2:List Int):Option (Bool × List Int × List Int × Int):=(Czf.f k l1 l2).bind fun bt367=>(if bt367.2=0 then((Dzm.f k l1 bt367.1).bind fun bt371=>(if bt371.2.2=0 then((Dzm.f k l2 bt367.1).bind fun bt378=>(if bt378.2.2=0 then(if a0=true then(some (decide (0 < bt371.1.length),bt371.1,bt378.1,0)) else(some (false,bt371.1,bt378.1,0))) else(some (false,([]:List Int),([]:List Int),bt378.2.2)))) else(some (false,([]:List Int),([]:List Int),bt371.2.2)))) else(some (false,([]:List Int),([]:List Int),bt367.2)))
theorem Fzk.mono:∀ a6 a7 a8 k,LeO (Fzk.f k a6 a7 a8) (Fzk.f (k+1) a6 a7 a8):=by
 intro a6 a7 a8 k;unfold Fzk.f;have i0:=@Dzm.mono;have i1:=@Czf.mono;exact mM
theorem Fzk.calls (k:Nat) (a6:Bool) (a7:Option Addr) (a8:Nat) (l1:List Int) (a9:Option Addr) (c2:Nat) (l2:List Int) (b3:Bool) (b4:List Int) (b5:List Int) (b6:Int) (w:World) (b7:Kd.C (Kd.int .i64) w a7 l1.length l1) (b8:l1.length≤a8) (b9:Kd.C (Kd.int .i64) w a9 l2.length l2) (d0:l2.length≤c2) (h:Fzk.f k a6 l1 l2=some (b3,b4,b5,b6)) :
  Calls Try.prog 59 #[.bool a6,.slice a7 l1.length a8,.slice a9 l2.length c2] w fun e w'=>∃ v1_ v2_:Value,e=.returned (.tuple #[.agg #[.bool b3,v1_,v2_],.int .i64 b6])∧Kd.R (Kd.int .i64) 3 w' w.heap.size (fun k_=>some k_≠(v2_:Value).ownBlock) v1_ b4∧Kd.R (Kd.int .i64) 3 w' w.heap.size (fun k_=>some k_≠(v1_:Value).ownBlock) v2_ b5∧Below w.heap.size w w':=by
 have hu39:=Try.underlying39;have d1:=aM b7;have d3:=aM b8;clear b7 b8;have d4:=aM b9;have d5:=aM d0;clear b9 d0;have HB:=aM (Below.refl w.heap.size w);have H:((Czf.f k l1 l2).bind fun d6=>(if d6.2=0 then((Dzm.f k l1 d6.1).bind fun d7=>(if d7.2.2=0 then((Dzm.f k l2 d6.1).bind fun d8=>(if d8.2.2=0 then(if a6=true then(some (decide (0 < d7.1.length),d7.1,d8.1,0)) else(some (false,d7.1,d8.1,0))) else(some (false,([]:List Int),([]:List Int),d8.2.2)))) else(some (false,([]:List Int),([]:List Int),d7.2.2)))) else(some (false,([]:List Int),([]:List Int),d6.2))))=some (b3,b4,b5,b6):=h
 clear h;obtain⟨⟨d9,e6⟩,e7,H⟩:=bT H;(try dsimp only at H);by_cases c5:e6=0
 ·rw[if_pos c5] at H;obtain⟨e8,f3⟩:=bE c5;clear c5;obtain⟨⟨f4,f5,f6⟩,f7,H⟩:=bT H;(try dsimp only at H);by_cases c7:f6=0
  ·rw[if_pos c7] at H;obtain⟨f8,f9⟩:=bE c7;clear c7;obtain⟨⟨g6,g7,g8⟩,g9,H⟩:=bT H;(try dsimp only at H);by_cases c9:g8=0
   ·rw[if_pos c9] at H;obtain⟨j5,j9⟩:=bE c9;clear c9;by_cases c10:a6=true
    ·subst c10;rw[if_pos rfl] at H;obtain⟨rfl,rfl,rfl,rfl⟩:=q4 H;go_enter Try.func59,Try.ntmps59
     go_wp2_with (first|((with_reducible refine gd 6 rfl ?_);refine bxg #[.bool false,.slice none 0 0,.slice none 0 0] 39 ?_;intro l5 hg l6 l7 hb;have l8:=gA w hg;have l9:=gA w hg;replace HB:=bB hb;clear hb hg)|((with_reducible refine gc 77 rfl ?_);refine gC 77 (some 17) Try.func77 #[.slice a7 l1.length a8,.slice a9 l2.length c2] ?_;(with_reducible refine(Czf.calls k (fun k_=>k_ < w.heap.size) _ _ l1 (fun k_=>k_ < w.heap.size) _ _ l2 d9 e6 _ ?_ ?_ e7.out).mono ?_);exact Kd.V_mk d3.out (Kd.F_below (Kd.C_F (Kd.heap_int .i64) d1.out) pB);exact Kd.V_mk d5.out (Kd.F_below (Kd.C_F (Kd.heap_int .i64) d4.out) pB);rintro e m4 ⟨m5,rfl,m6,hb⟩;refine⟨_,rfl,?_⟩;have m7:=rL (Kd.R_mono (ok':=fun k_=>True) m6 (fun _ hk_=>trivial));replace l7:=kb l7 hb;replace HB:=bB hb;clear hb m6;obtain⟨m8,m9,rfl⟩:=Kd.R_slice m7.out)|((with_reducible refine gc 78 rfl ?_);refine gC 78 (some 27) Try.func78 #[.slice a7 l1.length a8,.slice m8 d9.length m9] ?_;(with_reducible refine(Dzm.calls k _ _ l1 _ _ d9 f4 f5 f6 _ ?_ ?_ ?_ ?_ f7.out).mono ?_);exact cB d1;exact d3.out;exact cR m7;exact lR m7;rintro e n0 ⟨n1,n2,rfl,m6,n3,hb⟩;refine⟨_,rfl,?_⟩;have n4:=rL (rn m6 m7);have n5:=rL (rn n3 m7);replace m7:=rO m7 hb m6 n3;replace l7:=kb l7 hb;replace HB:=bB hb;clear hb m6 n3)|((with_reducible refine gc 78 rfl ?_);refine gC 78 (some 38) Try.func78 #[.slice a9 l2.length c2,.slice m8 d9.length m9] ?_;(with_reducible refine(Dzm.calls k _ _ l2 _ _ d9 g6 g7 g8 _ ?_ ?_ ?_ ?_ g9.out).mono ?_);exact cB d4;exact d5.out;exact cR m7;exact lR m7;rintro e n6 ⟨n7,n8,rfl,m6,n3,hb⟩;refine⟨_,rfl,?_⟩;have n9:=rL (rn (rn (rn m6 m7) n4) n5);have o0:=rL (rn (rn (rn n3 m7) n4) n5);replace m7:=rO m7 hb m6 n3;replace n4:=rO n4 hb m6 n3;replace n5:=rO n5 hb m6 n3;replace l7:=kb l7 hb;replace HB:=bB hb;clear hb m6 n3;obtain⟨o1,o2,rfl⟩:=Kd.R_slice n4.out;obtain⟨o3,o4,rfl⟩:=Kd.R_slice n9.out;obtain⟨o5,o6,o7,o8,o9,p3⟩:=bk3 l7))
     refine bodyPost_ret (results_ct rfl _ _ l5 39 #[.bool (decide (0 < f4.length)),.slice o1 f4.length o2,.slice o3 g6.length o4] (0,0) _ rfl (kQ l7) Try.underlying39 rfl (by kernel_rfl)) rfl ?_
     exact⟨_,_,eW,by exact Kd.R_mono (rT n4 l7) (fun _ hk=>hk.1.2),by exact Kd.R_mono (rT n9 l7) (fun _ hk=>hk.1.2),pB⟩
    ·obtain rfl:=bN c10;rw[if_neg nF] at H
     obtain⟨rfl,rfl,rfl,rfl⟩:=q4 H;go_enter Try.func59,Try.ntmps59
     go_wp2_with (first|((with_reducible refine gd 6 rfl ?_);refine bxg #[.bool false,.slice none 0 0,.slice none 0 0] 39 ?_;intro l5 hg p7 l7 hb;have l8:=gA w hg;have l9:=gA w hg;replace HB:=bB hb;clear hb hg)|((with_reducible refine gc 77 rfl ?_);refine gC 77 (some 17) Try.func77 #[.slice a7 l1.length a8,.slice a9 l2.length c2] ?_;(with_reducible refine(Czf.calls k (fun k_=>k_ < w.heap.size) _ _ l1 (fun k_=>k_ < w.heap.size) _ _ l2 d9 e6 _ ?_ ?_ e7.out).mono ?_);exact Kd.V_mk d3.out (Kd.F_below (Kd.C_F (Kd.heap_int .i64) d1.out) pB);exact Kd.V_mk d5.out (Kd.F_below (Kd.C_F (Kd.heap_int .i64) d4.out) pB);rintro e p9 ⟨m5,rfl,m6,hb⟩;refine⟨_,rfl,?_⟩;have m7:=rL (Kd.R_mono (ok':=fun k_=>True) m6 (fun _ hk_=>trivial));replace l7:=kb l7 hb;replace HB:=bB hb;clear hb m6;obtain⟨r5,r6,rfl⟩:=Kd.R_slice m7.out)|((with_reducible refine gc 78 rfl ?_);refine gC 78 (some 27) Try.func78 #[.slice a7 l1.length a8,.slice r5 d9.length r6] ?_;(with_reducible refine(Dzm.calls k _ _ l1 _ _ d9 f4 f5 f6 _ ?_ ?_ ?_ ?_ f7.out).mono ?_);exact cB d1;exact d3.out;exact cR m7;exact lR m7;rintro e r7 ⟨n1,n2,rfl,m6,n3,hb⟩;refine⟨_,rfl,?_⟩;have n4:=rL (rn m6 m7);have n5:=rL (rn n3 m7);replace m7:=rO m7 hb m6 n3;replace l7:=kb l7 hb;replace HB:=bB hb;clear hb m6 n3)|((with_reducible refine gc 78 rfl ?_);refine gC 78 (some 38) Try.func78 #[.slice a9 l2.length c2,.slice r5 d9.length r6] ?_;(with_reducible refine(Dzm.calls k _ _ l2 _ _ d9 g6 g7 g8 _ ?_ ?_ ?_ ?_ g9.out).mono ?_);exact cB d4;exact d5.out;exact cR m7;exact lR m7;rintro e r8 ⟨n7,n8,rfl,m6,n3,hb⟩;refine⟨_,rfl,?_⟩;have n9:=rL (rn (rn (rn m6 m7) n4) n5);have o0:=rL (rn (rn (rn n3 m7) n4) n5);replace m7:=rO m7 hb m6 n3;replace n4:=rO n4 hb m6 n3;replace n5:=rO n5 hb m6 n3;replace l7:=kb l7 hb;replace HB:=bB hb;clear hb m6 n3;obtain⟨r9,t0,rfl⟩:=Kd.R_slice n9.out;obtain⟨t1,t2,rfl⟩:=Kd.R_slice n4.out;obtain⟨t3,t4,t5,t6,t7,t8⟩:=bk3 l7))
     refine bodyPost_ret (results_ct rfl _ _ l5 39 #[.bool false,.slice t1 f4.length t2,.slice r9 g6.length t0] (0,0) _ rfl (kQ l7) Try.underlying39 rfl (by kernel_rfl)) rfl ?_
     exact⟨_,_,eW,by exact Kd.R_mono (rT n4 l7) (fun _ hk=>hk.1.2),by exact Kd.R_mono (rT n9 l7) (fun _ hk=>hk.1.2),pB⟩
   ·rw[if_neg c9] at H;obtain⟨j5,j9⟩:=bI c9;obtain⟨rfl,rfl,rfl,rfl⟩:=q4 H;go_enter Try.func59,Try.ntmps59
    go_wp2_with (first|((with_reducible refine gd 6 rfl ?_);refine bxg #[.bool false,.slice none 0 0,.slice none 0 0] 39 ?_;intro l5 hg t9 l7 hb;have l8:=gA w hg;have l9:=gA w hg;replace HB:=bB hb;clear hb hg)|((with_reducible refine gc 77 rfl ?_);refine gC 77 (some 17) Try.func77 #[.slice a7 l1.length a8,.slice a9 l2.length c2] ?_;(with_reducible refine(Czf.calls k (fun k_=>k_ < w.heap.size) _ _ l1 (fun k_=>k_ < w.heap.size) _ _ l2 d9 e6 _ ?_ ?_ e7.out).mono ?_);exact Kd.V_mk d3.out (Kd.F_below (Kd.C_F (Kd.heap_int .i64) d1.out) pB);exact Kd.V_mk d5.out (Kd.F_below (Kd.C_F (Kd.heap_int .i64) d4.out) pB);rintro e z3 ⟨m5,rfl,m6,hb⟩;refine⟨_,rfl,?_⟩;have m7:=rL (Kd.R_mono (ok':=fun k_=>True) m6 (fun _ hk_=>trivial));replace l7:=kb l7 hb;replace HB:=bB hb;clear hb m6;obtain⟨z4,z5,rfl⟩:=Kd.R_slice m7.out)|((with_reducible refine gc 78 rfl ?_);refine gC 78 (some 27) Try.func78 #[.slice a7 l1.length a8,.slice z4 d9.length z5] ?_;(with_reducible refine(Dzm.calls k _ _ l1 _ _ d9 f4 f5 f6 _ ?_ ?_ ?_ ?_ f7.out).mono ?_);exact cB d1;exact d3.out;exact cR m7;exact lR m7;rintro e z6 ⟨n1,n2,rfl,m6,n3,hb⟩;refine⟨_,rfl,?_⟩;have n4:=rL (rn m6 m7);have n5:=rL (rn n3 m7);replace m7:=rO m7 hb m6 n3;replace l7:=kb l7 hb;replace HB:=bB hb;clear hb m6 n3)|((with_reducible refine gc 78 rfl ?_);refine gC 78 (some 38) Try.func78 #[.slice a9 l2.length c2,.slice z4 d9.length z5] ?_;(with_reducible refine(Dzm.calls k _ _ l2 _ _ d9 g6 g7 g8 _ ?_ ?_ ?_ ?_ g9.out).mono ?_);exact cB d4;exact d5.out;exact cR m7;exact lR m7;rintro e z7 ⟨n7,n8,rfl,m6,n3,hb⟩;refine⟨_,rfl,?_⟩;have n9:=rL (rn (rn (rn m6 m7) n4) n5);have o0:=rL (rn (rn (rn n3 m7) n4) n5);replace m7:=rO m7 hb m6 n3;replace n4:=rO n4 hb m6 n3;replace n5:=rO n5 hb m6 n3;replace l7:=kb l7 hb;replace HB:=bB hb;clear hb m6 n3;obtain⟨z8,z9,B0,B1,B8,C0⟩:=bk3 l7))
    refine bodyPost_ret (results_ct rfl _ _ l5 39 #[.bool false,.slice none 0 0,.slice none 0 0] (0,0) _ rfl (kQ l7) Try.underlying39 rfl (by kernel_rfl)) rfl ?_
    exact⟨_,_,eW,nK,nK,pB⟩
  ·rw[if_neg c7] at H;obtain⟨f8,f9⟩:=bI c7;obtain⟨rfl,rfl,rfl,rfl⟩:=q4 H;go_enter Try.func59,Try.ntmps59
   go_wp2_with (first|((with_reducible refine gd 6 rfl ?_);refine bxg #[.bool false,.slice none 0 0,.slice none 0 0] 39 ?_;intro l5 hg C1 l7 hb;have l8:=gA w hg;have l9:=gA w hg;replace HB:=bB hb;clear hb hg)|((with_reducible refine gc 77 rfl ?_);refine gC 77 (some 17) Try.func77 #[.slice a7 l1.length a8,.slice a9 l2.length c2] ?_;(with_reducible refine(Czf.calls k (fun k_=>k_ < w.heap.size) _ _ l1 (fun k_=>k_ < w.heap.size) _ _ l2 d9 e6 _ ?_ ?_ e7.out).mono ?_);exact Kd.V_mk d3.out (Kd.F_below (Kd.C_F (Kd.heap_int .i64) d1.out) pB);exact Kd.V_mk d5.out (Kd.F_below (Kd.C_F (Kd.heap_int .i64) d4.out) pB);rintro e C2 ⟨m5,rfl,m6,hb⟩;refine⟨_,rfl,?_⟩;have m7:=rL (Kd.R_mono (ok':=fun k_=>True) m6 (fun _ hk_=>trivial));replace l7:=kb l7 hb;replace HB:=bB hb;clear hb m6;obtain⟨C3,C4,rfl⟩:=Kd.R_slice m7.out)|((with_reducible refine gc 78 rfl ?_);refine gC 78 (some 27) Try.func78 #[.slice a7 l1.length a8,.slice C3 d9.length C4] ?_;(with_reducible refine(Dzm.calls k _ _ l1 _ _ d9 f4 f5 f6 _ ?_ ?_ ?_ ?_ f7.out).mono ?_);exact cB d1;exact d3.out;exact cR m7;exact lR m7;rintro e C6 ⟨n1,n2,rfl,m6,n3,hb⟩;refine⟨_,rfl,?_⟩;have n4:=rL (rn m6 m7);have n5:=rL (rn n3 m7);replace m7:=rO m7 hb m6 n3;replace l7:=kb l7 hb;replace HB:=bB hb;clear hb m6 n3;obtain⟨C7,C8,C9,D0,D1,D2⟩:=bk3 l7))
   refine bodyPost_ret (results_ct rfl _ _ l5 39 #[.bool false,.slice none 0 0,.slice none 0 0] (0,0) _ rfl (kQ l7) Try.underlying39 rfl (by kernel_rfl)) rfl ?_
   exact⟨_,_,eW,nK,nK,pB⟩
 ·rw[if_neg c5] at H;obtain⟨e8,f3⟩:=bI c5;obtain⟨rfl,rfl,rfl,rfl⟩:=q4 H;go_enter Try.func59,Try.ntmps59
  go_wp2_with (first|((with_reducible refine gd 6 rfl ?_);refine bxg #[.bool false,.slice none 0 0,.slice none 0 0] 39 ?_;intro l5 hg D3 l7 hb;have l8:=gA w hg;have l9:=gA w hg;replace HB:=bB hb;clear hb hg)|((with_reducible refine gc 77 rfl ?_);refine gC 77 (some 17) Try.func77 #[.slice a7 l1.length a8,.slice a9 l2.length c2] ?_;(with_reducible refine(Czf.calls k (fun k_=>k_ < w.heap.size) _ _ l1 (fun k_=>k_ < w.heap.size) _ _ l2 d9 e6 _ ?_ ?_ e7.out).mono ?_);exact Kd.V_mk d3.out (Kd.F_below (Kd.C_F (Kd.heap_int .i64) d1.out) pB);exact Kd.V_mk d5.out (Kd.F_below (Kd.C_F (Kd.heap_int .i64) d4.out) pB);rintro e D4 ⟨m5,rfl,m6,hb⟩;refine⟨_,rfl,?_⟩;have m7:=rL (Kd.R_mono (ok':=fun k_=>True) m6 (fun _ hk_=>trivial));replace l7:=kb l7 hb;replace HB:=bB hb;clear hb m6;obtain⟨D5,D6,D7,D8,D9,E3⟩:=bk3 l7))
  refine bodyPost_ret (results_ct rfl _ _ l5 39 #[.bool false,.slice none 0 0,.slice none 0 0] (0,0) _ rfl (kQ l7) Try.underlying39 rfl (by kernel_rfl)) rfl ?_
  exact⟨_,_,eW,nK,nK,pB⟩

def Gzz.f (k:Nat) (a0:Int):Option (List Int):=(Fzw.f k (mx a0 (wrap64 (-a0)))).bind fun bt385=>(some bt385.1)
theorem Gzz.mono:∀ a6 k,LeO (Gzz.f k a6) (Gzz.f (k+1) a6):=by
 intro a6 k;unfold Gzz.f;have i0:=@Fzw.mono;exact mM
theorem Gzz.calls (k:Nat) (a6:Int) (r:List Int) (w:World) (h:Gzz.f k a6=some r) :
  Calls Try.prog 60 #[.int .i64 a6] w fun e w'=>∃ v0_:Value,e=.returned (v0_)∧Kd.R (Kd.int .i64) 3 w' w.heap.size (fun _=>True) v0_ r∧Below w.heap.size w w':=by
 have HB:=aM (Below.refl w.heap.size w);have H:((Fzw.f k (mx a6 (wrap64 (-a6)))).bind fun a7=>(some a7.1))=some r:=h
 clear h;obtain⟨a8,a9⟩:∃ j_:Int,(mx a6 (wrap64 (-a6)))=j_:=⟨_,rfl⟩;replace H:((Fzw.f k (a8)).bind fun a7=>(some a7.1))=some r:=by first|(rw[a9] at H;exact H)|(simp only[a9] at H ⊢;exact H)
 have b3:(if a6 < (wrap64 (-a6)) then(wrap64 (-a6)) else a6)=a8:=a9
 replace H:=bS H;obtain⟨⟨b4,b5⟩,b6,H⟩:=H;replace H:(some b4)=some r:=H;have b7:=aM b6;clear b6;obtain rfl:=Option.some.inj H;go_enter Try.func60,Try.ntmps60
 go_wp2_with (first|((with_reducible refine gate_callee (f:=79) rfl ?_);refine goesL_ (some 10) rfl rfl Try.func79 (by kernel_rfl) rfl #[.int .i64 a8] rfl (by(try simp only[List.map_toArray,List.map_cons,List.map_nil]);first|done|(simp only[a9];rfl)|rfl|(simp only[List.length_drop,List.length_take];rfl)) ?_;(with_reducible refine(Fzw.calls k a8 b4 b5 _ b7.out).mono ?_);rintro e b8 ⟨b9,rfl,d0,hb⟩;refine⟨_,rfl,?_⟩;have d1:=rL d0;replace HB:=bB hb;clear hb d0))
 go_ret
 exact⟨_,by first|rfl|(simp [errW_none,errW_some] <;> rfl)|(simp only[← a9];first|rfl|(simp [errW_none,errW_some] <;> rfl))|(simp [*,errW_none,errW_some] <;> rfl),rX d1.out,pB⟩

end Go.Proofs.Ytnklckihalhlmaa.Print
