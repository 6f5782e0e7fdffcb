import Derived.Test.YtnklckihalhlmaaPrint0
import Derived.Test.YtnklckihalhlmaaPrint33
import Derived.Test.YtnklckihalhlmaaPrint31
namespace Go.Proofs.Ytnklckihalhlmaa.Print
open Go.RowKit Go.Proofs.YtnklckihalhlmaaW.PrintWords Go.Proofs.YtnklckihalhlmaaW.PrintLast Go.Proofs.YtnklckihalhlmaaW.PrintMore
attribute [local go_sem] max2_int min2_int max_two min_two max_three min_three max_four min_four
set_option linter.unusedVariables false
set_option maxRecDepth 100000
set_option maxHeartbeats 8000000
set_option linter.unusedSimpArgs false

def Czj.l0:Nat→List Int→List Int→Int→Option (Int)
 | 0,_,_,_=>none
 | k+1,x0,x1,x5=>if x5≥0 then(if 0≤x5 then(if x5 < (x0.length:Int) then(if x5 < (x1.length:Int) then(if(rd x0 x5) < (rd x1 x5) then(some (-1)) else(if(rd x0 x5) > (rd x1 x5) then(some 1) else(Czj.l0 k x0 x1 (wrap64 (x5 - 1))))) else(none)) else(none)) else(none)) else(some 0)
def Czj.f (k:Nat) (l0:List Int) (l1:List Int):Option (Int):=if(l0.length:Int)=(l1.length:Int) then(Czj.l0 k l0 l1 (wrap64 ((l0.length:Int) - 1))) else(if(l0.length:Int) < (l1.length:Int) then(some (-1)) else(some 1))
theorem Czj.mono_l:∀ k,(∀ y0 y1 y2,LeO (Czj.l0 k y0 y1 y2) (Czj.l0 (k+1) y0 y1 y2))
 | 0=>fun _ _ _ r h=>by simp [Czj.l0] at h
 | k+1=>by
  have ih0:=Czj.mono_l k
  ·intro y0 y1 y2;unfold Czj.l0;with_reducible repeat' first|exact ih0 _ _ _|exact LeO.refl _|exact LeO.none _|refine LeO.ite ?_ ?_|refine LeO.bind ?_ (fun _=>?_)
theorem Czj.mono:∀ a0 a1 k,LeO (Czj.f k a0 a1) (Czj.f (k+1) a0 a1):=by
 intro a0 a1 k;have ih0:=Czj.mono_l k;unfold Czj.f;with_reducible repeat' first|exact ih0 _ _ _|exact LeO.refl _|exact LeO.none _|refine LeO.ite ?_ ?_|refine LeO.bind ?_ (fun _=>?_)
theorem Czj.calls (k:Nat) (A0:Option Addr) (c0:Nat) (l0:List Int) (A1:Option Addr) (c1:Nat) (l1:List Int) (r:Int) (w:World) (hr0:Kd.C (Kd.int .i64) w A0 l0.length l0) (hc0:l0.length≤c0) (hr1:Kd.C (Kd.int .i64) w A1 l1.length l1) (hc1:l1.length≤c1) (h:Czj.f k l0 l1=some r) :
  Calls Try.prog 96 #[.slice A0 l0.length c0,.slice A1 l1.length c1] w fun e w'=>e=.returned (.int .i64 r)∧Drawn0 w w':=by
 have HR0:=aM hr0;have HC0:=aM hc0;clear hr0 hc0;have HR1:=aM hr1;have HC1:=aM hc1;clear hr1 hc1;have H:(if(l0.length:Int)=(l1.length:Int) then(Czj.l0 k l0 l1 (wrap64 ((l0.length:Int) - 1))) else(if(l0.length:Int) < (l1.length:Int) then(some (-1)) else(some 1)))=some r:=h
 clear h;by_cases c3:(l0.length:Int)=(l1.length:Int)
 ·rw[if_pos c3] at H;have c3b0:((l0.length:Int) == (l1.length:Int))=true:=beq_iff_eq.mpr c3;have c3b1:((l0.length:Int) != (l1.length:Int))=false:=bne_eq_false_iff_eq.mpr c3;have c3b2:(l0.length == l1.length)=true:=by first|simpa using c3|(simp at c3 ⊢;omega)
  clear c3;have H':=aM H;clear H;go_enter Try.func96,Try.ntmps96
  go_wp2
  repeat(go_quiet (fail);try go_wp2)
  go_loopg [5] k (fun kq v5 w'=>∃ (x5_1:Int),v5=.int .i64 x5_1∧Aside0 (Czj.l0 kq l0 l1 x5_1=some r)∧Aside0 (kq≤k)∧Drawn0 w w')
  case atStart=>exact⟨(wrap64 ((l0.length:Int) - 1)),sD,H',⟨Nat.le_refl _⟩,by repeat(first|exact Drawn0.refl _|apply Drawn0.step)⟩
  case round =>
   clear H';try clear c1
   try clear p2
   try clear c3
   try clear c3b0
   try clear c3b1
   try clear c3b2
   obtain⟨x5_1,rfl,HA,HK1,⟨m1,rfl⟩⟩:=hrel;cases gk with
   | zero=>exact absurd HA.out (by simp [Czj.l0])
   | succ k1 =>
    have H:=HA.out;clear HA;simp only[Czj.l0] at H;by_cases c4:x5_1≥0
    ·rw[if_pos c4] at H;have c4b0:decide (0≤x5_1)=true:=dE c4;clear c4;by_cases c5:0≤x5_1
     ·rw[if_pos c5] at H;have c5b0:decide (0≤x5_1)=true:=dE c5;clear c5;by_cases c6:x5_1 < (l0.length:Int)
      ·rw[if_pos c6] at H;have c6b0:decide (x5_1 < (l0.length:Int))=true:=dE c6;clear c6;by_cases c7:x5_1 < (l1.length:Int)
       ·rw[if_pos c7] at H;have c7b0:decide (x5_1 < (l1.length:Int))=true:=dE c7;clear c7;by_cases c8:(rd l0 x5_1) < (rd l1 x5_1)
        ·rw[if_pos c8] at H;have c8b0:decide ((rd l0 x5_1) < (rd l1 x5_1))=true:=dE c8;clear c8;obtain rfl:=Option.some.inj H;have p483:0≤(x5_1:Int):=oE aS
         have q483:x5_1 < (l0.length:Int):=oE aS
         obtain⟨ad483,e483,hx483_0⟩:=Kd.at_int HR0.out x5_1 p483 q483;cases e483
         replace p483:=eq_true p483;replace q483:=eq_true q483;have p484:0≤(x5_1:Int):=oE aS
         have q484:x5_1 < (l1.length:Int):=oE aS
         obtain⟨ad484,e484,hx484_0⟩:=Kd.at_int HR1.out x5_1 p484 q484;cases e484
         replace p484:=eq_true p484;replace q484:=eq_true q484;go_wp2
         repeat(go_quiet (fail);try go_wp2)
         go_ret
         exact⟨by first|rfl|(simp;done)|(simp [*];done),by repeat(first|exact Drawn0.refl _|apply Drawn0.step)⟩
        ·rw[if_neg c8] at H;have c8b0:decide ((rd l0 x5_1) < (rd l1 x5_1))=false:=decide_eq_false c8;clear c8;by_cases c9:(rd l0 x5_1) > (rd l1 x5_1)
         ·rw[if_pos c9] at H;have c9b0:decide ((rd l1 x5_1) < (rd l0 x5_1))=true:=dE c9;clear c9;obtain rfl:=Option.some.inj H;have p483:0≤(x5_1:Int):=oE aS
          have q483:x5_1 < (l0.length:Int):=oE aS
          obtain⟨ad483,e483,hx483_0⟩:=Kd.at_int HR0.out x5_1 p483 q483;cases e483
          replace p483:=eq_true p483;replace q483:=eq_true q483;have p484:0≤(x5_1:Int):=oE aS
          have q484:x5_1 < (l1.length:Int):=oE aS
          obtain⟨ad484,e484,hx484_0⟩:=Kd.at_int HR1.out x5_1 p484 q484;cases e484
          replace p484:=eq_true p484;replace q484:=eq_true q484;have p485:0≤(x5_1:Int):=oE aS
          have q485:x5_1 < (l0.length:Int):=oE aS
          obtain⟨ad485,e485,hx485_0⟩:=Kd.at_int HR0.out x5_1 p485 q485;obtain rfl:ad483=ad485:=(by injection e485)
          replace p485:=eq_true p485;replace q485:=eq_true q485;have p486:0≤(x5_1:Int):=oE aS
          have q486:x5_1 < (l1.length:Int):=oE aS
          obtain⟨ad486,e486,hx486_0⟩:=Kd.at_int HR1.out x5_1 p486 q486;obtain rfl:ad484=ad486:=(by injection e486)
          replace p486:=eq_true p486;replace q486:=eq_true q486;go_wp2
          repeat(go_quiet (fail);try go_wp2)
          go_ret
          exact⟨by first|rfl|(simp;done)|(simp [*];done),by repeat(first|exact Drawn0.refl _|apply Drawn0.step)⟩
         ·rw[if_neg c9] at H;have c9b0:decide ((rd l1 x5_1) < (rd l0 x5_1))=false:=decide_eq_false c9;clear c9;have H':=aM H;clear H;have p483:0≤(x5_1:Int):=oE aS
          have q483:x5_1 < (l0.length:Int):=oE aS
          obtain⟨ad483,e483,hx483_0⟩:=Kd.at_int HR0.out x5_1 p483 q483;cases e483
          replace p483:=eq_true p483;replace q483:=eq_true q483;have p484:0≤(x5_1:Int):=oE aS
          have q484:x5_1 < (l1.length:Int):=oE aS
          obtain⟨ad484,e484,hx484_0⟩:=Kd.at_int HR1.out x5_1 p484 q484;cases e484
          replace p484:=eq_true p484;replace q484:=eq_true q484;have p485:0≤(x5_1:Int):=oE aS
          have q485:x5_1 < (l0.length:Int):=oE aS
          obtain⟨ad485,e485,hx485_0⟩:=Kd.at_int HR0.out x5_1 p485 q485;obtain rfl:ad483=ad485:=(by injection e485)
          replace p485:=eq_true p485;replace q485:=eq_true q485;have p486:0≤(x5_1:Int):=oE aS
          have q486:x5_1 < (l1.length:Int):=oE aS
          obtain⟨ad486,e486,hx486_0⟩:=Kd.at_int HR1.out x5_1 p486 q486;obtain rfl:ad484=ad486:=(by injection e486)
          replace p486:=eq_true p486;replace q486:=eq_true q486;go_wp2
          repeat(go_quiet (fail);try go_wp2)
          go_roundg k1
          case measure=>have:=HK1.out;omega
          case rel=>exact⟨(wrap64 (x5_1 - 1)),sD,H',⟨by have:=HK1.out;omega⟩,by repeat(first|exact Drawn0.refl _|apply Drawn0.step)⟩
       ·rw[if_neg c7] at H;exact absurd H (by simp)
      ·rw[if_neg c6] at H;exact absurd H (by simp)
     ·rw[if_neg c5] at H;exact absurd H (by simp)
    ·rw[if_neg c4] at H;have c4b0:decide (0≤x5_1)=false:=decide_eq_false c4;clear c4;obtain rfl:=Option.some.inj H;go_wp2
     repeat(go_quiet (fail);try go_wp2)
     go_ret
     exact⟨by first|rfl|(simp;done)|(simp [*];done),by repeat(first|exact Drawn0.refl _|apply Drawn0.step)⟩
 ·rw[if_neg c3] at H;have c3b0:((l0.length:Int) == (l1.length:Int))=false:=beq_eq_false_iff_ne.mpr c3;have c3b1:((l0.length:Int) != (l1.length:Int))=true:=bne_iff_ne.mpr c3;have c3b2:(l0.length == l1.length)=false:=by first|simpa using c3|(simp at c3 ⊢;omega)
  by_cases c10:(l0.length:Int) < (l1.length:Int)
  ·rw[if_pos c10] at H;have c10b0:decide ((l0.length:Int) < (l1.length:Int))=true:=dE c10;have c10b1:decide (l0.length < l1.length)=true:=dE (Int.ofNat_lt.mp c10);clear c10;obtain rfl:=Option.some.inj H;go_enter Try.func96,Try.ntmps96
   go_wp2
   repeat(go_quiet (fail);try go_wp2)
   go_ret
   exact⟨by first|rfl|(simp;done)|(simp [*];done),by repeat(first|exact Drawn0.refl _|apply Drawn0.step)⟩
  ·rw[if_neg c10] at H;have c10b0:decide ((l0.length:Int) < (l1.length:Int))=false:=decide_eq_false c10;have c10b1:decide (l0.length < l1.length)=false:=decide_eq_false (fun h=>c10 (Int.ofNat_lt.mpr h))
   clear c10;obtain rfl:=Option.some.inj H;go_enter Try.func96,Try.ntmps96
   go_wp2
   repeat(go_quiet (fail);try go_wp2)
   go_ret
   exact⟨by first|rfl|(simp;done)|(simp [*];done),by repeat(first|exact Drawn0.refl _|apply Drawn0.step)⟩

def Bzf.l0:Nat→List Int→List Int→Int→Int→Option (Int)
 | 0,_,_,_,_=>none
 | k+1,x0,x1,x5,x6=>if x5 < x6 then((Azk.f k x1 (([wrap64 (Int.tdiv (wrap64 ((wrap64 (x5+x6))+1)) 2)]:List Int))).bind fun t490=>((Czj.f k t490 x0).bind fun t493=>(if t493≤0 then(Bzf.l0 k x0 x1 (wrap64 (Int.tdiv (wrap64 ((wrap64 (x5+x6))+1)) 2)) x6) else(Bzf.l0 k x0 x1 x5 (wrap64 ((wrap64 (Int.tdiv (wrap64 ((wrap64 (x5+x6))+1)) 2)) - 1)))))) else(some x5)
def Bzf.f (k:Nat) (l0:List Int) (l1:List Int):Option (Int):=Bzf.l0 k l0 l1 0 999999999
theorem Bzf.mono_l:∀ k,(∀ y0 y1 y2 y3,LeO (Bzf.l0 k y0 y1 y2 y3) (Bzf.l0 (k+1) y0 y1 y2 y3))
 | 0=>fun _ _ _ _ r h=>by simp [Bzf.l0] at h
 | k+1=>by
  have ih0:=Bzf.mono_l k
  ·intro y0 y1 y2 y3;unfold Bzf.l0;with_reducible repeat' first|exact ih0 _ _ _ _|exact Czj.mono _ _ _|exact Azk.mono _ _ _|exact LeO.refl _|exact LeO.none _|refine LeO.ite ?_ ?_|refine LeO.bind ?_ (fun _=>?_)
theorem Bzf.mono:∀ a0 a1 k,LeO (Bzf.f k a0 a1) (Bzf.f (k+1) a0 a1):=by
 intro a0 a1 k;have ih0:=Bzf.mono_l k;unfold Bzf.f;with_reducible repeat' first|exact ih0 _ _ _ _|exact Czj.mono _ _ _|exact Azk.mono _ _ _|exact LeO.refl _|exact LeO.none _|refine LeO.ite ?_ ?_|refine LeO.bind ?_ (fun _=>?_)
theorem Bzf.calls (k:Nat) (A0:Option Addr) (c0:Nat) (l0:List Int) (A1:Option Addr) (c1:Nat) (l1:List Int) (r:Int) (w:World) (hr0:Kd.C (Kd.int .i64) w A0 l0.length l0) (hc0:l0.length≤c0) (hr1:Kd.C (Kd.int .i64) w A1 l1.length l1) (hc1:l1.length≤c1) (h:Bzf.f k l0 l1=some r) :
  Calls Try.prog 83 #[.slice A0 l0.length c0,.slice A1 l1.length c1] w fun e w'=>e=.returned (.int .i64 r)∧Below w.heap.size w w':=by
 have HR0:=aM hr0;have HC0:=aM hc0;clear hr0 hc0;have HR1:=aM hr1;have HC1:=aM hc1;clear hr1 hc1;have HB:=aM (Below.refl w.heap.size w);have H:(Bzf.l0 k l0 l1 0 999999999)=some r:=h;clear h;have H':=aM H;clear H;go_enter Try.func83,Try.ntmps83
 go_wp2
 go_loopg [5,6] k (fun kq v5 v6 w'=>∃ (x5_1:Int) (x6_1:Int),v5=.int .i64 x5_1∧v6=.int .i64 x6_1∧Aside0 (Bzf.l0 kq l0 l1 x5_1 x6_1=some r)∧Aside0 (kq≤k)∧Aside0 (Below w.heap.size w w'))
 case atStart=>exact⟨(0),(999999999),sD,sD,H',⟨Nat.le_refl _⟩,⟨pB⟩⟩
 case round =>
  clear H';try clear c1
  try clear p2
  obtain⟨x5_1,x6_1,rfl,rfl,HA,HK1,HB⟩:=hrel;cases gk with
  | zero=>exact absurd HA.out (by simp [Bzf.l0])
  | succ k1 =>
   have H:=HA.out;clear HA;simp only[Bzf.l0] at H;by_cases c3:x5_1 < x6_1
   ·rw[if_pos c3] at H;have c3b0:decide (x5_1 < x6_1)=true:=dE c3;clear c3;obtain⟨y487,hy487⟩:∃ y_:List Int,y_=(([wrap64 (Int.tdiv (wrap64 ((wrap64 (x5_1+x6_1))+1)) 2)]:List Int)):=⟨_,rfl⟩;replace H:((Azk.f k1 l1 y487).bind fun t490=>((Czj.f k1 t490 l0).bind fun t493=>(if t493≤0 then(Bzf.l0 k1 l0 l1 (wrap64 (Int.tdiv (wrap64 ((wrap64 (x5_1+x6_1))+1)) 2)) x6_1) else(Bzf.l0 k1 l0 l1 x5_1 (wrap64 ((wrap64 (Int.tdiv (wrap64 ((wrap64 (x5_1+x6_1))+1)) 2)) - 1))))))=some r:=by first|(rw[hy487];with_reducible exact H)|(have H2_:=(Option.bind_some _ _).symm.trans H;rw[hy487];with_reducible exact H2_)|(have H2_:=(Option.bind_some _ _).symm.trans H;with_reducible exact H2_)|with_reducible exact H|(rw[hy487];exact H)|exact H
    have Ny487:=aM hy487;clear hy487;replace H:=bS H;obtain⟨t490,A40,H⟩:=H;(try dsimp only at H);have A4:=aM A40;clear A40;replace H:=bS H;obtain⟨t493,A50,H⟩:=H;(try dsimp only at H);have A5:=aM A50;clear A50;by_cases c6:t493≤0
    ·rw[if_pos c6] at H;have c6b0:decide (t493≤0)=true:=dE c6;clear c6;have H':=aM H;clear H;go_wp2_with (first|((with_reducible refine gate_dst (N:=18) rfl ?_);refine Kd.R_lit (Kd.int .i64) _ 3 ?hg (N:=18) ?hd (xs:=([wrap64 (Int.tdiv (wrap64 ((wrap64 (x5_1+x6_1))+1)) 2)]:List Int)) (inner:=[.int .i64 (wrap64 (Int.tdiv (wrap64 ((wrap64 (x5_1+x6_1))+1)) 2))]) (ok:=fun _=>True) (okp:=fun _=>True) ?hr ?hp (fun _ hk=>hk) trivial (Below.refl _ _) (Nat.le_refl _) (by simp) ?_;(case hd=>rfl);(case hg=>rfl);(case hr=>first|(go_simp;done)|(go_simp;rfl));(case hp=>exact(Reps.one (show Kd.M (Kd.int .i64) _ _ _ (wrap64 (Int.tdiv (wrap64 ((wrap64 (x5_1+x6_1))+1)) 2)) [.int .i64 (wrap64 (Int.tdiv (wrap64 ((wrap64 (x5_1+x6_1))+1)) 2))] from rfl) (Reps.none _ _)));intro v488 w7 ho8 hb hg_ hnew_;clear hg_ hnew_;(first|rw[← Ny487.out] at ho8|(simp only[Int.reduceToNat] at ho8;rw[← Ny487.out] at ho8));have HO489:=aM (Kd.R_lower ho8 (below_size pB));replace HB:=aM (below_step pB hb);clear hb ho8;obtain⟨Ao9,co9,eo9⟩:=Kd.R_slice HO489.out;subst eo9)|((with_reducible refine gate_callee (f:=66) rfl ?_);refine goesL_ (some 19) rfl rfl Try.func66 (by kernel_rfl) rfl #[.slice A1 l1.length c1,.slice Ao9 y487.length co9] rfl mA ?_;(with_reducible refine(Azk.calls k1 _ _ l1 _ _ y487 t490 _ ?side1 ?side2 ?side3 ?side4 A4.out).mono ?_);(case side1=>exact cX (Kd.C_below HR1.out HB.out));(case side2=>exact HC1.out);(case side3=>repeat(first|exact(Kd.R_reads' HO489.out).2.2|(with_reducible refine Kd.C_alloc ?_ _)|(with_reducible refine Kd.C_drewN ?_ _)|(with_reducible refine Kd.C_drew ?_)));(case side4=>exact(Kd.R_reads' HO489.out).2.1);rintro e w10 ⟨v491,rfl,ho0,hb⟩;refine⟨_,rfl,?_⟩;have HO492:=aM (Kd.R_lower (Kd.R_new' ho0 (Kd.R_lt (rX HO489.out))) (below_size pB));replace HO489:=aM (Kd.R_elder' (rX HO489.out) (Kd.R_base ho0) hb);replace HB:=aM (below_step pB hb);(try clear hb);(try clear hb2);(try clear hk);(try clear hi);(try clear ho0);obtain⟨Ao11,co11,eo11⟩:=Kd.R_slice HO492.out;subst eo11)|((with_reducible refine gate_callee (f:=96) rfl ?_);refine goesL_ (some 21) rfl rfl Try.func96 (by kernel_rfl) rfl #[.slice Ao11 t490.length co11,.slice A0 l0.length c0] rfl mA ?_;(with_reducible refine(Czj.calls k1 _ _ t490 _ _ l0 t493 _ ?side1 ?side2 ?side3 ?side4 A5.out).mono ?_);(case side1=>repeat(first|exact(Kd.R_reads' HO492.out).2.2|(with_reducible refine Kd.C_alloc ?_ _)|(with_reducible refine Kd.C_drewN ?_ _)|(with_reducible refine Kd.C_drew ?_)));(case side2=>exact(Kd.R_reads' HO492.out).2.1);(case side3=>exact cX (Kd.C_below HR0.out HB.out));(case side4=>exact HC0.out);rintro e w' ⟨rfl,⟨nd,rfl⟩⟩;refine⟨_,rfl,?_⟩))
     go_roundg k1
     case measure=>have:=HK1.out;omega
     case rel=>exact⟨(wrap64 (Int.tdiv (wrap64 ((wrap64 (x5_1+x6_1))+1)) 2)),(x6_1),sD,sD,H',⟨by have:=HK1.out;omega⟩,⟨pB⟩⟩
    ·rw[if_neg c6] at H;have c6b0:decide (t493≤0)=false:=decide_eq_false c6;clear c6;have H':=aM H;clear H;go_wp2_with (first|((with_reducible refine gate_dst (N:=18) rfl ?_);refine Kd.R_lit (Kd.int .i64) _ 3 ?hg (N:=18) ?hd (xs:=([wrap64 (Int.tdiv (wrap64 ((wrap64 (x5_1+x6_1))+1)) 2)]:List Int)) (inner:=[.int .i64 (wrap64 (Int.tdiv (wrap64 ((wrap64 (x5_1+x6_1))+1)) 2))]) (ok:=fun _=>True) (okp:=fun _=>True) ?hr ?hp (fun _ hk=>hk) trivial (Below.refl _ _) (Nat.le_refl _) (by simp) ?_;(case hd=>rfl);(case hg=>rfl);(case hr=>first|(go_simp;done)|(go_simp;rfl));(case hp=>exact(Reps.one (show Kd.M (Kd.int .i64) _ _ _ (wrap64 (Int.tdiv (wrap64 ((wrap64 (x5_1+x6_1))+1)) 2)) [.int .i64 (wrap64 (Int.tdiv (wrap64 ((wrap64 (x5_1+x6_1))+1)) 2))] from rfl) (Reps.none _ _)));intro v488 w12 ho13 hb hg_ hnew_;clear hg_ hnew_;(first|rw[← Ny487.out] at ho13|(simp only[Int.reduceToNat] at ho13;rw[← Ny487.out] at ho13));have HO489:=aM (Kd.R_lower ho13 (below_size pB));replace HB:=aM (below_step pB hb);clear hb ho13;obtain⟨Ao14,co14,eo14⟩:=Kd.R_slice HO489.out;subst eo14)|((with_reducible refine gate_callee (f:=66) rfl ?_);refine goesL_ (some 19) rfl rfl Try.func66 (by kernel_rfl) rfl #[.slice A1 l1.length c1,.slice Ao14 y487.length co14] rfl mA ?_;(with_reducible refine(Azk.calls k1 _ _ l1 _ _ y487 t490 _ ?side1 ?side2 ?side3 ?side4 A4.out).mono ?_);(case side1=>exact cX (Kd.C_below HR1.out HB.out));(case side2=>exact HC1.out);(case side3=>repeat(first|exact(Kd.R_reads' HO489.out).2.2|(with_reducible refine Kd.C_alloc ?_ _)|(with_reducible refine Kd.C_drewN ?_ _)|(with_reducible refine Kd.C_drew ?_)));(case side4=>exact(Kd.R_reads' HO489.out).2.1);rintro e w15 ⟨v491,rfl,ho0,hb⟩;refine⟨_,rfl,?_⟩;have HO492:=aM (Kd.R_lower (Kd.R_new' ho0 (Kd.R_lt (rX HO489.out))) (below_size pB));replace HO489:=aM (Kd.R_elder' (rX HO489.out) (Kd.R_base ho0) hb);replace HB:=aM (below_step pB hb);(try clear hb);(try clear hb2);(try clear hk);(try clear hi);(try clear ho0);obtain⟨Ao16,co16,eo16⟩:=Kd.R_slice HO492.out;subst eo16)|((with_reducible refine gate_callee (f:=96) rfl ?_);refine goesL_ (some 21) rfl rfl Try.func96 (by kernel_rfl) rfl #[.slice Ao16 t490.length co16,.slice A0 l0.length c0] rfl mA ?_;(with_reducible refine(Czj.calls k1 _ _ t490 _ _ l0 t493 _ ?side1 ?side2 ?side3 ?side4 A5.out).mono ?_);(case side1=>repeat(first|exact(Kd.R_reads' HO492.out).2.2|(with_reducible refine Kd.C_alloc ?_ _)|(with_reducible refine Kd.C_drewN ?_ _)|(with_reducible refine Kd.C_drew ?_)));(case side2=>exact(Kd.R_reads' HO492.out).2.1);(case side3=>exact cX (Kd.C_below HR0.out HB.out));(case side4=>exact HC0.out);rintro e w' ⟨rfl,⟨nd,rfl⟩⟩;refine⟨_,rfl,?_⟩))
     go_roundg k1
     case measure=>have:=HK1.out;omega
     case rel=>exact⟨(x5_1),(wrap64 ((wrap64 (Int.tdiv (wrap64 ((wrap64 (x5_1+x6_1))+1)) 2)) - 1)),sD,sD,H',⟨by have:=HK1.out;omega⟩,⟨pB⟩⟩
   ·rw[if_neg c3] at H;have c3b0:decide (x5_1 < x6_1)=false:=decide_eq_false c3;clear c3;obtain rfl:=Option.some.inj H;go_wp2
    go_ret
    exact⟨eW,pB⟩


def Bzb.l0:Nat→List Int→List Int→List Int→Int→Int→Option (List Int)
 | 0,_,_,_,_,_=>none
 | k+1,x0,x1,x5,x6,x7=>if x7 < (x0.length:Int) then(if 0≤x7 then((Ezy.f x1 x7).bind fun t495=>(if(wrap64 ((wrap64 ((rd x0 x7) - t495)) - x6)) < 0 then(if x5.length < 17592186044416 then(Bzb.l0 k x0 x1 (x5 ++ [wrap64 ((wrap64 ((wrap64 ((rd x0 x7) - t495)) - x6))+1000000000)]) 1 (wrap64 (x7+1))) else(none)) else(if x5.length < 17592186044416 then(Bzb.l0 k x0 x1 (x5 ++ [wrap64 ((wrap64 ((rd x0 x7) - t495)) - x6)]) 0 (wrap64 (x7+1))) else(none)))) else(none)) else((Czq.f k x5).bind fun bt502=>(some bt502.1))
def Bzb.f (k:Nat) (l0:List Int) (l1:List Int):Option (List Int):=Bzb.l0 k l0 l1 ([]:List Int) 0 0
theorem Bzb.mono_l:∀ k,(∀ y0 y1 y2 y3 y4,LeO (Bzb.l0 k y0 y1 y2 y3 y4) (Bzb.l0 (k+1) y0 y1 y2 y3 y4))
 | 0=>fun _ _ _ _ _ r h=>by simp [Bzb.l0] at h
 | k+1=>by
  have ih0:=Bzb.mono_l k
  ·intro y0 y1 y2 y3 y4;unfold Bzb.l0;with_reducible repeat' first|exact ih0 _ _ _ _ _|exact Czq.mono _ _|exact LeO.refl _|exact LeO.none _|refine LeO.ite ?_ ?_|refine LeO.bind ?_ (fun _=>?_)
theorem Bzb.mono:∀ a0 a1 k,LeO (Bzb.f k a0 a1) (Bzb.f (k+1) a0 a1):=by
 intro a0 a1 k;have ih0:=Bzb.mono_l k;unfold Bzb.f;with_reducible repeat' first|exact ih0 _ _ _ _ _|exact Czq.mono _ _|exact LeO.refl _|exact LeO.none _|refine LeO.ite ?_ ?_|refine LeO.bind ?_ (fun _=>?_)
theorem Bzb.calls (k:Nat) (A0:Option Addr) (c0:Nat) (l0:List Int) (A1:Option Addr) (c1:Nat) (l1:List Int) (r:List Int) (w:World) (hr0:Kd.C (Kd.int .i64) w A0 l0.length l0) (hc0:l0.length≤c0) (hr1:Kd.C (Kd.int .i64) w A1 l1.length l1) (hc1:l1.length≤c1) (h:Bzb.f k l0 l1=some r) :
  Calls Try.prog 84 #[.slice A0 l0.length c0,.slice A1 l1.length c1] w fun e w'=>∃ v0_:Value,e=.returned (v0_)∧Kd.R (Kd.int .i64) 3 w' w.heap.size (fun _=>True) v0_ r∧Below w.heap.size w w':=by
 have HR0:=aM hr0;have HC0:=aM hc0;clear hr0 hc0;have HR1:=aM hr1;have HC1:=aM hc1;clear hr1 hc1;have HB:=aM (Below.refl w.heap.size w);have H:(Bzb.l0 k l0 l1 ([]:List Int) 0 0)=some r:=h;clear h;have H':=aM H;clear H;go_enter Try.func84,Try.ntmps84
 go_wp2
 repeat(go_quiet (fail);try go_wp2)
 go_loopg [5,6,7] k (fun kq v5 v6 v7 w'=>∃ (x5_1:List Int) (x6_1:Int) (x7_1:Int),v6=.int .i64 x6_1∧v7=.int .i64 x7_1∧Aside0 (Bzb.l0 kq l0 l1 x5_1 x6_1 x7_1=some r)∧Aside0 (kq≤k)∧Aside0 (Kd.R (Kd.int .i64) 3 w' w.heap.size (fun _=>True) v5 x5_1)∧Aside0 (Below w.heap.size w w'))
 case atStart=>exact⟨(([]:List Int)),(0),(0),sD,sD,H',⟨Nat.le_refl _⟩,⟨by first|exact Kd.R_nil _ _ _ _ _|exact Kd.N_nil _ _ _ _ _|exact Kd.V_nil _ _ _ _ _|exact Kd.Q_nil _ _ _ _ _|exact Kd.S_nil _ _ _ _ _⟩,⟨pB⟩⟩
 case round =>
  clear H';try clear c1
  try clear p2
  obtain⟨x5_1,x6_1,x7_1,rfl,rfl,HA,HK1,HO_5,HB⟩:=hrel;cases gk with
  | zero=>exact absurd HA.out (by simp [Bzb.l0])
  | succ k1 =>
   have H:=HA.out;clear HA;simp only[Bzb.l0] at H;by_cases c3:x7_1 < (l0.length:Int)
   ·rw[if_pos c3] at H;have c3b0:decide (x7_1 < (l0.length:Int))=true:=dE c3;clear c3;by_cases c4:0≤x7_1
    ·rw[if_pos c4] at H;have c4b0:decide (0≤x7_1)=true:=dE c4;clear c4;replace H:=bS H;obtain⟨t495,A50,H⟩:=H;(try dsimp only at H);have A5:=aM A50;clear A50;by_cases c6:(wrap64 ((wrap64 ((rd l0 x7_1) - t495)) - x6_1)) < 0
     ·rw[if_pos c6] at H;have c6b0:decide ((wrap64 ((wrap64 ((rd l0 x7_1) - t495)) - x6_1)) < 0)=true:=dE c6;have c6b0w:decide ((IntKind.i64.wrap ((IntKind.i64.wrap ((rd l0 x7_1) - t495)) - x6_1)) < 0)=true:=by have h_:=c6b0;first|exact h_|(simp only[i64_w];exact h_)
      clear c6;by_cases c7:x5_1.length < 17592186044416
      ·rw[if_pos c7] at H;have LMc7:=aM c7;clear c7;obtain⟨y496,hy496⟩:∃ y_:List Int,y_=(x5_1 ++ [wrap64 ((wrap64 ((wrap64 ((rd l0 x7_1) - t495)) - x6_1))+1000000000)]):=⟨_,rfl⟩;replace H:(Bzb.l0 k1 l0 l1 y496 1 (wrap64 (x7_1+1)))=some r:=by first|(rw[hy496];with_reducible exact H)|(have H2_:=(Option.bind_some _ _).symm.trans H;rw[hy496];with_reducible exact H2_)|(have H2_:=(Option.bind_some _ _).symm.trans H;with_reducible exact H2_)|with_reducible exact H|(rw[hy496];exact H)|exact H
       have Ny496:=aM hy496;clear hy496;have H':=aM H;clear H;have p494:0≤(x7_1:Int):=oE aS
       have q494:x7_1 < (l0.length:Int):=oE aS
       obtain⟨ad494,e494,hx494_0⟩:=Kd.at_int HR0.out x7_1 p494 q494;cases e494
       replace hx494_0:=(HB.out.cell (World.block_lt_of_cell? w _ hx494_0)).trans hx494_0;replace p494:=eq_true p494;replace q494:=eq_true q494;have fl_:True:=trivial;repeat((first|clear fl_|go_quiet (first|(go_at_call 85;(with_reducible refine(Ezy.calls _ _ l1 x7_1 t495 _ ?side1 ?side2 A5.out).mono ?_);(case side1=>exact cX (Kd.C_below HR1.out HB.out));(case side2=>exact HC1.out);rintro e w' ⟨rfl,⟨nd,rfl⟩⟩;(try first|exact⟨rfl,_,World.drewN_drewN _ _ _⟩|exact⟨rfl,_,Eq.trans (World.drewN_drewN _ _ _) (congrArg (World.drewN _) (Nat.add_assoc _ _ _))⟩))|((with_reducible refine gate_builtin (b:=.append) (xs:=#[.tmp 29,.tmp 31]) rfl ?_);at_builtin;refine Kd.R_append (Kd.int .i64) (w0:=w) w.heap.size rfl (.tmp 29) (.tmp 31) 37 3 (.int .i64 0) 8 rfl Try.underlying37 info3 rfl (by decide) (by omega) u5 x5_1 (wrap64 ((wrap64 ((wrap64 ((rd l0 x7_1) - t495)) - x6_1))+1000000000)) [.int .i64 (wrap64 ((wrap64 ((wrap64 ((rd l0 x7_1) - t495)) - x6_1))+1000000000))] (fun _=>True) (fun _=>False) rfl rfl ?aP (fun _ hk=>hk.elim) ?aF ?aO ?aB ?aS ?aL ?_;(case aP=>exact rfl);(case aB=>exact pB);(case aF=>exact(fun _ _=>trivial));(case aO=>exact(rX HO_5.out));(case aS=>exact(below_size pB));(case aL=>have:=LMc7.out;omega);intro v497 w8 ho hb hg hat;rw[← Ny496.out] at ho;have HO498:=aM (ho);replace HB:=aM (hb);clear HO_5;clear ho hb hg hat)));go_wp2_with (first|(go_at_call 85;(with_reducible refine(Ezy.calls _ _ l1 x7_1 t495 _ ?side1 ?side2 A5.out).mono ?_);(case side1=>exact cX (Kd.C_below HR1.out HB.out));(case side2=>exact HC1.out);rintro e w' ⟨rfl,⟨nd,rfl⟩⟩;(try first|exact⟨rfl,_,World.drewN_drewN _ _ _⟩|exact⟨rfl,_,Eq.trans (World.drewN_drewN _ _ _) (congrArg (World.drewN _) (Nat.add_assoc _ _ _))⟩))|((with_reducible refine gate_builtin (b:=.append) (xs:=#[.tmp 29,.tmp 31]) rfl ?_);at_builtin;refine Kd.R_append (Kd.int .i64) (w0:=w) w.heap.size rfl (.tmp 29) (.tmp 31) 37 3 (.int .i64 0) 8 rfl Try.underlying37 info3 rfl (by decide) (by omega) u5 x5_1 (wrap64 ((wrap64 ((wrap64 ((rd l0 x7_1) - t495)) - x6_1))+1000000000)) [.int .i64 (wrap64 ((wrap64 ((wrap64 ((rd l0 x7_1) - t495)) - x6_1))+1000000000))] (fun _=>True) (fun _=>False) rfl rfl ?aP (fun _ hk=>hk.elim) ?aF ?aO ?aB ?aS ?aL ?_;(case aP=>exact rfl);(case aB=>exact pB);(case aF=>exact(fun _ _=>trivial));(case aO=>exact(rX HO_5.out));(case aS=>exact(below_size pB));(case aL=>have:=LMc7.out;omega);intro v497 w8 ho hb hg hat;rw[← Ny496.out] at ho;have HO498:=aM (ho);replace HB:=aM (hb);clear HO_5;clear ho hb hg hat)))
       go_roundg k1
       case measure=>have:=HK1.out;omega
       case rel=>exact⟨(y496),(1),(wrap64 (x7_1+1)),sD,sD,H',⟨by have:=HK1.out;omega⟩,⟨rX HO498.out⟩,⟨pB⟩⟩
      ·rw[if_neg c7] at H;exact absurd H (by simp)
     ·rw[if_neg c6] at H;have c6b0:decide ((wrap64 ((wrap64 ((rd l0 x7_1) - t495)) - x6_1)) < 0)=false:=decide_eq_false c6;have c6b0w:decide ((IntKind.i64.wrap ((IntKind.i64.wrap ((rd l0 x7_1) - t495)) - x6_1)) < 0)=false:=by have h_:=c6b0;first|exact h_|(simp only[i64_w];exact h_)
      clear c6;by_cases c9:x5_1.length < 17592186044416
      ·rw[if_pos c9] at H;have LMc9:=aM c9;clear c9;obtain⟨y499,hy499⟩:∃ y_:List Int,y_=(x5_1 ++ [wrap64 ((wrap64 ((rd l0 x7_1) - t495)) - x6_1)]):=⟨_,rfl⟩;replace H:(Bzb.l0 k1 l0 l1 y499 0 (wrap64 (x7_1+1)))=some r:=by first|(rw[hy499];with_reducible exact H)|(have H2_:=(Option.bind_some _ _).symm.trans H;rw[hy499];with_reducible exact H2_)|(have H2_:=(Option.bind_some _ _).symm.trans H;with_reducible exact H2_)|with_reducible exact H|(rw[hy499];exact H)|exact H
       have Ny499:=aM hy499;clear hy499;have H':=aM H;clear H;have p494:0≤(x7_1:Int):=oE aS
       have q494:x7_1 < (l0.length:Int):=oE aS
       obtain⟨ad494,e494,hx494_0⟩:=Kd.at_int HR0.out x7_1 p494 q494;cases e494
       replace hx494_0:=(HB.out.cell (World.block_lt_of_cell? w _ hx494_0)).trans hx494_0;replace p494:=eq_true p494;replace q494:=eq_true q494;have fl_:True:=trivial;repeat((first|clear fl_|go_quiet (first|(go_at_call 85;(with_reducible refine(Ezy.calls _ _ l1 x7_1 t495 _ ?side1 ?side2 A5.out).mono ?_);(case side1=>exact cX (Kd.C_below HR1.out HB.out));(case side2=>exact HC1.out);rintro e w' ⟨rfl,⟨nd,rfl⟩⟩;(try first|exact⟨rfl,_,World.drewN_drewN _ _ _⟩|exact⟨rfl,_,Eq.trans (World.drewN_drewN _ _ _) (congrArg (World.drewN _) (Nat.add_assoc _ _ _))⟩))|((with_reducible refine gate_builtin (b:=.append) (xs:=#[.tmp 29,.tmp 31]) rfl ?_);at_builtin;refine Kd.R_append (Kd.int .i64) (w0:=w) w.heap.size rfl (.tmp 29) (.tmp 31) 37 3 (.int .i64 0) 8 rfl Try.underlying37 info3 rfl (by decide) (by omega) u5 x5_1 (wrap64 ((wrap64 ((rd l0 x7_1) - t495)) - x6_1)) [.int .i64 (wrap64 ((wrap64 ((rd l0 x7_1) - t495)) - x6_1))] (fun _=>True) (fun _=>False) rfl rfl ?aP (fun _ hk=>hk.elim) ?aF ?aO ?aB ?aS ?aL ?_;(case aP=>exact rfl);(case aB=>exact pB);(case aF=>exact(fun _ _=>trivial));(case aO=>exact(rX HO_5.out));(case aS=>exact(below_size pB));(case aL=>have:=LMc9.out;omega);intro v500 w10 ho hb hg hat;rw[← Ny499.out] at ho;have HO501:=aM (ho);replace HB:=aM (hb);clear HO_5;clear ho hb hg hat)));go_wp2_with (first|(go_at_call 85;(with_reducible refine(Ezy.calls _ _ l1 x7_1 t495 _ ?side1 ?side2 A5.out).mono ?_);(case side1=>exact cX (Kd.C_below HR1.out HB.out));(case side2=>exact HC1.out);rintro e w' ⟨rfl,⟨nd,rfl⟩⟩;(try first|exact⟨rfl,_,World.drewN_drewN _ _ _⟩|exact⟨rfl,_,Eq.trans (World.drewN_drewN _ _ _) (congrArg (World.drewN _) (Nat.add_assoc _ _ _))⟩))|((with_reducible refine gate_builtin (b:=.append) (xs:=#[.tmp 29,.tmp 31]) rfl ?_);at_builtin;refine Kd.R_append (Kd.int .i64) (w0:=w) w.heap.size rfl (.tmp 29) (.tmp 31) 37 3 (.int .i64 0) 8 rfl Try.underlying37 info3 rfl (by decide) (by omega) u5 x5_1 (wrap64 ((wrap64 ((rd l0 x7_1) - t495)) - x6_1)) [.int .i64 (wrap64 ((wrap64 ((rd l0 x7_1) - t495)) - x6_1))] (fun _=>True) (fun _=>False) rfl rfl ?aP (fun _ hk=>hk.elim) ?aF ?aO ?aB ?aS ?aL ?_;(case aP=>exact rfl);(case aB=>exact pB);(case aF=>exact(fun _ _=>trivial));(case aO=>exact(rX HO_5.out));(case aS=>exact(below_size pB));(case aL=>have:=LMc9.out;omega);intro v500 w10 ho hb hg hat;rw[← Ny499.out] at ho;have HO501:=aM (ho);replace HB:=aM (hb);clear HO_5;clear ho hb hg hat)))
       go_roundg k1
       case measure=>have:=HK1.out;omega
       case rel=>exact⟨(y499),(0),(wrap64 (x7_1+1)),sD,sD,H',⟨by have:=HK1.out;omega⟩,⟨rX HO501.out⟩,⟨pB⟩⟩
      ·rw[if_neg c9] at H;exact absurd H (by simp)
    ·rw[if_neg c4] at H;exact absurd H (by simp)
   ·rw[if_neg c3] at H;have c3b0:decide (x7_1 < (l0.length:Int))=false:=decide_eq_false c3;clear c3;replace H:=bS H;obtain⟨⟨t502,t503⟩,A110,H⟩:=H;replace H:(some t502)=some r:=H;have A11:=aM A110;clear A110;obtain rfl:=Option.some.inj H;obtain⟨Ao12,co12,eo12⟩:=Kd.R_slice HO_5.out;subst eo12;have fl_:True:=trivial;repeat((first|clear fl_|go_quiet (first|(go_at_call 65;(with_reducible refine(Czq.calls k1 _ _ x5_1 t502 t503 _ ?side1 ?side2 A11.out).mono ?_);(case side1=>repeat(first|exact(Kd.R_reads' HO_5.out).2.2|(with_reducible refine Kd.C_alloc ?_ _)|(with_reducible refine Kd.C_drewN ?_ _)|(with_reducible refine Kd.C_drew ?_)));(case side2=>exact(Kd.R_reads' HO_5.out).2.1);rintro e w13 ⟨v504,rfl,ho0,hb⟩;have HO505:=aM (Kd.R_lower (Kd.R_new' ho0 (Kd.R_lt (rX HO_5.out))) (below_size pB));replace HO_5:=aM (Kd.R_elder' (rX HO_5.out) (Kd.R_base ho0) hb);replace HB:=aM (below_step pB hb);(try clear hb);(try clear hb2);(try clear hk);(try clear hi);(try clear ho0))));go_wp2_with (first|(go_at_call 65;(with_reducible refine(Czq.calls k1 _ _ x5_1 t502 t503 _ ?side1 ?side2 A11.out).mono ?_);(case side1=>repeat(first|exact(Kd.R_reads' HO_5.out).2.2|(with_reducible refine Kd.C_alloc ?_ _)|(with_reducible refine Kd.C_drewN ?_ _)|(with_reducible refine Kd.C_drew ?_)));(case side2=>exact(Kd.R_reads' HO_5.out).2.1);rintro e w13 ⟨v504,rfl,ho0,hb⟩;have HO505:=aM (Kd.R_lower (Kd.R_new' ho0 (Kd.R_lt (rX HO_5.out))) (below_size pB));replace HO_5:=aM (Kd.R_elder' (rX HO_5.out) (Kd.R_base ho0) hb);replace HB:=aM (below_step pB hb);(try clear hb);(try clear hb2);(try clear hk);(try clear hi);(try clear ho0))))
    go_ret
    exact⟨_,eW,by(with_reducible repeat(first|apply Kd.R_alloc|apply Kd.R_drewN|apply Kd.R_drew));exact Kd.R_mono HO505.out (fun _ hk=>trivial),pB⟩

end Go.Proofs.Ytnklckihalhlmaa.Print
