import Derived.Test.YtnklckihalhlmaaPrint0
import Derived.Test.YtnklckihalhlmaaPrint34
import Derived.Test.YtnklckihalhlmaaPrint32
namespace Go.Proofs.Ytnklckihalhlmaa.Print
open Go.RowKit Go.Proofs.YtnklckihalhlmaaW.PrintWords Go.Proofs.YtnklckihalhlmaaW.PrintLast Go.Proofs.YtnklckihalhlmaaW.PrintMore
attribute [local go_sem] max2_int min2_int max_two min_two max_three min_three max_four min_four
set_option linter.unusedVariables false
set_option maxRecDepth 100000
set_option maxHeartbeats 8000000
set_option linter.unusedSimpArgs false

def Czq.l0:Nat→List Int→List Int→Int→Option (Int)
 | 0,_,_,_=>none
 | k+1,x0,x1,x5=>if x5≥0 then(if 0≤x5 then(if x5 < (x0.length:Int) then(if x5 < (x1.length:Int) then(if(rd x0 x5) < (rd x1 x5) then(some (-1)) else(if(rd x0 x5) > (rd x1 x5) then(some 1) else(Czq.l0 k x0 x1 (wrap64 (x5 - 1))))) else(none)) else(none)) else(none)) else(some 0)
def Czq.f (k:Nat) (l0:List Int) (l1:List Int):Option (Int):=if(l0.length:Int)=(l1.length:Int) then(Czq.l0 k l0 l1 (wrap64 ((l0.length:Int) - 1))) else(if(l0.length:Int) < (l1.length:Int) then(some (-1)) else(some 1))
theorem Czq.mono_l:∀ k,(∀ y0 y1 y2,LeO (Czq.l0 k y0 y1 y2) (Czq.l0 (k+1) y0 y1 y2))
 | 0=>fun _ _ _ r h=>by simp [Czq.l0] at h
 | k+1=>by
  have ih0:=Czq.mono_l k
  ·intro y0 y1 y2;unfold Czq.l0;exact mM
theorem Czq.mono:∀ a0 a1 k,LeO (Czq.f k a0 a1) (Czq.f (k+1) a0 a1):=by
 intro a0 a1 k;have ih0:=Czq.mono_l k;unfold Czq.f;exact mM
theorem Czq.calls (k:Nat) (A0:Option Addr) (c0:Nat) (l0:List Int) (A1:Option Addr) (c1:Nat) (l1:List Int) (r:Int) (w:World) (hr0:Kd.C (Kd.int .i64) w A0 l0.length l0) (hc0:l0.length≤c0) (hr1:Kd.C (Kd.int .i64) w A1 l1.length l1) (hc1:l1.length≤c1) (h:Czq.f k l0 l1=some r) :
  Calls Try.prog 96 #[.slice A0 l0.length c0,.slice A1 l1.length c1] w fun e w'=>e=.returned (.int .i64 r)∧Drawn0 w w':=by
 have HR0:=aM hr0;have HC0:=aM hc0;clear hr0 hc0;have HR1:=aM hr1;have HC1:=aM hc1;clear hr1 hc1;have H:(if(l0.length:Int)=(l1.length:Int) then(Czq.l0 k l0 l1 (wrap64 ((l0.length:Int) - 1))) else(if(l0.length:Int) < (l1.length:Int) then(some (-1)) else(some 1)))=some r:=h
 clear h;by_cases c3:(l0.length:Int)=(l1.length:Int)
 ·rw[if_pos c3] at H;have c3b0:((l0.length:Int) == (l1.length:Int))=true:=beq_iff_eq.mpr c3;have c3b1:((l0.length:Int) != (l1.length:Int))=false:=bne_eq_false_iff_eq.mpr c3;have c3b2:(l0.length == l1.length)=true:=by first|simpa using c3|(simp at c3 ⊢;omega)
  clear c3;have H':=aM H;clear H;go_enter Try.func96,Try.ntmps96
  go_wp2
  repeat(go_quiet (fail);try go_wp2)
  go_loopg [5] k (fun kq v5 w'=>∃ (x5_1:Int),v5=.int .i64 x5_1∧Aside0 (Czq.l0 kq l0 l1 x5_1=some r)∧Aside0 (kq≤k)∧Drawn0 w w')
  case atStart=>exact⟨(wrap64 ((l0.length:Int) - 1)),sD,H',⟨Nat.le_refl _⟩,dR⟩
  case round =>
   clear H';try clear c1
   try clear p2
   try clear c3
   try clear c3b0
   try clear c3b1
   try clear c3b2
   obtain⟨x5_1,rfl,HA,HK1,⟨m1,rfl⟩⟩:=hrel;cases gk with
   | zero=>exact absurd HA.out (by simp [Czq.l0])
   | succ k1 =>
    have H:=HA.out;clear HA;simp only[Czq.l0] at H;by_cases c4:x5_1≥0
    ·rw[if_pos c4] at H;have c4b0:decide (0≤x5_1)=true:=dE c4;clear c4;obtain⟨c5b0,H⟩:=iN H;obtain⟨c6b0,H⟩:=iN H;obtain⟨c7b0,H⟩:=iN H;by_cases c8:(rd l0 x5_1) < (rd l1 x5_1)
     ·rw[if_pos c8] at H;have c8b0:=dE c8;clear c8;obtain rfl:=Option.some.inj H;obtain⟨ad483,e483,hx483_0,p483,q483⟩:=aI HR0.out x5_1;cases e483;obtain⟨ad484,e484,hx484_0,p484,q484⟩:=aI HR1.out x5_1;cases e484;go_wp2
      repeat(go_quiet (fail);try go_wp2)
      go_ret
      exact⟨sD,dR⟩
     ·rw[if_neg c8] at H;have c8b0:decide ((rd l0 x5_1) < (rd l1 x5_1))=false:=decide_eq_false c8;clear c8;by_cases c9:(rd l0 x5_1) > (rd l1 x5_1)
      ·rw[if_pos c9] at H;have c9b0:decide ((rd l1 x5_1) < (rd l0 x5_1))=true:=dE c9;clear c9;obtain rfl:=Option.some.inj H;obtain⟨ad483,e483,hx483_0,p483,q483⟩:=aI HR0.out x5_1;cases e483;obtain⟨ad484,e484,hx484_0,p484,q484⟩:=aI HR1.out x5_1;cases e484;obtain⟨ad485,e485,hx485_0,p485,q485⟩:=aI HR0.out x5_1;obtain rfl:ad483=ad485:=(by injection e485);obtain⟨ad486,e486,hx486_0,p486,q486⟩:=aI HR1.out x5_1;obtain rfl:ad484=ad486:=(by injection e486);go_wp2
       repeat(go_quiet (fail);try go_wp2)
       go_ret
       exact⟨sD,dR⟩
      ·rw[if_neg c9] at H;have c9b0:decide ((rd l1 x5_1) < (rd l0 x5_1))=false:=decide_eq_false c9;clear c9;have H':=aM H;clear H;obtain⟨ad483,e483,hx483_0,p483,q483⟩:=aI HR0.out x5_1;cases e483;obtain⟨ad484,e484,hx484_0,p484,q484⟩:=aI HR1.out x5_1;cases e484;obtain⟨ad485,e485,hx485_0,p485,q485⟩:=aI HR0.out x5_1;obtain rfl:ad483=ad485:=(by injection e485);obtain⟨ad486,e486,hx486_0,p486,q486⟩:=aI HR1.out x5_1;obtain rfl:ad484=ad486:=(by injection e486);go_wp2
       repeat(go_quiet (fail);try go_wp2)
       go_roundg k1
       case measure=>have:=HK1.out;omega
       case rel=>exact⟨(wrap64 (x5_1 - 1)),sD,H',⟨by have:=HK1.out;omega⟩,dR⟩
    ·rw[if_neg c4] at H;have c4b0:decide (0≤x5_1)=false:=decide_eq_false c4;clear c4;obtain rfl:=Option.some.inj H;go_wp2
     repeat(go_quiet (fail);try go_wp2)
     go_ret
     exact⟨sD,dR⟩
 ·rw[if_neg c3] at H;have c3b0:((l0.length:Int) == (l1.length:Int))=false:=beq_eq_false_iff_ne.mpr c3;have c3b1:((l0.length:Int) != (l1.length:Int))=true:=bne_iff_ne.mpr c3;have c3b2:(l0.length == l1.length)=false:=by first|simpa using c3|(simp at c3 ⊢;omega)
  by_cases c10:(l0.length:Int) < (l1.length:Int)
  ·rw[if_pos c10] at H;have c10b0:=dE c10;have c10b1:decide (l0.length < l1.length)=true:=dE (Int.ofNat_lt.mp c10);clear c10;obtain rfl:=Option.some.inj H;go_enter Try.func96,Try.ntmps96
   go_wp2
   repeat(go_quiet (fail);try go_wp2)
   go_ret
   exact⟨sD,dR⟩
  ·rw[if_neg c10] at H;have c10b0:decide ((l0.length:Int) < (l1.length:Int))=false:=decide_eq_false c10;have c10b1:decide (l0.length < l1.length)=false:=decide_eq_false (fun h=>c10 (Int.ofNat_lt.mpr h))
   clear c10;obtain rfl:=Option.some.inj H;go_enter Try.func96,Try.ntmps96
   go_wp2
   repeat(go_quiet (fail);try go_wp2)
   go_ret
   exact⟨sD,dR⟩

def Bzm.l0:Nat→List Int→List Int→Int→Int→Option (Int)
 | 0,_,_,_,_=>none
 | k+1,x0,x1,x5,x6=>if x5 < x6 then((Azk.f k x1 (([wrap64 (Int.tdiv (wrap64 ((wrap64 (x5+x6))+1)) 2)]:List Int))).bind fun t490=>((Czq.f k t490 x0).bind fun t493=>(if t493≤0 then(Bzm.l0 k x0 x1 (wrap64 (Int.tdiv (wrap64 ((wrap64 (x5+x6))+1)) 2)) x6) else(Bzm.l0 k x0 x1 x5 (wrap64 ((wrap64 (Int.tdiv (wrap64 ((wrap64 (x5+x6))+1)) 2)) - 1)))))) else(some x5)
def Bzm.f (k:Nat) (l0:List Int) (l1:List Int):Option (Int):=Bzm.l0 k l0 l1 0 999999999
theorem Bzm.mono_l:∀ k,(∀ y0 y1 y2 y3,LeO (Bzm.l0 k y0 y1 y2 y3) (Bzm.l0 (k+1) y0 y1 y2 y3))
 | 0=>fun _ _ _ _ r h=>by simp [Bzm.l0] at h
 | k+1=>by
  have ih0:=Bzm.mono_l k
  ·intro y0 y1 y2 y3;unfold Bzm.l0;have i0:=@Czq.mono;have i1:=@Azk.mono;exact mM
theorem Bzm.mono:∀ a0 a1 k,LeO (Bzm.f k a0 a1) (Bzm.f (k+1) a0 a1):=by
 intro a0 a1 k;have ih0:=Bzm.mono_l k;unfold Bzm.f;have i0:=@Czq.mono;have i1:=@Azk.mono;exact mM
theorem Bzm.calls (k:Nat) (A0:Option Addr) (c0:Nat) (l0:List Int) (A1:Option Addr) (c1:Nat) (l1:List Int) (r:Int) (w:World) (hr0:Kd.C (Kd.int .i64) w A0 l0.length l0) (hc0:l0.length≤c0) (hr1:Kd.C (Kd.int .i64) w A1 l1.length l1) (hc1:l1.length≤c1) (h:Bzm.f k l0 l1=some r) :
  Calls Try.prog 83 #[.slice A0 l0.length c0,.slice A1 l1.length c1] w fun e w'=>e=.returned (.int .i64 r)∧Below w.heap.size w w':=by
 have HR0:=aM hr0;have HC0:=aM hc0;clear hr0 hc0;have HR1:=aM hr1;have HC1:=aM hc1;clear hr1 hc1;have HB:=aM (Below.refl w.heap.size w);have H:(Bzm.l0 k l0 l1 0 999999999)=some r:=h;clear h;have H':=aM H;clear H;go_enter Try.func83,Try.ntmps83
 go_wp2
 go_loopg [5,6] k (fun kq v5 v6 w'=>∃ (x5_1:Int) (x6_1:Int),v5=.int .i64 x5_1∧v6=.int .i64 x6_1∧Aside0 (Bzm.l0 kq l0 l1 x5_1 x6_1=some r)∧Aside0 (kq≤k)∧Aside0 (Below w.heap.size w w'))
 case atStart=>exact⟨(0),(999999999),sD,sD,H',⟨Nat.le_refl _⟩,⟨pB⟩⟩
 case round =>
  clear H';try clear c1
  try clear p2
  obtain⟨x5_1,x6_1,rfl,rfl,HA,HK1,HB⟩:=hrel;cases gk with
  | zero=>exact absurd HA.out (by simp [Bzm.l0])
  | succ k1 =>
   have H:=HA.out;clear HA;simp only[Bzm.l0] at H;by_cases c3:x5_1 < x6_1
   ·rw[if_pos c3] at H;have c3b0:=dE c3;clear c3;obtain⟨y487,hy487⟩:∃ y_:List Int,y_=(([wrap64 (Int.tdiv (wrap64 ((wrap64 (x5_1+x6_1))+1)) 2)]:List Int)):=⟨_,rfl⟩;replace H:((Azk.f k1 l1 y487).bind fun t490=>((Czq.f k1 t490 l0).bind fun t493=>(if t493≤0 then(Bzm.l0 k1 l0 l1 (wrap64 (Int.tdiv (wrap64 ((wrap64 (x5_1+x6_1))+1)) 2)) x6_1) else(Bzm.l0 k1 l0 l1 x5_1 (wrap64 ((wrap64 (Int.tdiv (wrap64 ((wrap64 (x5_1+x6_1))+1)) 2)) - 1))))))=some r:=yE hy487 H
    have Ny487:=aM hy487;clear hy487;obtain⟨t490,A4,H⟩:=bT H;(try dsimp only at H);obtain⟨t493,A5,H⟩:=bT H;(try dsimp only at H);by_cases c6:t493≤0
    ·rw[if_pos c6] at H;have c6b0:=dE c6;clear c6;have H':=aM H;clear H;go_wp2_with (first|((with_reducible refine gate_dst (N:=18) rfl ?_);refine Kd.R_lit (Kd.int .i64) _ 3 ?hg (N:=18) ?hd (xs:=([wrap64 (Int.tdiv (wrap64 ((wrap64 (x5_1+x6_1))+1)) 2)]:List Int)) (inner:=[.int .i64 (wrap64 (Int.tdiv (wrap64 ((wrap64 (x5_1+x6_1))+1)) 2))]) (ok:=fun _=>True) (okp:=fun _=>True) ?hr ?hp (fun _ hk=>hk) trivial (Below.refl _ _) (Nat.le_refl _) (by simp) ?_;(case hd=>rfl);(case hg=>rfl);(case hr=>first|(go_simp;done)|(go_simp;rfl));(case hp=>exact(Reps.one (show Kd.M (Kd.int .i64) _ _ _ (wrap64 (Int.tdiv (wrap64 ((wrap64 (x5_1+x6_1))+1)) 2)) [.int .i64 (wrap64 (Int.tdiv (wrap64 ((wrap64 (x5_1+x6_1))+1)) 2))] from rfl) (Reps.none _ _)));intro v488 w7 ho8 hb hg_ hnew_;clear hg_ hnew_;replace ho8:=rY Ny487 ho8;have HO489:=rL ho8;replace HB:=bB hb;clear hb ho8;obtain⟨Ao9,co9,rfl⟩:=Kd.R_slice HO489.out)|((with_reducible refine gc 66 rfl ?_);refine gC 66 (some 19) Try.func66 #[.slice A1 l1.length c1,.slice Ao9 y487.length co9] ?_;(with_reducible refine(Azk.calls k1 _ _ l1 _ _ y487 t490 _ ?side1 ?side2 ?side3 ?side4 A4.out).mono ?_);(case side1=>exact cB HR1);(case side2=>exact HC1.out);(case side3=>exact cR HO489);(case side4=>exact lR HO489);rintro e w10 ⟨v491,rfl,ho0,hb⟩;refine⟨_,rfl,?_⟩;have HO492:=rL (rn ho0 HO489);replace HO489:=rE HO489 ho0 hb;replace HB:=bB hb;clear hb ho0;obtain⟨Ao11,co11,rfl⟩:=Kd.R_slice HO492.out)|((with_reducible refine gc 96 rfl ?_);refine gC 96 (some 21) Try.func96 #[.slice Ao11 t490.length co11,.slice A0 l0.length c0] ?_;(with_reducible refine(Czq.calls k1 _ _ t490 _ _ l0 t493 _ ?side1 ?side2 ?side3 ?side4 A5.out).mono ?_);(case side1=>exact cR HO492);(case side2=>exact lR HO492);(case side3=>exact cB HR0);(case side4=>exact HC0.out);rintro e w' ⟨rfl,⟨nd,rfl⟩⟩;refine⟨_,rfl,?_⟩))
     go_roundg k1
     case measure=>have:=HK1.out;omega
     case rel=>exact⟨(wrap64 (Int.tdiv (wrap64 ((wrap64 (x5_1+x6_1))+1)) 2)),(x6_1),sD,sD,H',⟨by have:=HK1.out;omega⟩,⟨pB⟩⟩
    ·rw[if_neg c6] at H;have c6b0:decide (t493≤0)=false:=decide_eq_false c6;clear c6;have H':=aM H;clear H;go_wp2_with (first|((with_reducible refine gate_dst (N:=18) rfl ?_);refine Kd.R_lit (Kd.int .i64) _ 3 ?hg (N:=18) ?hd (xs:=([wrap64 (Int.tdiv (wrap64 ((wrap64 (x5_1+x6_1))+1)) 2)]:List Int)) (inner:=[.int .i64 (wrap64 (Int.tdiv (wrap64 ((wrap64 (x5_1+x6_1))+1)) 2))]) (ok:=fun _=>True) (okp:=fun _=>True) ?hr ?hp (fun _ hk=>hk) trivial (Below.refl _ _) (Nat.le_refl _) (by simp) ?_;(case hd=>rfl);(case hg=>rfl);(case hr=>first|(go_simp;done)|(go_simp;rfl));(case hp=>exact(Reps.one (show Kd.M (Kd.int .i64) _ _ _ (wrap64 (Int.tdiv (wrap64 ((wrap64 (x5_1+x6_1))+1)) 2)) [.int .i64 (wrap64 (Int.tdiv (wrap64 ((wrap64 (x5_1+x6_1))+1)) 2))] from rfl) (Reps.none _ _)));intro v488 w12 ho13 hb hg_ hnew_;clear hg_ hnew_;replace ho13:=rY Ny487 ho13;have HO489:=rL ho13;replace HB:=bB hb;clear hb ho13;obtain⟨Ao14,co14,rfl⟩:=Kd.R_slice HO489.out)|((with_reducible refine gc 66 rfl ?_);refine gC 66 (some 19) Try.func66 #[.slice A1 l1.length c1,.slice Ao14 y487.length co14] ?_;(with_reducible refine(Azk.calls k1 _ _ l1 _ _ y487 t490 _ ?side1 ?side2 ?side3 ?side4 A4.out).mono ?_);(case side1=>exact cB HR1);(case side2=>exact HC1.out);(case side3=>exact cR HO489);(case side4=>exact lR HO489);rintro e w15 ⟨v491,rfl,ho0,hb⟩;refine⟨_,rfl,?_⟩;have HO492:=rL (rn ho0 HO489);replace HO489:=rE HO489 ho0 hb;replace HB:=bB hb;clear hb ho0;obtain⟨Ao16,co16,rfl⟩:=Kd.R_slice HO492.out)|((with_reducible refine gc 96 rfl ?_);refine gC 96 (some 21) Try.func96 #[.slice Ao16 t490.length co16,.slice A0 l0.length c0] ?_;(with_reducible refine(Czq.calls k1 _ _ t490 _ _ l0 t493 _ ?side1 ?side2 ?side3 ?side4 A5.out).mono ?_);(case side1=>exact cR HO492);(case side2=>exact lR HO492);(case side3=>exact cB HR0);(case side4=>exact HC0.out);rintro e w' ⟨rfl,⟨nd,rfl⟩⟩;refine⟨_,rfl,?_⟩))
     go_roundg k1
     case measure=>have:=HK1.out;omega
     case rel=>exact⟨(x5_1),(wrap64 ((wrap64 (Int.tdiv (wrap64 ((wrap64 (x5_1+x6_1))+1)) 2)) - 1)),sD,sD,H',⟨by have:=HK1.out;omega⟩,⟨pB⟩⟩
   ·rw[if_neg c3] at H;have c3b0:decide (x5_1 < x6_1)=false:=decide_eq_false c3;clear c3;obtain rfl:=Option.some.inj H;go_wp2
    go_ret
    exact⟨eW,pB⟩


def Bzp.l0:Nat→List Int→List Int→List Int→Int→Int→Option (List Int)
 | 0,_,_,_,_,_=>none
 | k+1,x0,x1,x5,x6,x7=>if x7 < (x0.length:Int) then(if 0≤x7 then((Ezk.f x1 x7).bind fun t495=>(if(wrap64 ((wrap64 ((rd x0 x7) - t495)) - x6)) < 0 then(if x5.length < 17592186044416 then(Bzp.l0 k x0 x1 (x5 ++ [wrap64 ((wrap64 ((wrap64 ((rd x0 x7) - t495)) - x6))+1000000000)]) 1 (wrap64 (x7+1))) else(none)) else(if x5.length < 17592186044416 then(Bzp.l0 k x0 x1 (x5 ++ [wrap64 ((wrap64 ((rd x0 x7) - t495)) - x6)]) 0 (wrap64 (x7+1))) else(none)))) else(none)) else((Bzk.f k x5).bind fun bt502=>(some bt502.1))
def Bzp.f (k:Nat) (l0:List Int) (l1:List Int):Option (List Int):=Bzp.l0 k l0 l1 ([]:List Int) 0 0
theorem Bzp.mono_l:∀ k,(∀ y0 y1 y2 y3 y4,LeO (Bzp.l0 k y0 y1 y2 y3 y4) (Bzp.l0 (k+1) y0 y1 y2 y3 y4))
 | 0=>fun _ _ _ _ _ r h=>by simp [Bzp.l0] at h
 | k+1=>by
  have ih0:=Bzp.mono_l k
  ·intro y0 y1 y2 y3 y4;unfold Bzp.l0;have i0:=@Bzk.mono;exact mM
theorem Bzp.mono:∀ a0 a1 k,LeO (Bzp.f k a0 a1) (Bzp.f (k+1) a0 a1):=by
 intro a0 a1 k;have ih0:=Bzp.mono_l k;unfold Bzp.f;have i0:=@Bzk.mono;exact mM
theorem Bzp.calls (k:Nat) (A0:Option Addr) (c0:Nat) (l0:List Int) (A1:Option Addr) (c1:Nat) (l1:List Int) (r:List Int) (w:World) (hr0:Kd.C (Kd.int .i64) w A0 l0.length l0) (hc0:l0.length≤c0) (hr1:Kd.C (Kd.int .i64) w A1 l1.length l1) (hc1:l1.length≤c1) (h:Bzp.f k l0 l1=some r) :
  Calls Try.prog 84 #[.slice A0 l0.length c0,.slice A1 l1.length c1] w fun e w'=>∃ v0_:Value,e=.returned (v0_)∧Kd.R (Kd.int .i64) 3 w' w.heap.size (fun _=>True) v0_ r∧Below w.heap.size w w':=by
 have HR0:=aM hr0;have HC0:=aM hc0;clear hr0 hc0;have HR1:=aM hr1;have HC1:=aM hc1;clear hr1 hc1;have HB:=aM (Below.refl w.heap.size w);have H:(Bzp.l0 k l0 l1 ([]:List Int) 0 0)=some r:=h;clear h;have H':=aM H;clear H;go_enter Try.func84,Try.ntmps84
 go_wp2
 repeat(go_quiet (fail);try go_wp2)
 go_loopg [5,6,7] k (fun kq v5 v6 v7 w'=>∃ (x5_1:List Int) (x6_1:Int) (x7_1:Int),v6=.int .i64 x6_1∧v7=.int .i64 x7_1∧Aside0 (Bzp.l0 kq l0 l1 x5_1 x6_1 x7_1=some r)∧Aside0 (kq≤k)∧Aside0 (Kd.R (Kd.int .i64) 3 w' w.heap.size (fun _=>True) v5 x5_1)∧Aside0 (Below w.heap.size w w'))
 case atStart=>exact⟨(([]:List Int)),(0),(0),sD,sD,H',⟨Nat.le_refl _⟩,⟨nK⟩,⟨pB⟩⟩
 case round =>
  clear H';try clear c1
  try clear p2
  obtain⟨x5_1,x6_1,x7_1,rfl,rfl,HA,HK1,HO_5,HB⟩:=hrel;cases gk with
  | zero=>exact absurd HA.out (by simp [Bzp.l0])
  | succ k1 =>
   have H:=HA.out;clear HA;simp only[Bzp.l0] at H;by_cases c3:x7_1 < (l0.length:Int)
   ·rw[if_pos c3] at H;have c3b0:=dE c3;clear c3;obtain⟨c4b0,H⟩:=iN H;obtain⟨t495,A5,H⟩:=bT H;(try dsimp only at H);by_cases c6:(wrap64 ((wrap64 ((rd l0 x7_1) - t495)) - x6_1)) < 0
    ·rw[if_pos c6] at H;have c6b0:decide ((wrap64 ((wrap64 ((rd l0 x7_1) - t495)) - x6_1)) < 0)=true:=dE c6;have c6b0w:decide ((IntKind.i64.wrap ((IntKind.i64.wrap ((rd l0 x7_1) - t495)) - x6_1)) < 0)=true:=by have h_:=c6b0;first|exact h_|(simp only[i64_w];exact h_)
     clear c6;obtain⟨c7,H⟩:=iO H;have LMc7:=aM c7;clear c7;obtain⟨y496,hy496⟩:∃ y_:List Int,y_=(x5_1 ++ [wrap64 ((wrap64 ((wrap64 ((rd l0 x7_1) - t495)) - x6_1))+1000000000)]):=⟨_,rfl⟩;replace H:(Bzp.l0 k1 l0 l1 y496 1 (wrap64 (x7_1+1)))=some r:=yE hy496 H
     have Ny496:=aM hy496;clear hy496;have H':=aM H;clear H;obtain⟨ad494,e494,hx494_0,p494,q494⟩:=aI HR0.out x7_1;cases e494
     replace hx494_0:=hB HB hx494_0;have fl_:True:=trivial;repeat((first|clear fl_|go_quiet (first|(go_at_call 85;(with_reducible refine(Ezk.calls _ _ l1 x7_1 t495 _ ?side1 ?side2 A5.out).mono ?_);(case side1=>exact cB HR1);(case side2=>exact HC1.out);rintro e w' ⟨rfl,⟨nd,rfl⟩⟩;(try exact dD))|((with_reducible refine gate_builtin (b:=.append) (xs:=#[.tmp 29,.tmp 31]) rfl ?_);at_builtin;refine Kd.R_append (Kd.int .i64) (w0:=w) w.heap.size rfl (.tmp 29) (.tmp 31) 37 3 (.int .i64 0) 8 rfl Try.underlying37 info3 rfl (by decide) (by omega) u5 x5_1 (wrap64 ((wrap64 ((wrap64 ((rd l0 x7_1) - t495)) - x6_1))+1000000000)) [.int .i64 (wrap64 ((wrap64 ((wrap64 ((rd l0 x7_1) - t495)) - x6_1))+1000000000))] (fun _=>True) (fun _=>False) rfl rfl ?aP (fun _ hk=>hk.elim) ?aF ?aO ?aB ?aS ?aL ?_;(case aP=>exact rfl);(case aB=>exact pB);(case aF=>exact(fun _ _=>trivial));(case aO=>exact(rX HO_5.out));(case aS=>exact(below_size pB));(case aL=>have:=LMc7.out;omega);intro v497 w8 ho hb hg hat;rw[← Ny496.out] at ho;have HO498:=aM (ho);replace HB:=aM (hb);clear HO_5;clear ho hb hg hat)));go_wp2_with (first|(go_at_call 85;(with_reducible refine(Ezk.calls _ _ l1 x7_1 t495 _ ?side1 ?side2 A5.out).mono ?_);(case side1=>exact cB HR1);(case side2=>exact HC1.out);rintro e w' ⟨rfl,⟨nd,rfl⟩⟩;(try exact dD))|((with_reducible refine gate_builtin (b:=.append) (xs:=#[.tmp 29,.tmp 31]) rfl ?_);at_builtin;refine Kd.R_append (Kd.int .i64) (w0:=w) w.heap.size rfl (.tmp 29) (.tmp 31) 37 3 (.int .i64 0) 8 rfl Try.underlying37 info3 rfl (by decide) (by omega) u5 x5_1 (wrap64 ((wrap64 ((wrap64 ((rd l0 x7_1) - t495)) - x6_1))+1000000000)) [.int .i64 (wrap64 ((wrap64 ((wrap64 ((rd l0 x7_1) - t495)) - x6_1))+1000000000))] (fun _=>True) (fun _=>False) rfl rfl ?aP (fun _ hk=>hk.elim) ?aF ?aO ?aB ?aS ?aL ?_;(case aP=>exact rfl);(case aB=>exact pB);(case aF=>exact(fun _ _=>trivial));(case aO=>exact(rX HO_5.out));(case aS=>exact(below_size pB));(case aL=>have:=LMc7.out;omega);intro v497 w8 ho hb hg hat;rw[← Ny496.out] at ho;have HO498:=aM (ho);replace HB:=aM (hb);clear HO_5;clear ho hb hg hat)))
     go_roundg k1
     case measure=>have:=HK1.out;omega
     case rel=>exact⟨(y496),(1),(wrap64 (x7_1+1)),sD,sD,H',⟨by have:=HK1.out;omega⟩,⟨rX HO498.out⟩,⟨pB⟩⟩
    ·rw[if_neg c6] at H;have c6b0:decide ((wrap64 ((wrap64 ((rd l0 x7_1) - t495)) - x6_1)) < 0)=false:=decide_eq_false c6;have c6b0w:decide ((IntKind.i64.wrap ((IntKind.i64.wrap ((rd l0 x7_1) - t495)) - x6_1)) < 0)=false:=by have h_:=c6b0;first|exact h_|(simp only[i64_w];exact h_)
     clear c6;obtain⟨c9,H⟩:=iO H;have LMc9:=aM c9;clear c9;obtain⟨y499,hy499⟩:∃ y_:List Int,y_=(x5_1 ++ [wrap64 ((wrap64 ((rd l0 x7_1) - t495)) - x6_1)]):=⟨_,rfl⟩;replace H:(Bzp.l0 k1 l0 l1 y499 0 (wrap64 (x7_1+1)))=some r:=yE hy499 H
     have Ny499:=aM hy499;clear hy499;have H':=aM H;clear H;obtain⟨ad494,e494,hx494_0,p494,q494⟩:=aI HR0.out x7_1;cases e494
     replace hx494_0:=hB HB hx494_0;have fl_:True:=trivial;repeat((first|clear fl_|go_quiet (first|(go_at_call 85;(with_reducible refine(Ezk.calls _ _ l1 x7_1 t495 _ ?side1 ?side2 A5.out).mono ?_);(case side1=>exact cB HR1);(case side2=>exact HC1.out);rintro e w' ⟨rfl,⟨nd,rfl⟩⟩;(try exact dD))|((with_reducible refine gate_builtin (b:=.append) (xs:=#[.tmp 29,.tmp 31]) rfl ?_);at_builtin;refine Kd.R_append (Kd.int .i64) (w0:=w) w.heap.size rfl (.tmp 29) (.tmp 31) 37 3 (.int .i64 0) 8 rfl Try.underlying37 info3 rfl (by decide) (by omega) u5 x5_1 (wrap64 ((wrap64 ((rd l0 x7_1) - t495)) - x6_1)) [.int .i64 (wrap64 ((wrap64 ((rd l0 x7_1) - t495)) - x6_1))] (fun _=>True) (fun _=>False) rfl rfl ?aP (fun _ hk=>hk.elim) ?aF ?aO ?aB ?aS ?aL ?_;(case aP=>exact rfl);(case aB=>exact pB);(case aF=>exact(fun _ _=>trivial));(case aO=>exact(rX HO_5.out));(case aS=>exact(below_size pB));(case aL=>have:=LMc9.out;omega);intro v500 w10 ho hb hg hat;rw[← Ny499.out] at ho;have HO501:=aM (ho);replace HB:=aM (hb);clear HO_5;clear ho hb hg hat)));go_wp2_with (first|(go_at_call 85;(with_reducible refine(Ezk.calls _ _ l1 x7_1 t495 _ ?side1 ?side2 A5.out).mono ?_);(case side1=>exact cB HR1);(case side2=>exact HC1.out);rintro e w' ⟨rfl,⟨nd,rfl⟩⟩;(try exact dD))|((with_reducible refine gate_builtin (b:=.append) (xs:=#[.tmp 29,.tmp 31]) rfl ?_);at_builtin;refine Kd.R_append (Kd.int .i64) (w0:=w) w.heap.size rfl (.tmp 29) (.tmp 31) 37 3 (.int .i64 0) 8 rfl Try.underlying37 info3 rfl (by decide) (by omega) u5 x5_1 (wrap64 ((wrap64 ((rd l0 x7_1) - t495)) - x6_1)) [.int .i64 (wrap64 ((wrap64 ((rd l0 x7_1) - t495)) - x6_1))] (fun _=>True) (fun _=>False) rfl rfl ?aP (fun _ hk=>hk.elim) ?aF ?aO ?aB ?aS ?aL ?_;(case aP=>exact rfl);(case aB=>exact pB);(case aF=>exact(fun _ _=>trivial));(case aO=>exact(rX HO_5.out));(case aS=>exact(below_size pB));(case aL=>have:=LMc9.out;omega);intro v500 w10 ho hb hg hat;rw[← Ny499.out] at ho;have HO501:=aM (ho);replace HB:=aM (hb);clear HO_5;clear ho hb hg hat)))
     go_roundg k1
     case measure=>have:=HK1.out;omega
     case rel=>exact⟨(y499),(0),(wrap64 (x7_1+1)),sD,sD,H',⟨by have:=HK1.out;omega⟩,⟨rX HO501.out⟩,⟨pB⟩⟩
   ·rw[if_neg c3] at H;have c3b0:decide (x7_1 < (l0.length:Int))=false:=decide_eq_false c3;clear c3;replace H:=bS H;obtain⟨⟨t502,t503⟩,A110,H⟩:=H;replace H:(some t502)=some r:=H;have A11:=aM A110;clear A110;obtain rfl:=Option.some.inj H;obtain⟨Ao12,co12,rfl⟩:=Kd.R_slice HO_5.out;have fl_:True:=trivial;repeat((first|clear fl_|go_quiet (first|(go_at_call 65;(with_reducible refine(Bzk.calls k1 _ _ x5_1 t502 t503 _ ?side1 ?side2 A11.out).mono ?_);(case side1=>exact cR HO_5);(case side2=>exact lR HO_5);rintro e w13 ⟨v504,rfl,ho0,hb⟩;have HO505:=rL (rn ho0 HO_5);replace HO_5:=rE HO_5 ho0 hb;replace HB:=bB hb;clear hb ho0)));go_wp2_with (first|(go_at_call 65;(with_reducible refine(Bzk.calls k1 _ _ x5_1 t502 t503 _ ?side1 ?side2 A11.out).mono ?_);(case side1=>exact cR HO_5);(case side2=>exact lR HO_5);rintro e w13 ⟨v504,rfl,ho0,hb⟩;have HO505:=rL (rn ho0 HO_5);replace HO_5:=rE HO_5 ho0 hb;replace HB:=bB hb;clear hb ho0)))
    go_ret
    exact⟨_,eW,by exact rX (Kd.R_mono HO505.out (fun _ hk=>trivial)),pB⟩

end Go.Proofs.Ytnklckihalhlmaa.Print
