import Derived.Test.YtnklckihalhlmaaPrint0
import Derived.Test.YtnklckihalhlmaaPrint13
import Derived.Test.YtnklckihalhlmaaPrint16
import Derived.Test.YtnklckihalhlmaaPrint21
namespace Go.Proofs.Ytnklckihalhlmaa.Print
open Go.RowKit Go.Proofs.YtnklckihalhlmaaW.PrintWords Go.Proofs.YtnklckihalhlmaaW.PrintLast Go.Proofs.YtnklckihalhlmaaW.PrintMore
attribute [local go_sem] max2_int min2_int max_two min_two max_three min_three max_four min_four
set_option linter.unusedVariables false
set_option maxRecDepth 100000
set_option maxHeartbeats 8000000
set_option linter.unusedSimpArgs false

def Ezm.f (k:Nat) (l0:List Int) (l1:List Int):Option (List Int × List Int):=(Ezq.f k l0 l1).bind fun t266=>(if t266 < 0 then((Gzy.f l0 (l0.length:Int)).bind fun t267=>((Czj.f k t267).bind fun t270=>(some (([]:List Int),t270)))) else(if(l1.length:Int)=1 then(if 0 < (l1.length:Int) then((Dzk.f k l0 (rd l1 0)).bind fun bt274=>(some (bt274.1,bt274.2))) else(none)) else((Dzq.f k l0 l1).bind fun bt280=>(some (bt280.1,bt280.2)))))
theorem Ezm.mono:∀ a0 a1 k,LeO (Ezm.f k a0 a1) (Ezm.f (k+1) a0 a1):=by
 intro a0 a1 k;unfold Ezm.f;have i0:=@Ezq.mono;have i1:=@Dzq.mono;have i2:=@Dzk.mono;have i3:=@Czj.mono;exact mM
theorem Ezm.calls (k:Nat) (A0:Option Addr) (c0:Nat) (l0:List Int) (A1:Option Addr) (c1:Nat) (l1:List Int) (r1:List Int) (r2:List Int) (w:World) (hr0:Kd.C (Kd.int .i64) w A0 l0.length l0) (hc0:l0.length≤c0) (hr1:Kd.C (Kd.int .i64) w A1 l1.length l1) (hc1:l1.length≤c1) (h:Ezm.f k l0 l1=some (r1,r2)) :
  Calls Try.prog 91 #[.slice A0 l0.length c0,.slice A1 l1.length c1] w fun e w'=>∃ v0_ v1_:Value,e=.returned (.tuple #[v0_,v1_])∧Kd.R (Kd.int .i64) 3 w' w.heap.size (fun k_=>some k_≠(v1_:Value).ownBlock) v0_ r1∧Kd.R (Kd.int .i64) 3 w' w.heap.size (fun k_=>some k_≠(v0_:Value).ownBlock) v1_ r2∧Below w.heap.size w w':=by
 have HR0:=aM hr0;have HC0:=aM hc0;clear hr0 hc0;have HR1:=aM hr1;have HC1:=aM hc1;clear hr1 hc1;have HB:=aM (Below.refl w.heap.size w);have H:((Ezq.f k l0 l1).bind fun t266=>(if t266 < 0 then((Gzy.f l0 (l0.length:Int)).bind fun t267=>((Czj.f k t267).bind fun t270=>(some (([]:List Int),t270)))) else(if(l1.length:Int)=1 then(if 0 < (l1.length:Int) then((Dzk.f k l0 (rd l1 0)).bind fun bt274=>(some (bt274.1,bt274.2))) else(none)) else((Dzq.f k l0 l1).bind fun bt280=>(some (bt280.1,bt280.2))))))=some (r1,r2):=h
 clear h;obtain⟨t266,A3,H⟩:=bT H;(try dsimp only at H);by_cases c4:t266 < 0
 ·rw[if_pos c4] at H;have c4b0:=dE c4;clear c4;obtain⟨t267,A5,H⟩:=bT H;(try dsimp only at H);replace H:=bS H;obtain⟨t270,A60,H⟩:=H;replace H:(some (([]:List Int),t270))=some (r1,r2):=H;have A6:=aM A60;clear A60;obtain⟨rfl,rfl⟩:=q2 H;go_enter Try.func91,Try.ntmps91
  go_wp2_with (first|((with_reducible refine gc 98 rfl ?_);refine gC 98 (some 9) Try.func98 #[.slice A0 l0.length c0,.slice A1 l1.length c1] ?_;(with_reducible refine(Ezq.calls k _ _ l0 _ _ l1 t266 _ ?side1 ?side2 ?side3 ?side4 A3.out).mono ?_);(case side1=>exact cX HR0.out);(case side2=>exact HC0.out);(case side3=>exact cX HR1.out);(case side4=>exact HC1.out);rintro e w' ⟨rfl,⟨nd,rfl⟩⟩;refine⟨_,rfl,?_⟩)|((with_reducible refine gc 93 rfl ?_);refine gC 93 (some 14) Try.func93 #[.slice A0 l0.length c0,.int .i64 (l0.length:Int)] ?_;(with_reducible refine(Gzy.calls _ _ l0 (l0.length:Int) t267 _ ?side1 ?side2 A5.out).mono ?_);(case side1=>exact cX HR0.out);(case side2=>exact HC0.out);rintro e w7 ⟨v268,rfl,ho0,hb⟩;refine⟨_,rfl,?_⟩;have HO269:=rL ho0;replace HB:=bB hb;clear hb ho0;obtain⟨Ao8,co8,rfl⟩:=Kd.R_slice HO269.out)|((with_reducible refine gc 92 rfl ?_);refine gC 92 (some 15) Try.func92 #[.slice Ao8 t267.length co8] ?_;(with_reducible refine(Czj.calls k (fun k_=>some k_=(.slice Ao8 t267.length co8:Value).ownBlock) (.slice Ao8 t267.length co8) t267 t270 w _ ?side1 ?side2 A6.out).mono ?_);(case side1=>exact pB);(case side2=>exact Kd.R_tight rfl HO269.out);rintro e w9 ⟨v271,rfl,ho0,hb,hkp⟩;refine⟨_,rfl,?_⟩;have HO272:=aM (Kd.R_mono (ok':=fun k_=>True) ho0 (fun k_ hk_=>trivial));replace HB:=aM (hb);clear HO269;clear hb hkp ho0))
  go_ret2
  exact⟨_,_,eW,nK,by exact rX (Kd.R_mono HO272.out (fun _ hk=>(by simp [Value.ownBlock]))),pB⟩
 ·rw[if_neg c4] at H;have c4b0:decide (t266 < 0)=false:=decide_eq_false c4;clear c4;by_cases c10:(l1.length:Int)=1
  ·rw[if_pos c10] at H;have c10b0:((l1.length:Int) == 1)=true:=beq_iff_eq.mpr c10;have c10b1:((l1.length:Int) != 1)=false:=bne_eq_false_iff_eq.mpr c10;clear c10;obtain⟨c11,H⟩:=iO H;have c11b0:decide (0 < (l1.length:Int))=true:=dE c11;have c11b1:decide (0 < l1.length)=true:=dE (by omega)
   clear c11;replace H:=bS H;obtain⟨⟨t274,t275⟩,A120,H⟩:=H;replace H:(some (t274,t275))=some (r1,r2):=H;have A12:=aM A120;clear A120;obtain⟨rfl,rfl⟩:=q2 H;go_enter Try.func91,Try.ntmps91
   go_wp2_with (first|((with_reducible refine gc 98 rfl ?_);refine gC 98 (some 9) Try.func98 #[.slice A0 l0.length c0,.slice A1 l1.length c1] ?_;(with_reducible refine(Ezq.calls k _ _ l0 _ _ l1 t266 _ ?side1 ?side2 ?side3 ?side4 A3.out).mono ?_);(case side1=>exact cX HR0.out);(case side2=>exact HC0.out);(case side3=>exact cX HR1.out);(case side4=>exact HC1.out);rintro e w' ⟨rfl,⟨nd,rfl⟩⟩;refine⟨_,rfl,?_⟩;have p273:0≤(0:Int):=(by omega);have q273:0 < (l1.length:Int):=oE aS;obtain⟨ad273,e273,hx273_0⟩:=Kd.at_int HR1.out 0 p273 q273;cases e273;have qi273:(0 < l1.length)=True:=eq_true (by omega);(try rw[show((0:Int)).toNat=0 from rfl] at hx273_0);(try rw[Addr.add_zero'] at hx273_0);replace p273:=eq_true p273;replace q273:=eq_true q273)|((with_reducible refine gc 99 rfl ?_);refine gC 99 (some 24) Try.func99 #[.slice A0 l0.length c0,.int .i64 (rd l1 0)] ?_;(with_reducible refine(Dzk.calls k _ _ l0 (rd l1 0) t274 t275 _ ?side1 ?side2 A12.out).mono ?_);(case side1=>exact cX HR0.out);(case side2=>exact HC0.out);rintro e w13 ⟨v276,v278,rfl,ho0,ho1,hb⟩;refine⟨_,rfl,?_⟩;have HO277:=rL ho0;have HO279:=rL ho1;replace HB:=bB hb;clear hb ho0 ho1))
   go_ret2
   exact⟨_,_,eW,rX HO277.out,rX HO279.out,pB⟩
  ·rw[if_neg c10] at H;have c10b0:((l1.length:Int) == 1)=false:=beq_eq_false_iff_ne.mpr c10;have c10b1:((l1.length:Int) != 1)=true:=bne_iff_ne.mpr c10;replace H:=bS H;obtain⟨⟨t280,t281⟩,A140,H⟩:=H;replace H:(some (t280,t281))=some (r1,r2):=H;have A14:=aM A140;clear A140;obtain⟨rfl,rfl⟩:=q2 H;go_enter Try.func91,Try.ntmps91
   go_wp2_with (first|((with_reducible refine gc 98 rfl ?_);refine gC 98 (some 9) Try.func98 #[.slice A0 l0.length c0,.slice A1 l1.length c1] ?_;(with_reducible refine(Ezq.calls k _ _ l0 _ _ l1 t266 _ ?side1 ?side2 ?side3 ?side4 A3.out).mono ?_);(case side1=>exact cX HR0.out);(case side2=>exact HC0.out);(case side3=>exact cX HR1.out);(case side4=>exact HC1.out);rintro e w' ⟨rfl,⟨nd,rfl⟩⟩;refine⟨_,rfl,?_⟩)|((with_reducible refine gc 100 rfl ?_);refine gC 100 (some 29) Try.func100 #[.slice A0 l0.length c0,.slice A1 l1.length c1] ?_;(with_reducible refine(Dzq.calls k _ _ l0 _ _ l1 t280 t281 _ ?side1 ?side2 ?side3 ?side4 A14.out).mono ?_);(case side1=>exact cX HR0.out);(case side2=>exact HC0.out);(case side3=>exact cX HR1.out);(case side4=>exact HC1.out);rintro e w15 ⟨v282,v284,rfl,ho0,ho1,hb⟩;refine⟨_,rfl,?_⟩;have HO283:=rL ho0;have HO285:=rL ho1;replace HB:=bB hb;clear hb ho0 ho1))
   go_ret2
   exact⟨_,_,eW,rX HO283.out,rX HO285.out,pB⟩

def Ezw.l0:Nat→List Int→Int→Int→Option (Int)
 | 0,_,_,_=>none
 | k+1,x0,x3,x4=>if x4≥0 then(if 0≤x4 then(if x4 < (x0.length:Int) then(Ezw.l0 k x0 (wrap64 ((wrap64 (x3 * 1000000000))+(rd x0 x4))) (wrap64 (x4 - 1))) else(none)) else(none)) else(some x3)
def Ezw.f (k:Nat) (l0:List Int):Option (Int):=Ezw.l0 k l0 0 (wrap64 ((l0.length:Int) - 1))
theorem Ezw.mono_l:∀ k,(∀ y0 y1 y2,LeO (Ezw.l0 k y0 y1 y2) (Ezw.l0 (k+1) y0 y1 y2))
 | 0=>fun _ _ _ r h=>by simp [Ezw.l0] at h
 | k+1=>by
  have ih0:=Ezw.mono_l k
  ·intro y0 y1 y2;unfold Ezw.l0;exact mM
theorem Ezw.mono:∀ a0 k,LeO (Ezw.f k a0) (Ezw.f (k+1) a0):=by
 intro a0 k;have ih0:=Ezw.mono_l k;unfold Ezw.f;exact mM
theorem Ezw.calls (k:Nat) (A0:Option Addr) (c0:Nat) (l0:List Int) (r:Int) (w:World) (hr0:Kd.C (Kd.int .i64) w A0 l0.length l0) (hc0:l0.length≤c0) (h:Ezw.f k l0=some r) :
  Calls Try.prog 94 #[.slice A0 l0.length c0] w fun e w'=>e=.returned (.int .i64 r)∧Drawn0 w w':=by
 have HR0:=aM hr0;have HC0:=aM hc0;clear hr0 hc0;have H:(Ezw.l0 k l0 0 (wrap64 ((l0.length:Int) - 1)))=some r:=h;clear h;have H':=aM H;clear H;go_enter Try.func94,Try.ntmps94
 go_wp2
 go_loopg [3,4] k (fun kq v3 v4 w'=>∃ (x3_1:Int) (x4_1:Int),v3=.int .i64 x3_1∧v4=.int .i64 x4_1∧Aside0 (Ezw.l0 kq l0 x3_1 x4_1=some r)∧Aside0 (kq≤k)∧Drawn0 w w')
 case atStart=>exact⟨(0),(wrap64 ((l0.length:Int) - 1)),sD,sD,H',⟨Nat.le_refl _⟩,dR⟩
 case round =>
  clear H';obtain⟨x3_1,x4_1,rfl,rfl,HA,HK1,⟨m1,rfl⟩⟩:=hrel;cases gk with
  | zero=>exact absurd HA.out (by simp [Ezw.l0])
  | succ k1 =>
   have H:=HA.out;clear HA;simp only[Ezw.l0] at H;by_cases c2:x4_1≥0
   ·rw[if_pos c2] at H;have c2b0:decide (0≤x4_1)=true:=dE c2;clear c2;obtain⟨c3b0,H⟩:=iN H;obtain⟨c4b0,H⟩:=iN H;have H':=aM H;clear H;obtain⟨ad286,e286,hx286_0,p286,q286⟩:=aI HR0.out x4_1;cases e286;go_wp2
    go_roundg k1
    case measure=>have:=HK1.out;omega
    case rel=>exact⟨(wrap64 ((wrap64 (x3_1 * 1000000000))+(rd l0 x4_1))),(wrap64 (x4_1 - 1)),sD,sD,H',⟨by have:=HK1.out;omega⟩,dR⟩
   ·rw[if_neg c2] at H;have c2b0:decide (0≤x4_1)=false:=decide_eq_false c2;clear c2;obtain rfl:=Option.some.inj H;go_wp2
    go_ret
    exact⟨sD,dR⟩


mutual
def Czf.j0:Nat→List Int→List Int→Bool→Option (List Int × Int)
 | 0,_,_,_=>none
 | k+1,x0,x1,x17=>if x17=true then(some (([]:List Int),3)) else(Czf.l0 k x0 x1)
def Czf.j2:Nat→List Int→List Int→Option (List Int × Int)
 | 0,_,_=>none
 | k+1,x0,x1=>if(x1.length:Int)=0 then((Gzy.f x0 (x0.length:Int)).bind fun t301=>((Czj.f k t301).bind fun t304=>(some (t304,0)))) else((Ezw.f k x0).bind fun t307=>((Ezw.f k x1).bind fun t308=>(Czf.l1 k t307 t308)))
def Czf.l1:Nat→Int→Int→Option (List Int × Int)
 | 0,_,_=>none
 | k+1,x8,x9=>if x9 > 0 then(if x9=0 then(none) else(Czf.l1 k x9 (Int.tmod x8 x9))) else((Fzq.f k x8).bind fun bt309=>(some (bt309.1,bt309.2)))
def Czf.l0:Nat→List Int→List Int→Option (List Int × Int)
 | 0,_,_=>none
 | k+1,x0,x1=>if(x1.length:Int) > 0 then(if(x0.length:Int) > 2 then((Ezm.f k x0 x1).bind fun bt289=>(Czf.l0 k x1 bt289.2)) else(if(x1.length:Int) > 2 then((Ezm.f k x0 x1).bind fun bt295=>(Czf.l0 k x1 bt295.2)) else(Czf.j2 k x0 x1))) else(Czf.j2 k x0 x1)
end
def Czf.f (k:Nat) (l0:List Int) (l1:List Int):Option (List Int × Int):=(Bzw.f k l0).bind fun t287=>(if t287=true then((Bzw.f k l1).bind fun t288=>(Czf.j0 k l0 l1 (!t288))) else(Czf.j0 k l0 l1 true))
theorem Czf.mono_l:∀ k,(∀ y0 y1 y2,LeO (Czf.j0 k y0 y1 y2) (Czf.j0 (k+1) y0 y1 y2))∧(∀ y0 y1,LeO (Czf.j2 k y0 y1) (Czf.j2 (k+1) y0 y1))∧(∀ y0 y1,LeO (Czf.l1 k y0 y1) (Czf.l1 (k+1) y0 y1))∧(∀ y0 y1,LeO (Czf.l0 k y0 y1) (Czf.l0 (k+1) y0 y1))
 | 0=>⟨fun _ _ _ r h=>by simp [Czf.j0] at h,fun _ _ r h=>by simp [Czf.j2] at h,fun _ _ r h=>by simp [Czf.l1] at h,fun _ _ r h=>by simp [Czf.l0] at h⟩
 | k+1=>by
  obtain⟨ih0,ih1,ih2,ih3⟩:=Czf.mono_l k;have i0:=@Fzq.mono;have i1:=@Bzw.mono;have i2:=@Ezm.mono;have i3:=@Ezw.mono;have i4:=@Czj.mono;refine⟨?_,?_,?_,?_⟩
  ·intro y0 y1 y2;unfold Czf.j0;exact mM
  ·intro y0 y1;unfold Czf.j2;exact mM
  ·intro y0 y1;unfold Czf.l1;exact mM
  ·intro y0 y1;unfold Czf.l0;exact mM
theorem Czf.mono:∀ a0 a1 k,LeO (Czf.f k a0 a1) (Czf.f (k+1) a0 a1):=by
 intro a0 a1 k;obtain⟨ih0,ih1,ih2,ih3⟩:=Czf.mono_l k;unfold Czf.f;have i0:=@Fzq.mono;have i1:=@Bzw.mono;have i2:=@Ezm.mono;have i3:=@Ezw.mono;have i4:=@Czj.mono;exact mM
theorem Czf.calls (k:Nat) (P0_:Nat→Prop) (A0:Option Addr) (c0:Nat) (l0:List Int) (P1_:Nat→Prop) (A1:Option Addr) (c1:Nat) (l1:List Int) (r1:List Int) (r2:Int) (w:World) (hs0:Kd.V (Kd.int .i64) 3 w w.heap.size (fun k_=>P0_ k_) (.slice A0 l0.length c0) l0) (hs1:Kd.V (Kd.int .i64) 3 w w.heap.size (fun k_=>P1_ k_) (.slice A1 l1.length c1) l1) (h:Czf.f k l0 l1=some (r1,r2)) :
  Calls Try.prog 77 #[.slice A0 l0.length c0,.slice A1 l1.length c1] w fun e w'=>∃ v0_:Value,e=.returned (.tuple #[v0_,.int .i64 r2])∧Kd.R (Kd.int .i64) 3 w' w.heap.size (fun k_=>(w.heap.size≤k_)) v0_ r1∧Below w.heap.size w w':=by
 have HO0:=aM (show Kd.V (Kd.int .i64) 3 w w.heap.size (fun k_=>((P0_ k_∨P1_ k_)∨w.heap.size≤k_)) (.slice A0 l0.length c0) l0 from Kd.V_mono hs0 (fun k_ hk=>.inl (.inl hk)))
 have HO1:=aM (show Kd.V (Kd.int .i64) 3 w w.heap.size (fun k_=>((P0_ k_∨P1_ k_)∨w.heap.size≤k_)) (.slice A1 l1.length c1) l1 from Kd.V_mono hs1 (fun k_ hk=>.inl (.inr hk)))
 have HB:=aM (Below.refl w.heap.size w);have H:((Bzw.f k l0).bind fun t287=>(if t287=true then((Bzw.f k l1).bind fun t288=>(Czf.j0 k l0 l1 (!t288))) else(Czf.j0 k l0 l1 true)))=some (r1,r2):=h
 clear h;have HC3:=aM H;clear H;go_enter Try.func77,Try.ntmps77
 go_upto_region 1 with (fail)
 repeat(go_quiet (fail);go_upto_region 1 with (fail))
 go_cut [17] (fun v17 wc=>∃ (kq:Nat) (x17_2:Bool),v17=.bool x17_2∧Aside0 (Czf.j0 kq l0 l1 x17_2=some (r1,r2))∧Aside0 (kq≤k)∧Aside0 (Kd.V (Kd.int .i64) 3 wc w.heap.size (fun k_=>((P0_ k_∨P1_ k_)∨w.heap.size≤k_)) (.slice A0 l0.length c0) l0)∧Aside0 (Kd.V (Kd.int .i64) 3 wc w.heap.size (fun k_=>((P0_ k_∨P1_ k_)∨w.heap.size≤k_)) (.slice A1 l1.length c1) l1)∧Aside0 (Below w.heap.size w wc))
 case first =>
  have H:=HC3.out;clear HC3;obtain⟨t287,A4,H⟩:=bT H;(try dsimp only at H);by_cases c5:t287=true
  ·subst c5;rw[if_pos rfl] at H;obtain⟨t288,A6,H⟩:=bT H;(try dsimp only at H);have H':=aM H;clear H;have fl_:True:=trivial;repeat((first|clear fl_|go_quiet (first|(go_at_call 90;(with_reducible refine(Bzw.calls k _ _ l0 true _ ?side1 ?side2 A4.out).mono ?_);(case side1=>exact cV HO0);(case side2=>exact lV HO0);rintro e w' ⟨rfl,⟨nd,rfl⟩⟩;(try exact dD))|(go_at_call 90;(with_reducible refine(Bzw.calls k _ _ l1 t288 _ ?side1 ?side2 A6.out).mono ?_);(case side1=>exact cV HO1);(case side2=>exact lV HO1);rintro e w' ⟨rfl,⟨nd,rfl⟩⟩;(try exact dD))));go_wp2_with (first|(go_at_call 90;(with_reducible refine(Bzw.calls k _ _ l0 true _ ?side1 ?side2 A4.out).mono ?_);(case side1=>exact cV HO0);(case side2=>exact lV HO0);rintro e w' ⟨rfl,⟨nd,rfl⟩⟩;(try exact dD))|(go_at_call 90;(with_reducible refine(Bzw.calls k _ _ l1 t288 _ ?side1 ?side2 A6.out).mono ?_);(case side1=>exact cV HO1);(case side2=>exact lV HO1);rintro e w' ⟨rfl,⟨nd,rfl⟩⟩;(try exact dD))))
   go_meet
   case rel=>exact⟨_,(!t288),sD,H',⟨by first|omega|exact Nat.le_refl _⟩,⟨vX HO0.out⟩,⟨vX HO1.out⟩,⟨pB⟩⟩
  ·obtain rfl:=bN c5;rw[if_neg nF] at H
   have H':=aM H;clear H;have fl_:True:=trivial;repeat((first|clear fl_|go_quiet (first|(go_at_call 90;(with_reducible refine(Bzw.calls k _ _ l0 false _ ?side1 ?side2 A4.out).mono ?_);(case side1=>exact cV HO0);(case side2=>exact lV HO0);rintro e w' ⟨rfl,⟨nd,rfl⟩⟩;(try exact dD))));go_wp2_with (first|(go_at_call 90;(with_reducible refine(Bzw.calls k _ _ l0 false _ ?side1 ?side2 A4.out).mono ?_);(case side1=>exact cV HO0);(case side2=>exact lV HO0);rintro e w' ⟨rfl,⟨nd,rfl⟩⟩;(try exact dD))))
   go_meet
   case rel=>exact⟨_,(true),sD,H',⟨by first|omega|exact Nat.le_refl _⟩,⟨vX HO0.out⟩,⟨vX HO1.out⟩,⟨pB⟩⟩
 case rest =>
  clear HC3;try clear c1
  try clear p2
  try clear c5
  obtain⟨kq,x17_2,rfl,HA,HJ2,HO_0,HO_1,HB⟩:=hcut;cases kq with
  | zero=>exact absurd HA.out (by simp [Czf.j0])
  | succ kj2 =>
   have H:=HA.out;clear HA;simp only[Czf.j0] at H;by_cases c7:x17_2=true
   ·subst c7;rw[if_pos rfl] at H;obtain⟨rfl,rfl⟩:=q2 H;go_wp2
    repeat(go_quiet (fail);try go_wp2)
    go_ret2
    exact⟨_,eW,nK,pB⟩
   ·obtain rfl:=bN c7;rw[if_neg nF] at H
    have HC8:=aM H;clear H;go_upto_block 0 with (fail)
    repeat(go_quiet (fail);go_upto_block 0 with (fail))
    go_cut [0,1] (fun v0 v1 wc=>∃ (kq:Nat) (x0_7:List Int) (x1_7:List Int),Aside0 (Czf.j2 kq x0_7 x1_7=some (r1,r2))∧Aside0 (kq≤kj2)∧Aside0 (Kd.V (Kd.int .i64) 3 wc w.heap.size (fun k_=>((P0_ k_∨P1_ k_)∨w.heap.size≤k_)) v0 x0_7)∧Aside0 (Kd.V (Kd.int .i64) 3 wc w.heap.size (fun k_=>((P0_ k_∨P1_ k_)∨w.heap.size≤k_)) v1 x1_7)∧Aside0 (Below w.heap.size w wc))
    case first =>
     have H:=HC8.out;clear HC8;have H':=aM H;clear H;go_wp2
     repeat(go_quiet (fail);try go_wp2)
     go_loopg [0,1] kj2 (fun kq v0 v1 w'=>∃ (x0_2:List Int) (x1_2:List Int),Aside0 (Czf.l0 kq x0_2 x1_2=some (r1,r2))∧Aside0 (kq≤kj2)∧Aside0 (Kd.V (Kd.int .i64) 3 w' w.heap.size (fun k_=>((P0_ k_∨P1_ k_)∨w.heap.size≤k_)) v0 x0_2)∧Aside0 (Kd.V (Kd.int .i64) 3 w' w.heap.size (fun k_=>((P0_ k_∨P1_ k_)∨w.heap.size≤k_)) v1 x1_2)∧Aside0 (Below w.heap.size w w'))
     case atStart=>exact⟨(l0),(l1),H',⟨Nat.le_refl _⟩,⟨vX HO_0.out⟩,⟨vX HO_1.out⟩,⟨pB⟩⟩
     case round =>
      clear H';try clear c1
      try clear p2
      try clear c5
      try clear c7
      try clear p2
      obtain⟨x0_2,x1_2,HA,HK2,HO_0,HO_1,HB⟩:=hrel;cases gk with
      | zero=>exact absurd HA.out (by simp [Czf.l0])
      | succ k2 =>
       have H:=HA.out;clear HA;simp only[Czf.l0] at H;by_cases c9:(x1_2.length:Int) > 0
       ·rw[if_pos c9] at H;have c9b0:decide (0 < (x1_2.length:Int))=true:=dE c9;have c9b1:decide (0 < x1_2.length)=true:=dE (by omega)
        clear c9;(first|rw[c9b0]|(simp only[i64_w,i32_w];rw[c9b0])|skip)
        by_cases c10:(x0_2.length:Int) > 2
        ·rw[if_pos c10] at H;have c10b0:decide (2 < (x0_2.length:Int))=true:=dE c10;have c10b1:decide (2 < x0_2.length)=true:=dE (by omega)
         clear c10;obtain⟨⟨t289,t290⟩,A11,H⟩:=bT H;(try dsimp only at H);have H':=aM H;clear H;obtain⟨Ao12,co12,eo12⟩:=Kd.V_slice HO_1.out;subst eo12;obtain⟨Ao13,co13,eo13⟩:=Kd.V_slice HO_0.out;subst eo13;have fl_:True:=trivial;repeat((first|clear fl_|go_quiet (first|(go_at_call 91;(with_reducible refine(Ezm.calls k2 _ _ x0_2 _ _ x1_2 t289 t290 _ ?side1 ?side2 ?side3 ?side4 A11.out).mono ?_);(case side1=>exact cV HO_0);(case side2=>exact lV HO_0);(case side3=>exact cV HO_1);(case side4=>exact lV HO_1);rintro e w14 ⟨v291,v293,rfl,ho0,ho1,hb⟩;have HO292:=rL (Kd.R_newM (M:=fun k_=>(w.heap.size≤k_)) ho0 (below_size pB) (fun k_ h_=>h_));have HO294:=rL (Kd.R_newM (M:=fun k_=>(w.heap.size≤k_)) ho1 (below_size pB) (fun k_ h_=>h_));replace HO_0:=vO HO_0 hb ho0 ho1;replace HO_1:=vO HO_1 hb ho0 ho1;replace HB:=bB hb;clear hb ho0 ho1)));go_wp2_with (first|(go_at_call 91;(with_reducible refine(Ezm.calls k2 _ _ x0_2 _ _ x1_2 t289 t290 _ ?side1 ?side2 ?side3 ?side4 A11.out).mono ?_);(case side1=>exact cV HO_0);(case side2=>exact lV HO_0);(case side3=>exact cV HO_1);(case side4=>exact lV HO_1);rintro e w14 ⟨v291,v293,rfl,ho0,ho1,hb⟩;have HO292:=rL (Kd.R_newM (M:=fun k_=>(w.heap.size≤k_)) ho0 (below_size pB) (fun k_ h_=>h_));have HO294:=rL (Kd.R_newM (M:=fun k_=>(w.heap.size≤k_)) ho1 (below_size pB) (fun k_ h_=>h_));replace HO_0:=vO HO_0 hb ho0 ho1;replace HO_1:=vO HO_1 hb ho0 ho1;replace HB:=bB hb;clear hb ho0 ho1)))
         go_roundg k2
         case measure=>have:=HJ2.out;have:=HK2.out;omega
         case rel=>exact⟨(x1_2),(t290),H',⟨by have:=HJ2.out;have:=HK2.out;omega⟩,⟨by(with_reducible repeat(first|apply Kd.V_alloc|apply Kd.V_drewN|apply Kd.V_drew));exact Kd.V_mono HO_1.out (fun _ hk=>hk.1.1)⟩,⟨Kd.V_mono (Kd.R_V (rX (Kd.R_mono HO294.out (fun _ hk=>hk.1)))) (fun k_ hk=>by first|exact⟨(.inr (hk.1)),hk.2⟩|exact(.inr (hk)))⟩,⟨pB⟩⟩
        ·rw[if_neg c10] at H;have c10b0:decide (2 < (x0_2.length:Int))=false:=decide_eq_false c10;have c10b1:decide (2 < x0_2.length)=false:=decide_eq_false (by omega)
         clear c10;by_cases c15:(x1_2.length:Int) > 2
         ·rw[if_pos c15] at H;have c15b0:decide (2 < (x1_2.length:Int))=true:=dE c15;have c15b1:decide (2 < x1_2.length)=true:=dE (by omega)
          clear c15;obtain⟨⟨t295,t296⟩,A16,H⟩:=bT H;(try dsimp only at H);have H':=aM H;clear H;obtain⟨Ao17,co17,eo17⟩:=Kd.V_slice HO_1.out;subst eo17;obtain⟨Ao18,co18,eo18⟩:=Kd.V_slice HO_0.out;subst eo18;have fl_:True:=trivial;repeat((first|clear fl_|go_quiet (first|(go_at_call 91;(with_reducible refine(Ezm.calls k2 _ _ x0_2 _ _ x1_2 t295 t296 _ ?side1 ?side2 ?side3 ?side4 A16.out).mono ?_);(case side1=>exact cV HO_0);(case side2=>exact lV HO_0);(case side3=>exact cV HO_1);(case side4=>exact lV HO_1);rintro e w19 ⟨v297,v299,rfl,ho0,ho1,hb⟩;have HO298:=rL (Kd.R_newM (M:=fun k_=>(w.heap.size≤k_)) ho0 (below_size pB) (fun k_ h_=>h_));have HO300:=rL (Kd.R_newM (M:=fun k_=>(w.heap.size≤k_)) ho1 (below_size pB) (fun k_ h_=>h_));replace HO_0:=vO HO_0 hb ho0 ho1;replace HO_1:=vO HO_1 hb ho0 ho1;replace HB:=bB hb;clear hb ho0 ho1)));go_wp2_with (first|(go_at_call 91;(with_reducible refine(Ezm.calls k2 _ _ x0_2 _ _ x1_2 t295 t296 _ ?side1 ?side2 ?side3 ?side4 A16.out).mono ?_);(case side1=>exact cV HO_0);(case side2=>exact lV HO_0);(case side3=>exact cV HO_1);(case side4=>exact lV HO_1);rintro e w19 ⟨v297,v299,rfl,ho0,ho1,hb⟩;have HO298:=rL (Kd.R_newM (M:=fun k_=>(w.heap.size≤k_)) ho0 (below_size pB) (fun k_ h_=>h_));have HO300:=rL (Kd.R_newM (M:=fun k_=>(w.heap.size≤k_)) ho1 (below_size pB) (fun k_ h_=>h_));replace HO_0:=vO HO_0 hb ho0 ho1;replace HO_1:=vO HO_1 hb ho0 ho1;replace HB:=bB hb;clear hb ho0 ho1)))
          go_roundg k2
          case measure=>have:=HJ2.out;have:=HK2.out;omega
          case rel=>exact⟨(x1_2),(t296),H',⟨by have:=HJ2.out;have:=HK2.out;omega⟩,⟨by(with_reducible repeat(first|apply Kd.V_alloc|apply Kd.V_drewN|apply Kd.V_drew));exact Kd.V_mono HO_1.out (fun _ hk=>hk.1.1)⟩,⟨Kd.V_mono (Kd.R_V (rX (Kd.R_mono HO300.out (fun _ hk=>hk.1)))) (fun k_ hk=>by first|exact⟨(.inr (hk.1)),hk.2⟩|exact(.inr (hk)))⟩,⟨pB⟩⟩
         ·rw[if_neg c15] at H;have c15b0:decide (2 < (x1_2.length:Int))=false:=decide_eq_false c15;have c15b1:decide (2 < x1_2.length)=false:=decide_eq_false (by omega)
          clear c15;have H':=aM H;clear H;obtain⟨Ao20,co20,eo20⟩:=Kd.V_slice HO_1.out;subst eo20;obtain⟨Ao21,co21,eo21⟩:=Kd.V_slice HO_0.out;subst eo21;go_wp2
          repeat(go_quiet (fail);try go_wp2)
          go_meet
          case rel=>exact⟨_,(x0_2),(x1_2),H',⟨by have:=HJ2.out;have:=HK2.out;first|omega|exact Nat.le_refl _⟩,⟨vX HO_0.out⟩,⟨vX HO_1.out⟩,⟨pB⟩⟩
       ·rw[if_neg c9] at H;have c9b0:decide (0 < (x1_2.length:Int))=false:=decide_eq_false c9;have c9b1:decide (0 < x1_2.length)=false:=decide_eq_false (by omega)
        clear c9;(first|rw[c9b0]|(simp only[i64_w,i32_w];rw[c9b0])|skip)
        have H':=aM H;clear H;obtain⟨Ao22,co22,eo22⟩:=Kd.V_slice HO_1.out;subst eo22;go_wp2
        repeat(go_quiet (fail);try go_wp2)
        go_meet
        case rel=>exact⟨_,(x0_2),(x1_2),H',⟨by have:=HJ2.out;have:=HK2.out;first|omega|exact Nat.le_refl _⟩,⟨vX HO_0.out⟩,⟨vX HO_1.out⟩,⟨pB⟩⟩
    case rest =>
     clear HC8;try clear c1
     try clear p2
     try clear c5
     try clear c7
     try clear c9
     try clear c9b0
     try clear c9b1
     try clear c10
     try clear c10b0
     try clear c10b1
     try clear c15
     try clear c15b0
     try clear c15b1
     try clear p2
     obtain⟨kq,x0_7,x1_7,HA,HJ7,HO_0,HO_1,HB⟩:=hcut;cases kq with
     | zero=>exact absurd HA.out (by simp [Czf.j2])
     | succ kj7 =>
      have H:=HA.out;clear HA;simp only[Czf.j2] at H;by_cases c23:(x1_7.length:Int)=0
      ·rw[if_pos c23] at H;have c23b0:((x1_7.length:Int) == 0)=true:=beq_iff_eq.mpr c23;have c23b1:((x1_7.length:Int) != 0)=false:=bne_eq_false_iff_eq.mpr c23;clear c23;obtain⟨t301,A24,H⟩:=bT H;(try dsimp only at H);replace H:=bS H;obtain⟨t304,A250,H⟩:=H;replace H:(some (t304,0))=some (r1,r2):=H;have A25:=aM A250;clear A250;obtain⟨rfl,rfl⟩:=q2 H;obtain⟨Ao26,co26,eo26⟩:=Kd.V_slice HO_1.out;subst eo26;obtain⟨Ao27,co27,eo27⟩:=Kd.V_slice HO_0.out;subst eo27;have fl_:True:=trivial;repeat((first|clear fl_|go_quiet (first|(go_at_call 93;(with_reducible refine(Gzy.calls _ _ x0_7 (x0_7.length:Int) t301 _ ?side1 ?side2 A24.out).mono ?_);(case side1=>exact cV HO_0);(case side2=>exact lV HO_0);rintro e w28 ⟨v302,rfl,ho0,hb⟩;have HO303:=rL (Kd.R_newM (M:=fun k_=>(w.heap.size≤k_)) ho0 (below_size pB) (fun k_ h_=>h_));replace HO_0:=vE HO_0 ho0 hb;replace HO_1:=vE HO_1 ho0 hb;replace HB:=bB hb;clear hb ho0;obtain⟨Ao29,co29,rfl⟩:=Kd.R_slice HO303.out)|(go_at_call 92;(with_reducible refine(Czj.calls kj7 (fun k_=>some k_=(.slice Ao29 t301.length co29:Value).ownBlock) (.slice Ao29 t301.length co29) t301 t304 w _ ?side1 ?side2 A25.out).mono ?_);(case side1=>exact pB);(case side2=>exact Kd.R_tight rfl HO303.out);rintro e w30 ⟨v305,rfl,ho0,hb,hkp⟩;have HO306:=aM (Kd.R_mono (ok':=fun k_=>(w.heap.size≤k_)) ho0 (fun k_ hk_=>Or.elim hk_ (fun hs_=>(HO303.out.1 k_ (hs_).symm).1) (fun hn_=>(Nat.le_trans (below_size pB) hn_))));replace HO_0:=aM (Kd.V_mono (ok':=fun k_=>((P0_ k_∨P1_ k_)∨w.heap.size≤k_)∧some k_≠(v305:Value).ownBlock) (Kd.V_keptB (HO_0.out) hkp (fun k_ hk_ hs_=>(hk_.2) hs_)) (fun k_ hk_=>⟨hk_.1.1,fun e_=>Or.elim (ho0.1 k_ e_.symm) (fun hs_=>hk_.2.1 hs_) (fun hn_=>Nat.not_le.2 hk_.2.2 hn_)⟩));replace HO_1:=aM (Kd.V_mono (ok':=fun k_=>((P0_ k_∨P1_ k_)∨w.heap.size≤k_)∧some k_≠(v305:Value).ownBlock) (Kd.V_keptB (HO_1.out) hkp (fun k_ hk_ hs_=>(hk_.2) hs_)) (fun k_ hk_=>⟨hk_.1.1,fun e_=>Or.elim (ho0.1 k_ e_.symm) (fun hs_=>hk_.2.1 hs_) (fun hn_=>Nat.not_le.2 hk_.2.2 hn_)⟩));replace HB:=aM (hb);clear HO303;clear hb hkp ho0)));go_wp2_with (first|(go_at_call 93;(with_reducible refine(Gzy.calls _ _ x0_7 (x0_7.length:Int) t301 _ ?side1 ?side2 A24.out).mono ?_);(case side1=>exact cV HO_0);(case side2=>exact lV HO_0);rintro e w28 ⟨v302,rfl,ho0,hb⟩;have HO303:=rL (Kd.R_newM (M:=fun k_=>(w.heap.size≤k_)) ho0 (below_size pB) (fun k_ h_=>h_));replace HO_0:=vE HO_0 ho0 hb;replace HO_1:=vE HO_1 ho0 hb;replace HB:=bB hb;clear hb ho0;obtain⟨Ao29,co29,rfl⟩:=Kd.R_slice HO303.out)|(go_at_call 92;(with_reducible refine(Czj.calls kj7 (fun k_=>some k_=(.slice Ao29 t301.length co29:Value).ownBlock) (.slice Ao29 t301.length co29) t301 t304 w _ ?side1 ?side2 A25.out).mono ?_);(case side1=>exact pB);(case side2=>exact Kd.R_tight rfl HO303.out);rintro e w30 ⟨v305,rfl,ho0,hb,hkp⟩;have HO306:=aM (Kd.R_mono (ok':=fun k_=>(w.heap.size≤k_)) ho0 (fun k_ hk_=>Or.elim hk_ (fun hs_=>(HO303.out.1 k_ (hs_).symm).1) (fun hn_=>(Nat.le_trans (below_size pB) hn_))));replace HO_0:=aM (Kd.V_mono (ok':=fun k_=>((P0_ k_∨P1_ k_)∨w.heap.size≤k_)∧some k_≠(v305:Value).ownBlock) (Kd.V_keptB (HO_0.out) hkp (fun k_ hk_ hs_=>(hk_.2) hs_)) (fun k_ hk_=>⟨hk_.1.1,fun e_=>Or.elim (ho0.1 k_ e_.symm) (fun hs_=>hk_.2.1 hs_) (fun hn_=>Nat.not_le.2 hk_.2.2 hn_)⟩));replace HO_1:=aM (Kd.V_mono (ok':=fun k_=>((P0_ k_∨P1_ k_)∨w.heap.size≤k_)∧some k_≠(v305:Value).ownBlock) (Kd.V_keptB (HO_1.out) hkp (fun k_ hk_ hs_=>(hk_.2) hs_)) (fun k_ hk_=>⟨hk_.1.1,fun e_=>Or.elim (ho0.1 k_ e_.symm) (fun hs_=>hk_.2.1 hs_) (fun hn_=>Nat.not_le.2 hk_.2.2 hn_)⟩));replace HB:=aM (hb);clear HO303;clear hb hkp ho0)))
       go_ret2
       exact⟨_,eW,rX HO306.out,pB⟩
      ·rw[if_neg c23] at H;have c23b0:((x1_7.length:Int) == 0)=false:=beq_eq_false_iff_ne.mpr c23;have c23b1:((x1_7.length:Int) != 0)=true:=bne_iff_ne.mpr c23;have c23b2:¬ (x1_7=[]):=fun h_=>c23 (by rw[h_];rfl)
       obtain⟨t307,A31,H⟩:=bT H;(try dsimp only at H);obtain⟨t308,A32,H⟩:=bT H;(try dsimp only at H);have H':=aM H;clear H;obtain⟨Ao33,co33,eo33⟩:=Kd.V_slice HO_1.out;subst eo33;obtain⟨Ao34,co34,eo34⟩:=Kd.V_slice HO_0.out;subst eo34;have fl_:True:=trivial;repeat((first|clear fl_|go_quiet (first|(go_at_call 94;(with_reducible refine(Ezw.calls kj7 _ _ x0_7 t307 _ ?side1 ?side2 A31.out).mono ?_);(case side1=>exact cV HO_0);(case side2=>exact lV HO_0);rintro e w' ⟨rfl,⟨nd,rfl⟩⟩;(try exact dD))|(go_at_call 94;(with_reducible refine(Ezw.calls kj7 _ _ x1_7 t308 _ ?side1 ?side2 A32.out).mono ?_);(case side1=>exact cV HO_1);(case side2=>exact lV HO_1);rintro e w' ⟨rfl,⟨nd,rfl⟩⟩;(try exact dD))));go_wp2_with (first|(go_at_call 94;(with_reducible refine(Ezw.calls kj7 _ _ x0_7 t307 _ ?side1 ?side2 A31.out).mono ?_);(case side1=>exact cV HO_0);(case side2=>exact lV HO_0);rintro e w' ⟨rfl,⟨nd,rfl⟩⟩;(try exact dD))|(go_at_call 94;(with_reducible refine(Ezw.calls kj7 _ _ x1_7 t308 _ ?side1 ?side2 A32.out).mono ?_);(case side1=>exact cV HO_1);(case side2=>exact lV HO_1);rintro e w' ⟨rfl,⟨nd,rfl⟩⟩;(try exact dD))))
       try simp only[Act.put,sA,sZ,sC]
       go_loopg [8,9] kj7 (fun kq v8 v9 w'=>∃ (x8_3:Int) (x9_3:Int),v8=.int .i64 x8_3∧v9=.int .i64 x9_3∧Aside0 (Czf.l1 kq x8_3 x9_3=some (r1,r2))∧Aside0 (kq≤kj7)∧Aside0 (Below w.heap.size w w'))
       case atStart=>exact⟨(t307),(t308),sD,sD,H',⟨Nat.le_refl _⟩,⟨pB⟩⟩
       case round =>
        clear H';try clear c1
        try clear c2
        try clear p2
        try clear c5
        try clear c7
        try clear c9
        try clear c9b0
        try clear c9b1
        try clear c10
        try clear c10b0
        try clear c10b1
        try clear c15
        try clear c15b0
        try clear c15b1
        try clear c23
        try clear c23b0
        try clear c23b1
        try clear c23b2
        try clear p2
        obtain⟨x8_3,x9_3,rfl,rfl,HA,HK3,HB⟩:=hrel;cases gk with
        | zero=>exact absurd HA.out (by simp [Czf.l1])
        | succ k3 =>
         have H:=HA.out;clear HA;simp only[Czf.l1] at H;by_cases c35:x9_3 > 0
         ·rw[if_pos c35] at H;have c35b0:decide (0 < x9_3)=true:=dE c35;clear c35;obtain⟨c36,H⟩:=iM H;have c36b0:(x9_3 == 0)=false:=beq_eq_false_iff_ne.mpr c36;have c36b1:(x9_3 != 0)=true:=bne_iff_ne.mpr c36;have H':=aM H;clear H;go_wp2
          repeat(go_quiet (fail);try go_wp2)
          go_roundg k3
          case measure=>have:=HJ2.out;have:=HJ7.out;have:=HK3.out;omega
          case rel=>exact⟨(x9_3),(Int.tmod x8_3 x9_3),sD,sD,H',⟨by have:=HJ2.out;have:=HJ7.out;have:=HK3.out;omega⟩,⟨pB⟩⟩
         ·rw[if_neg c35] at H;have c35b0:decide (0 < x9_3)=false:=decide_eq_false c35;clear c35;replace H:=bS H;obtain⟨⟨t309,t310⟩,A370,H⟩:=H;replace H:(some (t309,t310))=some (r1,r2):=H;have A37:=aM A370;clear A370;obtain⟨rfl,rfl⟩:=q2 H;have fl_:True:=trivial;repeat((first|clear fl_|go_quiet (first|(go_at_call 79;(with_reducible refine(Fzq.calls k3 x8_3 t309 t310 _ A37.out).mono ?_);rintro e w38 ⟨v311,rfl,ho0,hb⟩;have HO312:=rL (Kd.R_newM (M:=fun k_=>(w.heap.size≤k_)) ho0 (below_size pB) (fun k_ h_=>h_));replace HB:=bB hb;clear hb ho0)));go_wp2_with (first|(go_at_call 79;(with_reducible refine(Fzq.calls k3 x8_3 t309 t310 _ A37.out).mono ?_);rintro e w38 ⟨v311,rfl,ho0,hb⟩;have HO312:=rL (Kd.R_newM (M:=fun k_=>(w.heap.size≤k_)) ho0 (below_size pB) (fun k_ h_=>h_));replace HB:=bB hb;clear hb ho0)))
          go_ret2
          exact⟨_,eW,by exact rX (Kd.R_mono HO312.out (fun _ hk=>hk.1)),pB⟩

end Go.Proofs.Ytnklckihalhlmaa.Print
