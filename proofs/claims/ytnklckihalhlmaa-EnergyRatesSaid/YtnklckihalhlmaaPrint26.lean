import Derived.Test.YtnklckihalhlmaaPrint0
import Derived.Test.YtnklckihalhlmaaPrint13
import Derived.Test.YtnklckihalhlmaaPrint25
namespace Go.Proofs.Ytnklckihalhlmaa.Print
open Go.RowKit Go.Proofs.YtnklckihalhlmaaW.PrintWords Go.Proofs.YtnklckihalhlmaaW.PrintLast Go.Proofs.YtnklckihalhlmaaW.PrintMore
attribute [local go_sem] max2_int min2_int max_two min_two max_three min_three max_four min_four
set_option linter.unusedVariables false
set_option maxRecDepth 100000
set_option maxHeartbeats 8000000
set_option linter.unusedSimpArgs false

def Ezb.l0:Nat→List (S39)→Int→Int→Option (Bool)
 | 0,_,_,_=>none
 | k+1,x5,x6,x7=>if x7 < x6 then(if 0≤x7 then(if x7 < (x5.length:Int) then((Gzw.f k ((rd_T39 x5 x7).f0) ((rd_T39 x5 x7).f1) ((rd_T39 x5 x7).f2)).bind fun t385=>(if t385=true then(Ezb.l0 k x5 x6 (wrap64 (x7+1))) else(some false))) else(none)) else(none)) else(some true)
def Ezb.f (k:Nat) (l0:List (S39)):Option (Bool):=Ezb.l0 k l0 (l0.length:Int) 0
theorem Ezb.mono_l:∀ k,(∀ y0 y1 y2,LeO (Ezb.l0 k y0 y1 y2) (Ezb.l0 (k+1) y0 y1 y2))
 | 0=>fun _ _ _ r h=>by simp [Ezb.l0] at h
 | k+1=>by
  have ih0:=Ezb.mono_l k
  ·intro y0 y1 y2;unfold Ezb.l0;have i0:=@Gzw.mono;exact mM
theorem Ezb.mono:∀ a0 k,LeO (Ezb.f k a0) (Ezb.f (k+1) a0):=by
 intro a0 k;have ih0:=Ezb.mono_l k;unfold Ezb.f;have i0:=@Gzw.mono;exact mM
theorem Ezb.calls (k:Nat) (A0:Option Addr) (c0:Nat) (l0:List (S39)) (r:Bool) (w:World) (hr0:Kd.C k39 w A0 l0.length l0) (hc0:l0.length≤c0) (h:Ezb.f k l0=some r) :
  Calls Try.prog 61 #[.slice A0 l0.length c0] w fun e w'=>e=.returned (.bool r)∧Below w.heap.size w w':=by
 have hu39:=Try.underlying39;have HR0:=aM hr0;have HC0:=aM hc0;clear hr0 hc0;have HB:=aM (Below.refl w.heap.size w);have H:(Ezb.l0 k l0 (l0.length:Int) 0)=some r:=h;clear h;have H':=aM H;clear H;go_enter Try.func61,Try.ntmps61
 go_wp2
 go_loopg [7] k (fun kq v7 w'=>∃ (x7_1:Int),v7=.int .i64 x7_1∧Aside0 (Ezb.l0 kq l0 (l0.length:Int) x7_1=some r)∧Aside0 (kq≤k)∧Aside0 (Below w.heap.size w w'))
 case atStart=>exact⟨(0),sD,H',⟨Nat.le_refl _⟩,⟨pB⟩⟩
 case round =>
  clear H';obtain⟨x7_1,rfl,HA,HK1,HB⟩:=hrel;cases gk with
  | zero=>exact absurd HA.out (by simp [Ezb.l0])
  | succ k1 =>
   have H:=HA.out;clear HA;simp only[Ezb.l0] at H;by_cases c2:x7_1 < (l0.length:Int)
   ·rw[if_pos c2] at H;have c2b0:=dE c2;clear c2;obtain⟨c3b0,H⟩:=iN H;obtain⟨c4b0,H⟩:=iN H;obtain⟨t385,A5,H⟩:=bT H;(try dsimp only at H);by_cases c6:t385=true
    ·subst c6;rw[if_pos rfl] at H;have H':=aM H;clear H;obtain⟨ad383,A383_1,c383_1,A383_2,c383_2,e383,hx383_0,hx383_1,hx383_2,hl383_1,hi383_1,hl383_2,hi383_2⟩:=at_T39 HR0.out x7_1 (oE aS) (oE aS);cases e383
     replace hx383_0:=hB HB hx383_0;replace hx383_1:=hB HB hx383_1;replace hx383_2:=hB HB hx383_2;have HR383_1:=aM hi383_1;have HC383_1:=aM hl383_1;clear hi383_1 hl383_1;have HR383_2:=aM hi383_2;have HC383_2:=aM hl383_2;clear hi383_2 hl383_2;have p383:=eT (x7_1);have q383:=eU (x7_1) l0.length;go_wp2_with (first|((with_reducible refine gd 4 rfl ?_);refine bx #[.bool false,.slice none 0 0,.slice none 0 0] 39 ?_;intro gb384 hg w7 BK384 hb;have GW384:=gA w hg;have GE384:=gA w hg;replace HB:=bB hb;clear hb hg;obtain⟨hcz8_0,hcz8_1,hcz8_2,hfz8_0,hfz8_1,hfz8_2⟩:=bk3 BK384)|((with_reducible refine gc 80 rfl ?_);refine gC 80 (some 12) Try.func80 #[.agg #[.bool ((rd_T39 l0 x7_1).f0),.slice A383_1 ((rd_T39 l0 x7_1).f1).length c383_1,.slice A383_2 ((rd_T39 l0 x7_1).f2).length c383_2]] ?_;(with_reducible refine(Gzw.calls k1 ((rd_T39 l0 x7_1).f0) _ _ ((rd_T39 l0 x7_1).f1) _ _ ((rd_T39 l0 x7_1).f2) true _ ?side1 ?side2 ?side3 ?side4 A5.out).mono ?_);(case side1=>exact Kd.C_below HR383_1.out pB);(case side2=>exact HC383_1.out);(case side3=>exact Kd.C_below HR383_2.out pB);(case side4=>exact HC383_2.out);rintro e w9 ⟨rfl,hb⟩;refine⟨_,rfl,?_⟩;replace BK384:=kP (o':=.cells #[.bool ((rd_T39 l0 x7_1).f0),.slice A383_1 ((rd_T39 l0 x7_1).f1).length c383_1,.slice A383_2 ((rd_T39 l0 x7_1).f2).length c383_2] 39 (0,0)) BK384 hb;replace HB:=bB hb;clear hb))
     go_roundg k1
     case measure=>have:=HK1.out;omega
     case rel=>exact⟨(wrap64 (x7_1+1)),sD,H',⟨by have:=HK1.out;omega⟩,⟨pB⟩⟩
    ·obtain rfl:=bN c6;rw[if_neg nF] at H
     obtain rfl:=Option.some.inj H;obtain⟨ad383,A383_1,c383_1,A383_2,c383_2,e383,hx383_0,hx383_1,hx383_2,hl383_1,hi383_1,hl383_2,hi383_2⟩:=at_T39 HR0.out x7_1 (oE aS) (oE aS);cases e383
     replace hx383_0:=hB HB hx383_0;replace hx383_1:=hB HB hx383_1;replace hx383_2:=hB HB hx383_2;have HR383_1:=aM hi383_1;have HC383_1:=aM hl383_1;clear hi383_1 hl383_1;have HR383_2:=aM hi383_2;have HC383_2:=aM hl383_2;clear hi383_2 hl383_2;have p383:=eT (x7_1);have q383:=eU (x7_1) l0.length;go_wp2_with (first|((with_reducible refine gd 4 rfl ?_);refine bx #[.bool false,.slice none 0 0,.slice none 0 0] 39 ?_;intro gb384 hg w10 BK384 hb;have GW384:=gA w hg;have GE384:=gA w hg;replace HB:=bB hb;clear hb hg;obtain⟨hcz11_0,hcz11_1,hcz11_2,hfz11_0,hfz11_1,hfz11_2⟩:=bk3 BK384)|((with_reducible refine gc 80 rfl ?_);refine gC 80 (some 12) Try.func80 #[.agg #[.bool ((rd_T39 l0 x7_1).f0),.slice A383_1 ((rd_T39 l0 x7_1).f1).length c383_1,.slice A383_2 ((rd_T39 l0 x7_1).f2).length c383_2]] ?_;(with_reducible refine(Gzw.calls k1 ((rd_T39 l0 x7_1).f0) _ _ ((rd_T39 l0 x7_1).f1) _ _ ((rd_T39 l0 x7_1).f2) false _ ?side1 ?side2 ?side3 ?side4 A5.out).mono ?_);(case side1=>exact Kd.C_below HR383_1.out pB);(case side2=>exact HC383_1.out);(case side3=>exact Kd.C_below HR383_2.out pB);(case side4=>exact HC383_2.out);rintro e w12 ⟨rfl,hb⟩;refine⟨_,rfl,?_⟩;replace BK384:=kP (o':=.cells #[.bool ((rd_T39 l0 x7_1).f0),.slice A383_1 ((rd_T39 l0 x7_1).f1).length c383_1,.slice A383_2 ((rd_T39 l0 x7_1).f2).length c383_2] 39 (0,0)) BK384 hb;replace HB:=bB hb;clear hb))
     go_ret
     exact⟨eW,pB⟩
   ·rw[if_neg c2] at H;have c2b0:decide (x7_1 < (l0.length:Int))=false:=decide_eq_false c2;clear c2;obtain rfl:=Option.some.inj H;go_wp2
    go_ret
    exact⟨eW,pB⟩

def Fzm.f (k:Nat) (l0:List Int):Option (List Int × Int):=(Czj.f k l0).bind fun t391=>(if(t391.length:Int) > 48 then(some (([]:List Int),2)) else(some (t391,0)))
theorem Fzm.mono:∀ a0 k,LeO (Fzm.f k a0) (Fzm.f (k+1) a0):=by
 intro a0 k;unfold Fzm.f;have i0:=@Czj.mono;exact mM
theorem Fzm.calls (k:Nat) (P0_:Nat→Prop) (u9000_:Value) (l0:List Int) (r1:List Int) (r2:Int) (w0 w:World) (hB:Below w0.heap.size w0 w) (ho0:Kd.R (Kd.int .i64) 3 w w0.heap.size P0_ u9000_ l0) (h:Fzm.f k l0=some (r1,r2)) :
  Calls Try.prog 95 #[u9000_] w fun e w'=>∃ v0_:Value,e=.returned (.tuple #[v0_,.int .i64 r2])∧Kd.R (Kd.int .i64) 3 w' w0.heap.size (fun k_=>(P0_ k_∨w.heap.size≤k_)) v0_ r1∧Below w0.heap.size w0 w'∧Kept w w' (fun k_=>P0_ k_):=by
 have HO0:=aM (show Kd.R (Kd.int .i64) 3 w w0.heap.size (fun k_=>(P0_ k_∨w.heap.size≤k_)) u9000_ l0 from Kd.R_mono ho0 (fun k_ hk=>(.inl hk)))
 have HK:=aM (Kept.refl w (fun k_=>P0_ k_))
 have HW0:=aM hB.size;have HB:=aM hB;clear hB;have H:((Czj.f k l0).bind fun t391=>(if(t391.length:Int) > 48 then(some (([]:List Int),2)) else(some (t391,0))))=some (r1,r2):=h
 clear h;obtain⟨t391,A2,H⟩:=bT H;(try dsimp only at H);by_cases c3:(t391.length:Int) > 48
 ·rw[if_pos c3] at H;have c3b0:decide (48 < (t391.length:Int))=true:=dE c3;have c3b1:decide (48 < t391.length)=true:=dE (by omega)
  clear c3;obtain⟨rfl,rfl⟩:=q2 H;obtain⟨Ao4,co4,rfl⟩:=Kd.R_slice HO0.out;go_enter Try.func95,Try.ntmps95
  go_wp2_with (first|((with_reducible refine gc 92 rfl ?_);refine gC 92 (some 6) Try.func92 #[.slice Ao4 l0.length co4] ?_;(with_reducible refine(Czj.calls k (fun k_=>some k_=(.slice Ao4 l0.length co4:Value).ownBlock) (.slice Ao4 l0.length co4) l0 t391 w0 _ ?side1 ?side2 A2.out).mono ?_);(case side1=>exact pB);(case side2=>exact Kd.R_tight rfl HO0.out);rintro e w5 ⟨v392,rfl,ho0,hb,hkp⟩;refine⟨_,rfl,?_⟩;have HO393:=aM (Kd.R_mono (ok':=fun k_=>(P0_ k_∨w.heap.size≤k_)) ho0 (fun k_ hk_=>Or.elim hk_ (fun hs_=>(HO0.out.1 k_ (hs_).symm)) (fun hn_=>(.inr (Nat.le_trans (by first|exact HK.out.1|exact(show Kept w _ (fun k_=>P0_ k_) from kK HK).1) hn_)))));replace HK:=aM (Kept.then_ (S:=(fun k_=>P0_ k_)) (kK HK) hkp (fun k_ hs_=>(fun e_=>(HO0.out.1 k_ e_.symm)) hs_));replace HB:=aM (hb);clear HO0;clear hb hkp ho0;obtain⟨Ao6,co6,rfl⟩:=Kd.R_slice HO393.out))
  go_ret2
  exact⟨_,eW,nK,pB,kK HK⟩
 ·rw[if_neg c3] at H;have c3b0:decide (48 < (t391.length:Int))=false:=decide_eq_false c3;have c3b1:decide (48 < t391.length)=false:=decide_eq_false (by omega)
  clear c3;obtain⟨rfl,rfl⟩:=q2 H;obtain⟨Ao7,co7,rfl⟩:=Kd.R_slice HO0.out;go_enter Try.func95,Try.ntmps95
  go_wp2_with (first|((with_reducible refine gc 92 rfl ?_);refine gC 92 (some 6) Try.func92 #[.slice Ao7 l0.length co7] ?_;(with_reducible refine(Czj.calls k (fun k_=>some k_=(.slice Ao7 l0.length co7:Value).ownBlock) (.slice Ao7 l0.length co7) l0 t391 w0 _ ?side1 ?side2 A2.out).mono ?_);(case side1=>exact pB);(case side2=>exact Kd.R_tight rfl HO0.out);rintro e w8 ⟨v392,rfl,ho0,hb,hkp⟩;refine⟨_,rfl,?_⟩;have HO393:=aM (Kd.R_mono (ok':=fun k_=>(P0_ k_∨w.heap.size≤k_)) ho0 (fun k_ hk_=>Or.elim hk_ (fun hs_=>(HO0.out.1 k_ (hs_).symm)) (fun hn_=>(.inr (Nat.le_trans (by first|exact HK.out.1|exact(show Kept w _ (fun k_=>P0_ k_) from kK HK).1) hn_)))));replace HK:=aM (Kept.then_ (S:=(fun k_=>P0_ k_)) (kK HK) hkp (fun k_ hs_=>(fun e_=>(HO0.out.1 k_ e_.symm)) hs_));replace HB:=aM (hb);clear HO0;clear hb hkp ho0;obtain⟨Ao9,co9,rfl⟩:=Kd.R_slice HO393.out))
  go_ret2
  exact⟨_,eW,rX HO393.out,pB,kK HK⟩


mutual
def Dzw.j0:Nat→List Int→List Int→Bool→Option (List Int × Int)
 | 0,_,_,_=>none
 | k+1,x0,x1,x18=>if x18=true then(some (([]:List Int),3)) else(if 0≤(wrap64 ((wrap64 ((x0.length:Int)+(x1.length:Int)))+1)) then(if(wrap64 ((wrap64 ((x0.length:Int)+(x1.length:Int)))+1):Int).toNat≤35184372088832 then(Dzw.l0 k x0 x1 (List.replicate (wrap64 ((wrap64 ((x0.length:Int)+(x1.length:Int)))+1):Int).toNat 0) (x0.length:Int) 0) else(none)) else(none))
def Dzw.l0:Nat→List Int→List Int→List Int→Int→Int→Option (List Int × Int)
 | 0,_,_,_,_,_=>none
 | k+1,x0,x1,x6,x27,x28=>if x28 < x27 then(Dzw.l1 k x0 x1 x6 x28 0 x27 x28 (x1.length:Int) 0) else((Fzm.f k x6).bind fun bt399=>(some (bt399.1,bt399.2)))
def Dzw.l1:Nat→List Int→List Int→List Int→Int→Int→Int→Int→Int→Int→Option (List Int × Int)
 | 0,_,_,_,_,_,_,_,_,_=>none
 | k+1,x0,x1,x6,x7,x8,x27,x28,x32,x33=>if x33 < x32 then(if 0≤(wrap64 (x7+x33)) then(if(wrap64 (x7+x33)) < (x6.length:Int) then(if 0≤x7 then(if x7 < (x0.length:Int) then(if 0≤x33 then(if x33 < (x1.length:Int) then(Dzw.l1 k x0 x1 (x6.set ((wrap64 (x7+x33)):Int).toNat (Int.tmod (wrap64 ((wrap64 ((rd x6 (wrap64 (x7+x33)))+(wrap64 ((rd x0 x7) * (rd x1 x33)))))+x8)) 1000000000)) x7 (wrap64 (Int.tdiv (wrap64 ((wrap64 ((rd x6 (wrap64 (x7+x33)))+(wrap64 ((rd x0 x7) * (rd x1 x33)))))+x8)) 1000000000)) x27 x28 x32 (wrap64 (x33+1))) else(none)) else(none)) else(none)) else(none)) else(none)) else(none)) else(if 0≤(wrap64 (x7+(x1.length:Int))) then(if(wrap64 (x7+(x1.length:Int))) < (x6.length:Int) then(Dzw.l0 k x0 x1 (x6.set ((wrap64 (x7+(x1.length:Int))):Int).toNat x8) x27 (wrap64 (x28+1))) else(none)) else(none))
end
def Dzw.f (k:Nat) (l0:List Int) (l1:List Int):Option (List Int × Int):=(Bzw.f k l0).bind fun t394=>(if t394=true then((Bzw.f k l1).bind fun t395=>(Dzw.j0 k l0 l1 (!t395))) else(Dzw.j0 k l0 l1 true))
theorem Dzw.mono_l:∀ k,(∀ y0 y1 y2,LeO (Dzw.j0 k y0 y1 y2) (Dzw.j0 (k+1) y0 y1 y2))∧(∀ y0 y1 y2 y3 y4,LeO (Dzw.l0 k y0 y1 y2 y3 y4) (Dzw.l0 (k+1) y0 y1 y2 y3 y4))∧(∀ y0 y1 y2 y3 y4 y5 y6 y7 y8,LeO (Dzw.l1 k y0 y1 y2 y3 y4 y5 y6 y7 y8) (Dzw.l1 (k+1) y0 y1 y2 y3 y4 y5 y6 y7 y8))
 | 0=>⟨fun _ _ _ r h=>by simp [Dzw.j0] at h,fun _ _ _ _ _ r h=>by simp [Dzw.l0] at h,fun _ _ _ _ _ _ _ _ _ r h=>by simp [Dzw.l1] at h⟩
 | k+1=>by
  obtain⟨ih0,ih1,ih2⟩:=Dzw.mono_l k;have i0:=@Bzw.mono;have i1:=@Fzm.mono;refine⟨?_,?_,?_⟩
  ·intro y0 y1 y2;unfold Dzw.j0;exact mM
  ·intro y0 y1 y2 y3 y4;unfold Dzw.l0;exact mM
  ·intro y0 y1 y2 y3 y4 y5 y6 y7 y8;unfold Dzw.l1;exact mM
theorem Dzw.mono:∀ a0 a1 k,LeO (Dzw.f k a0 a1) (Dzw.f (k+1) a0 a1):=by
 intro a0 a1 k;obtain⟨ih0,ih1,ih2⟩:=Dzw.mono_l k;unfold Dzw.f;have i0:=@Bzw.mono;have i1:=@Fzm.mono;exact mM
theorem Dzw.calls (k:Nat) (A0:Option Addr) (c0:Nat) (l0:List Int) (A1:Option Addr) (c1:Nat) (l1:List Int) (r1:List Int) (r2:Int) (w:World) (hr0:Kd.C (Kd.int .i64) w A0 l0.length l0) (hc0:l0.length≤c0) (hr1:Kd.C (Kd.int .i64) w A1 l1.length l1) (hc1:l1.length≤c1) (h:Dzw.f k l0 l1=some (r1,r2)) :
  Calls Try.prog 82 #[.slice A0 l0.length c0,.slice A1 l1.length c1] w fun e w'=>∃ v0_:Value,e=.returned (.tuple #[v0_,.int .i64 r2])∧Kd.R (Kd.int .i64) 3 w' w.heap.size (fun _=>True) v0_ r1∧Below w.heap.size w w':=by
 have HR0:=aM hr0;have HC0:=aM hc0;clear hr0 hc0;have HR1:=aM hr1;have HC1:=aM hc1;clear hr1 hc1;have HB:=aM (Below.refl w.heap.size w);have H:((Bzw.f k l0).bind fun t394=>(if t394=true then((Bzw.f k l1).bind fun t395=>(Dzw.j0 k l0 l1 (!t395))) else(Dzw.j0 k l0 l1 true)))=some (r1,r2):=h
 clear h;have HC3:=aM H;clear H;go_enter Try.func82,Try.ntmps82
 go_upto_region 1 with (fail)
 repeat(go_quiet (fail);go_upto_region 1 with (fail))
 go_cut [18] (fun v18 wc=>∃ (kq:Nat) (x18_2:Bool),v18=.bool x18_2∧Aside0 (Dzw.j0 kq l0 l1 x18_2=some (r1,r2))∧Aside0 (kq≤k)∧Aside0 (Below w.heap.size w wc))
 case first =>
  have H:=HC3.out;clear HC3;obtain⟨t394,A4,H⟩:=bT H;(try dsimp only at H);by_cases c5:t394=true
  ·subst c5;rw[if_pos rfl] at H;obtain⟨t395,A6,H⟩:=bT H;(try dsimp only at H);have H':=aM H;clear H;have fl_:True:=trivial;repeat((first|clear fl_|go_quiet (first|(go_at_call 90;(with_reducible refine(Bzw.calls k _ _ l0 true _ ?side1 ?side2 A4.out).mono ?_);(case side1=>exact cB HR0);(case side2=>exact HC0.out);rintro e w' ⟨rfl,⟨nd,rfl⟩⟩;(try exact dD))|(go_at_call 90;(with_reducible refine(Bzw.calls k _ _ l1 t395 _ ?side1 ?side2 A6.out).mono ?_);(case side1=>exact cB HR1);(case side2=>exact HC1.out);rintro e w' ⟨rfl,⟨nd,rfl⟩⟩;(try exact dD))));go_wp2_with (first|(go_at_call 90;(with_reducible refine(Bzw.calls k _ _ l0 true _ ?side1 ?side2 A4.out).mono ?_);(case side1=>exact cB HR0);(case side2=>exact HC0.out);rintro e w' ⟨rfl,⟨nd,rfl⟩⟩;(try exact dD))|(go_at_call 90;(with_reducible refine(Bzw.calls k _ _ l1 t395 _ ?side1 ?side2 A6.out).mono ?_);(case side1=>exact cB HR1);(case side2=>exact HC1.out);rintro e w' ⟨rfl,⟨nd,rfl⟩⟩;(try exact dD))))
   go_meet
   case rel=>exact⟨_,(!t395),sD,H',⟨by first|omega|exact Nat.le_refl _⟩,⟨pB⟩⟩
  ·obtain rfl:=bN c5;rw[if_neg nF] at H
   have H':=aM H;clear H;have fl_:True:=trivial;repeat((first|clear fl_|go_quiet (first|(go_at_call 90;(with_reducible refine(Bzw.calls k _ _ l0 false _ ?side1 ?side2 A4.out).mono ?_);(case side1=>exact cB HR0);(case side2=>exact HC0.out);rintro e w' ⟨rfl,⟨nd,rfl⟩⟩;(try exact dD))));go_wp2_with (first|(go_at_call 90;(with_reducible refine(Bzw.calls k _ _ l0 false _ ?side1 ?side2 A4.out).mono ?_);(case side1=>exact cB HR0);(case side2=>exact HC0.out);rintro e w' ⟨rfl,⟨nd,rfl⟩⟩;(try exact dD))))
   go_meet
   case rel=>exact⟨_,(true),sD,H',⟨by first|omega|exact Nat.le_refl _⟩,⟨pB⟩⟩
 case rest =>
  clear HC3;try clear c1
  try clear p2
  try clear c5
  obtain⟨kq,x18_2,rfl,HA,HJ2,HB⟩:=hcut;cases kq with
  | zero=>exact absurd HA.out (by simp [Dzw.j0])
  | succ kj2 =>
   have H:=HA.out;clear HA;simp only[Dzw.j0] at H;by_cases c7:x18_2=true
   ·subst c7;rw[if_pos rfl] at H;obtain⟨rfl,rfl⟩:=q2 H;go_wp2
    repeat(go_quiet (fail);try go_wp2)
    go_ret2
    exact⟨_,eW,nK,pB⟩
   ·obtain rfl:=bN c7;rw[if_neg nF] at H
    obtain⟨ji8,hji8⟩:∃ j_:Int,(wrap64 ((wrap64 ((l0.length:Int)+(l1.length:Int)))+1))=j_:=⟨_,rfl⟩;replace H:(if 0≤(ji8) then(if(ji8:Int).toNat≤35184372088832 then(Dzw.l0 kj2 l0 l1 (List.replicate (ji8:Int).toNat 0) (l0.length:Int) 0) else(none)) else(none))=some (r1,r2):=by first|(rw[hji8] at H;exact H)|(simp only[hji8] at H ⊢;exact H)
    have hji8w:(IntKind.i64.wrap ((wrap64 ((l0.length:Int)+(l1.length:Int)))+1))=ji8:=(i64_w _).trans hji8;by_cases c9:0≤(ji8)
    ·rw[if_pos c9] at H;have c9b0:=eq_true c9;have c9b1:=dE c9;clear c9;obtain⟨c10,H⟩:=iO H;have c10b0:=eq_true c10;have c10b1:decide ((ji8:Int).toNat≤35184372088832)=true:=dE c10;clear c10;obtain⟨y396,hy396⟩:∃ y_:List Int,y_=(List.replicate (ji8:Int).toNat 0):=⟨_,rfl⟩;replace H:(Dzw.l0 kj2 l0 l1 y396 (l0.length:Int) 0)=some (r1,r2):=yE hy396 H
     have Ny396:=aM hy396;clear hy396;have H':=aM H;clear H;have fl_:True:=trivial;repeat((first|clear fl_|go_quiet (first|((with_reducible refine gate_dst (N:=25) rfl ?_);refine Kd.R_make (Kd.int .i64) _ 3 rfl (N:=25) rfl 34 _ _ rfl ji8 rfl rfl Try.underlying34 (.int .i64 0) 8 info3 rfl (by decide) (by omega) 0 (ok:=fun _=>True) (okp:=fun _=>True) rfl (fun _ hk=>hk) trivial (oE aS) (Nat.le_trans (Nat.mul_le_mul_right _ (oE aS:ji8.toNat≤35184372088832)) (by omega)) (Below.refl _ _) (Nat.le_refl _) ?_;intro v397 w11 ho12 hb hg_ hnew_;clear hg_ hnew_;replace ho12:=rY Ny396 ho12;have HO398:=rL ho12;replace HB:=bB hb;clear hb ho12)));go_wp2_with (first|((with_reducible refine gate_dst (N:=25) rfl ?_);refine Kd.R_make (Kd.int .i64) _ 3 rfl (N:=25) rfl 34 _ _ rfl ji8 rfl rfl Try.underlying34 (.int .i64 0) 8 info3 rfl (by decide) (by omega) 0 (ok:=fun _=>True) (okp:=fun _=>True) rfl (fun _ hk=>hk) trivial (oE aS) (Nat.le_trans (Nat.mul_le_mul_right _ (oE aS:ji8.toNat≤35184372088832)) (by omega)) (Below.refl _ _) (Nat.le_refl _) ?_;intro v397 w11 ho12 hb hg_ hnew_;clear hg_ hnew_;replace ho12:=rY Ny396 ho12;have HO398:=rL ho12;replace HB:=bB hb;clear hb ho12)))
     go_loopg [28] kj2 (fun kq v28 w'=>∃ (x6_2:List Int) (x28_2:Int),v28=.int .i64 x28_2∧Aside0 (Dzw.l0 kq l0 l1 x6_2 (l0.length:Int) x28_2=some (r1,r2))∧Aside0 (kq≤kj2)∧Aside0 (Kd.R (Kd.int .i64) 3 w' w.heap.size (fun _=>True) v397 x6_2)∧Aside0 (Below w.heap.size w w'))
     case atStart=>exact⟨(y396),(0),sD,H',⟨Nat.le_refl _⟩,⟨rX HO398.out⟩,⟨pB⟩⟩
     case round =>
      clear H';try clear c1
      try clear p2
      try clear c5
      try clear p6
      try clear c7
      try clear c8
      try clear c9
      try clear c9b0
      try clear c9b1
      try clear c10
      try clear c10b0
      try clear c10b1
      try clear p2
      obtain⟨x6_2,x28_2,rfl,HA,HK2,HO_6,HB⟩:=hrel;cases gk with
      | zero=>exact absurd HA.out (by simp [Dzw.l0])
      | succ k2 =>
       have H:=HA.out;clear HA;simp only[Dzw.l0] at H;by_cases c13:x28_2 < (l0.length:Int)
       ·rw[if_pos c13] at H;have c13b0:=dE c13;clear c13;have H':=aM H;clear H;go_wp2
        repeat(go_quiet (fail);try go_wp2)
        go_loopg [8,33] k2 (fun kq v8 v33 w'=>∃ (x6_3:List Int) (x8_3:Int) (x33_3:Int),v8=.int .i64 x8_3∧v33=.int .i64 x33_3∧Aside0 (Dzw.l1 kq l0 l1 x6_3 x28_2 x8_3 (l0.length:Int) x28_2 (l1.length:Int) x33_3=some (r1,r2))∧Aside0 (kq≤k2)∧Aside0 (Kd.R (Kd.int .i64) 3 w' w.heap.size (fun _=>True) v397 x6_3)∧Aside0 (Below w.heap.size w w'))
        case atStart=>exact⟨(x6_2),(0),(0),sD,sD,H',⟨Nat.le_refl _⟩,⟨rX HO_6.out⟩,⟨pB⟩⟩
        case round =>
         clear H';try clear c1
         try clear p2
         try clear c5
         try clear p6
         try clear c7
         try clear c8
         try clear c9
         try clear c9b0
         try clear c9b1
         try clear c10
         try clear c10b0
         try clear c10b1
         try clear c13
         try clear c13b0
         try clear p2
         try clear p6
         obtain⟨x6_3,x8_3,x33_3,rfl,rfl,HA,HK3,HO_6,HB⟩:=hrel;cases gk with
         | zero=>exact absurd HA.out (by simp [Dzw.l1])
         | succ k3 =>
          have H:=HA.out;clear HA;simp only[Dzw.l1] at H;by_cases c14:x33_3 < (l1.length:Int)
          ·rw[if_pos c14] at H;have c14b0:=dE c14;clear c14;obtain⟨ji15,hji15⟩:∃ j_:Int,(wrap64 (x28_2+x33_3))=j_:=⟨_,rfl⟩;replace H:(if 0≤(ji15) then(if(ji15) < (x6_3.length:Int) then(if 0≤x28_2 then(if x28_2 < (l0.length:Int) then(if 0≤x33_3 then(if x33_3 < (l1.length:Int) then(Dzw.l1 k3 l0 l1 (x6_3.set ((ji15):Int).toNat (Int.tmod (wrap64 ((wrap64 ((rd x6_3 (ji15))+(wrap64 ((rd l0 x28_2) * (rd l1 x33_3)))))+x8_3)) 1000000000)) x28_2 (wrap64 (Int.tdiv (wrap64 ((wrap64 ((rd x6_3 (ji15))+(wrap64 ((rd l0 x28_2) * (rd l1 x33_3)))))+x8_3)) 1000000000)) (l0.length:Int) x28_2 (l1.length:Int) (wrap64 (x33_3+1))) else(none)) else(none)) else(none)) else(none)) else(none)) else(none))=some (r1,r2):=by first|(rw[hji15] at H;exact H)|(simp only[hji15] at H ⊢;exact H)
           have hji15w:(IntKind.i64.wrap (x28_2+x33_3))=ji15:=(i64_w _).trans hji15;obtain⟨c16b0,H⟩:=iN H;obtain⟨c17b0,H⟩:=iN H;obtain⟨c18b0,H⟩:=iN H;obtain⟨c19b0,H⟩:=iN H;obtain⟨c20b0,H⟩:=iN H;obtain⟨c21b0,H⟩:=iN H;obtain⟨y406,hy406⟩:∃ y_:List Int,y_=(x6_3.set ((ji15):Int).toNat (Int.tmod (wrap64 ((wrap64 ((rd x6_3 (ji15))+(wrap64 ((rd l0 x28_2) * (rd l1 x33_3)))))+x8_3)) 1000000000)):=⟨_,rfl⟩;replace H:(Dzw.l1 k3 l0 l1 y406 x28_2 (wrap64 (Int.tdiv (wrap64 ((wrap64 ((rd x6_3 (ji15))+(wrap64 ((rd l0 x28_2) * (rd l1 x33_3)))))+x8_3)) 1000000000)) (l0.length:Int) x28_2 (l1.length:Int) (wrap64 (x33_3+1)))=some (r1,r2):=yE hy406 H
           have Ny406:=aM hy406;clear hy406;have H':=aM H;clear H;obtain⟨Ao23,co23,rfl⟩:=Kd.R_slice HO_6.out;obtain⟨ad403,e403,hx403_0,p403,q403⟩:=aI (Kd.R_reads' HO_6.out).2.2 (ji15);cases e403;obtain⟨ad404,e404,hx404_0,p404,q404⟩:=aI HR0.out x28_2;cases e404
           replace hx404_0:=hB HB hx404_0;obtain⟨ad405,e405,hx405_0,p405,q405⟩:=aI HR1.out x33_3;cases e405
           replace hx405_0:=hB HB hx405_0;have p22:0≤((ji15):Int):=oE aS
           have q22:((ji15):Int) < ((x6_3.length:Int):Int):=oE aS
           obtain⟨go22,co22,eo22,gb22,gl22,cl22,HG22⟩:=Kd.R_form HO_6.out (by omega)
           (first|cases eo22|(injection eo22 with ea_ en_ ec_;(first|subst ea_|(injection ea_ with ea_;subst ea_));subst ec_;clear en_))
           have GB22:=aM gb22;have GG22:=aM HG22;clear gb22 gl22 HG22;(first|simp only[add_plain] at hx403_0|skip)
           obtain⟨hx22_0,hf22_0⟩:=Kd.R_celln 0 HO_6.out ((ji15):Int) p22 q22;replace p22:=eq_true p22;replace q22:=eq_true q22;have HP24:=Kd.R_putg HO_6.out ((ji15):Int) (Int.tmod (wrap64 ((wrap64 ((rd x6_3 (ji15))+(wrap64 ((rd l0 x28_2) * (rd l1 x33_3)))))+x8_3)) 1000000000);have fl_:True:=trivial;repeat((first|clear fl_|go_quiet (first|((with_reducible refine gate_store (t:=3) (p:=62) rfl ?_);(try(rw[drewN_self wr];generalize hq_:World.drewN wr _=wr;have n0_:=aM (Kd.R_at hq_ HO_6.out);have n1_:=aM (below_at hq_ HB.out);clear hq_ HO_6 HB;have HO_6:=n0_;have HB:=n1_;clear n0_ n1_;(try(obtain⟨hx22_0,hf22_0⟩:=Kd.R_celln 0 HO_6.out ((ji15):Int) (of_eq_true p22) (of_eq_true q22)));(try(have HP24:=Kd.R_putg HO_6.out ((ji15):Int) (Int.tmod (wrap64 ((wrap64 ((rd x6_3 (ji15))+(wrap64 ((rd l0 x28_2) * (rd l1 x33_3)))))+x8_3)) 1000000000)))));refine store_event (t:=3) (p:=62) (v:=?vo_w25) (w1:=(wr.setCell ⟨go22,((ji15):Int).toNat,none⟩ (.int .i64 (Int.tmod (wrap64 ((wrap64 ((rd x6_3 (ji15))+(wrap64 ((rd l0 x28_2) * (rd l1 x33_3)))))+x8_3)) 1000000000)))) ?hg ?ho ?hn ?hr ?_;(case ho=>rfl);(case hg=>rfl);(case hn=>rfl);(case hr=>first|(go_simp;done)|(go_simp;rfl));intro w25 hw;have hg:wr.grownBy w25 (some go22):=(by rw[hw];exact HP24.2);have hp_:Kd.R (Kd.int .i64) 3 w25 w.heap.size (fun _=>True) (.slice (some ⟨go22,0,none⟩) x6_3.length co23) y406:=(by rw[hw,Ny406.out];exact HP24.1);clear HP24;replace HO_6:=aM (hp_);replace HB:=aM ((by rw[hw];exact below_set (HB.out) GB22.out:Below w.heap.size w w25));clear hg hw hp_)));go_wp2_with (first|((with_reducible refine gate_store (t:=3) (p:=62) rfl ?_);(try(rw[drewN_self wr];generalize hq_:World.drewN wr _=wr;have n0_:=aM (Kd.R_at hq_ HO_6.out);have n1_:=aM (below_at hq_ HB.out);clear hq_ HO_6 HB;have HO_6:=n0_;have HB:=n1_;clear n0_ n1_;(try(obtain⟨hx22_0,hf22_0⟩:=Kd.R_celln 0 HO_6.out ((ji15):Int) (of_eq_true p22) (of_eq_true q22)));(try(have HP24:=Kd.R_putg HO_6.out ((ji15):Int) (Int.tmod (wrap64 ((wrap64 ((rd x6_3 (ji15))+(wrap64 ((rd l0 x28_2) * (rd l1 x33_3)))))+x8_3)) 1000000000)))));refine store_event (t:=3) (p:=62) (v:=?vo_w25) (w1:=(wr.setCell ⟨go22,((ji15):Int).toNat,none⟩ (.int .i64 (Int.tmod (wrap64 ((wrap64 ((rd x6_3 (ji15))+(wrap64 ((rd l0 x28_2) * (rd l1 x33_3)))))+x8_3)) 1000000000)))) ?hg ?ho ?hn ?hr ?_;(case ho=>rfl);(case hg=>rfl);(case hn=>rfl);(case hr=>first|(go_simp;done)|(go_simp;rfl));intro w25 hw;have hg:wr.grownBy w25 (some go22):=(by rw[hw];exact HP24.2);have hp_:Kd.R (Kd.int .i64) 3 w25 w.heap.size (fun _=>True) (.slice (some ⟨go22,0,none⟩) x6_3.length co23) y406:=(by rw[hw,Ny406.out];exact HP24.1);clear HP24;replace HO_6:=aM (hp_);replace HB:=aM ((by rw[hw];exact below_set (HB.out) GB22.out:Below w.heap.size w w25));clear hg hw hp_)))
           go_roundg k3
           case measure=>have:=HJ2.out;have:=HK2.out;have:=HK3.out;omega
           case rel=>exact⟨(y406),(wrap64 (Int.tdiv (wrap64 ((wrap64 ((rd x6_3 (ji15))+(wrap64 ((rd l0 x28_2) * (rd l1 x33_3)))))+x8_3)) 1000000000)),(wrap64 (x33_3+1)),(by first|rfl|(simp;done)|(simp only[← hji15] <;> (first|rfl|simp))|(simp [*];done)),sD,H',⟨by have:=HJ2.out;have:=HK2.out;have:=HK3.out;omega⟩,⟨rX HO_6.out⟩,⟨pB⟩⟩
          ·rw[if_neg c14] at H;have c14b0:decide (x33_3 < (l1.length:Int))=false:=decide_eq_false c14;clear c14;obtain⟨ji26,hji26⟩:∃ j_:Int,(wrap64 (x28_2+(l1.length:Int)))=j_:=⟨_,rfl⟩;replace H:(if 0≤(ji26) then(if(ji26) < (x6_3.length:Int) then(Dzw.l0 k3 l0 l1 (x6_3.set ((ji26):Int).toNat x8_3) (l0.length:Int) (wrap64 (x28_2+1))) else(none)) else(none))=some (r1,r2):=by first|(rw[hji26] at H;exact H)|(simp only[hji26] at H ⊢;exact H)
           have hji26w:(IntKind.i64.wrap (x28_2+(l1.length:Int)))=ji26:=(i64_w _).trans hji26;obtain⟨c27b0,H⟩:=iN H;obtain⟨c28b0,H⟩:=iN H;obtain⟨y407,hy407⟩:∃ y_:List Int,y_=(x6_3.set ((ji26):Int).toNat x8_3):=⟨_,rfl⟩;replace H:(Dzw.l0 k3 l0 l1 y407 (l0.length:Int) (wrap64 (x28_2+1)))=some (r1,r2):=yE hy407 H
           have Ny407:=aM hy407;clear hy407;have H':=aM H;clear H;have p29:0≤((ji26):Int):=oE aS
           have q29:((ji26):Int) < ((x6_3.length:Int):Int):=oE aS
           obtain⟨go29,co29,eo29,gb29,gl29,cl29,HG29⟩:=Kd.R_form HO_6.out (by omega)
           (first|cases eo29|(injection eo29 with ea_ en_ ec_;(first|subst ea_|(injection ea_ with ea_;subst ea_));subst ec_;clear en_))
           have GB29:=aM gb29;have GG29:=aM HG29;clear gb29 gl29 HG29;obtain⟨hx29_0,hf29_0⟩:=Kd.R_celln 0 HO_6.out ((ji26):Int) p29 q29;replace p29:=eq_true p29;replace q29:=eq_true q29;have HP30:=Kd.R_putg HO_6.out ((ji26):Int) x8_3;have fl_:True:=trivial;repeat((first|clear fl_|go_quiet (first|((with_reducible refine gate_store (t:=3) (p:=70) rfl ?_);(try(rw[drewN_self wr];generalize hq_:World.drewN wr _=wr;have n0_:=aM (Kd.R_at hq_ HO_6.out);have n1_:=aM (below_at hq_ HB.out);clear hq_ HO_6 HB;have HO_6:=n0_;have HB:=n1_;clear n0_ n1_;(try(obtain⟨hx29_0,hf29_0⟩:=Kd.R_celln 0 HO_6.out ((ji26):Int) (of_eq_true p29) (of_eq_true q29)));(try(have HP30:=Kd.R_putg HO_6.out ((ji26):Int) x8_3))));refine store_event (t:=3) (p:=70) (v:=?vo_w31) (w1:=(wr.setCell ⟨go29,((ji26):Int).toNat,none⟩ (.int .i64 x8_3))) ?hg ?ho ?hn ?hr ?_;(case ho=>rfl);(case hg=>rfl);(case hn=>rfl);(case hr=>first|(go_simp;done)|(go_simp;rfl));intro w31 hw;have hg:wr.grownBy w31 (some go29):=(by rw[hw];exact HP30.2);have hp_:Kd.R (Kd.int .i64) 3 w31 w.heap.size (fun _=>True) (.slice (some ⟨go29,0,none⟩) x6_3.length co29) y407:=(by rw[hw,Ny407.out];exact HP30.1);clear HP30;replace HO_6:=aM (hp_);replace HB:=aM ((by rw[hw];exact below_set (HB.out) GB29.out:Below w.heap.size w w31));clear hg hw hp_)));go_wp2_with (first|((with_reducible refine gate_store (t:=3) (p:=70) rfl ?_);(try(rw[drewN_self wr];generalize hq_:World.drewN wr _=wr;have n0_:=aM (Kd.R_at hq_ HO_6.out);have n1_:=aM (below_at hq_ HB.out);clear hq_ HO_6 HB;have HO_6:=n0_;have HB:=n1_;clear n0_ n1_;(try(obtain⟨hx29_0,hf29_0⟩:=Kd.R_celln 0 HO_6.out ((ji26):Int) (of_eq_true p29) (of_eq_true q29)));(try(have HP30:=Kd.R_putg HO_6.out ((ji26):Int) x8_3))));refine store_event (t:=3) (p:=70) (v:=?vo_w31) (w1:=(wr.setCell ⟨go29,((ji26):Int).toNat,none⟩ (.int .i64 x8_3))) ?hg ?ho ?hn ?hr ?_;(case ho=>rfl);(case hg=>rfl);(case hn=>rfl);(case hr=>first|(go_simp;done)|(go_simp;rfl));intro w31 hw;have hg:wr.grownBy w31 (some go29):=(by rw[hw];exact HP30.2);have hp_:Kd.R (Kd.int .i64) 3 w31 w.heap.size (fun _=>True) (.slice (some ⟨go29,0,none⟩) x6_3.length co29) y407:=(by rw[hw,Ny407.out];exact HP30.1);clear HP30;replace HO_6:=aM (hp_);replace HB:=aM ((by rw[hw];exact below_set (HB.out) GB29.out:Below w.heap.size w w31));clear hg hw hp_)))
           go_roundg k3
           case measure=>have:=HJ2.out;have:=HK2.out;have:=HK3.out;omega
           case rel=>exact⟨(y407),(wrap64 (x28_2+1)),sD,H',⟨by have:=HJ2.out;have:=HK2.out;have:=HK3.out;omega⟩,⟨rX HO_6.out⟩,⟨pB⟩⟩
       ·rw[if_neg c13] at H;have c13b0:decide (x28_2 < (l0.length:Int))=false:=decide_eq_false c13;clear c13;replace H:=bS H;obtain⟨⟨t399,t402⟩,A320,H⟩:=H;replace H:(some (t399,t402))=some (r1,r2):=H;have A32:=aM A320;clear A320;obtain⟨rfl,rfl⟩:=q2 H;obtain⟨Ao33,co33,rfl⟩:=Kd.R_slice HO_6.out;have fl_:True:=trivial;repeat((first|clear fl_|go_quiet (first|(go_at_call 95;(with_reducible refine(Fzm.calls k2 (fun k_=>some k_=(.slice Ao33 x6_2.length co33:Value).ownBlock) (.slice Ao33 x6_2.length co33) x6_2 t399 t402 w _ ?side1 ?side2 A32.out).mono ?_);(case side1=>exact pB);(case side2=>exact Kd.R_tight rfl HO_6.out);rintro e w34 ⟨v400,rfl,ho0,hb,hkp⟩;have HO401:=aM (Kd.R_mono (ok':=fun k_=>True) ho0 (fun k_ hk_=>trivial));replace HB:=aM (hb);clear HO_6;clear hb hkp ho0)));go_wp2_with (first|(go_at_call 95;(with_reducible refine(Fzm.calls k2 (fun k_=>some k_=(.slice Ao33 x6_2.length co33:Value).ownBlock) (.slice Ao33 x6_2.length co33) x6_2 t399 t402 w _ ?side1 ?side2 A32.out).mono ?_);(case side1=>exact pB);(case side2=>exact Kd.R_tight rfl HO_6.out);rintro e w34 ⟨v400,rfl,ho0,hb,hkp⟩;have HO401:=aM (Kd.R_mono (ok':=fun k_=>True) ho0 (fun k_ hk_=>trivial));replace HB:=aM (hb);clear HO_6;clear hb hkp ho0)))
        go_ret2
        exact⟨_,by first|rfl|(simp [errW_none,errW_some] <;> rfl)|(simp only[← hji8];first|rfl|(simp [errW_none,errW_some] <;> rfl))|(simp [*,errW_none,errW_some] <;> rfl),rX HO401.out,pB⟩
    ·rw[if_neg c9] at H;exact absurd H (by simp)

end Go.Proofs.Ytnklckihalhlmaa.Print
