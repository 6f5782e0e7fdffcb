import Derived.Test.YtnklckihalhlmaaPrint0
import Derived.Test.YtnklckihalhlmaaPrint32
import Derived.Test.YtnklckihalhlmaaPrint37
namespace Go.Proofs.Ytnklckihalhlmaa.Print
open Go.RowKit Go.Proofs.YtnklckihalhlmaaW.PrintWords Go.Proofs.YtnklckihalhlmaaW.PrintLast Go.Proofs.YtnklckihalhlmaaW.PrintMore
attribute [local go_sem] max2_int min2_int max_two min_two max_three min_three max_four min_four
set_option linter.unusedVariables false
set_option maxRecDepth 100000
set_option maxHeartbeats 8000000
set_option linter.unusedSimpArgs false

mutual
def Bzz.j0:Nat→List Int→List Int→Bool→Option (List Int × Int)
 | 0,_,_,_=>none
 | k+1,x0,x1,x16=>if x16=true then(some (([]:List Int),3)) else((some (([]:List Int):List Int)).bind fun y536=>(if y536.length+x0.length < 17592186044416 then(Bzz.l0 k (y536 ++ x0) x1) else(none)))
def Bzz.l0:Nat→List Int→List Int→Option (List Int × Int)
 | 0,_,_=>none
 | k+1,x0,x1=>if(x1.length:Int) > 0 then((Azy.f k x0 x1).bind fun bt542=>((some (([]:List Int):List Int)).bind fun y549=>(if y549.length+x1.length < 17592186044416 then(Bzz.l0 k (y549 ++ x1) bt542.2.1) else(none)))) else(some (x0,0))
end
def Bzz.f (k:Nat) (l0:List Int) (l1:List Int):Option (List Int × Int):=(Azw.f k l0).bind fun t534=>(if t534=true then((Azw.f k l1).bind fun t535=>(Bzz.j0 k l0 l1 (!t535))) else(Bzz.j0 k l0 l1 true))
theorem Bzz.mono_l:∀ k,(∀ y0 y1 y2,LeO (Bzz.j0 k y0 y1 y2) (Bzz.j0 (k+1) y0 y1 y2))∧(∀ y0 y1,LeO (Bzz.l0 k y0 y1) (Bzz.l0 (k+1) y0 y1))
 | 0=>⟨fun _ _ _ r h=>by simp [Bzz.j0] at h,fun _ _ r h=>by simp [Bzz.l0] at h⟩
 | k+1=>by
  obtain⟨ih0,ih1⟩:=Bzz.mono_l k;have i0:=@Azy.mono;have i1:=@Azw.mono;refine⟨?_,?_⟩
  ·intro y0 y1 y2;unfold Bzz.j0;exact mM
  ·intro y0 y1;unfold Bzz.l0;exact mM
theorem Bzz.mono:∀ a0 a1 k,LeO (Bzz.f k a0 a1) (Bzz.f (k+1) a0 a1):=by
 intro a0 a1 k;obtain⟨ih0,ih1⟩:=Bzz.mono_l k;unfold Bzz.f;have i0:=@Azy.mono;have i1:=@Azw.mono;exact mM
theorem Bzz.calls (k:Nat) (A0:Option Addr) (c0:Nat) (l0:List Int) (P1_:Nat→Prop) (A1:Option Addr) (c1:Nat) (l1:List Int) (r1:List Int) (r2:Int) (w:World) (hr0:Kd.C (Kd.int .i64) w A0 l0.length l0) (hc0:l0.length≤c0) (hs1:Kd.V (Kd.int .i64) 3 w w.heap.size (fun k_=>P1_ k_) (.slice A1 l1.length c1) l1) (h:Bzz.f k l0 l1=some (r1,r2)) :
  Calls Try.prog 43 #[.slice A0 l0.length c0,.slice A1 l1.length c1] w fun e w'=>∃ v0_:Value,e=.returned (.tuple #[v0_,.int .i64 r2])∧Kd.R (Kd.int .i64) 3 w' w.heap.size (fun k_=>(w.heap.size≤k_)) v0_ r1∧Below w.heap.size w w':=by
 have HR0:=aM hr0;have HC0:=aM hc0;clear hr0 hc0;have HO1:=aM (show Kd.V (Kd.int .i64) 3 w w.heap.size (fun k_=>(P1_ k_∨w.heap.size≤k_)) (.slice A1 l1.length c1) l1 from Kd.V_mono hs1 (fun k_ hk=>.inl hk))
 have HB:=aM (Below.refl w.heap.size w);have H:((Azw.f k l0).bind fun t534=>(if t534=true then((Azw.f k l1).bind fun t535=>(Bzz.j0 k l0 l1 (!t535))) else(Bzz.j0 k l0 l1 true)))=some (r1,r2):=h
 clear h;have HC3:=aM H;clear H;go_enter Try.func43,Try.ntmps43
 go_upto_region 1 with (fail)
 go_cut [16] (fun v16 wc=>∃ (kq:Nat) (x16_2:Bool),v16=.bool x16_2∧Aside0 (Bzz.j0 kq l0 l1 x16_2=some (r1,r2))∧Aside0 (kq≤k)∧Aside0 (Kd.V (Kd.int .i64) 3 wc w.heap.size (fun k_=>(P1_ k_∨w.heap.size≤k_)) (.slice A1 l1.length c1) l1)∧Aside0 (Below w.heap.size w wc))
 case first =>
  have H:=HC3.out;clear HC3;obtain⟨t534,A4,H⟩:=bT H;(try dsimp only at H);by_cases c5:t534=true
  ·subst c5;rw[if_pos rfl] at H;obtain⟨t535,A6,H⟩:=bT H;(try dsimp only at H);have H':=aM H;clear H;go_wp2_with (first|((with_reducible refine gc 42 rfl ?_);refine gC 42 (some 10) Try.func42 #[.slice A0 l0.length c0] ?_;(with_reducible refine(Azw.calls k _ _ l0 true _ ?side1 ?side2 A4.out).mono ?_);(case side1=>exact cB HR0);(case side2=>exact HC0.out);rintro e w' ⟨rfl,⟨nd,rfl⟩⟩;refine⟨_,rfl,?_⟩)|(go_at_call 42;(with_reducible refine(Azw.calls k _ _ l1 t535 _ ?side1 ?side2 A6.out).mono ?_);(case side1=>exact cV HO1);(case side2=>exact lV HO1);rintro e w' ⟨rfl,⟨nd,rfl⟩⟩))
   go_meet
   case rel=>exact⟨_,(!t535),sD,H',⟨by first|omega|exact Nat.le_refl _⟩,⟨vX HO1.out⟩,⟨pB⟩⟩
  ·obtain rfl:=bN c5;rw[if_neg nF] at H
   have H':=aM H;clear H;go_wp2_with (first|((with_reducible refine gc 42 rfl ?_);refine gC 42 (some 10) Try.func42 #[.slice A0 l0.length c0] ?_;(with_reducible refine(Azw.calls k _ _ l0 false _ ?side1 ?side2 A4.out).mono ?_);(case side1=>exact cB HR0);(case side2=>exact HC0.out);rintro e w' ⟨rfl,⟨nd,rfl⟩⟩;refine⟨_,rfl,?_⟩))
   go_meet
   case rel=>exact⟨_,(true),sD,H',⟨by first|omega|exact Nat.le_refl _⟩,⟨vX HO1.out⟩,⟨pB⟩⟩
 case rest =>
  clear HC3;try clear c1
  try clear p2
  try clear c4
  try clear c5
  obtain⟨kq,x16_2,rfl,HA,HJ2,HO_1,HB⟩:=hcut;cases kq with
  | zero=>exact absurd HA.out (by simp [Bzz.j0])
  | succ kj2 =>
   have H:=HA.out;clear HA;simp only[Bzz.j0] at H;by_cases c7:x16_2=true
   ·subst c7;rw[if_pos rfl] at H;obtain⟨rfl,rfl⟩:=q2 H;go_wp2
    go_ret2
    exact⟨_,eW,nK,pB⟩
   ·obtain rfl:=bN c7;rw[if_neg nF] at H
    obtain⟨y536,hy536⟩:∃ y_:List Int,y_=(([]:List Int)):=⟨_,rfl⟩;replace H:(if y536.length+l0.length < 17592186044416 then(Bzz.l0 kj2 (y536 ++ l0) l1) else(none))=some (r1,r2):=yE hy536 H
    have Ny536:=aM hy536;clear hy536;by_cases c8:y536.length+l0.length < 17592186044416
    ·rw[if_pos c8] at H;have LMc8:=aM c8;clear c8;obtain⟨y539,hy539⟩:∃ y_:List Int,y_=(y536 ++ l0):=⟨_,rfl⟩;replace H:(Bzz.l0 kj2 y539 l1)=some (r1,r2):=yE hy539 H
     have Ny539:=aM hy539;clear hy539;have H':=aM H;clear H;go_wp2_with (first|((with_reducible refine gd 17 rfl ?_);refine iL 17 [] ?_;intro v537 w9 ho10 hb;replace ho10:=rY Ny536 ho10;have HO538:=rL (Kd.R_newM (M:=fun k_=>(w.heap.size≤k_)) ho10 (below_size pB) (fun k_ h_=>h_));replace HO_1:=vE HO_1 ho10 hb;replace HB:=bB hb;clear hb ho10)|((with_reducible refine gate_builtin (b:=.append) (xs:=#[.tmp 17,.tmp 18]) rfl ?_);at_builtin;refine Kd.R_append_rows (Kd.int .i64) (w0:=w) w.heap.size rfl (.tmp 17) (.tmp 18) 37 3 (.int .i64 0) 8 rfl Try.underlying37 info3 rfl (by decide) (by omega) v537 y536 l0 _ _ _ (fun k_=>(w.heap.size≤k_)) (fun _=>False) rfl rfl ?aO ?aR (fun _ _ h=>h) (fun _ h=>h.elim) ?aF ?aB ?aS ?aL ?_;(case aR=>exact cB HR0);(case aB=>exact pB);(case aF=>exact(fun k_ hk=>(Nat.le_trans (below_size pB) hk)));(case aO=>exact(rX (Kd.R_mono HO538.out (fun _ hk=>hk.1))));(case aS=>exact(below_size pB));(case aL=>have:=LMc8.out;omega);intro v540 w11 ho hb hg hat;rw[← Ny539.out] at ho;have HO541:=aM (ho);replace HO_1:=aM (Kd.V_afterv (ok:=(fun k_=>(P1_ k_∨w.heap.size≤k_))) (vX HO_1.out) hg hat);replace HB:=aM (hb);clear HO538;clear ho hb hg hat))
     go_loopg [0,1] kj2 (fun kq v0 v1 w'=>∃ (x0_2:List Int) (x1_2:List Int),Aside0 (Bzz.l0 kq x0_2 x1_2=some (r1,r2))∧Aside0 (kq≤kj2)∧Aside0 (Kd.R (Kd.int .i64) 3 w' w.heap.size (fun k_=>(w.heap.size≤k_)) v0 x0_2)∧Aside0 (Kd.V (Kd.int .i64) 3 w' w.heap.size (fun k_=>(P1_ k_∨w.heap.size≤k_)∧some k_≠(v0:Value).ownBlock) v1 x1_2)∧Aside0 (Below w.heap.size w w'))
     case atStart=>exact⟨(y539),(l1),H',⟨Nat.le_refl _⟩,⟨rX HO541.out⟩,⟨vX HO_1.out⟩,⟨pB⟩⟩
     case round =>
      clear H';try clear c1
      try clear p2
      try clear c4
      try clear c5
      try clear c7
      try clear c8
      try clear p2
      obtain⟨x0_2,x1_2,HA,HK2,HO_0,HO_1,HB⟩:=hrel;cases gk with
      | zero=>exact absurd HA.out (by simp [Bzz.l0])
      | succ k2 =>
       have H:=HA.out;clear HA;simp only[Bzz.l0] at H;by_cases c12:(x1_2.length:Int) > 0
       ·rw[if_pos c12] at H;have c12b0:decide (0 < (x1_2.length:Int))=true:=dE c12;have c12b1:decide (0 < x1_2.length)=true:=dE (by omega)
        clear c12;obtain⟨⟨t542,t543,t544⟩,A13,H⟩:=bT H;(try dsimp only at H);obtain⟨y549,hy549⟩:∃ y_:List Int,y_=(([]:List Int)):=⟨_,rfl⟩;replace H:(if y549.length+x1_2.length < 17592186044416 then(Bzz.l0 k2 (y549 ++ x1_2) t543) else(none))=some (r1,r2):=yE hy549 H
        have Ny549:=aM hy549;clear hy549;obtain⟨c14,H⟩:=iO H;have LMc14:=aM c14;clear c14;obtain⟨y552,hy552⟩:∃ y_:List Int,y_=(y549 ++ x1_2):=⟨_,rfl⟩;replace H:(Bzz.l0 k2 y552 t543)=some (r1,r2):=yE hy552 H
        have Ny552:=aM hy552;clear hy552;have H':=aM H;clear H;obtain⟨Ao15,co15,eo15⟩:=Kd.V_slice HO_1.out;subst eo15;obtain⟨Ao16,co16,rfl⟩:=Kd.R_slice HO_0.out;go_wp2_with (first|((with_reducible refine gc 64 rfl ?_);refine gC 64 (some 26) Try.func64 #[.slice Ao16 x0_2.length co16,.slice Ao15 x1_2.length co15] ?_;(with_reducible refine(Azy.calls k2 _ _ x0_2 _ _ x1_2 t542 t543 t544 _ ?side1 ?side2 ?side3 ?side4 A13.out).mono ?_);(case side1=>exact cR HO_0);(case side2=>exact lR HO_0);(case side3=>exact cV HO_1);(case side4=>exact lV HO_1);rintro e w17 ⟨v545,v547,rfl,ho0,ho1,hb⟩;refine⟨_,rfl,?_⟩;have HO546:=rL (rn (Kd.R_newM (M:=fun k_=>(w.heap.size≤k_)) ho0 (below_size pB) (fun k_ h_=>h_)) HO_0);have HO548:=rL (rn (Kd.R_newM (M:=fun k_=>(w.heap.size≤k_)) ho1 (below_size pB) (fun k_ h_=>h_)) HO_0);replace HO_0:=rO HO_0 hb ho0 ho1;replace HO_1:=vO HO_1 hb ho0 ho1;replace HB:=bB hb;clear hb ho0 ho1)|((with_reducible refine gd 30 rfl ?_);refine iL 30 [] ?_;intro v550 w18 ho19 hb;replace ho19:=rY Ny549 ho19;have HO551:=rL (rn (rn (rn (Kd.R_newM (M:=fun k_=>(w.heap.size≤k_)) ho19 (below_size pB) (fun k_ h_=>h_)) HO_0) HO546) HO548);replace HO_0:=rE HO_0 ho19 hb;replace HO_1:=vE HO_1 ho19 hb;replace HO546:=rE HO546 ho19 hb;replace HO548:=rE HO548 ho19 hb;replace HB:=bB hb;clear hb ho19)|((with_reducible refine gate_builtin (b:=.append) (xs:=#[.tmp 30,.tmp 31]) rfl ?_);at_builtin;refine Kd.R_append_rows (Kd.int .i64) (w0:=w) w.heap.size rfl (.tmp 30) (.tmp 31) 37 3 (.int .i64 0) 8 rfl Try.underlying37 info3 rfl (by decide) (by omega) v550 y549 x1_2 _ _ _ (fun k_=>(w.heap.size≤k_)∧some k_≠(.slice Ao16 x0_2.length co16:Value).ownBlock∧some k_≠(v545:Value).ownBlock∧some k_≠(v547:Value).ownBlock) (fun _=>False) rfl rfl ?aO ?aR (fun _ _ h=>h) (fun _ h=>h.elim) ?aF ?aB ?aS ?aL ?_;(case aR=>exact cV HO_1);(case aB=>exact pB);(case aF=>exact(fun k_ hk=>⟨(Nat.le_trans (below_size pB) hk),Kd.fresh' (Kd.R_lt (rX HO_0.out)) k_ hk,Kd.fresh' (Kd.R_lt (rX HO546.out)) k_ hk,Kd.fresh' (Kd.R_lt (rX HO548.out)) k_ hk⟩));(case aO=>exact(rX (Kd.R_mono HO551.out (fun _ hk=>⟨hk.1.1.1.1,⟨hk.1.1.2,⟨hk.1.2,hk.2⟩⟩⟩))));(case aS=>exact(below_size pB));(case aL=>have:=LMc14.out;omega);intro v553 w20 ho hb hg hat;rw[← Ny552.out] at ho;have HO554:=aM (ho);replace HO_0:=aM (Kd.R_after (ok:=(fun k_=>(w.heap.size≤k_)∧some k_≠(v545:Value).ownBlock∧some k_≠(v547:Value).ownBlock)) (rX (Kd.R_mono HO_0.out (fun _ hk=>⟨⟨hk.1.1.1,⟨hk.1.1.2,hk.1.2⟩⟩,hk.2⟩))) hg hat);replace HO_1:=aM (Kd.V_afterv (ok:=(fun k_=>(P1_ k_∨w.heap.size≤k_)∧some k_≠(.slice Ao16 x0_2.length co16:Value).ownBlock∧some k_≠(v545:Value).ownBlock∧some k_≠(v547:Value).ownBlock)) (by(with_reducible repeat(first|apply Kd.V_alloc|apply Kd.V_drewN|apply Kd.V_drew));exact Kd.V_mono HO_1.out (fun _ hk=>⟨⟨hk.1.1.1.1,⟨hk.1.1.1.2,⟨hk.1.1.2,hk.1.2⟩⟩⟩,hk.2⟩)) hg hat);replace HO546:=aM (Kd.R_after (ok:=(fun k_=>(w.heap.size≤k_)∧some k_≠(.slice Ao16 x0_2.length co16:Value).ownBlock∧some k_≠(v547:Value).ownBlock)) (rX (Kd.R_mono HO546.out (fun _ hk=>⟨⟨hk.1.1.1,⟨hk.1.2,hk.1.1.2⟩⟩,hk.2⟩))) hg hat);replace HO548:=aM (Kd.R_after (ok:=(fun k_=>(w.heap.size≤k_)∧some k_≠(.slice Ao16 x0_2.length co16:Value).ownBlock∧some k_≠(v545:Value).ownBlock)) (rX (Kd.R_mono HO548.out (fun _ hk=>⟨⟨hk.1.1.1,⟨hk.1.2,hk.1.1.2⟩⟩,hk.2⟩))) hg hat);replace HB:=aM (hb);clear HO551;clear ho hb hg hat))
        go_roundg k2
        case measure=>have:=HJ2.out;have:=HK2.out;omega
        case rel=>exact⟨(y552),(t543),H',⟨by have:=HJ2.out;have:=HK2.out;omega⟩,⟨by exact rX (Kd.R_mono HO554.out (fun _ hk=>hk.1))⟩,⟨Kd.V_mono (Kd.R_V (rX HO548.out)) (fun k_ hk=>by first|exact⟨(.inr hk.1.1),hk.2⟩|exact⟨(.inr (hk.1)),hk.2⟩|exact(.inr (hk)))⟩,⟨pB⟩⟩
       ·rw[if_neg c12] at H;have c12b0:decide (0 < (x1_2.length:Int))=false:=decide_eq_false c12;have c12b1:decide (0 < x1_2.length)=false:=decide_eq_false (by omega)
        clear c12;obtain⟨rfl,rfl⟩:=q2 H;obtain⟨Ao21,co21,eo21⟩:=Kd.V_slice HO_1.out;subst eo21;go_wp2
        go_ret2
        exact⟨_,eW,rX HO_0.out,pB⟩
    ·rw[if_neg c8] at H;exact absurd H (by simp)

def Dzp.f (k:Nat) (a0:Bool) (l1:List Int) (l2:List Int):Option (Bool × List Int × List Int):=(Bzz.f k l1 l2).bind fun bt556=>((Azy.f k l1 bt556.1).bind fun bt560=>((Azy.f k l2 bt556.1).bind fun bt567=>(if a0=true then(some (decide (0 < bt560.1.length),bt560.1,bt567.1)) else(some (false,bt560.1,bt567.1)))))
theorem Dzp.mono:∀ a0 a1 a2 k,LeO (Dzp.f k a0 a1 a2) (Dzp.f (k+1) a0 a1 a2):=by
 intro a0 a1 a2 k;unfold Dzp.f;have i0:=@Azy.mono;have i1:=@Bzz.mono;exact mM
theorem Dzp.calls (k:Nat) (a0:Bool) (A1:Option Addr) (c1:Nat) (l1:List Int) (A2:Option Addr) (c2:Nat) (l2:List Int) (r1:Bool) (r2:List Int) (r3:List Int) (w:World) (hr1:Kd.C (Kd.int .i64) w A1 l1.length l1) (hc1:l1.length≤c1) (hr2:Kd.C (Kd.int .i64) w A2 l2.length l2) (hc2:l2.length≤c2) (h:Dzp.f k a0 l1 l2=some (r1,r2,r3)) :
  Calls Try.prog 46 #[.bool a0,.slice A1 l1.length c1,.slice A2 l2.length c2] w fun e w'=>∃ v1_ v2_:Value,e=.returned (.agg #[.bool r1,v1_,v2_])∧Kd.R (Kd.int .i64) 3 w' w.heap.size (fun k_=>some k_≠(v2_:Value).ownBlock) v1_ r2∧Kd.R (Kd.int .i64) 3 w' w.heap.size (fun k_=>some k_≠(v1_:Value).ownBlock) v2_ r3∧Below w.heap.size w w':=by
 have hu39:=Try.underlying39;have HR1:=aM hr1;have HC1:=aM hc1;clear hr1 hc1;have HR2:=aM hr2;have HC2:=aM hc2;clear hr2 hc2;have HB:=aM (Below.refl w.heap.size w);have H:((Bzz.f k l1 l2).bind fun bt556=>((Azy.f k l1 bt556.1).bind fun bt560=>((Azy.f k l2 bt556.1).bind fun bt567=>(if a0=true then(some (decide (0 < bt560.1.length),bt560.1,bt567.1)) else(some (false,bt560.1,bt567.1))))))=some (r1,r2,r3):=h
 clear h;obtain⟨⟨t556,t559⟩,A4,H⟩:=bT H;(try dsimp only at H);obtain⟨⟨t560,t561,t562⟩,A5,H⟩:=bT H;(try dsimp only at H);obtain⟨⟨t567,t568,t569⟩,A6,H⟩:=bT H;(try dsimp only at H);by_cases c7:a0=true
 ·subst c7;rw[if_pos rfl] at H;obtain⟨rfl,rfl,rfl⟩:=q3 H;go_enter Try.func46,Try.ntmps46
  go_wp2_with (first|((with_reducible refine gd 6 rfl ?_);refine bxg #[.bool false,.slice none 0 0,.slice none 0 0] 39 ?_;intro gb555 hg w8 BK555 hb;have GW555:=gA w hg;have GE555:=gA w hg;replace HB:=bB hb;clear hb hg)|((with_reducible refine gc 43 rfl ?_);refine gC 43 (some 18) Try.func43 #[.slice A1 l1.length c1,.slice A2 l2.length c2] ?_;(with_reducible refine(Bzz.calls k _ _ l1 (fun k_=>k_ < w.heap.size) _ _ l2 t556 t559 _ ?side1 ?side2 ?side3 A4.out).mono ?_);(case side1=>exact cB HR1);(case side2=>exact HC1.out);(case side3=>exact Kd.V_mk HC2.out (Kd.F_below (Kd.C_F (Kd.heap_int .i64) HR2.out) pB));rintro e w9 ⟨v557,rfl,ho0,hb⟩;refine⟨_,rfl,?_⟩;have HO558:=rL (Kd.R_mono (ok':=fun k_=>True) ho0 (fun _ hk_=>trivial));replace BK555:=kb BK555 hb;replace HB:=bB hb;clear hb ho0;obtain⟨Ao10,co10,rfl⟩:=Kd.R_slice HO558.out)|((with_reducible refine gc 64 rfl ?_);refine gC 64 (some 24) Try.func64 #[.slice A1 l1.length c1,.slice Ao10 t556.length co10] ?_;(with_reducible refine(Azy.calls k _ _ l1 _ _ t556 t560 t561 t562 _ ?side1 ?side2 ?side3 ?side4 A5.out).mono ?_);(case side1=>exact cB HR1);(case side2=>exact HC1.out);(case side3=>exact cR HO558);(case side4=>exact lR HO558);rintro e w11 ⟨v563,v565,rfl,ho0,ho1,hb⟩;refine⟨_,rfl,?_⟩;have HO564:=rL (rn ho0 HO558);have HO566:=rL (rn ho1 HO558);replace HO558:=rO HO558 hb ho0 ho1;replace BK555:=kb BK555 hb;replace HB:=bB hb;clear hb ho0 ho1)|((with_reducible refine gc 64 rfl ?_);refine gC 64 (some 31) Try.func64 #[.slice A2 l2.length c2,.slice Ao10 t556.length co10] ?_;(with_reducible refine(Azy.calls k _ _ l2 _ _ t556 t567 t568 t569 _ ?side1 ?side2 ?side3 ?side4 A6.out).mono ?_);(case side1=>exact cB HR2);(case side2=>exact HC2.out);(case side3=>exact cR HO558);(case side4=>exact lR HO558);rintro e w12 ⟨v570,v572,rfl,ho0,ho1,hb⟩;refine⟨_,rfl,?_⟩;have HO571:=rL (rn (rn (rn ho0 HO558) HO564) HO566);have HO573:=rL (rn (rn (rn ho1 HO558) HO564) HO566);replace HO558:=rO HO558 hb ho0 ho1;replace HO564:=rO HO564 hb ho0 ho1;replace HO566:=rO HO566 hb ho0 ho1;replace BK555:=kb BK555 hb;replace HB:=bB hb;clear hb ho0 ho1;obtain⟨Ao13,co13,rfl⟩:=Kd.R_slice HO564.out;obtain⟨Ao14,co14,rfl⟩:=Kd.R_slice HO571.out;obtain⟨hcz15_0,hcz15_1,hcz15_2,hfz15_0,hfz15_1,hfz15_2⟩:=bk3 BK555))
  refine bodyPost_ret (results_cell_row rfl _ _ gb555 39 #[.bool (decide (0 < t560.length)),.slice Ao13 t560.length co13,.slice Ao14 t567.length co14] (0,0) _ rfl (kQ BK555) Try.underlying39 rfl (by kernel_rfl)) rfl ?_
  exact⟨_,_,eW,by exact Kd.R_mono (rT HO564 BK555) (fun _ hk=>hk.1.2),by exact Kd.R_mono (rT HO571 BK555) (fun _ hk=>hk.1.2),pB⟩
 ·obtain rfl:=bN c7;rw[if_neg nF] at H
  obtain⟨rfl,rfl,rfl⟩:=q3 H;go_enter Try.func46,Try.ntmps46
  go_wp2_with (first|((with_reducible refine gd 6 rfl ?_);refine bxg #[.bool false,.slice none 0 0,.slice none 0 0] 39 ?_;intro gb555 hg w16 BK555 hb;have GW555:=gA w hg;have GE555:=gA w hg;replace HB:=bB hb;clear hb hg)|((with_reducible refine gc 43 rfl ?_);refine gC 43 (some 18) Try.func43 #[.slice A1 l1.length c1,.slice A2 l2.length c2] ?_;(with_reducible refine(Bzz.calls k _ _ l1 (fun k_=>k_ < w.heap.size) _ _ l2 t556 t559 _ ?side1 ?side2 ?side3 A4.out).mono ?_);(case side1=>exact cB HR1);(case side2=>exact HC1.out);(case side3=>exact Kd.V_mk HC2.out (Kd.F_below (Kd.C_F (Kd.heap_int .i64) HR2.out) pB));rintro e w17 ⟨v557,rfl,ho0,hb⟩;refine⟨_,rfl,?_⟩;have HO558:=rL (Kd.R_mono (ok':=fun k_=>True) ho0 (fun _ hk_=>trivial));replace BK555:=kb BK555 hb;replace HB:=bB hb;clear hb ho0;obtain⟨Ao18,co18,rfl⟩:=Kd.R_slice HO558.out)|((with_reducible refine gc 64 rfl ?_);refine gC 64 (some 24) Try.func64 #[.slice A1 l1.length c1,.slice Ao18 t556.length co18] ?_;(with_reducible refine(Azy.calls k _ _ l1 _ _ t556 t560 t561 t562 _ ?side1 ?side2 ?side3 ?side4 A5.out).mono ?_);(case side1=>exact cB HR1);(case side2=>exact HC1.out);(case side3=>exact cR HO558);(case side4=>exact lR HO558);rintro e w19 ⟨v563,v565,rfl,ho0,ho1,hb⟩;refine⟨_,rfl,?_⟩;have HO564:=rL (rn ho0 HO558);have HO566:=rL (rn ho1 HO558);replace HO558:=rO HO558 hb ho0 ho1;replace BK555:=kb BK555 hb;replace HB:=bB hb;clear hb ho0 ho1)|((with_reducible refine gc 64 rfl ?_);refine gC 64 (some 31) Try.func64 #[.slice A2 l2.length c2,.slice Ao18 t556.length co18] ?_;(with_reducible refine(Azy.calls k _ _ l2 _ _ t556 t567 t568 t569 _ ?side1 ?side2 ?side3 ?side4 A6.out).mono ?_);(case side1=>exact cB HR2);(case side2=>exact HC2.out);(case side3=>exact cR HO558);(case side4=>exact lR HO558);rintro e w20 ⟨v570,v572,rfl,ho0,ho1,hb⟩;refine⟨_,rfl,?_⟩;have HO571:=rL (rn (rn (rn ho0 HO558) HO564) HO566);have HO573:=rL (rn (rn (rn ho1 HO558) HO564) HO566);replace HO558:=rO HO558 hb ho0 ho1;replace HO564:=rO HO564 hb ho0 ho1;replace HO566:=rO HO566 hb ho0 ho1;replace BK555:=kb BK555 hb;replace HB:=bB hb;clear hb ho0 ho1;obtain⟨Ao21,co21,rfl⟩:=Kd.R_slice HO571.out;obtain⟨Ao22,co22,rfl⟩:=Kd.R_slice HO564.out;obtain⟨hcz23_0,hcz23_1,hcz23_2,hfz23_0,hfz23_1,hfz23_2⟩:=bk3 BK555))
  refine bodyPost_ret (results_cell_row rfl _ _ gb555 39 #[.bool false,.slice Ao22 t560.length co22,.slice Ao21 t567.length co21] (0,0) _ rfl (kQ BK555) Try.underlying39 rfl (by kernel_rfl)) rfl ?_
  exact⟨_,_,eW,by exact Kd.R_mono (rT HO564 BK555) (fun _ hk=>hk.1.2),by exact Kd.R_mono (rT HO571 BK555) (fun _ hk=>hk.1.2),pB⟩

end Go.Proofs.Ytnklckihalhlmaa.Print
