import Derived.Test.YtpjcpgobdiahpaaPrint0
import Derived.Test.YtpjcpgobdiahpaaPrint16
import Derived.Test.YtpjcpgobdiahpaaPrint19
import Derived.Test.YtpjcpgobdiahpaaPrint24
namespace Go.Proofs.Ytpjcpgobdiahpaa.Print
open Go.RowKit Go.Proofs.YtpjcpgobdiahpaaW.PrintWords Go.Proofs.YtpjcpgobdiahpaaW.PrintLast Go.Proofs.YtpjcpgobdiahpaaW.PrintMore
attribute [local go_sem] max2_int min2_int max_two min_two max_three min_three max_four min_four
set_option linter.unusedVariables false
set_option maxRecDepth 100000
set_option maxHeartbeats 8000000
set_option linter.unusedSimpArgs false

def Dzv.f (k:Nat) (l0:List Int) (l1:List Int):Option (List Int × List Int):=(Czb.f k l0 l1).bind fun t363=>(if t363 < 0 then((Fzz.f l0 (l0.length:Int)).bind fun t364=>((Bzw.f k t364).bind fun t367=>(some (([]:List Int),t367)))) else(if(l1.length:Int)=1 then(if 0 < (l1.length:Int) then((Czw.f k l0 (rd l1 0)).bind fun bt371=>(some (bt371.1,bt371.2))) else(none)) else((Bzm.f k l0 l1).bind fun bt377=>(some (bt377.1,bt377.2)))))
theorem Dzv.mono:∀ a0 a1 k,LeO (Dzv.f k a0 a1) (Dzv.f (k+1) a0 a1):=by
 intro a0 a1 k;unfold Dzv.f;with_reducible repeat' first|exact Czb.mono _ _ _|exact Bzm.mono _ _ _|exact Czw.mono _ _ _|exact Bzw.mono _ _|exact LeO.refl _|exact LeO.none _|refine LeO.ite ?_ ?_|refine LeO.bind ?_ (fun _=>?_)
theorem Dzv.calls (k:Nat) (A0:Option Addr) (c0:Nat) (l0:List Int) (A1:Option Addr) (c1:Nat) (l1:List Int) (r1:List Int) (r2:List Int) (w:World) (hr0:Kd.C (Kd.int .i64) w A0 l0.length l0) (hc0:l0.length≤c0) (hr1:Kd.C (Kd.int .i64) w A1 l1.length l1) (hc1:l1.length≤c1) (h:Dzv.f k l0 l1=some (r1,r2)) :
  Calls Try.prog 92 #[.slice A0 l0.length c0,.slice A1 l1.length c1] w fun e w'=>∃ v0_ v1_:Value,e=.returned (.tuple #[v0_,v1_])∧Kd.R (Kd.int .i64) 3 w' w.heap.size (fun k_=>some k_≠(v1_:Value).ownBlock) v0_ r1∧Kd.R (Kd.int .i64) 3 w' w.heap.size (fun k_=>some k_≠(v0_:Value).ownBlock) v1_ r2∧Below w.heap.size w w':=by
 have HR0:=aM hr0;have HC0:=aM hc0;clear hr0 hc0;have HR1:=aM hr1;have HC1:=aM hc1;clear hr1 hc1;have HB:=aM (Below.refl w.heap.size w);have H:((Czb.f k l0 l1).bind fun t363=>(if t363 < 0 then((Fzz.f l0 (l0.length:Int)).bind fun t364=>((Bzw.f k t364).bind fun t367=>(some (([]:List Int),t367)))) else(if(l1.length:Int)=1 then(if 0 < (l1.length:Int) then((Czw.f k l0 (rd l1 0)).bind fun bt371=>(some (bt371.1,bt371.2))) else(none)) else((Bzm.f k l0 l1).bind fun bt377=>(some (bt377.1,bt377.2))))))=some (r1,r2):=h
 clear h;replace H:=bS H;obtain⟨t363,A30,H⟩:=H;(try dsimp only at H);have A3:=aM A30;clear A30;by_cases c4:t363 < 0
 ·rw[if_pos c4] at H;have c4b0:decide (t363 < 0)=true:=dE c4;clear c4;replace H:=bS H;obtain⟨t364,A50,H⟩:=H;(try dsimp only at H);have A5:=aM A50;clear A50;replace H:=bS H;obtain⟨t367,A60,H⟩:=H;replace H:(some (([]:List Int),t367))=some (r1,r2):=H;have A6:=aM A60;clear A60;simp only[Option.some.injEq,Prod.mk.injEq] at H;obtain⟨rfl,rfl⟩:=H;go_enter Try.func92,Try.ntmps92
  go_wp2_with (first|((with_reducible refine gate_callee (f:=101) rfl ?_);refine goesL_ (some 9) rfl rfl Try.func101 (by kernel_rfl) rfl #[.slice A0 l0.length c0,.slice A1 l1.length c1] rfl mA ?_;(with_reducible refine(Czb.calls k _ _ l0 _ _ l1 t363 _ ?side1 ?side2 ?side3 ?side4 A3.out).mono ?_);(case side1=>exact cX HR0.out);(case side2=>exact HC0.out);(case side3=>exact cX HR1.out);(case side4=>exact HC1.out);rintro e w' ⟨rfl,⟨nd,rfl⟩⟩;refine⟨_,rfl,?_⟩)|((with_reducible refine gate_callee (f:=94) rfl ?_);refine goesL_ (some 14) rfl rfl Try.func94 (by kernel_rfl) rfl #[.slice A0 l0.length c0,.int .i64 (l0.length:Int)] rfl mA ?_;(with_reducible refine(Fzz.calls _ _ l0 (l0.length:Int) t364 _ ?side1 ?side2 A5.out).mono ?_);(case side1=>exact cX HR0.out);(case side2=>exact HC0.out);rintro e w7 ⟨v365,rfl,ho0,hb⟩;refine⟨_,rfl,?_⟩;have HO366:=aM (Kd.R_lower ho0 (below_size pB));replace HB:=aM (below_step pB hb);(try clear hb);(try clear hb2);(try clear hk);(try clear hi);(try clear ho0);obtain⟨Ao8,co8,eo8⟩:=Kd.R_slice HO366.out;subst eo8)|((with_reducible refine gate_callee (f:=93) rfl ?_);refine goesL_ (some 15) rfl rfl Try.func93 (by kernel_rfl) rfl #[.slice Ao8 t364.length co8] rfl mA ?_;(with_reducible refine(Bzw.calls k (fun k_=>some k_=(.slice Ao8 t364.length co8:Value).ownBlock) (.slice Ao8 t364.length co8) t364 t367 w _ ?side1 ?side2 A6.out).mono ?_);(case side1=>repeat(first|(with_reducible first|exact HB.out|apply below_alloc|apply pw_below_drewN|apply below_drew1)|exact HB.out));(case side2=>exact Kd.R_tight rfl HO366.out);rintro e w9 ⟨v368,rfl,ho0,hb,hkp⟩;refine⟨_,rfl,?_⟩;have HO369:=aM (Kd.R_mono (ok':=fun k_=>True) ho0 (fun k_ hk_=>trivial));replace HB:=aM (hb);clear HO366;(try clear hb);(try clear hkp);(try clear ho0)))
  go_ret2
  exact⟨_,_,eW,by first|exact Kd.R_nil _ _ _ _ _|exact Kd.N_nil _ _ _ _ _|exact Kd.V_nil _ _ _ _ _|exact Kd.Q_nil _ _ _ _ _|exact Kd.S_nil _ _ _ _ _,by(with_reducible repeat(first|apply Kd.R_alloc|apply Kd.R_drewN|apply Kd.R_drew));exact Kd.R_mono HO369.out (fun _ hk=>(by simp [Value.ownBlock])),pB⟩
 ·rw[if_neg c4] at H;have c4b0:decide (t363 < 0)=false:=decide_eq_false c4;clear c4;by_cases c10:(l1.length:Int)=1
  ·rw[if_pos c10] at H;have c10b0:((l1.length:Int) == 1)=true:=beq_iff_eq.mpr c10;have c10b1:((l1.length:Int) != 1)=false:=bne_eq_false_iff_eq.mpr c10;clear c10;by_cases c11:0 < (l1.length:Int)
   ·rw[if_pos c11] at H;have c11b0:decide (0 < (l1.length:Int))=true:=dE c11;have c11b1:decide (0 < l1.length)=true:=dE (by omega)
    clear c11;replace H:=bS H;obtain⟨⟨t371,t372⟩,A120,H⟩:=H;replace H:(some (t371,t372))=some (r1,r2):=H;have A12:=aM A120;clear A120;simp only[Option.some.injEq,Prod.mk.injEq] at H;obtain⟨rfl,rfl⟩:=H;go_enter Try.func92,Try.ntmps92
    go_wp2_with (first|((with_reducible refine gate_callee (f:=101) rfl ?_);refine goesL_ (some 9) rfl rfl Try.func101 (by kernel_rfl) rfl #[.slice A0 l0.length c0,.slice A1 l1.length c1] rfl mA ?_;(with_reducible refine(Czb.calls k _ _ l0 _ _ l1 t363 _ ?side1 ?side2 ?side3 ?side4 A3.out).mono ?_);(case side1=>exact cX HR0.out);(case side2=>exact HC0.out);(case side3=>exact cX HR1.out);(case side4=>exact HC1.out);rintro e w' ⟨rfl,⟨nd,rfl⟩⟩;refine⟨_,rfl,?_⟩;have p370:0≤(0:Int):=(by omega);have q370:0 < (l1.length:Int):=oE aS;obtain⟨ad370,e370,hx370_0⟩:=Kd.at_int HR1.out 0 p370 q370;cases e370;have qi370:(0 < l1.length)=True:=eq_true (by omega);(try rw[show((0:Int)).toNat=0 from rfl] at hx370_0);(try rw[Addr.add_zero'] at hx370_0);replace p370:=eq_true p370;replace q370:=eq_true q370)|((with_reducible refine gate_callee (f:=110) rfl ?_);refine goesL_ (some 24) rfl rfl Try.func110 (by kernel_rfl) rfl #[.slice A0 l0.length c0,.int .i64 (rd l1 0)] rfl mA ?_;(with_reducible refine(Czw.calls k _ _ l0 (rd l1 0) t371 t372 _ ?side1 ?side2 A12.out).mono ?_);(case side1=>exact cX HR0.out);(case side2=>exact HC0.out);rintro e w13 ⟨v373,v375,rfl,ho0,ho1,hb⟩;refine⟨_,rfl,?_⟩;have HO374:=aM (Kd.R_lower ho0 (below_size pB));have HO376:=aM (Kd.R_lower ho1 (below_size pB));replace HB:=aM (below_step pB hb);(try clear hb);(try clear hb2);(try clear hk);(try clear hi);(try clear ho0);(try clear ho1)))
    go_ret2
    exact⟨_,_,eW,rX HO374.out,rX HO376.out,pB⟩
   ·rw[if_neg c11] at H;exact absurd H (by simp)
  ·rw[if_neg c10] at H;have c10b0:((l1.length:Int) == 1)=false:=beq_eq_false_iff_ne.mpr c10;have c10b1:((l1.length:Int) != 1)=true:=bne_iff_ne.mpr c10;replace H:=bS H;obtain⟨⟨t377,t378⟩,A140,H⟩:=H;replace H:(some (t377,t378))=some (r1,r2):=H;have A14:=aM A140;clear A140;simp only[Option.some.injEq,Prod.mk.injEq] at H;obtain⟨rfl,rfl⟩:=H;go_enter Try.func92,Try.ntmps92
   go_wp2_with (first|((with_reducible refine gate_callee (f:=101) rfl ?_);refine goesL_ (some 9) rfl rfl Try.func101 (by kernel_rfl) rfl #[.slice A0 l0.length c0,.slice A1 l1.length c1] rfl mA ?_;(with_reducible refine(Czb.calls k _ _ l0 _ _ l1 t363 _ ?side1 ?side2 ?side3 ?side4 A3.out).mono ?_);(case side1=>exact cX HR0.out);(case side2=>exact HC0.out);(case side3=>exact cX HR1.out);(case side4=>exact HC1.out);rintro e w' ⟨rfl,⟨nd,rfl⟩⟩;refine⟨_,rfl,?_⟩)|((with_reducible refine gate_callee (f:=111) rfl ?_);refine goesL_ (some 29) rfl rfl Try.func111 (by kernel_rfl) rfl #[.slice A0 l0.length c0,.slice A1 l1.length c1] rfl mA ?_;(with_reducible refine(Bzm.calls k _ _ l0 _ _ l1 t377 t378 _ ?side1 ?side2 ?side3 ?side4 A14.out).mono ?_);(case side1=>exact cX HR0.out);(case side2=>exact HC0.out);(case side3=>exact cX HR1.out);(case side4=>exact HC1.out);rintro e w15 ⟨v379,v381,rfl,ho0,ho1,hb⟩;refine⟨_,rfl,?_⟩;have HO380:=aM (Kd.R_lower ho0 (below_size pB));have HO382:=aM (Kd.R_lower ho1 (below_size pB));replace HB:=aM (below_step pB hb);(try clear hb);(try clear hb2);(try clear hk);(try clear hi);(try clear ho0);(try clear ho1)))
   go_ret2
   exact⟨_,_,eW,rX HO380.out,rX HO382.out,pB⟩

def Czy.l0:Nat→List Int→Int→Int→Option (Int)
 | 0,_,_,_=>none
 | k+1,x0,x3,x4=>if x4≥0 then(if 0≤x4 then(if x4 < (x0.length:Int) then(Czy.l0 k x0 (wrap64 ((wrap64 (x3 * 1000000000))+(rd x0 x4))) (wrap64 (x4 - 1))) else(none)) else(none)) else(some x3)
def Czy.f (k:Nat) (l0:List Int):Option (Int):=Czy.l0 k l0 0 (wrap64 ((l0.length:Int) - 1))
theorem Czy.mono_l:∀ k,(∀ y0 y1 y2,LeO (Czy.l0 k y0 y1 y2) (Czy.l0 (k+1) y0 y1 y2))
 | 0=>fun _ _ _ r h=>by simp [Czy.l0] at h
 | k+1=>by
  have ih0:=Czy.mono_l k
  ·intro y0 y1 y2;unfold Czy.l0;with_reducible repeat' first|exact ih0 _ _ _|exact LeO.refl _|exact LeO.none _|refine LeO.ite ?_ ?_|refine LeO.bind ?_ (fun _=>?_)
theorem Czy.mono:∀ a0 k,LeO (Czy.f k a0) (Czy.f (k+1) a0):=by
 intro a0 k;have ih0:=Czy.mono_l k;unfold Czy.f;with_reducible repeat' first|exact ih0 _ _ _|exact LeO.refl _|exact LeO.none _|refine LeO.ite ?_ ?_|refine LeO.bind ?_ (fun _=>?_)
theorem Czy.calls (k:Nat) (A0:Option Addr) (c0:Nat) (l0:List Int) (r:Int) (w:World) (hr0:Kd.C (Kd.int .i64) w A0 l0.length l0) (hc0:l0.length≤c0) (h:Czy.f k l0=some r) :
  Calls Try.prog 95 #[.slice A0 l0.length c0] w fun e w'=>e=.returned (.int .i64 r)∧Drawn0 w w':=by
 have HR0:=aM hr0;have HC0:=aM hc0;clear hr0 hc0;have H:(Czy.l0 k l0 0 (wrap64 ((l0.length:Int) - 1)))=some r:=h;clear h;have H':=aM H;clear H;go_enter Try.func95,Try.ntmps95
 go_wp2
 go_loopg [3,4] k (fun kq v3 v4 w'=>∃ (x3_1:Int) (x4_1:Int),v3=.int .i64 x3_1∧v4=.int .i64 x4_1∧Aside0 (Czy.l0 kq l0 x3_1 x4_1=some r)∧Aside0 (kq≤k)∧Drawn0 w w')
 case atStart=>exact⟨(0),(wrap64 ((l0.length:Int) - 1)),sD,sD,H',⟨Nat.le_refl _⟩,by repeat(first|exact Drawn0.refl _|apply Drawn0.step)⟩
 case round =>
  clear H';obtain⟨x3_1,x4_1,rfl,rfl,HA,HK1,⟨m1,rfl⟩⟩:=hrel;cases gk with
  | zero=>exact absurd HA.out (by simp [Czy.l0])
  | succ k1 =>
   have H:=HA.out;clear HA;simp only[Czy.l0] at H;by_cases c2:x4_1≥0
   ·rw[if_pos c2] at H;have c2b0:decide (0≤x4_1)=true:=dE c2;clear c2;by_cases c3:0≤x4_1
    ·rw[if_pos c3] at H;have c3b0:decide (0≤x4_1)=true:=dE c3;clear c3;by_cases c4:x4_1 < (l0.length:Int)
     ·rw[if_pos c4] at H;have c4b0:decide (x4_1 < (l0.length:Int))=true:=dE c4;clear c4;have H':=aM H;clear H;have p383:0≤(x4_1:Int):=oE aS
      have q383:x4_1 < (l0.length:Int):=oE aS
      obtain⟨ad383,e383,hx383_0⟩:=Kd.at_int HR0.out x4_1 p383 q383;cases e383
      replace p383:=eq_true p383;replace q383:=eq_true q383;go_wp2
      go_roundg k1
      case measure=>have:=HK1.out;omega
      case rel=>exact⟨(wrap64 ((wrap64 (x3_1 * 1000000000))+(rd l0 x4_1))),(wrap64 (x4_1 - 1)),sD,sD,H',⟨by have:=HK1.out;omega⟩,by repeat(first|exact Drawn0.refl _|apply Drawn0.step)⟩
     ·rw[if_neg c4] at H;exact absurd H (by simp)
    ·rw[if_neg c3] at H;exact absurd H (by simp)
   ·rw[if_neg c2] at H;have c2b0:decide (0≤x4_1)=false:=decide_eq_false c2;clear c2;obtain rfl:=Option.some.inj H;go_wp2
    go_ret
    exact⟨by first|rfl|(simp;done)|(simp [*];done),by repeat(first|exact Drawn0.refl _|apply Drawn0.step)⟩

end Go.Proofs.Ytpjcpgobdiahpaa.Print
