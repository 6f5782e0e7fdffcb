import Derived.Test.YtokkiljkgejnhaaPrint0
import Derived.Test.YtokkiljkgejnhaaPrint14
import Derived.Test.YtokkiljkgejnhaaPrint16
namespace Go.Proofs.Ytokkiljkgejnhaa.Print
open Go.RowKit Go.Proofs.YtokkiljkgejnhaaW.PrintWords Go.Proofs.YtokkiljkgejnhaaW.PrintLast Go.Proofs.YtokkiljkgejnhaaW.PrintMore
attribute [local go_sem] max2_int min2_int max_two min_two max_three min_three max_four min_four
set_option linter.unusedVariables false
set_option maxRecDepth 100000
set_option maxHeartbeats 8000000
set_option linter.unusedSimpArgs false

def Czq.j0:Nat→List Int→List Int→Bool→Option (List Int × List Int × Int)
 | 0,_,_,_=>none
 | k+1,x0,x1,x16=>if x16=true then(some (([]:List Int),([]:List Int),3)) else(if(x1.length:Int)=0 then(some (([]:List Int),([]:List Int),16)) else((Czb.f k x0 x1).bind fun bt341=>(some (bt341.1,bt341.2,0))))
def Czq.f (k:Nat) (l0:List Int) (l1:List Int):Option (List Int × List Int × Int):=(Azk.f k l0).bind fun t339=>(if t339=true then((Azk.f k l1).bind fun t340=>(Czq.j0 k l0 l1 (!t340))) else(Czq.j0 k l0 l1 true))
theorem Czq.mono_l:∀ k,(∀ y0 y1 y2,LeO (Czq.j0 k y0 y1 y2) (Czq.j0 (k+1) y0 y1 y2))
 | 0=>fun _ _ _ r h=>by simp [Czq.j0] at h
 | k+1=>by
  have ih0:=Czq.mono_l k
  ·intro y0 y1 y2;unfold Czq.j0;with_reducible repeat' first|exact ih0 _ _ _|exact Azk.mono _ _|exact Czb.mono _ _ _|exact LeO.refl _|exact LeO.none _|refine LeO.ite ?_ ?_|refine LeO.bind ?_ (fun _=>?_)
theorem Czq.mono:∀ a0 a1 k,LeO (Czq.f k a0 a1) (Czq.f (k+1) a0 a1):=by
 intro a0 a1 k;have ih0:=Czq.mono_l k;unfold Czq.f;with_reducible repeat' first|exact ih0 _ _ _|exact Azk.mono _ _|exact Czb.mono _ _ _|exact LeO.refl _|exact LeO.none _|refine LeO.ite ?_ ?_|refine LeO.bind ?_ (fun _=>?_)
theorem Czq.calls (k:Nat) (A0:Option Addr) (c0:Nat) (l0:List Int) (A1:Option Addr) (c1:Nat) (l1:List Int) (r1:List Int) (r2:List Int) (r3:Int) (w:World) (hr0:Kd.C (Kd.int .i64) w A0 l0.length l0) (hc0:l0.length≤c0) (hr1:Kd.C (Kd.int .i64) w A1 l1.length l1) (hc1:l1.length≤c1) (h:Czq.f k l0 l1=some (r1,r2,r3)) :
  Calls Try.prog 63 #[.slice A0 l0.length c0,.slice A1 l1.length c1] w fun e w'=>∃ v0_ v1_:Value,e=.returned (.tuple #[v0_,v1_,.int .i64 r3])∧Kd.R (Kd.int .i64) 3 w' w.heap.size (fun k_=>some k_≠(v1_:Value).ownBlock) v0_ r1∧Kd.R (Kd.int .i64) 3 w' w.heap.size (fun k_=>some k_≠(v0_:Value).ownBlock) v1_ r2∧Below w.heap.size w w':=by
 have HR0:=aM hr0;have HC0:=aM hc0;clear hr0 hc0;have HR1:=aM hr1;have HC1:=aM hc1;clear hr1 hc1;have HB:=aM (Below.refl w.heap.size w);have H:((Azk.f k l0).bind fun t339=>(if t339=true then((Azk.f k l1).bind fun t340=>(Czq.j0 k l0 l1 (!t340))) else(Czq.j0 k l0 l1 true)))=some (r1,r2,r3):=h
 clear h;have HC3:=aM H;clear H;go_enter Try.func63,Try.ntmps63
 go_upto_region 1 with (fail)
 go_cut [16] (fun v16 wc=>∃ (kq:Nat) (x16_2:Bool),v16=.bool x16_2∧Aside0 (Czq.j0 kq l0 l1 x16_2=some (r1,r2,r3))∧Aside0 (kq≤k)∧Aside0 (Below w.heap.size w wc))
 case first =>
  have H:=HC3.out;clear HC3;replace H:=bS H;obtain⟨t339,A40,H⟩:=H;(try dsimp only at H);have A4:=aM A40;clear A40;by_cases c5:t339=true
  ·subst c5;rw[if_pos rfl] at H;replace H:=bS H;obtain⟨t340,A60,H⟩:=H;(try dsimp only at H);have A6:=aM A60;clear A60;have H':=aM H;clear H;go_wp2_with (first|((with_reducible refine gate_callee (f:=65) rfl ?_);refine goesL_ (some 10) rfl rfl Try.func65 (by kernel_rfl) rfl #[.slice A0 l0.length c0] rfl mA ?_;(with_reducible refine(Azk.calls k _ _ l0 true _ ?side1 ?side2 A4.out).mono ?_);(case side1=>exact cX (Kd.C_below HR0.out HB.out));(case side2=>exact HC0.out);rintro e w' ⟨rfl,⟨nd,rfl⟩⟩;refine⟨_,rfl,?_⟩)|(go_at_call 65;(with_reducible refine(Azk.calls k _ _ l1 t340 _ ?side1 ?side2 A6.out).mono ?_);(case side1=>repeat(first|exact(Kd.C_below HR1.out pB)|(with_reducible refine Kd.C_alloc ?_ _)|(with_reducible refine Kd.C_drewN ?_ _)|(with_reducible refine Kd.C_drew ?_)));(case side2=>exact HC1.out);rintro e w' ⟨rfl,⟨nd,rfl⟩⟩))
   go_meet
   case rel=>exact⟨_,(!t340),sD,H',⟨by first|omega|exact Nat.le_refl _⟩,⟨pB⟩⟩
  ·replace c5:=Bool.eq_false_iff.mpr c5;subst c5;rw[if_neg (show ¬ (false=true) by decide)] at H
   have H':=aM H;clear H;go_wp2_with (first|((with_reducible refine gate_callee (f:=65) rfl ?_);refine goesL_ (some 10) rfl rfl Try.func65 (by kernel_rfl) rfl #[.slice A0 l0.length c0] rfl mA ?_;(with_reducible refine(Azk.calls k _ _ l0 false _ ?side1 ?side2 A4.out).mono ?_);(case side1=>exact cX (Kd.C_below HR0.out HB.out));(case side2=>exact HC0.out);rintro e w' ⟨rfl,⟨nd,rfl⟩⟩;refine⟨_,rfl,?_⟩))
   go_meet
   case rel=>exact⟨_,(true),sD,H',⟨by first|omega|exact Nat.le_refl _⟩,⟨pB⟩⟩
 case rest =>
  clear HC3;try clear c1
  try clear p2
  try clear c5
  try clear c6
  obtain⟨kq,x16_2,rfl,HA,HJ2,HB⟩:=hcut;cases kq with
  | zero=>exact absurd HA.out (by simp [Czq.j0])
  | succ kj2 =>
   have H:=HA.out;clear HA;simp only[Czq.j0] at H;by_cases c7:x16_2=true
   ·subst c7;rw[if_pos rfl] at H;simp only[Option.some.injEq,Prod.mk.injEq] at H;obtain⟨rfl,rfl,rfl⟩:=H;go_wp2
    go_ret3
    exact⟨_,_,eW,by first|exact Kd.R_nil _ _ _ _ _|exact Kd.N_nil _ _ _ _ _|exact Kd.V_nil _ _ _ _ _|exact Kd.Q_nil _ _ _ _ _|exact Kd.S_nil _ _ _ _ _,by first|exact Kd.R_nil _ _ _ _ _|exact Kd.N_nil _ _ _ _ _|exact Kd.V_nil _ _ _ _ _|exact Kd.Q_nil _ _ _ _ _|exact Kd.S_nil _ _ _ _ _,pB⟩
   ·replace c7:=Bool.eq_false_iff.mpr c7;subst c7;rw[if_neg (show ¬ (false=true) by decide)] at H
    by_cases c8:(l1.length:Int)=0
    ·rw[if_pos c8] at H;have c8b0:((l1.length:Int) == 0)=true:=beq_iff_eq.mpr c8;have c8b1:((l1.length:Int) != 0)=false:=bne_eq_false_iff_eq.mpr c8;clear c8;simp only[Option.some.injEq,Prod.mk.injEq] at H;obtain⟨rfl,rfl,rfl⟩:=H;go_wp2
     go_ret3
     exact⟨_,_,eW,by first|exact Kd.R_nil _ _ _ _ _|exact Kd.N_nil _ _ _ _ _|exact Kd.V_nil _ _ _ _ _|exact Kd.Q_nil _ _ _ _ _|exact Kd.S_nil _ _ _ _ _,by first|exact Kd.R_nil _ _ _ _ _|exact Kd.N_nil _ _ _ _ _|exact Kd.V_nil _ _ _ _ _|exact Kd.Q_nil _ _ _ _ _|exact Kd.S_nil _ _ _ _ _,pB⟩
    ·rw[if_neg c8] at H;have c8b0:((l1.length:Int) == 0)=false:=beq_eq_false_iff_ne.mpr c8;have c8b1:((l1.length:Int) != 0)=true:=bne_iff_ne.mpr c8;have c8b2:¬ (l1=[]):=fun h_=>c8 (by rw[h_];rfl)
     replace H:=bS H;obtain⟨⟨t341,t342⟩,A90,H⟩:=H;replace H:(some (t341,t342,0))=some (r1,r2,r3):=H;have A9:=aM A90;clear A90;simp only[Option.some.injEq,Prod.mk.injEq] at H;obtain⟨rfl,rfl,rfl⟩:=H;go_wp2_with (first|((with_reducible refine gate_callee (f:=78) rfl ?_);refine goesL_ (some 23) rfl rfl Try.func78 (by kernel_rfl) rfl #[.slice A0 l0.length c0,.slice A1 l1.length c1] rfl mA ?_;(with_reducible refine(Czb.calls kj2 _ _ l0 _ _ l1 t341 t342 _ ?side1 ?side2 ?side3 ?side4 A9.out).mono ?_);(case side1=>exact cX (Kd.C_below HR0.out HB.out));(case side2=>exact HC0.out);(case side3=>exact cX (Kd.C_below HR1.out HB.out));(case side4=>exact HC1.out);rintro e w10 ⟨v343,v345,rfl,ho0,ho1,hb⟩;refine⟨_,rfl,?_⟩;have HO344:=aM (Kd.R_lower ho0 (below_size pB));have HO346:=aM (Kd.R_lower ho1 (below_size pB));replace HB:=aM (below_step pB hb);(try clear hb);(try clear hb2);(try clear hk);(try clear hi);(try clear ho0);(try clear ho1)))
     go_ret3
     exact⟨_,_,eW,rX HO344.out,rX HO346.out,pB⟩

def Dzq.l0:Nat→Int→List Int→Option (List Int × Int)
 | 0,_,_=>none
 | k+1,x0,x4=>if x0 > 0 then(if x4.length < 17592186044416 then(Dzq.l0 k (wrap64 (Int.tdiv x0 1000000000)) (x4 ++ [Int.tmod x0 1000000000])) else(none)) else(some (x4,0))
def Dzq.f (k:Nat) (a0:Int):Option (List Int × Int):=if a0 < 0 then(some (([]:List Int),1)) else(Dzq.l0 k a0 ([]:List Int))
theorem Dzq.mono_l:∀ k,(∀ y0 y1,LeO (Dzq.l0 k y0 y1) (Dzq.l0 (k+1) y0 y1))
 | 0=>fun _ _ r h=>by simp [Dzq.l0] at h
 | k+1=>by
  have ih0:=Dzq.mono_l k
  ·intro y0 y1;unfold Dzq.l0;with_reducible repeat' first|exact ih0 _ _|exact LeO.refl _|exact LeO.none _|refine LeO.ite ?_ ?_|refine LeO.bind ?_ (fun _=>?_)
theorem Dzq.mono:∀ a0 k,LeO (Dzq.f k a0) (Dzq.f (k+1) a0):=by
 intro a0 k;have ih0:=Dzq.mono_l k;unfold Dzq.f;with_reducible repeat' first|exact ih0 _ _|exact LeO.refl _|exact LeO.none _|refine LeO.ite ?_ ?_|refine LeO.bind ?_ (fun _=>?_)
theorem Dzq.calls (k:Nat) (a0:Int) (r1:List Int) (r2:Int) (w:World) (h:Dzq.f k a0=some (r1,r2)) :
  Calls Try.prog 77 #[.int .i64 a0] w fun e w'=>∃ v0_:Value,e=.returned (.tuple #[v0_,.int .i64 r2])∧Kd.R (Kd.int .i64) 3 w' w.heap.size (fun _=>True) v0_ r1∧Below w.heap.size w w':=by
 have HB:=aM (Below.refl w.heap.size w);have H:(if a0 < 0 then(some (([]:List Int),1)) else(Dzq.l0 k a0 ([]:List Int)))=some (r1,r2):=h
 clear h;by_cases c2:a0 < 0
 ·rw[if_pos c2] at H;have c2b0:decide (a0 < 0)=true:=dE c2;clear c2;simp only[Option.some.injEq,Prod.mk.injEq] at H;obtain⟨rfl,rfl⟩:=H;go_enter Try.func77,Try.ntmps77
  go_wp2
  go_ret2
  exact⟨_,eW,by first|exact Kd.R_nil _ _ _ _ _|exact Kd.N_nil _ _ _ _ _|exact Kd.V_nil _ _ _ _ _|exact Kd.Q_nil _ _ _ _ _|exact Kd.S_nil _ _ _ _ _,pB⟩
 ·rw[if_neg c2] at H;have c2b0:decide (a0 < 0)=false:=decide_eq_false c2;clear c2;have H':=aM H;clear H;go_enter Try.func77,Try.ntmps77
  go_wp2
  go_loopg [0,4] k (fun kq v0 v4 w'=>∃ (x0_1:Int) (x4_1:List Int),v0=.int .i64 x0_1∧Aside0 (Dzq.l0 kq x0_1 x4_1=some (r1,r2))∧Aside0 (kq≤k)∧Aside0 (Kd.R (Kd.int .i64) 3 w' w.heap.size (fun _=>True) v4 x4_1)∧Aside0 (Below w.heap.size w w'))
  case atStart=>exact⟨(a0),(([]:List Int)),sD,H',⟨Nat.le_refl _⟩,⟨by first|exact Kd.R_nil _ _ _ _ _|exact Kd.N_nil _ _ _ _ _|exact Kd.V_nil _ _ _ _ _|exact Kd.Q_nil _ _ _ _ _|exact Kd.S_nil _ _ _ _ _⟩,⟨pB⟩⟩
  case round =>
   clear H';try clear c2
   try clear c2b0
   try clear p2
   obtain⟨x0_1,x4_1,rfl,HA,HK1,HO_4,HB⟩:=hrel;cases gk with
   | zero=>exact absurd HA.out (by simp [Dzq.l0])
   | succ k1 =>
    have H:=HA.out;clear HA;simp only[Dzq.l0] at H;by_cases c3:x0_1 > 0
    ·rw[if_pos c3] at H;have c3b0:decide (0 < x0_1)=true:=dE c3;clear c3;by_cases c4:x4_1.length < 17592186044416
     ·rw[if_pos c4] at H;have LMc4:=aM c4;clear c4;obtain⟨y347,hy347⟩:∃ y_:List Int,y_=(x4_1 ++ [Int.tmod x0_1 1000000000]):=⟨_,rfl⟩;replace H:(Dzq.l0 k1 (wrap64 (Int.tdiv x0_1 1000000000)) y347)=some (r1,r2):=by first|(rw[hy347];with_reducible exact H)|(have H2_:=(Option.bind_some _ _).symm.trans H;rw[hy347];with_reducible exact H2_)|(have H2_:=(Option.bind_some _ _).symm.trans H;with_reducible exact H2_)|with_reducible exact H|(rw[hy347];exact H)|exact H
      have Ny347:=aM hy347;clear hy347;have H':=aM H;clear H;go_wp2_with (first|((with_reducible refine gate_builtin (b:=.append) (xs:=#[.tmp 11,.tmp 14]) rfl ?_);at_builtin;refine Kd.R_append (Kd.int .i64) (w0:=w) w.heap.size rfl (.tmp 11) (.tmp 14) 36 3 (.int .i64 0) 8 rfl Try.underlying36 info3 rfl (by decide) (by omega) u4 x4_1 (Int.tmod x0_1 1000000000) [.int .i64 (Int.tmod x0_1 1000000000)] (fun _=>True) (fun _=>False) rfl rfl ?aP (fun _ hk=>hk.elim) ?aF ?aO ?aB ?aS ?aL ?_;(case aP=>exact rfl);(case aB=>exact pB);(case aF=>exact(fun _ _=>trivial));(case aO=>exact(rX HO_4.out));(case aS=>exact(below_size pB));(case aL=>have:=LMc4.out;omega);intro v348 w5 ho hb hg hat;rw[← Ny347.out] at ho;have HO349:=aM (ho);replace HB:=aM (hb);clear HO_4;clear ho hb hg hat))
      go_roundg k1
      case measure=>have:=HK1.out;omega
      case rel=>exact⟨(wrap64 (Int.tdiv x0_1 1000000000)),(y347),sD,H',⟨by have:=HK1.out;omega⟩,⟨rX HO349.out⟩,⟨pB⟩⟩
     ·rw[if_neg c4] at H;exact absurd H (by simp)
    ·rw[if_neg c3] at H;have c3b0:decide (0 < x0_1)=false:=decide_eq_false c3;clear c3;simp only[Option.some.injEq,Prod.mk.injEq] at H;obtain⟨rfl,rfl⟩:=H;go_wp2
     go_ret2
     exact⟨_,eW,rX HO_4.out,pB⟩

def Czv.l0:Nat→List Int→Int→Int→Option (Int)
 | 0,_,_,_=>none
 | k+1,x0,x3,x4=>if x4≥0 then(if 0≤x4 then(if x4 < (x0.length:Int) then(Czv.l0 k x0 (wrap64 ((wrap64 (x3 * 1000000000))+(rd x0 x4))) (wrap64 (x4 - 1))) else(none)) else(none)) else(some x3)
def Czv.f (k:Nat) (l0:List Int):Option (Int):=Czv.l0 k l0 0 (wrap64 ((l0.length:Int) - 1))
theorem Czv.mono_l:∀ k,(∀ y0 y1 y2,LeO (Czv.l0 k y0 y1 y2) (Czv.l0 (k+1) y0 y1 y2))
 | 0=>fun _ _ _ r h=>by simp [Czv.l0] at h
 | k+1=>by
  have ih0:=Czv.mono_l k
  ·intro y0 y1 y2;unfold Czv.l0;with_reducible repeat' first|exact ih0 _ _ _|exact LeO.refl _|exact LeO.none _|refine LeO.ite ?_ ?_|refine LeO.bind ?_ (fun _=>?_)
theorem Czv.mono:∀ a0 k,LeO (Czv.f k a0) (Czv.f (k+1) a0):=by
 intro a0 k;have ih0:=Czv.mono_l k;unfold Czv.f;with_reducible repeat' first|exact ih0 _ _ _|exact LeO.refl _|exact LeO.none _|refine LeO.ite ?_ ?_|refine LeO.bind ?_ (fun _=>?_)
theorem Czv.calls (k:Nat) (A0:Option Addr) (c0:Nat) (l0:List Int) (r:Int) (w:World) (hr0:Kd.C (Kd.int .i64) w A0 l0.length l0) (hc0:l0.length≤c0) (h:Czv.f k l0=some r) :
  Calls Try.prog 79 #[.slice A0 l0.length c0] w fun e w'=>e=.returned (.int .i64 r)∧Drawn0 w w':=by
 have HR0:=aM hr0;have HC0:=aM hc0;clear hr0 hc0;have H:(Czv.l0 k l0 0 (wrap64 ((l0.length:Int) - 1)))=some r:=h;clear h;have H':=aM H;clear H;go_enter Try.func79,Try.ntmps79
 go_wp2
 go_loopg [3,4] k (fun kq v3 v4 w'=>∃ (x3_1:Int) (x4_1:Int),v3=.int .i64 x3_1∧v4=.int .i64 x4_1∧Aside0 (Czv.l0 kq l0 x3_1 x4_1=some r)∧Aside0 (kq≤k)∧Drawn0 w w')
 case atStart=>exact⟨(0),(wrap64 ((l0.length:Int) - 1)),sD,sD,H',⟨Nat.le_refl _⟩,by repeat(first|exact Drawn0.refl _|apply Drawn0.step)⟩
 case round =>
  clear H';obtain⟨x3_1,x4_1,rfl,rfl,HA,HK1,⟨m1,rfl⟩⟩:=hrel;cases gk with
  | zero=>exact absurd HA.out (by simp [Czv.l0])
  | succ k1 =>
   have H:=HA.out;clear HA;simp only[Czv.l0] at H;by_cases c2:x4_1≥0
   ·rw[if_pos c2] at H;have c2b0:decide (0≤x4_1)=true:=dE c2;clear c2;by_cases c3:0≤x4_1
    ·rw[if_pos c3] at H;have c3b0:decide (0≤x4_1)=true:=dE c3;clear c3;by_cases c4:x4_1 < (l0.length:Int)
     ·rw[if_pos c4] at H;have c4b0:decide (x4_1 < (l0.length:Int))=true:=dE c4;clear c4;have H':=aM H;clear H;have p350:0≤(x4_1:Int):=oE aS
      have q350:x4_1 < (l0.length:Int):=oE aS
      obtain⟨ad350,e350,hx350_0⟩:=Kd.at_int HR0.out x4_1 p350 q350;cases e350
      replace p350:=eq_true p350;replace q350:=eq_true q350;go_wp2
      go_roundg k1
      case measure=>have:=HK1.out;omega
      case rel=>exact⟨(wrap64 ((wrap64 (x3_1 * 1000000000))+(rd l0 x4_1))),(wrap64 (x4_1 - 1)),sD,sD,H',⟨by have:=HK1.out;omega⟩,by repeat(first|exact Drawn0.refl _|apply Drawn0.step)⟩
     ·rw[if_neg c4] at H;exact absurd H (by simp)
    ·rw[if_neg c3] at H;exact absurd H (by simp)
   ·rw[if_neg c2] at H;have c2b0:decide (0≤x4_1)=false:=decide_eq_false c2;clear c2;obtain rfl:=Option.some.inj H;go_wp2
    go_ret
    exact⟨by first|rfl|(simp;done)|(simp [*];done),by repeat(first|exact Drawn0.refl _|apply Drawn0.step)⟩

end Go.Proofs.Ytokkiljkgejnhaa.Print
