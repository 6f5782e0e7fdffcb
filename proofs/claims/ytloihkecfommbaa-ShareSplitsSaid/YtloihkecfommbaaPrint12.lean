import Derived.Test.YtloihkecfommbaaPrint0
import Derived.Test.YtloihkecfommbaaPrint2
import Derived.Test.YtloihkecfommbaaPrint5
namespace Go.Proofs.Ytloihkecfommbaa.Print
open Go.RowKit Go.Proofs.YtloihkecfommbaaW.PrintWords Go.Proofs.YtloihkecfommbaaW.PrintLast Go.Proofs.YtloihkecfommbaaW.PrintMore
attribute [local go_sem] max2_int min2_int max_two min_two max_three min_three max_four min_four
set_option linter.unusedVariables false
set_option maxRecDepth 100000
set_option maxHeartbeats 8000000
set_option linter.unusedSimpArgs false

def Czz.l0:Nat→Int→Int→List Int→Int→List Int→Int→Int→Option (List Int × Int)
 | 0,_,_,_,_,_,_,_=>none
 | k+1,x0,x6,x8,x9,x23,x24,x25=>if x25 < x24 then(if 0≤x25 then(if x25 < (x23.length:Int) then((Czy.f x0 (wrap64 (x9+(rd x23 x25))) x6).bind fun bt229=>(if x8.length < 17592186044416 then(Czz.l0 k x0 x6 (x8 ++ [bt229.1]) (wrap64 (x9+(rd x23 x25))) x23 x24 (wrap64 (x25+1))) else(none))) else(none)) else(none)) else(some (x8,0))
def Czz.f (k:Nat) (a0:Int) (l1:List Int):Option (List Int × Int):=(Czq.f k a0 l1).bind fun bt226=>(if bt226.2=0 then(Czz.l0 k a0 bt226.1 ([]:List Int) 0 l1 (l1.length:Int) 0) else(some (([]:List Int),bt226.2)))
theorem Czz.mono_l:∀ k,(∀ y0 y1 y2 y3 y4 y5 y6,LeO (Czz.l0 k y0 y1 y2 y3 y4 y5 y6) (Czz.l0 (k+1) y0 y1 y2 y3 y4 y5 y6))
 | 0=>fun _ _ _ _ _ _ _ r h=>by simp [Czz.l0] at h
 | k+1=>by
  have ih0:=Czz.mono_l k
  ·intro y0 y1 y2 y3 y4 y5 y6;unfold Czz.l0;with_reducible repeat' first|exact ih0 _ _ _ _ _ _ _|exact Czq.mono _ _ _|exact LeO.refl _|exact LeO.none _|refine LeO.ite ?_ ?_|refine LeO.bind ?_ (fun _=>?_)
theorem Czz.mono:∀ a0 a1 k,LeO (Czz.f k a0 a1) (Czz.f (k+1) a0 a1):=by
 intro a0 a1 k;have ih0:=Czz.mono_l k;unfold Czz.f;with_reducible repeat' first|exact ih0 _ _ _ _ _ _ _|exact Czq.mono _ _ _|exact LeO.refl _|exact LeO.none _|refine LeO.ite ?_ ?_|refine LeO.bind ?_ (fun _=>?_)
theorem Czz.calls (k:Nat) (a0:Int) (A1:Option Addr) (c1:Nat) (l1:List Int) (r1:List Int) (r2:Int) (w:World) (hr1:Kd.C (Kd.int .i64) w A1 l1.length l1) (hc1:l1.length≤c1) (h:Czz.f k a0 l1=some (r1,r2)) :
  Calls Try.prog 13 #[.int .i64 a0,.slice A1 l1.length c1] w fun e w'=>∃ v0_:Value,e=.returned (.tuple #[v0_,.int .i64 r2])∧Kd.R (Kd.int .i64) 3 w' w.heap.size (fun _=>True) v0_ r1∧Below w.heap.size w w':=by
 have HR1:=aM hr1;have HC1:=aM hc1;clear hr1 hc1;have HB:=aM (Below.refl w.heap.size w);have H:((Czq.f k a0 l1).bind fun bt226=>(if bt226.2=0 then(Czz.l0 k a0 bt226.1 ([]:List Int) 0 l1 (l1.length:Int) 0) else(some (([]:List Int),bt226.2))))=some (r1,r2):=h
 clear h;replace H:=bS H;obtain⟨⟨t226,t227⟩,A30,H⟩:=H;(try dsimp only at H);have A3:=aM A30;clear A30;by_cases c4:t227=0
 ·rw[if_pos c4] at H;have c4b0:(t227 == 0)=true:=beq_iff_eq.mpr c4;have c4b1:(t227 != 0)=false:=bne_eq_false_iff_eq.mpr c4;clear c4;have H':=aM H;clear H;go_enter Try.func13,Try.ntmps13
  go_wp2_with (first|((with_reducible refine gate_callee (f:=23) rfl ?_);refine goesL_ (some 17) rfl rfl Try.func23 (by kernel_rfl) rfl #[.int .i64 a0,.slice A1 l1.length c1] rfl mA ?_;(with_reducible refine(Czq.calls k a0 _ _ l1 t226 t227 _ ?side1 ?side2 A3.out).mono ?_);(case side1=>exact cX HR1.out);(case side2=>exact HC1.out);rintro e w5 ⟨rfl,hb⟩;refine⟨_,rfl,?_⟩;replace HB:=aM (below_step pB hb);(try clear hb);(try clear hb2);(try clear hk);(try clear hi)))
  try simp only[Act.put,sA,sZ,sC]
  go_loopg [8,9,25] k (fun kq v8 v9 v25 w'=>∃ (x8_1:List Int) (x9_1:Int) (x25_1:Int),v9=.int .i64 x9_1∧v25=.int .i64 x25_1∧Aside0 (Czz.l0 kq a0 t226 x8_1 x9_1 l1 (l1.length:Int) x25_1=some (r1,r2))∧Aside0 (kq≤k)∧Aside0 (Kd.R (Kd.int .i64) 3 w' w.heap.size (fun _=>True) v8 x8_1)∧Aside0 (Below w.heap.size w w'))
  case atStart=>exact⟨(([]:List Int)),(0),(0),sD,sD,H',⟨Nat.le_refl _⟩,⟨by first|exact Kd.R_nil _ _ _ _ _|exact Kd.N_nil _ _ _ _ _|exact Kd.V_nil _ _ _ _ _|exact Kd.Q_nil _ _ _ _ _|exact Kd.S_nil _ _ _ _ _⟩,⟨pB⟩⟩
  case round =>
   clear H';try clear c1
   try clear c2
   try clear p2
   try clear c4
   try clear c4b0
   try clear c4b1
   obtain⟨x8_1,x9_1,x25_1,rfl,rfl,HA,HK1,HO_8,HB⟩:=hrel;cases gk with
   | zero=>exact absurd HA.out (by simp [Czz.l0])
   | succ k1 =>
    have H:=HA.out;clear HA;simp only[Czz.l0] at H;by_cases c6:x25_1 < (l1.length:Int)
    ·rw[if_pos c6] at H;have c6b0:decide (x25_1 < (l1.length:Int))=true:=dE c6;clear c6;by_cases c7:0≤x25_1
     ·rw[if_pos c7] at H;have c7b0:decide (0≤x25_1)=true:=dE c7;clear c7;by_cases c8:x25_1 < (l1.length:Int)
      ·rw[if_pos c8] at H;have c8b0:decide (x25_1 < (l1.length:Int))=true:=dE c8;clear c8;replace H:=bS H;obtain⟨⟨t229,t230⟩,A90,H⟩:=H;(try dsimp only at H);have A9:=aM A90;clear A90;by_cases c10:x8_1.length < 17592186044416
       ·rw[if_pos c10] at H;have LMc10:=aM c10;clear c10;obtain⟨y231,hy231⟩:∃ y_:List Int,y_=(x8_1 ++ [t229]):=⟨_,rfl⟩;replace H:(Czz.l0 k1 a0 t226 y231 (wrap64 (x9_1+(rd l1 x25_1))) l1 (l1.length:Int) (wrap64 (x25_1+1)))=some (r1,r2):=by first|(rw[hy231];with_reducible exact H)|(have H2_:=(Option.bind_some _ _).symm.trans H;rw[hy231];with_reducible exact H2_)|(have H2_:=(Option.bind_some _ _).symm.trans H;with_reducible exact H2_)|with_reducible exact H|(rw[hy231];exact H)|exact H
        have Ny231:=aM hy231;clear hy231;have H':=aM H;clear H;have p228:0≤(x25_1:Int):=oE aS
        have q228:x25_1 < (l1.length:Int):=oE aS
        obtain⟨ad228,e228,hx228_0⟩:=Kd.at_int HR1.out x25_1 p228 q228;cases e228
        replace hx228_0:=(HB.out.cell (World.block_lt_of_cell? w _ hx228_0)).trans hx228_0;replace p228:=eq_true p228;replace q228:=eq_true q228;go_wp2_with (first|((with_reducible refine gate_callee (f:=24) rfl ?_);refine goesL_ (some 36) rfl rfl Try.func24 (by kernel_rfl) rfl #[.int .i64 a0,.int .i64 (wrap64 (x9_1+(rd l1 x25_1))),.int .i64 t226] rfl mA ?_;(with_reducible refine(Czy.calls a0 (wrap64 (x9_1+(rd l1 x25_1))) t226 t229 t230 _ A9.out).mono ?_);rintro e w11 ⟨rfl,hb⟩;refine⟨_,rfl,?_⟩;replace HO_8:=aM (Kd.R_below (rX HO_8.out) hb);replace HB:=aM (below_step pB hb);(try clear hb);(try clear hb2);(try clear hk);(try clear hi))|((with_reducible refine gate_builtin (b:=.append) (xs:=#[.tmp 39,.tmp 41]) rfl ?_);at_builtin;refine Kd.R_append (Kd.int .i64) (w0:=w) w.heap.size rfl (.tmp 39) (.tmp 41) 22 3 (.int .i64 0) 8 rfl Try.underlying22 info3 rfl (by decide) (by omega) u8 x8_1 t229 [.int .i64 t229] (fun _=>True) (fun _=>False) rfl rfl ?aP (fun _ hk=>hk.elim) ?aF ?aO ?aB ?aS ?aL ?_;(case aP=>exact rfl);(case aB=>exact pB);(case aF=>exact(fun _ _=>trivial));(case aO=>exact(rX HO_8.out));(case aS=>exact(below_size pB));(case aL=>have:=LMc10.out;omega);intro v232 w12 ho hb hg hat;rw[← Ny231.out] at ho;have HO233:=aM (ho);replace HB:=aM (hb);clear HO_8;clear ho hb hg hat))
        go_roundg k1
        case measure=>have:=HK1.out;omega
        case rel=>exact⟨(y231),(wrap64 (x9_1+(rd l1 x25_1))),(wrap64 (x25_1+1)),sD,sD,H',⟨by have:=HK1.out;omega⟩,⟨rX HO233.out⟩,⟨pB⟩⟩
       ·rw[if_neg c10] at H;exact absurd H (by simp)
      ·rw[if_neg c8] at H;exact absurd H (by simp)
     ·rw[if_neg c7] at H;exact absurd H (by simp)
    ·rw[if_neg c6] at H;have c6b0:decide (x25_1 < (l1.length:Int))=false:=decide_eq_false c6;clear c6;simp only[Option.some.injEq,Prod.mk.injEq] at H;obtain⟨rfl,rfl⟩:=H;go_wp2
     go_ret2
     exact⟨_,eW,rX HO_8.out,pB⟩
 ·rw[if_neg c4] at H;have c4b0:(t227 == 0)=false:=beq_eq_false_iff_ne.mpr c4;have c4b1:(t227 != 0)=true:=bne_iff_ne.mpr c4;simp only[Option.some.injEq,Prod.mk.injEq] at H;obtain⟨rfl,rfl⟩:=H;go_enter Try.func13,Try.ntmps13
  go_wp2_with (first|((with_reducible refine gate_callee (f:=23) rfl ?_);refine goesL_ (some 17) rfl rfl Try.func23 (by kernel_rfl) rfl #[.int .i64 a0,.slice A1 l1.length c1] rfl mA ?_;(with_reducible refine(Czq.calls k a0 _ _ l1 t226 t227 _ ?side1 ?side2 A3.out).mono ?_);(case side1=>exact cX HR1.out);(case side2=>exact HC1.out);rintro e w13 ⟨rfl,hb⟩;refine⟨_,rfl,?_⟩;replace HB:=aM (below_step pB hb);(try clear hb);(try clear hb2);(try clear hk);(try clear hi)))
  go_ret2
  exact⟨_,eW,by first|exact Kd.R_nil _ _ _ _ _|exact Kd.N_nil _ _ _ _ _|exact Kd.V_nil _ _ _ _ _|exact Kd.Q_nil _ _ _ _ _|exact Kd.S_nil _ _ _ _ _,pB⟩

def Bzj.l0:Nat→List Int→List Int→Int→Option (Bool)
 | 0,_,_,_=>none
 | k+1,x0,x1,x5=>if x5 < (x0.length:Int) then(if 0≤x5 then(if x5 < (x1.length:Int) then(if(rd x0 x5)=(rd x1 x5) then(Bzj.l0 k x0 x1 (wrap64 (x5+1))) else(some false)) else(none)) else(none)) else(some true)
def Bzj.f (k:Nat) (l0:List Int) (l1:List Int):Option (Bool):=if(l0.length:Int)=(l1.length:Int) then(Bzj.l0 k l0 l1 0) else(some false)
theorem Bzj.mono_l:∀ k,(∀ y0 y1 y2,LeO (Bzj.l0 k y0 y1 y2) (Bzj.l0 (k+1) y0 y1 y2))
 | 0=>fun _ _ _ r h=>by simp [Bzj.l0] at h
 | k+1=>by
  have ih0:=Bzj.mono_l k
  ·intro y0 y1 y2;unfold Bzj.l0;with_reducible repeat' first|exact ih0 _ _ _|exact LeO.refl _|exact LeO.none _|refine LeO.ite ?_ ?_|refine LeO.bind ?_ (fun _=>?_)
theorem Bzj.mono:∀ a0 a1 k,LeO (Bzj.f k a0 a1) (Bzj.f (k+1) a0 a1):=by
 intro a0 a1 k;have ih0:=Bzj.mono_l k;unfold Bzj.f;with_reducible repeat' first|exact ih0 _ _ _|exact LeO.refl _|exact LeO.none _|refine LeO.ite ?_ ?_|refine LeO.bind ?_ (fun _=>?_)
theorem Bzj.calls (k:Nat) (A0:Option Addr) (c0:Nat) (l0:List Int) (A1:Option Addr) (c1:Nat) (l1:List Int) (r:Bool) (w:World) (hr0:Kd.C (Kd.int .i64) w A0 l0.length l0) (hc0:l0.length≤c0) (hr1:Kd.C (Kd.int .i64) w A1 l1.length l1) (hc1:l1.length≤c1) (h:Bzj.f k l0 l1=some r) :
  Calls Try.prog 15 #[.slice A0 l0.length c0,.slice A1 l1.length c1] w fun e w'=>e=.returned (.bool r)∧Drawn0 w w':=by
 have HR0:=aM hr0;have HC0:=aM hc0;clear hr0 hc0;have HR1:=aM hr1;have HC1:=aM hc1;clear hr1 hc1;have H:(if(l0.length:Int)=(l1.length:Int) then(Bzj.l0 k l0 l1 0) else(some false))=some r:=h
 clear h;by_cases c3:(l0.length:Int)=(l1.length:Int)
 ·rw[if_pos c3] at H;have c3b0:((l0.length:Int) == (l1.length:Int))=true:=beq_iff_eq.mpr c3;have c3b1:((l0.length:Int) != (l1.length:Int))=false:=bne_eq_false_iff_eq.mpr c3;have c3b2:(l0.length == l1.length)=true:=by first|simpa using c3|(simp at c3 ⊢;omega)
  clear c3;have H':=aM H;clear H;go_enter Try.func15,Try.ntmps15
  go_wp2
  repeat(go_quiet (fail);try go_wp2)
  go_loopg [5] k (fun kq v5 w'=>∃ (x5_1:Int),v5=.int .i64 x5_1∧Aside0 (Bzj.l0 kq l0 l1 x5_1=some r)∧Aside0 (kq≤k)∧Drawn0 w w')
  case atStart=>exact⟨(0),sD,H',⟨Nat.le_refl _⟩,by repeat(first|exact Drawn0.refl _|apply Drawn0.step)⟩
  case round =>
   clear H';try clear c1
   try clear p2
   try clear c3
   try clear c3b0
   try clear c3b1
   try clear c3b2
   obtain⟨x5_1,rfl,HA,HK1,⟨m1,rfl⟩⟩:=hrel;cases gk with
   | zero=>exact absurd HA.out (by simp [Bzj.l0])
   | succ k1 =>
    have H:=HA.out;clear HA;simp only[Bzj.l0] at H;by_cases c4:x5_1 < (l0.length:Int)
    ·rw[if_pos c4] at H;have c4b0:decide (x5_1 < (l0.length:Int))=true:=dE c4;clear c4;by_cases c5:0≤x5_1
     ·rw[if_pos c5] at H;have c5b0:decide (0≤x5_1)=true:=dE c5;clear c5;by_cases c6:x5_1 < (l1.length:Int)
      ·rw[if_pos c6] at H;have c6b0:decide (x5_1 < (l1.length:Int))=true:=dE c6;clear c6;by_cases c7:(rd l0 x5_1)=(rd l1 x5_1)
       ·rw[if_pos c7] at H;have c7b0:((rd l0 x5_1) == (rd l1 x5_1))=true:=beq_iff_eq.mpr c7;have c7b1:((rd l0 x5_1) != (rd l1 x5_1))=false:=bne_eq_false_iff_eq.mpr c7;clear c7;have H':=aM H;clear H;have p234:0≤(x5_1:Int):=oE aS
        have q234:x5_1 < (l0.length:Int):=oE aS
        obtain⟨ad234,e234,hx234_0⟩:=Kd.at_int HR0.out x5_1 p234 q234;cases e234
        replace p234:=eq_true p234;replace q234:=eq_true q234;have p235:0≤(x5_1:Int):=oE aS
        have q235:x5_1 < (l1.length:Int):=oE aS
        obtain⟨ad235,e235,hx235_0⟩:=Kd.at_int HR1.out x5_1 p235 q235;cases e235
        replace p235:=eq_true p235;replace q235:=eq_true q235;go_wp2
        repeat(go_quiet (fail);try go_wp2)
        go_roundg k1
        case measure=>have:=HK1.out;omega
        case rel=>exact⟨(wrap64 (x5_1+1)),sD,H',⟨by have:=HK1.out;omega⟩,by repeat(first|exact Drawn0.refl _|apply Drawn0.step)⟩
       ·rw[if_neg c7] at H;have c7b0:((rd l0 x5_1) == (rd l1 x5_1))=false:=beq_eq_false_iff_ne.mpr c7;have c7b1:((rd l0 x5_1) != (rd l1 x5_1))=true:=bne_iff_ne.mpr c7;obtain rfl:=Option.some.inj H;have p234:0≤(x5_1:Int):=oE aS
        have q234:x5_1 < (l0.length:Int):=oE aS
        obtain⟨ad234,e234,hx234_0⟩:=Kd.at_int HR0.out x5_1 p234 q234;cases e234
        replace p234:=eq_true p234;replace q234:=eq_true q234;have p235:0≤(x5_1:Int):=oE aS
        have q235:x5_1 < (l1.length:Int):=oE aS
        obtain⟨ad235,e235,hx235_0⟩:=Kd.at_int HR1.out x5_1 p235 q235;cases e235
        replace p235:=eq_true p235;replace q235:=eq_true q235;go_wp2
        repeat(go_quiet (fail);try go_wp2)
        go_ret
        exact⟨by first|rfl|(simp;done)|(simp [*];done),by repeat(first|exact Drawn0.refl _|apply Drawn0.step)⟩
      ·rw[if_neg c6] at H;exact absurd H (by simp)
     ·rw[if_neg c5] at H;exact absurd H (by simp)
    ·rw[if_neg c4] at H;have c4b0:decide (x5_1 < (l0.length:Int))=false:=decide_eq_false c4;clear c4;obtain rfl:=Option.some.inj H;go_wp2
     repeat(go_quiet (fail);try go_wp2)
     go_ret
     exact⟨by first|rfl|(simp;done)|(simp [*];done),by repeat(first|exact Drawn0.refl _|apply Drawn0.step)⟩
 ·rw[if_neg c3] at H;have c3b0:((l0.length:Int) == (l1.length:Int))=false:=beq_eq_false_iff_ne.mpr c3;have c3b1:((l0.length:Int) != (l1.length:Int))=true:=bne_iff_ne.mpr c3;have c3b2:(l0.length == l1.length)=false:=by first|simpa using c3|(simp at c3 ⊢;omega)
  obtain rfl:=Option.some.inj H;go_enter Try.func15,Try.ntmps15
  go_wp2
  repeat(go_quiet (fail);try go_wp2)
  go_ret
  exact⟨by first|rfl|(simp;done)|(simp [*];done),by repeat(first|exact Drawn0.refl _|apply Drawn0.step)⟩

def Czx.f (a0:Int):Option (Bool):=some (decide (a0 < 0))
theorem Czx.calls (a0:Int) (r:Bool) (w:World) (h:Czx.f a0=some r) :
  Calls Try.prog 30 #[.int .i64 a0] w fun e w'=>e=.returned (.bool r)∧Drawn0 w w':=by
 have H:(some (decide (a0 < 0)))=some r:=h;clear h;obtain rfl:=Option.some.inj H;go_enter Try.func30,Try.ntmps30
 go_wp2
 go_ret
 exact⟨by first|rfl|(simp;done)|(simp [*];done),by repeat(first|exact Drawn0.refl _|apply Drawn0.step)⟩

end Go.Proofs.Ytloihkecfommbaa.Print
