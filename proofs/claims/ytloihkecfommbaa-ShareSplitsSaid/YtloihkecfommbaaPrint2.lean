import Derived.Test.YtloihkecfommbaaPrint0
namespace Go.Proofs.Ytloihkecfommbaa.Print
open Go.RowKit Go.Proofs.YtloihkecfommbaaW.PrintWords Go.Proofs.YtloihkecfommbaaW.PrintLast Go.Proofs.YtloihkecfommbaaW.PrintMore
attribute [local go_sem] max2_int min2_int max_two min_two max_three min_three max_four min_four
set_option linter.unusedVariables false
set_option maxRecDepth 100000
set_option maxHeartbeats 8000000
set_option linter.unusedSimpArgs false

def Bzz.l0:Nat→List Int→Int→Int→Option (Int)
 | 0,_,_,_=>none
 | k+1,x0,x7,x8=>if x8 < x7 then(if 0≤x8 then(if x8 < (x0.length:Int) then((Czk.f (rd x0 x8)).bind fun t111=>(if t111=true then(some x8) else(Bzz.l0 k x0 x7 (wrap64 (x8+1))))) else(none)) else(none)) else(some (-1))
def Bzz.f (k:Nat) (l0:List Int)  : Option (Int):=Bzz.l0 k l0 (l0.length:Int) 0
theorem Bzz.mono_l:∀ k,(∀ y0 y1 y2,LeO (Bzz.l0 k y0 y1 y2) (Bzz.l0 (k+1) y0 y1 y2))
 | 0=>fun _ _ _ r h=>by simp [Bzz.l0] at h
 | k+1=>by
  have ih0:=Bzz.mono_l k
  ·intro y0 y1 y2;unfold Bzz.l0;with_reducible repeat' first|exact ih0 _ _ _|exact LeO.refl _|exact LeO.none _|refine LeO.ite ?_ ?_|refine LeO.bind ?_ (fun _=>?_)
theorem Bzz.mono:∀ a0 k,LeO (Bzz.f k a0) (Bzz.f (k+1) a0):=by
 intro a0 k;have ih0:=Bzz.mono_l k;unfold Bzz.f;with_reducible repeat' first|exact ih0 _ _ _|exact LeO.refl _|exact LeO.none _|refine LeO.ite ?_ ?_|refine LeO.bind ?_ (fun _=>?_)
theorem Bzz.calls (k:Nat) (A0:Option Addr) (c0:Nat) (l0:List Int)  (r:Int) (w:World) (hr0:Kd.C (Kd.int .i64) w A0 l0.length l0) (hc0:l0.length≤c0) (h:Bzz.f k l0=some r) :
  Calls Try.prog 41 #[.slice A0 l0.length c0,.func (.func 38) #[] #[]] w fun e w'=>e=.returned (.int .i64 r)∧Drawn0 w w':=by
 have HR0:=aM hr0;have HC0:=aM hc0;clear hr0 hc0;have H:(Bzz.l0 k l0 (l0.length:Int) 0)=some r:=h;clear h;have H':=aM H;clear H;go_enter Try.func41,Try.ntmps41
 go_wp2
 go_loopg [8] k (fun kq v8 w'=>∃ (x8_1:Int),v8=.int .i64 x8_1∧Aside0 (Bzz.l0 kq l0 (l0.length:Int) x8_1=some r)∧Aside0 (kq≤k)∧Drawn0 w w')
 case atStart=>exact⟨(0),sD,H',⟨Nat.le_refl _⟩,by repeat(first|exact Drawn0.refl _|apply Drawn0.step)⟩
 case round =>
  clear H';try clear p2
  obtain⟨x8_1,rfl,HA,HK1,⟨m1,rfl⟩⟩:=hrel;cases gk with
  | zero=>exact absurd HA.out (by simp [Bzz.l0])
  | succ k1 =>
   have H:=HA.out;clear HA;simp only[Bzz.l0] at H;by_cases c3:x8_1 < (l0.length:Int)
   ·rw[if_pos c3] at H;have c3b0:decide (x8_1 < (l0.length:Int))=true:=dE c3;clear c3;by_cases c4:0≤x8_1
    ·rw[if_pos c4] at H;have c4b0:decide (0≤x8_1)=true:=dE c4;clear c4;by_cases c5:x8_1 < (l0.length:Int)
     ·rw[if_pos c5] at H;have c5b0:decide (x8_1 < (l0.length:Int))=true:=dE c5;clear c5;replace H:=bS H;obtain⟨t111,A60,H⟩:=H;(try dsimp only at H);have A6:=aM A60;clear A60;by_cases c7:t111=true
      ·subst c7;rw[if_pos rfl] at H;obtain rfl:=Option.some.inj H;have p110:0≤(x8_1:Int):=oE aS
       have q110:x8_1 < (l0.length:Int):=oE aS
       obtain⟨ad110,e110,hx110_0⟩:=Kd.at_int HR0.out x8_1 p110 q110;cases e110
       replace p110:=eq_true p110;replace q110:=eq_true q110;go_wp2_with (first|(go_at_call 38;(with_reducible refine(Czk.calls (rd l0 x8_1) true _ A6.out).mono ?_);rintro e w' ⟨rfl,⟨nd,rfl⟩⟩))
       go_ret
       exact⟨by first|rfl|(simp;done)|(simp [*];done),by repeat(first|exact Drawn0.refl _|apply Drawn0.step)⟩
      ·replace c7:=Bool.eq_false_iff.mpr c7;subst c7;rw[if_neg (show ¬ (false=true) by decide)] at H
       have H':=aM H;clear H;have p110:0≤(x8_1:Int):=oE aS
       have q110:x8_1 < (l0.length:Int):=oE aS
       obtain⟨ad110,e110,hx110_0⟩:=Kd.at_int HR0.out x8_1 p110 q110;cases e110
       replace p110:=eq_true p110;replace q110:=eq_true q110;go_wp2_with (first|(go_at_call 38;(with_reducible refine(Czk.calls (rd l0 x8_1) false _ A6.out).mono ?_);rintro e w' ⟨rfl,⟨nd,rfl⟩⟩))
       go_roundg k1
       case measure=>have:=HK1.out;omega
       case rel=>exact⟨(wrap64 (x8_1+1)),sD,H',⟨by have:=HK1.out;omega⟩,by repeat(first|exact Drawn0.refl _|apply Drawn0.step)⟩
     ·rw[if_neg c5] at H;exact absurd H (by simp)
    ·rw[if_neg c4] at H;exact absurd H (by simp)
   ·rw[if_neg c3] at H;have c3b0:decide (x8_1 < (l0.length:Int))=false:=decide_eq_false c3;clear c3;obtain rfl:=Option.some.inj H;go_wp2
    go_ret
    exact⟨by first|rfl|(simp;done)|(simp [*];done),by repeat(first|exact Drawn0.refl _|apply Drawn0.step)⟩

def Bzy.f (k:Nat) (l0:List Int)  : Option (Bool):=(Bzz.f k l0).bind fun t112=>(some (decide (t112≥0)))
theorem Bzy.mono:∀ a0 k,LeO (Bzy.f k a0) (Bzy.f (k+1) a0):=by
 intro a0 k;unfold Bzy.f;with_reducible repeat' first|exact Bzz.mono _ _|exact LeO.refl _|exact LeO.none _|refine LeO.ite ?_ ?_|refine LeO.bind ?_ (fun _=>?_)
theorem Bzy.calls (k:Nat) (A0:Option Addr) (c0:Nat) (l0:List Int)  (r:Bool) (w:World) (hr0:Kd.C (Kd.int .i64) w A0 l0.length l0) (hc0:l0.length≤c0) (h:Bzy.f k l0=some r) :
  Calls Try.prog 29 #[.slice A0 l0.length c0,.func (.func 38) #[] #[]] w fun e w'=>e=.returned (.bool r)∧Drawn0 w w':=by
 have HR0:=aM hr0;have HC0:=aM hc0;clear hr0 hc0;have H:((Bzz.f k l0).bind fun t112=>(some (decide (t112≥0))))=some r:=h
 clear h;replace H:=bS H;obtain⟨t112,A30,H⟩:=H;replace H:(some (decide (t112≥0)))=some r:=H;have A3:=aM A30;clear A30;obtain rfl:=Option.some.inj H;go_enter Try.func29,Try.ntmps29
 go_wp2_with (first|((with_reducible refine gate_callee (f:=41) rfl ?_);refine goesL_ (some 7) rfl rfl Try.func41 (by kernel_rfl) rfl #[.slice A0 l0.length c0,.func (.func 38) #[] #[]] rfl mA ?_;(with_reducible refine(Bzz.calls k _ _ l0  t112 _ ?side1 ?side2 A3.out).mono ?_);(case side1=>exact cX HR0.out);(case side2=>exact HC0.out);rintro e w' ⟨rfl,⟨nd,rfl⟩⟩;refine⟨_,rfl,?_⟩))
 go_ret
 exact⟨by first|rfl|(simp;done)|(simp [*];done),by repeat(first|exact Drawn0.refl _|apply Drawn0.step)⟩

def Czq.j0:Nat→Int→List Int→Bool→Option (Int × Int)
 | 0,_,_,_=>none
 | k+1,x0,x1,x8=>if x8=true then(some (0,1)) else(if(x1.length:Int)=0 then(some (0,10)) else(if(x1.length:Int) > 512 then(some (0,8)) else((Bzy.f k x1).bind fun t113=>(if t113=true then(some (0,1)) else((Czw.f k x1).bind fun bt114=>(if bt114.2=0 then(if bt114.1=0 then(if x0 > 0 then(some (0,16)) else(some (bt114.1,0))) else(some (bt114.1,0))) else(some (0,2))))))))
def Czq.f (k:Nat) (a0:Int) (l1:List Int):Option (Int × Int):=if a0 < 0 then(Czq.j0 k a0 l1 true) else(Czq.j0 k a0 l1 (decide (a0 > 1125899906842624)))
theorem Czq.mono_l:∀ k,(∀ y0 y1 y2,LeO (Czq.j0 k y0 y1 y2) (Czq.j0 (k+1) y0 y1 y2))
 | 0=>fun _ _ _ r h=>by simp [Czq.j0] at h
 | k+1=>by
  have ih0:=Czq.mono_l k
  ·intro y0 y1 y2;unfold Czq.j0;with_reducible repeat' first|exact ih0 _ _ _|exact Czw.mono _ _|exact Bzy.mono _ _|exact LeO.refl _|exact LeO.none _|refine LeO.ite ?_ ?_|refine LeO.bind ?_ (fun _=>?_)
theorem Czq.mono:∀ a0 a1 k,LeO (Czq.f k a0 a1) (Czq.f (k+1) a0 a1):=by
 intro a0 a1 k;have ih0:=Czq.mono_l k;unfold Czq.f;with_reducible repeat' first|exact ih0 _ _ _|exact Czw.mono _ _|exact Bzy.mono _ _|exact LeO.refl _|exact LeO.none _|refine LeO.ite ?_ ?_|refine LeO.bind ?_ (fun _=>?_)
theorem Czq.calls (k:Nat) (a0:Int) (A1:Option Addr) (c1:Nat) (l1:List Int) (r1:Int) (r2:Int) (w:World) (hr1:Kd.C (Kd.int .i64) w A1 l1.length l1) (hc1:l1.length≤c1) (h:Czq.f k a0 l1=some (r1,r2)) :
  Calls Try.prog 23 #[.int .i64 a0,.slice A1 l1.length c1] w fun e w'=>e=.returned (.tuple #[.int .i64 r1,.int .i64 r2])∧Below w.heap.size w w':=by
 have HR1:=aM hr1;have HC1:=aM hc1;clear hr1 hc1;have HB:=aM (Below.refl w.heap.size w);have H:(if a0 < 0 then(Czq.j0 k a0 l1 true) else(Czq.j0 k a0 l1 (decide (a0 > 1125899906842624))))=some (r1,r2):=h
 clear h;have HC3:=aM H;clear H;go_enter Try.func23,Try.ntmps23
 go_upto_region 1 with (fail)
 go_cut [8] (fun v8 wc=>∃ (kq:Nat) (x8_2:Bool),v8=.bool x8_2∧Aside0 (Czq.j0 kq a0 l1 x8_2=some (r1,r2))∧Aside0 (kq≤k)∧Aside0 (Below w.heap.size w wc))
 case first =>
  have H:=HC3.out;clear HC3;by_cases c4:a0 < 0
  ·rw[if_pos c4] at H;have c4b0:decide (a0 < 0)=true:=dE c4;clear c4;(first|rw[c4b0]|(simp only[i64_w,i32_w];rw[c4b0])|skip)
   have H':=aM H;clear H;go_wp2
   go_meet
   case rel=>exact⟨_,(true),sD,H',⟨by first|omega|exact Nat.le_refl _⟩,⟨pB⟩⟩
  ·rw[if_neg c4] at H;have c4b0:decide (a0 < 0)=false:=decide_eq_false c4;clear c4;(first|rw[c4b0]|(simp only[i64_w,i32_w];rw[c4b0])|skip)
   have H':=aM H;clear H;go_wp2
   go_meet
   case rel=>exact⟨_,(decide (a0 > 1125899906842624)),sD,H',⟨by first|omega|exact Nat.le_refl _⟩,⟨pB⟩⟩
 case rest =>
  clear HC3;try clear c1
  try clear c2
  try clear p2
  try clear c4
  try clear c4b0
  obtain⟨kq,x8_2,rfl,HA,HJ2,HB⟩:=hcut;cases kq with
  | zero=>exact absurd HA.out (by simp [Czq.j0])
  | succ kj2 =>
   have H:=HA.out;clear HA;simp only[Czq.j0] at H;by_cases c5:x8_2=true
   ·subst c5;rw[if_pos rfl] at H;simp only[Option.some.injEq,Prod.mk.injEq] at H;obtain⟨rfl,rfl⟩:=H;go_wp2
    go_ret2
    exact⟨eW,pB⟩
   ·replace c5:=Bool.eq_false_iff.mpr c5;subst c5;rw[if_neg (show ¬ (false=true) by decide)] at H
    by_cases c6:(l1.length:Int)=0
    ·rw[if_pos c6] at H;have c6b0:((l1.length:Int) == 0)=true:=beq_iff_eq.mpr c6;have c6b1:((l1.length:Int) != 0)=false:=bne_eq_false_iff_eq.mpr c6;clear c6;simp only[Option.some.injEq,Prod.mk.injEq] at H;obtain⟨rfl,rfl⟩:=H;go_wp2
     go_ret2
     exact⟨eW,pB⟩
    ·rw[if_neg c6] at H;have c6b0:((l1.length:Int) == 0)=false:=beq_eq_false_iff_ne.mpr c6;have c6b1:((l1.length:Int) != 0)=true:=bne_iff_ne.mpr c6;have c6b2:¬ (l1=[]):=fun h_=>c6 (by rw[h_];rfl)
     by_cases c7:(l1.length:Int) > 512
     ·rw[if_pos c7] at H;have c7b0:decide (512 < (l1.length:Int))=true:=dE c7;have c7b1:decide (512 < l1.length)=true:=dE (by omega)
      clear c7;simp only[Option.some.injEq,Prod.mk.injEq] at H;obtain⟨rfl,rfl⟩:=H;go_wp2
      go_ret2
      exact⟨eW,pB⟩
     ·rw[if_neg c7] at H;have c7b0:decide (512 < (l1.length:Int))=false:=decide_eq_false c7;have c7b1:decide (512 < l1.length)=false:=decide_eq_false (by omega)
      clear c7;replace H:=bS H;obtain⟨t113,A80,H⟩:=H;(try dsimp only at H);have A8:=aM A80;clear A80;by_cases c9:t113=true
      ·subst c9;rw[if_pos rfl] at H;simp only[Option.some.injEq,Prod.mk.injEq] at H;obtain⟨rfl,rfl⟩:=H;go_wp2_with (first|((with_reducible refine gate_callee (f:=29) rfl ?_);refine goesL_ (some 25) rfl rfl Try.func29 (by kernel_rfl) rfl #[.slice A1 l1.length c1,.func (.func 38) #[] #[]] rfl mA ?_;(with_reducible refine(Bzy.calls kj2 _ _ l1  true _ ?side1 ?side2 A8.out).mono ?_);(case side1=>exact cX (Kd.C_below HR1.out HB.out));(case side2=>exact HC1.out);rintro e w' ⟨rfl,⟨nd,rfl⟩⟩;refine⟨_,rfl,?_⟩))
       go_ret2
       exact⟨eW,pB⟩
      ·replace c9:=Bool.eq_false_iff.mpr c9;subst c9;rw[if_neg (show ¬ (false=true) by decide)] at H
       replace H:=bS H;obtain⟨⟨t114,t115⟩,A100,H⟩:=H;(try dsimp only at H);have A10:=aM A100;clear A100;by_cases c11:t115=0
       ·rw[if_pos c11] at H;have c11b0:(t115 == 0)=true:=beq_iff_eq.mpr c11;have c11b1:(t115 != 0)=false:=bne_eq_false_iff_eq.mpr c11;clear c11;by_cases c12:t114=0
        ·rw[if_pos c12] at H;have c12b0:(t114 == 0)=true:=beq_iff_eq.mpr c12;have c12b1:(t114 != 0)=false:=bne_eq_false_iff_eq.mpr c12;clear c12;by_cases c13:a0 > 0
         ·rw[if_pos c13] at H;have c13b0:decide (0 < a0)=true:=dE c13;clear c13;simp only[Option.some.injEq,Prod.mk.injEq] at H;obtain⟨rfl,rfl⟩:=H;go_wp2_with (first|((with_reducible refine gate_callee (f:=29) rfl ?_);refine goesL_ (some 25) rfl rfl Try.func29 (by kernel_rfl) rfl #[.slice A1 l1.length c1,.func (.func 38) #[] #[]] rfl mA ?_;(with_reducible refine(Bzy.calls kj2 _ _ l1  false _ ?side1 ?side2 A8.out).mono ?_);(case side1=>exact cX (Kd.C_below HR1.out HB.out));(case side2=>exact HC1.out);rintro e w' ⟨rfl,⟨nd,rfl⟩⟩;refine⟨_,rfl,?_⟩)|((with_reducible refine gate_callee (f:=31) rfl ?_);refine goesL_ (some 28) rfl rfl Try.func31 (by kernel_rfl) rfl #[.slice A1 l1.length c1] rfl mA ?_;(with_reducible refine(Czw.calls kj2 _ _ l1 t114 t115 _ ?side1 ?side2 A10.out).mono ?_);(case side1=>repeat(first|exact(Kd.C_below HR1.out pB)|(with_reducible refine Kd.C_alloc ?_ _)|(with_reducible refine Kd.C_drewN ?_ _)|(with_reducible refine Kd.C_drew ?_)));(case side2=>exact HC1.out);rintro e w14 ⟨rfl,hb⟩;refine⟨_,rfl,?_⟩;replace HB:=aM (below_step pB hb);(try clear hb);(try clear hb2);(try clear hk);(try clear hi)))
          go_ret2
          exact⟨eW,pB⟩
         ·rw[if_neg c13] at H;have c13b0:decide (0 < a0)=false:=decide_eq_false c13;clear c13;simp only[Option.some.injEq,Prod.mk.injEq] at H;obtain⟨rfl,rfl⟩:=H;go_wp2_with (first|((with_reducible refine gate_callee (f:=29) rfl ?_);refine goesL_ (some 25) rfl rfl Try.func29 (by kernel_rfl) rfl #[.slice A1 l1.length c1,.func (.func 38) #[] #[]] rfl mA ?_;(with_reducible refine(Bzy.calls kj2 _ _ l1  false _ ?side1 ?side2 A8.out).mono ?_);(case side1=>exact cX (Kd.C_below HR1.out HB.out));(case side2=>exact HC1.out);rintro e w' ⟨rfl,⟨nd,rfl⟩⟩;refine⟨_,rfl,?_⟩)|((with_reducible refine gate_callee (f:=31) rfl ?_);refine goesL_ (some 28) rfl rfl Try.func31 (by kernel_rfl) rfl #[.slice A1 l1.length c1] rfl mA ?_;(with_reducible refine(Czw.calls kj2 _ _ l1 t114 t115 _ ?side1 ?side2 A10.out).mono ?_);(case side1=>repeat(first|exact(Kd.C_below HR1.out pB)|(with_reducible refine Kd.C_alloc ?_ _)|(with_reducible refine Kd.C_drewN ?_ _)|(with_reducible refine Kd.C_drew ?_)));(case side2=>exact HC1.out);rintro e w15 ⟨rfl,hb⟩;refine⟨_,rfl,?_⟩;replace HB:=aM (below_step pB hb);(try clear hb);(try clear hb2);(try clear hk);(try clear hi)))
          go_ret2
          exact⟨eW,pB⟩
        ·rw[if_neg c12] at H;have c12b0:(t114 == 0)=false:=beq_eq_false_iff_ne.mpr c12;have c12b1:(t114 != 0)=true:=bne_iff_ne.mpr c12;simp only[Option.some.injEq,Prod.mk.injEq] at H;obtain⟨rfl,rfl⟩:=H;go_wp2_with (first|((with_reducible refine gate_callee (f:=29) rfl ?_);refine goesL_ (some 25) rfl rfl Try.func29 (by kernel_rfl) rfl #[.slice A1 l1.length c1,.func (.func 38) #[] #[]] rfl mA ?_;(with_reducible refine(Bzy.calls kj2 _ _ l1  false _ ?side1 ?side2 A8.out).mono ?_);(case side1=>exact cX (Kd.C_below HR1.out HB.out));(case side2=>exact HC1.out);rintro e w' ⟨rfl,⟨nd,rfl⟩⟩;refine⟨_,rfl,?_⟩)|((with_reducible refine gate_callee (f:=31) rfl ?_);refine goesL_ (some 28) rfl rfl Try.func31 (by kernel_rfl) rfl #[.slice A1 l1.length c1] rfl mA ?_;(with_reducible refine(Czw.calls kj2 _ _ l1 t114 t115 _ ?side1 ?side2 A10.out).mono ?_);(case side1=>repeat(first|exact(Kd.C_below HR1.out pB)|(with_reducible refine Kd.C_alloc ?_ _)|(with_reducible refine Kd.C_drewN ?_ _)|(with_reducible refine Kd.C_drew ?_)));(case side2=>exact HC1.out);rintro e w16 ⟨rfl,hb⟩;refine⟨_,rfl,?_⟩;replace HB:=aM (below_step pB hb);(try clear hb);(try clear hb2);(try clear hk);(try clear hi)))
         go_ret2
         exact⟨eW,pB⟩
       ·rw[if_neg c11] at H;have c11b0:(t115 == 0)=false:=beq_eq_false_iff_ne.mpr c11;have c11b1:(t115 != 0)=true:=bne_iff_ne.mpr c11;simp only[Option.some.injEq,Prod.mk.injEq] at H;obtain⟨rfl,rfl⟩:=H;go_wp2_with (first|((with_reducible refine gate_callee (f:=29) rfl ?_);refine goesL_ (some 25) rfl rfl Try.func29 (by kernel_rfl) rfl #[.slice A1 l1.length c1,.func (.func 38) #[] #[]] rfl mA ?_;(with_reducible refine(Bzy.calls kj2 _ _ l1  false _ ?side1 ?side2 A8.out).mono ?_);(case side1=>exact cX (Kd.C_below HR1.out HB.out));(case side2=>exact HC1.out);rintro e w' ⟨rfl,⟨nd,rfl⟩⟩;refine⟨_,rfl,?_⟩)|((with_reducible refine gate_callee (f:=31) rfl ?_);refine goesL_ (some 28) rfl rfl Try.func31 (by kernel_rfl) rfl #[.slice A1 l1.length c1] rfl mA ?_;(with_reducible refine(Czw.calls kj2 _ _ l1 t114 t115 _ ?side1 ?side2 A10.out).mono ?_);(case side1=>repeat(first|exact(Kd.C_below HR1.out pB)|(with_reducible refine Kd.C_alloc ?_ _)|(with_reducible refine Kd.C_drewN ?_ _)|(with_reducible refine Kd.C_drew ?_)));(case side2=>exact HC1.out);rintro e w17 ⟨rfl,hb⟩;refine⟨_,rfl,?_⟩;replace HB:=aM (below_step pB hb);(try clear hb);(try clear hb2);(try clear hk);(try clear hi)))
        go_ret2
        exact⟨eW,pB⟩

end Go.Proofs.Ytloihkecfommbaa.Print
