import Derived.Test.YtloihkecfommbaaPrint0
import Derived.Test.YtloihkecfommbaaPrint12
import Derived.Test.YtloihkecfommbaaPrint11
namespace Go.Proofs.Ytloihkecfommbaa.Print
open Go.RowKit Go.Proofs.YtloihkecfommbaaW.PrintWords Go.Proofs.YtloihkecfommbaaW.PrintLast Go.Proofs.YtloihkecfommbaaW.PrintMore
attribute [local go_sem] max2_int min2_int max_two min_two max_three min_three max_four min_four
set_option linter.unusedVariables false
set_option maxRecDepth 100000
set_option maxHeartbeats 8000000
set_option linter.unusedSimpArgs false

def Bzp.l0:Nat→List Int→List Int→Int→Int→Option (Bool)
 | 0,_,_,_,_=>none
 | k+1,x0,x1,x12,x13=>if x13 < x12 then(if 0≤x13 then(if x13 < (x0.length:Int) then(if x13 < (x1.length:Int) then(if(rd x0 x13)=(rd x1 x13) then(Bzp.l0 k x0 x1 x12 (wrap64 (x13+1))) else(some false)) else(none)) else(none)) else(none)) else(some true)
def Bzp.f (k:Nat) (l0:List Int) (l1:List Int):Option (Bool):=if(l0.length:Int)=(l1.length:Int) then(Bzp.l0 k l0 l1 (l0.length:Int) 0) else(some false)
theorem Bzp.mono_l:∀ k,(∀ y0 y1 y2 y3,LeO (Bzp.l0 k y0 y1 y2 y3) (Bzp.l0 (k+1) y0 y1 y2 y3))
 | 0=>fun _ _ _ _ r h=>by simp [Bzp.l0] at h
 | k+1=>by
  have ih0:=Bzp.mono_l k
  ·intro y0 y1 y2 y3;unfold Bzp.l0;with_reducible repeat' first|exact ih0 _ _ _ _|exact LeO.refl _|exact LeO.none _|refine LeO.ite ?_ ?_|refine LeO.bind ?_ (fun _=>?_)
theorem Bzp.mono:∀ a0 a1 k,LeO (Bzp.f k a0 a1) (Bzp.f (k+1) a0 a1):=by
 intro a0 a1 k;have ih0:=Bzp.mono_l k;unfold Bzp.f;with_reducible repeat' first|exact ih0 _ _ _ _|exact LeO.refl _|exact LeO.none _|refine LeO.ite ?_ ?_|refine LeO.bind ?_ (fun _=>?_)
theorem Bzp.calls (k:Nat) (A0:Option Addr) (c0:Nat) (l0:List Int) (A1:Option Addr) (c1:Nat) (l1:List Int) (r:Bool) (w:World) (hr0:Kd.C (Kd.int .i64) w A0 l0.length l0) (hc0:l0.length≤c0) (hr1:Kd.C (Kd.int .i64) w A1 l1.length l1) (hc1:l1.length≤c1) (h:Bzp.f k l0 l1=some r) :
  Calls Try.prog 32 #[.slice A0 l0.length c0,.slice A1 l1.length c1] w fun e w'=>e=.returned (.bool r)∧Drawn0 w w':=by
 have HR0:=aM hr0;have HC0:=aM hc0;clear hr0 hc0;have HR1:=aM hr1;have HC1:=aM hc1;clear hr1 hc1;have H:(if(l0.length:Int)=(l1.length:Int) then(Bzp.l0 k l0 l1 (l0.length:Int) 0) else(some false))=some r:=h
 clear h;by_cases c3:(l0.length:Int)=(l1.length:Int)
 ·rw[if_pos c3] at H;have c3b0:((l0.length:Int) == (l1.length:Int))=true:=beq_iff_eq.mpr c3;have c3b1:((l0.length:Int) != (l1.length:Int))=false:=bne_eq_false_iff_eq.mpr c3;have c3b2:(l0.length == l1.length)=true:=by first|simpa using c3|(simp at c3 ⊢;omega)
  clear c3;have H':=aM H;clear H;go_enter Try.func32,Try.ntmps32
  go_wp2
  repeat(go_quiet (fail);try go_wp2)
  go_loopg [13] k (fun kq v13 w'=>∃ (x13_1:Int),v13=.int .i64 x13_1∧Aside0 (Bzp.l0 kq l0 l1 (l0.length:Int) x13_1=some r)∧Aside0 (kq≤k)∧Drawn0 w w')
  case atStart=>exact⟨(0),sD,H',⟨Nat.le_refl _⟩,by repeat(first|exact Drawn0.refl _|apply Drawn0.step)⟩
  case round =>
   clear H';try clear c1
   try clear p2
   try clear c3
   try clear c3b0
   try clear c3b1
   try clear c3b2
   obtain⟨x13_1,rfl,HA,HK1,⟨m1,rfl⟩⟩:=hrel;cases gk with
   | zero=>exact absurd HA.out (by simp [Bzp.l0])
   | succ k1 =>
    have H:=HA.out;clear HA;simp only[Bzp.l0] at H;by_cases c4:x13_1 < (l0.length:Int)
    ·rw[if_pos c4] at H;have c4b0:decide (x13_1 < (l0.length:Int))=true:=dE c4;clear c4;by_cases c5:0≤x13_1
     ·rw[if_pos c5] at H;have c5b0:decide (0≤x13_1)=true:=dE c5;clear c5;by_cases c6:x13_1 < (l0.length:Int)
      ·rw[if_pos c6] at H;have c6b0:decide (x13_1 < (l0.length:Int))=true:=dE c6;clear c6;by_cases c7:x13_1 < (l1.length:Int)
       ·rw[if_pos c7] at H;have c7b0:decide (x13_1 < (l1.length:Int))=true:=dE c7;clear c7;by_cases c8:(rd l0 x13_1)=(rd l1 x13_1)
        ·rw[if_pos c8] at H;have c8b0:((rd l0 x13_1) == (rd l1 x13_1))=true:=beq_iff_eq.mpr c8;have c8b1:((rd l0 x13_1) != (rd l1 x13_1))=false:=bne_eq_false_iff_eq.mpr c8;clear c8;have H':=aM H;clear H;have p236:0≤(x13_1:Int):=oE aS
         have q236:x13_1 < (l0.length:Int):=oE aS
         obtain⟨ad236,e236,hx236_0⟩:=Kd.at_int HR0.out x13_1 p236 q236;cases e236
         replace p236:=eq_true p236;replace q236:=eq_true q236;have p237:0≤(x13_1:Int):=oE aS
         have q237:x13_1 < (l1.length:Int):=oE aS
         obtain⟨ad237,e237,hx237_0⟩:=Kd.at_int HR1.out x13_1 p237 q237;cases e237
         replace p237:=eq_true p237;replace q237:=eq_true q237;go_wp2
         repeat(go_quiet (fail);try go_wp2)
         go_roundg k1
         case measure=>have:=HK1.out;omega
         case rel=>exact⟨(wrap64 (x13_1+1)),sD,H',⟨by have:=HK1.out;omega⟩,by repeat(first|exact Drawn0.refl _|apply Drawn0.step)⟩
        ·rw[if_neg c8] at H;have c8b0:((rd l0 x13_1) == (rd l1 x13_1))=false:=beq_eq_false_iff_ne.mpr c8;have c8b1:((rd l0 x13_1) != (rd l1 x13_1))=true:=bne_iff_ne.mpr c8;obtain rfl:=Option.some.inj H;have p236:0≤(x13_1:Int):=oE aS
         have q236:x13_1 < (l0.length:Int):=oE aS
         obtain⟨ad236,e236,hx236_0⟩:=Kd.at_int HR0.out x13_1 p236 q236;cases e236
         replace p236:=eq_true p236;replace q236:=eq_true q236;have p237:0≤(x13_1:Int):=oE aS
         have q237:x13_1 < (l1.length:Int):=oE aS
         obtain⟨ad237,e237,hx237_0⟩:=Kd.at_int HR1.out x13_1 p237 q237;cases e237
         replace p237:=eq_true p237;replace q237:=eq_true q237;go_wp2
         repeat(go_quiet (fail);try go_wp2)
         go_ret
         exact⟨by first|rfl|(simp;done)|(simp [*];done),by repeat(first|exact Drawn0.refl _|apply Drawn0.step)⟩
       ·rw[if_neg c7] at H;exact absurd H (by simp)
      ·rw[if_neg c6] at H;exact absurd H (by simp)
     ·rw[if_neg c5] at H;exact absurd H (by simp)
    ·rw[if_neg c4] at H;have c4b0:decide (x13_1 < (l0.length:Int))=false:=decide_eq_false c4;clear c4;obtain rfl:=Option.some.inj H;go_wp2
     repeat(go_quiet (fail);try go_wp2)
     go_ret
     exact⟨by first|rfl|(simp;done)|(simp [*];done),by repeat(first|exact Drawn0.refl _|apply Drawn0.step)⟩
 ·rw[if_neg c3] at H;have c3b0:((l0.length:Int) == (l1.length:Int))=false:=beq_eq_false_iff_ne.mpr c3;have c3b1:((l0.length:Int) != (l1.length:Int))=true:=bne_iff_ne.mpr c3;have c3b2:(l0.length == l1.length)=false:=by first|simpa using c3|(simp at c3 ⊢;omega)
  obtain rfl:=Option.some.inj H;go_enter Try.func32,Try.ntmps32
  go_wp2
  repeat(go_quiet (fail);try go_wp2)
  go_ret
  exact⟨by first|rfl|(simp;done)|(simp [*];done),by repeat(first|exact Drawn0.refl _|apply Drawn0.step)⟩

def Bzq.l0:Nat→List Int→Int→Int→Option (Int)
 | 0,_,_,_=>none
 | k+1,x0,x7,x8=>if x8 < x7 then(if 0≤x8 then(if x8 < (x0.length:Int) then((Czx.f (rd x0 x8)).bind fun t239=>(if t239=true then(some x8) else(Bzq.l0 k x0 x7 (wrap64 (x8+1))))) else(none)) else(none)) else(some (-1))
def Bzq.f (k:Nat) (l0:List Int)  : Option (Int):=Bzq.l0 k l0 (l0.length:Int) 0
theorem Bzq.mono_l:∀ k,(∀ y0 y1 y2,LeO (Bzq.l0 k y0 y1 y2) (Bzq.l0 (k+1) y0 y1 y2))
 | 0=>fun _ _ _ r h=>by simp [Bzq.l0] at h
 | k+1=>by
  have ih0:=Bzq.mono_l k
  ·intro y0 y1 y2;unfold Bzq.l0;with_reducible repeat' first|exact ih0 _ _ _|exact LeO.refl _|exact LeO.none _|refine LeO.ite ?_ ?_|refine LeO.bind ?_ (fun _=>?_)
theorem Bzq.mono:∀ a0 k,LeO (Bzq.f k a0) (Bzq.f (k+1) a0):=by
 intro a0 k;have ih0:=Bzq.mono_l k;unfold Bzq.f;with_reducible repeat' first|exact ih0 _ _ _|exact LeO.refl _|exact LeO.none _|refine LeO.ite ?_ ?_|refine LeO.bind ?_ (fun _=>?_)
theorem Bzq.calls (k:Nat) (A0:Option Addr) (c0:Nat) (l0:List Int)  (r:Int) (w:World) (hr0:Kd.C (Kd.int .i64) w A0 l0.length l0) (hc0:l0.length≤c0) (h:Bzq.f k l0=some r) :
  Calls Try.prog 41 #[.slice A0 l0.length c0,.func (.func 30) #[] #[]] w fun e w'=>e=.returned (.int .i64 r)∧Drawn0 w w':=by
 have HR0:=aM hr0;have HC0:=aM hc0;clear hr0 hc0;have H:(Bzq.l0 k l0 (l0.length:Int) 0)=some r:=h;clear h;have H':=aM H;clear H;go_enter Try.func41,Try.ntmps41
 go_wp2
 go_loopg [8] k (fun kq v8 w'=>∃ (x8_1:Int),v8=.int .i64 x8_1∧Aside0 (Bzq.l0 kq l0 (l0.length:Int) x8_1=some r)∧Aside0 (kq≤k)∧Drawn0 w w')
 case atStart=>exact⟨(0),sD,H',⟨Nat.le_refl _⟩,by repeat(first|exact Drawn0.refl _|apply Drawn0.step)⟩
 case round =>
  clear H';try clear p2
  obtain⟨x8_1,rfl,HA,HK1,⟨m1,rfl⟩⟩:=hrel;cases gk with
  | zero=>exact absurd HA.out (by simp [Bzq.l0])
  | succ k1 =>
   have H:=HA.out;clear HA;simp only[Bzq.l0] at H;by_cases c3:x8_1 < (l0.length:Int)
   ·rw[if_pos c3] at H;have c3b0:decide (x8_1 < (l0.length:Int))=true:=dE c3;clear c3;by_cases c4:0≤x8_1
    ·rw[if_pos c4] at H;have c4b0:decide (0≤x8_1)=true:=dE c4;clear c4;by_cases c5:x8_1 < (l0.length:Int)
     ·rw[if_pos c5] at H;have c5b0:decide (x8_1 < (l0.length:Int))=true:=dE c5;clear c5;replace H:=bS H;obtain⟨t239,A60,H⟩:=H;(try dsimp only at H);have A6:=aM A60;clear A60;by_cases c7:t239=true
      ·subst c7;rw[if_pos rfl] at H;obtain rfl:=Option.some.inj H;have p238:0≤(x8_1:Int):=oE aS
       have q238:x8_1 < (l0.length:Int):=oE aS
       obtain⟨ad238,e238,hx238_0⟩:=Kd.at_int HR0.out x8_1 p238 q238;cases e238
       replace p238:=eq_true p238;replace q238:=eq_true q238;go_wp2_with (first|(go_at_call 30;(with_reducible refine(Czx.calls (rd l0 x8_1) true _ A6.out).mono ?_);rintro e w' ⟨rfl,⟨nd,rfl⟩⟩))
       go_ret
       exact⟨by first|rfl|(simp;done)|(simp [*];done),by repeat(first|exact Drawn0.refl _|apply Drawn0.step)⟩
      ·replace c7:=Bool.eq_false_iff.mpr c7;subst c7;rw[if_neg (show ¬ (false=true) by decide)] at H
       have H':=aM H;clear H;have p238:0≤(x8_1:Int):=oE aS
       have q238:x8_1 < (l0.length:Int):=oE aS
       obtain⟨ad238,e238,hx238_0⟩:=Kd.at_int HR0.out x8_1 p238 q238;cases e238
       replace p238:=eq_true p238;replace q238:=eq_true q238;go_wp2_with (first|(go_at_call 30;(with_reducible refine(Czx.calls (rd l0 x8_1) false _ A6.out).mono ?_);rintro e w' ⟨rfl,⟨nd,rfl⟩⟩))
       go_roundg k1
       case measure=>have:=HK1.out;omega
       case rel=>exact⟨(wrap64 (x8_1+1)),sD,H',⟨by have:=HK1.out;omega⟩,by repeat(first|exact Drawn0.refl _|apply Drawn0.step)⟩
     ·rw[if_neg c5] at H;exact absurd H (by simp)
    ·rw[if_neg c4] at H;exact absurd H (by simp)
   ·rw[if_neg c3] at H;have c3b0:decide (x8_1 < (l0.length:Int))=false:=decide_eq_false c3;clear c3;obtain rfl:=Option.some.inj H;go_wp2
    go_ret
    exact⟨by first|rfl|(simp;done)|(simp [*];done),by repeat(first|exact Drawn0.refl _|apply Drawn0.step)⟩

def Bzb.f (k:Nat) (l0:List Int)  : Option (Bool):=(Bzq.f k l0).bind fun t240=>(some (decide (t240≥0)))
theorem Bzb.mono:∀ a0 k,LeO (Bzb.f k a0) (Bzb.f (k+1) a0):=by
 intro a0 k;unfold Bzb.f;with_reducible repeat' first|exact Bzq.mono _ _|exact LeO.refl _|exact LeO.none _|refine LeO.ite ?_ ?_|refine LeO.bind ?_ (fun _=>?_)
theorem Bzb.calls (k:Nat) (A0:Option Addr) (c0:Nat) (l0:List Int)  (r:Bool) (w:World) (hr0:Kd.C (Kd.int .i64) w A0 l0.length l0) (hc0:l0.length≤c0) (h:Bzb.f k l0=some r) :
  Calls Try.prog 29 #[.slice A0 l0.length c0,.func (.func 30) #[] #[]] w fun e w'=>e=.returned (.bool r)∧Drawn0 w w':=by
 have HR0:=aM hr0;have HC0:=aM hc0;clear hr0 hc0;have H:((Bzq.f k l0).bind fun t240=>(some (decide (t240≥0))))=some r:=h
 clear h;replace H:=bS H;obtain⟨t240,A30,H⟩:=H;replace H:(some (decide (t240≥0)))=some r:=H;have A3:=aM A30;clear A30;obtain rfl:=Option.some.inj H;go_enter Try.func29,Try.ntmps29
 go_wp2_with (first|((with_reducible refine gate_callee (f:=41) rfl ?_);refine goesL_ (some 7) rfl rfl Try.func41 (by kernel_rfl) rfl #[.slice A0 l0.length c0,.func (.func 30) #[] #[]] rfl mA ?_;(with_reducible refine(Bzq.calls k _ _ l0  t240 _ ?side1 ?side2 A3.out).mono ?_);(case side1=>exact cX HR0.out);(case side2=>exact HC0.out);rintro e w' ⟨rfl,⟨nd,rfl⟩⟩;refine⟨_,rfl,?_⟩))
 go_ret
 exact⟨by first|rfl|(simp;done)|(simp [*];done),by repeat(first|exact Drawn0.refl _|apply Drawn0.step)⟩


def Bzf.j0:Nat→List Int→List Int→Bool→Option (Bool)
 | 0,_,_,_=>none
 | k+1,x0,x1,x21=>if x21=true then(some false) else((Czw.f k x0).bind fun bt242=>(if bt242.2=0 then((Azf.f k bt242.1 x1).bind fun bt244=>(if bt244.2=0 then((Bzp.f k bt244.1 x0).bind fun t248=>(some t248)) else(some false))) else(some false)))
def Bzf.f (k:Nat) (l0:List Int) (l1:List Int):Option (Bool):=if(l0.length:Int)=(l1.length:Int) then(if(l0.length:Int) > 512 then(Bzf.j0 k l0 l1 true) else((Bzb.f k l0).bind fun t241=>(Bzf.j0 k l0 l1 t241))) else(Bzf.j0 k l0 l1 true)
theorem Bzf.mono_l:∀ k,(∀ y0 y1 y2,LeO (Bzf.j0 k y0 y1 y2) (Bzf.j0 (k+1) y0 y1 y2))
 | 0=>fun _ _ _ r h=>by simp [Bzf.j0] at h
 | k+1=>by
  have ih0:=Bzf.mono_l k
  ·intro y0 y1 y2;unfold Bzf.j0;with_reducible repeat' first|exact ih0 _ _ _|exact Czw.mono _ _|exact Azf.mono _ _ _|exact Bzb.mono _ _|exact Bzp.mono _ _ _|exact LeO.refl _|exact LeO.none _|refine LeO.ite ?_ ?_|refine LeO.bind ?_ (fun _=>?_)
theorem Bzf.mono:∀ a0 a1 k,LeO (Bzf.f k a0 a1) (Bzf.f (k+1) a0 a1):=by
 intro a0 a1 k;have ih0:=Bzf.mono_l k;unfold Bzf.f;with_reducible repeat' first|exact ih0 _ _ _|exact Czw.mono _ _|exact Azf.mono _ _ _|exact Bzb.mono _ _|exact Bzp.mono _ _ _|exact LeO.refl _|exact LeO.none _|refine LeO.ite ?_ ?_|refine LeO.bind ?_ (fun _=>?_)
theorem Bzf.calls (k:Nat) (A0:Option Addr) (c0:Nat) (l0:List Int) (A1:Option Addr) (c1:Nat) (l1:List Int) (r:Bool) (w:World) (hr0:Kd.C (Kd.int .i64) w A0 l0.length l0) (hc0:l0.length≤c0) (hr1:Kd.C (Kd.int .i64) w A1 l1.length l1) (hc1:l1.length≤c1) (h:Bzf.f k l0 l1=some r) :
  Calls Try.prog 16 #[.slice A0 l0.length c0,.slice A1 l1.length c1] w fun e w'=>e=.returned (.bool r)∧Below w.heap.size w w':=by
 have HR0:=aM hr0;have HC0:=aM hc0;clear hr0 hc0;have HR1:=aM hr1;have HC1:=aM hc1;clear hr1 hc1;have HB:=aM (Below.refl w.heap.size w);have H:(if(l0.length:Int)=(l1.length:Int) then(if(l0.length:Int) > 512 then(Bzf.j0 k l0 l1 true) else((Bzb.f k l0).bind fun t241=>(Bzf.j0 k l0 l1 t241))) else(Bzf.j0 k l0 l1 true))=some r:=h
 clear h;have HC3:=aM H;clear H;go_enter Try.func16,Try.ntmps16
 go_upto_region 1 with (fail)
 go_cut [21] (fun v21 wc=>∃ (kq:Nat) (x21_2:Bool),v21=.bool x21_2∧Aside0 (Bzf.j0 kq l0 l1 x21_2=some r)∧Aside0 (kq≤k)∧Aside0 (Below w.heap.size w wc))
 case first =>
  have H:=HC3.out;clear HC3;by_cases c4:(l0.length:Int)=(l1.length:Int)
  ·rw[if_pos c4] at H;have c4b0:((l0.length:Int) == (l1.length:Int))=true:=beq_iff_eq.mpr c4;have c4b1:((l0.length:Int) != (l1.length:Int))=false:=bne_eq_false_iff_eq.mpr c4;have c4b2:(l0.length == l1.length)=true:=by first|simpa using c4|(simp at c4 ⊢;omega)
   clear c4;(first|rw[c4b0]|(simp only[i64_w,i32_w];rw[c4b0])|skip)
   by_cases c5:(l0.length:Int) > 512
   ·rw[if_pos c5] at H;have c5b0:decide (512 < (l0.length:Int))=true:=dE c5;have c5b1:decide (512 < l0.length)=true:=dE (by omega)
    clear c5;have H':=aM H;clear H;go_wp2
    go_meet
    case rel=>exact⟨_,(true),sD,H',⟨by first|omega|exact Nat.le_refl _⟩,⟨pB⟩⟩
   ·rw[if_neg c5] at H;have c5b0:decide (512 < (l0.length:Int))=false:=decide_eq_false c5;have c5b1:decide (512 < l0.length)=false:=decide_eq_false (by omega)
    clear c5;replace H:=bS H;obtain⟨t241,A60,H⟩:=H;replace H:(Bzf.j0 k l0 l1 t241)=some r:=H;have A6:=aM A60;clear A60;have H':=aM H;clear H;go_wp2_with (first|(go_at_call 29;(with_reducible refine(Bzb.calls k _ _ l0  t241 _ ?side1 ?side2 A6.out).mono ?_);(case side1=>exact cX (Kd.C_below HR0.out HB.out));(case side2=>exact HC0.out);rintro e w' ⟨rfl,⟨nd,rfl⟩⟩))
    go_meet
    case rel=>exact⟨_,(t241),sD,H',⟨by first|omega|exact Nat.le_refl _⟩,⟨pB⟩⟩
  ·rw[if_neg c4] at H;have c4b0:((l0.length:Int) == (l1.length:Int))=false:=beq_eq_false_iff_ne.mpr c4;have c4b1:((l0.length:Int) != (l1.length:Int))=true:=bne_iff_ne.mpr c4;have c4b2:(l0.length == l1.length)=false:=by first|simpa using c4|(simp at c4 ⊢;omega)
   (first|rw[c4b0]|(simp only[i64_w,i32_w];rw[c4b0])|skip)
   have H':=aM H;clear H;go_wp2
   go_meet
   case rel=>exact⟨_,(true),sD,H',⟨by first|omega|exact Nat.le_refl _⟩,⟨pB⟩⟩
 case rest =>
  clear HC3;try clear c1
  try clear p2
  try clear c4
  try clear c4b0
  try clear c4b1
  try clear c4b2
  try clear c5
  try clear c5b0
  try clear c5b1
  obtain⟨kq,x21_2,rfl,HA,HJ2,HB⟩:=hcut;cases kq with
  | zero=>exact absurd HA.out (by simp [Bzf.j0])
  | succ kj2 =>
   have H:=HA.out;clear HA;simp only[Bzf.j0] at H;by_cases c7:x21_2=true
   ·subst c7;rw[if_pos rfl] at H;obtain rfl:=Option.some.inj H;go_wp2
    go_ret
    exact⟨eW,pB⟩
   ·replace c7:=Bool.eq_false_iff.mpr c7;subst c7;rw[if_neg (show ¬ (false=true) by decide)] at H
    replace H:=bS H;obtain⟨⟨t242,t243⟩,A80,H⟩:=H;(try dsimp only at H);have A8:=aM A80;clear A80;by_cases c9:t243=0
    ·rw[if_pos c9] at H;have c9b0:(t243 == 0)=true:=beq_iff_eq.mpr c9;have c9b1:(t243 != 0)=false:=bne_eq_false_iff_eq.mpr c9;clear c9;replace H:=bS H;obtain⟨⟨t244,t245⟩,A100,H⟩:=H;(try dsimp only at H);have A10:=aM A100;clear A100;by_cases c11:t245=0
     ·rw[if_pos c11] at H;have c11b0:(t245 == 0)=true:=beq_iff_eq.mpr c11;have c11b1:(t245 != 0)=false:=bne_eq_false_iff_eq.mpr c11;clear c11;replace H:=bS H;obtain⟨t248,A120,H⟩:=H;replace H:(some t248)=some r:=H;have A12:=aM A120;clear A120;obtain rfl:=Option.some.inj H;go_wp2_with (first|((with_reducible refine gate_callee (f:=31) rfl ?_);refine goesL_ (some 24) rfl rfl Try.func31 (by kernel_rfl) rfl #[.slice A0 l0.length c0] rfl mA ?_;(with_reducible refine(Czw.calls kj2 _ _ l0 t242 t243 _ ?side1 ?side2 A8.out).mono ?_);(case side1=>exact cX (Kd.C_below HR0.out HB.out));(case side2=>exact HC0.out);rintro e w13 ⟨rfl,hb⟩;refine⟨_,rfl,?_⟩;replace HB:=aM (below_step pB hb);(try clear hb);(try clear hb2);(try clear hk);(try clear hi))|((with_reducible refine gate_callee (f:=11) rfl ?_);refine goesL_ (some 32) rfl rfl Try.func11 (by kernel_rfl) rfl #[.int .i64 t242,.slice A1 l1.length c1] rfl mA ?_;(with_reducible refine(Azf.calls kj2 t242 _ _ l1 t244 t245 _ ?side1 ?side2 A10.out).mono ?_);(case side1=>exact cX (Kd.C_below HR1.out HB.out));(case side2=>exact HC1.out);rintro e w14 ⟨v246,rfl,ho0,hb⟩;refine⟨_,rfl,?_⟩;have HO247:=aM (Kd.R_lower ho0 (below_size pB));replace HB:=aM (below_step pB hb);(try clear hb);(try clear hb2);(try clear hk);(try clear hi);(try clear ho0);obtain⟨Ao15,co15,eo15⟩:=Kd.R_slice HO247.out;subst eo15)|(go_at_call 32;(with_reducible refine(Bzp.calls kj2 _ _ t244 _ _ l0 t248 _ ?side1 ?side2 ?side3 ?side4 A12.out).mono ?_);(case side1=>repeat(first|exact(Kd.R_reads' HO247.out).2.2|(with_reducible refine Kd.C_alloc ?_ _)|(with_reducible refine Kd.C_drewN ?_ _)|(with_reducible refine Kd.C_drew ?_)));(case side2=>exact(Kd.R_reads' HO247.out).2.1);(case side3=>exact cX (Kd.C_below HR0.out HB.out));(case side4=>exact HC0.out);rintro e w' ⟨rfl,⟨nd,rfl⟩⟩))
      go_ret
      exact⟨eW,pB⟩
     ·rw[if_neg c11] at H;have c11b0:(t245 == 0)=false:=beq_eq_false_iff_ne.mpr c11;have c11b1:(t245 != 0)=true:=bne_iff_ne.mpr c11;obtain rfl:=Option.some.inj H;go_wp2_with (first|((with_reducible refine gate_callee (f:=31) rfl ?_);refine goesL_ (some 24) rfl rfl Try.func31 (by kernel_rfl) rfl #[.slice A0 l0.length c0] rfl mA ?_;(with_reducible refine(Czw.calls kj2 _ _ l0 t242 t243 _ ?side1 ?side2 A8.out).mono ?_);(case side1=>exact cX (Kd.C_below HR0.out HB.out));(case side2=>exact HC0.out);rintro e w16 ⟨rfl,hb⟩;refine⟨_,rfl,?_⟩;replace HB:=aM (below_step pB hb);(try clear hb);(try clear hb2);(try clear hk);(try clear hi))|((with_reducible refine gate_callee (f:=11) rfl ?_);refine goesL_ (some 32) rfl rfl Try.func11 (by kernel_rfl) rfl #[.int .i64 t242,.slice A1 l1.length c1] rfl mA ?_;(with_reducible refine(Azf.calls kj2 t242 _ _ l1 t244 t245 _ ?side1 ?side2 A10.out).mono ?_);(case side1=>exact cX (Kd.C_below HR1.out HB.out));(case side2=>exact HC1.out);rintro e w17 ⟨v246,rfl,ho0,hb⟩;refine⟨_,rfl,?_⟩;have HO247:=aM (Kd.R_lower ho0 (below_size pB));replace HB:=aM (below_step pB hb);(try clear hb);(try clear hb2);(try clear hk);(try clear hi);(try clear ho0)))
      go_ret
      exact⟨eW,pB⟩
    ·rw[if_neg c9] at H;have c9b0:(t243 == 0)=false:=beq_eq_false_iff_ne.mpr c9;have c9b1:(t243 != 0)=true:=bne_iff_ne.mpr c9;obtain rfl:=Option.some.inj H;go_wp2_with (first|((with_reducible refine gate_callee (f:=31) rfl ?_);refine goesL_ (some 24) rfl rfl Try.func31 (by kernel_rfl) rfl #[.slice A0 l0.length c0] rfl mA ?_;(with_reducible refine(Czw.calls kj2 _ _ l0 t242 t243 _ ?side1 ?side2 A8.out).mono ?_);(case side1=>exact cX (Kd.C_below HR0.out HB.out));(case side2=>exact HC0.out);rintro e w18 ⟨rfl,hb⟩;refine⟨_,rfl,?_⟩;replace HB:=aM (below_step pB hb);(try clear hb);(try clear hb2);(try clear hk);(try clear hi)))
     go_ret
     exact⟨eW,pB⟩

end Go.Proofs.Ytloihkecfommbaa.Print
