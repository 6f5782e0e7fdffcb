import Derived.Test.YtokkiljkgejnhaaPrint0
import Derived.Test.YtokkiljkgejnhaaPrint23
namespace Go.Proofs.Ytokkiljkgejnhaa.Print
open Go.RowKit Go.Proofs.YtokkiljkgejnhaaW.PrintWords Go.Proofs.YtokkiljkgejnhaaW.PrintLast Go.Proofs.YtokkiljkgejnhaaW.PrintMore
attribute [local go_sem] max2_int min2_int max_two min_two max_three min_three max_four min_four
set_option linter.unusedVariables false
set_option maxRecDepth 100000
set_option maxHeartbeats 8000000
set_option linter.unusedSimpArgs false

def Bzj.l0:Nat→List Int→List Int→Int→Option (Bool)
 | 0,_,_,_=>none
 | k+1,x0,x1,x5=>if x5 < (x0.length:Int) then(if 0≤x5 then(if x5 < (x1.length:Int) then(if(rd x0 x5)=(rd x1 x5) then(Bzj.l0 k x0 x1 (wrap64 (x5+1))) else(some false)) else(none)) else(none)) else(some true)
def Bzj.f (k:Nat) (l0:List Int) (l1:List Int):Option (Bool):=if(l0.length:Int)=(l1.length:Int) then(Bzj.l0 k l0 l1 0) else(some false)
theorem Bzj.mono_l:∀ k,(∀ y0 y1 y2,LeO (Bzj.l0 k y0 y1 y2) (Bzj.l0 (k+1) y0 y1 y2))
 | 0=>fun _ _ _ r h=>by simp [Bzj.l0] at h
 | k+1=>by
  have ih0:=Bzj.mono_l k
  ·intro y0 y1 y2;unfold Bzj.l0;with_reducible repeat' first|exact ih0 _ _ _|exact LeO.refl _|exact LeO.none _|refine LeO.ite ?_ ?_|refine LeO.bind ?_ (fun _=>?_)
theorem Bzj.mono:∀ a0 a1 k,LeO (Bzj.f k a0 a1) (Bzj.f (k+1) a0 a1):=by
 intro a0 a1 k;have ih0:=Bzj.mono_l k;unfold Bzj.f;with_reducible repeat' first|exact ih0 _ _ _|exact LeO.refl _|exact LeO.none _|refine LeO.ite ?_ ?_|refine LeO.bind ?_ (fun _=>?_)
theorem Bzj.calls (k:Nat) (A0:Option Addr) (c0:Nat) (l0:List Int) (A1:Option Addr) (c1:Nat) (l1:List Int) (r:Bool) (w:World) (hr0:Kd.C (Kd.int .i64) w A0 l0.length l0) (hc0:l0.length≤c0) (hr1:Kd.C (Kd.int .i64) w A1 l1.length l1) (hc1:l1.length≤c1) (h:Bzj.f k l0 l1=some r) :
  Calls Try.prog 46 #[.slice A0 l0.length c0,.slice A1 l1.length c1] w fun e w'=>e=.returned (.bool r)∧Drawn0 w w':=by
 have HR0:=aM hr0;have HC0:=aM hc0;clear hr0 hc0;have HR1:=aM hr1;have HC1:=aM hc1;clear hr1 hc1;have H:(if(l0.length:Int)=(l1.length:Int) then(Bzj.l0 k l0 l1 0) else(some false))=some r:=h
 clear h;by_cases c3:(l0.length:Int)=(l1.length:Int)
 ·rw[if_pos c3] at H;have c3b0:((l0.length:Int) == (l1.length:Int))=true:=beq_iff_eq.mpr c3;have c3b1:((l0.length:Int) != (l1.length:Int))=false:=bne_eq_false_iff_eq.mpr c3;have c3b2:(l0.length == l1.length)=true:=by first|simpa using c3|(simp at c3 ⊢;omega)
  clear c3;have H':=aM H;clear H;go_enter Try.func46,Try.ntmps46
  go_wp2
  repeat(go_quiet (fail);try go_wp2)
  go_loopg [5] k (fun kq v5 w'=>∃ (x5_1:Int),v5=.int .i64 x5_1∧Aside0 (Bzj.l0 kq l0 l1 x5_1=some r)∧Aside0 (kq≤k)∧Drawn0 w w')
  case atStart=>exact⟨(0),sD,H',⟨Nat.le_refl _⟩,by repeat(first|exact Drawn0.refl _|apply Drawn0.step)⟩
  case round =>
   clear H';try clear c1
   try clear p2
   try clear c3
   try clear c3b0
   try clear c3b1
   try clear c3b2
   obtain⟨x5_1,rfl,HA,HK1,⟨m1,rfl⟩⟩:=hrel;cases gk with
   | zero=>exact absurd HA.out (by simp [Bzj.l0])
   | succ k1 =>
    have H:=HA.out;clear HA;simp only[Bzj.l0] at H;by_cases c4:x5_1 < (l0.length:Int)
    ·rw[if_pos c4] at H;have c4b0:decide (x5_1 < (l0.length:Int))=true:=dE c4;clear c4;by_cases c5:0≤x5_1
     ·rw[if_pos c5] at H;have c5b0:decide (0≤x5_1)=true:=dE c5;clear c5;by_cases c6:x5_1 < (l1.length:Int)
      ·rw[if_pos c6] at H;have c6b0:decide (x5_1 < (l1.length:Int))=true:=dE c6;clear c6;by_cases c7:(rd l0 x5_1)=(rd l1 x5_1)
       ·rw[if_pos c7] at H;have c7b0:((rd l0 x5_1) == (rd l1 x5_1))=true:=beq_iff_eq.mpr c7;have c7b1:((rd l0 x5_1) != (rd l1 x5_1))=false:=bne_eq_false_iff_eq.mpr c7;clear c7;have H':=aM H;clear H;have p428:0≤(x5_1:Int):=oE aS
        have q428:x5_1 < (l0.length:Int):=oE aS
        obtain⟨ad428,e428,hx428_0⟩:=Kd.at_int HR0.out x5_1 p428 q428;cases e428
        replace p428:=eq_true p428;replace q428:=eq_true q428;have p429:0≤(x5_1:Int):=oE aS
        have q429:x5_1 < (l1.length:Int):=oE aS
        obtain⟨ad429,e429,hx429_0⟩:=Kd.at_int HR1.out x5_1 p429 q429;cases e429
        replace p429:=eq_true p429;replace q429:=eq_true q429;go_wp2
        repeat(go_quiet (fail);try go_wp2)
        go_roundg k1
        case measure=>have:=HK1.out;omega
        case rel=>exact⟨(wrap64 (x5_1+1)),sD,H',⟨by have:=HK1.out;omega⟩,by repeat(first|exact Drawn0.refl _|apply Drawn0.step)⟩
       ·rw[if_neg c7] at H;have c7b0:((rd l0 x5_1) == (rd l1 x5_1))=false:=beq_eq_false_iff_ne.mpr c7;have c7b1:((rd l0 x5_1) != (rd l1 x5_1))=true:=bne_iff_ne.mpr c7;obtain rfl:=Option.some.inj H;have p428:0≤(x5_1:Int):=oE aS
        have q428:x5_1 < (l0.length:Int):=oE aS
        obtain⟨ad428,e428,hx428_0⟩:=Kd.at_int HR0.out x5_1 p428 q428;cases e428
        replace p428:=eq_true p428;replace q428:=eq_true q428;have p429:0≤(x5_1:Int):=oE aS
        have q429:x5_1 < (l1.length:Int):=oE aS
        obtain⟨ad429,e429,hx429_0⟩:=Kd.at_int HR1.out x5_1 p429 q429;cases e429
        replace p429:=eq_true p429;replace q429:=eq_true q429;go_wp2
        repeat(go_quiet (fail);try go_wp2)
        go_ret
        exact⟨by first|rfl|(simp;done)|(simp [*];done),by repeat(first|exact Drawn0.refl _|apply Drawn0.step)⟩
      ·rw[if_neg c6] at H;exact absurd H (by simp)
     ·rw[if_neg c5] at H;exact absurd H (by simp)
    ·rw[if_neg c4] at H;have c4b0:decide (x5_1 < (l0.length:Int))=false:=decide_eq_false c4;clear c4;obtain rfl:=Option.some.inj H;go_wp2
     repeat(go_quiet (fail);try go_wp2)
     go_ret
     exact⟨by first|rfl|(simp;done)|(simp [*];done),by repeat(first|exact Drawn0.refl _|apply Drawn0.step)⟩
 ·rw[if_neg c3] at H;have c3b0:((l0.length:Int) == (l1.length:Int))=false:=beq_eq_false_iff_ne.mpr c3;have c3b1:((l0.length:Int) != (l1.length:Int))=true:=bne_iff_ne.mpr c3;have c3b2:(l0.length == l1.length)=false:=by first|simpa using c3|(simp at c3 ⊢;omega)
  obtain rfl:=Option.some.inj H;go_enter Try.func46,Try.ntmps46
  go_wp2
  repeat(go_quiet (fail);try go_wp2)
  go_ret
  exact⟨by first|rfl|(simp;done)|(simp [*];done),by repeat(first|exact Drawn0.refl _|apply Drawn0.step)⟩

def Dzj.f (k:Nat) (a0_0:Bool) (l0_1:List Int) (l0_2:List Int) (a1_0:Bool) (l1_1:List Int) (l1_2:List Int):Option (Bool):=if(a0_0 == a1_0)=true then((Bzj.f k l0_1 l1_1).bind fun t432=>(if t432=true then((Bzj.f k l0_2 l1_2).bind fun t433=>(some t433)) else(some false))) else(some false)
theorem Dzj.mono:∀ a0 a1 a2 a3 a4 a5 k,LeO (Dzj.f k a0 a1 a2 a3 a4 a5) (Dzj.f (k+1) a0 a1 a2 a3 a4 a5):=by
 intro a0 a1 a2 a3 a4 a5 k;unfold Dzj.f;with_reducible repeat' first|exact Bzj.mono _ _ _|exact LeO.refl _|exact LeO.none _|refine LeO.ite ?_ ?_|refine LeO.bind ?_ (fun _=>?_)
theorem Dzj.calls (k:Nat) (a0_0:Bool) (A0_1:Option Addr) (c0_1:Nat) (l0_1:List Int) (A0_2:Option Addr) (c0_2:Nat) (l0_2:List Int) (a1_0:Bool) (A1_1:Option Addr) (c1_1:Nat) (l1_1:List Int) (A1_2:Option Addr) (c1_2:Nat) (l1_2:List Int) (r:Bool) (w:World) (hr0_1:Kd.C (Kd.int .i64) w A0_1 l0_1.length l0_1) (hc0_1:l0_1.length≤c0_1) (hr0_2:Kd.C (Kd.int .i64) w A0_2 l0_2.length l0_2) (hc0_2:l0_2.length≤c0_2) (hr1_1:Kd.C (Kd.int .i64) w A1_1 l1_1.length l1_1) (hc1_1:l1_1.length≤c1_1) (hr1_2:Kd.C (Kd.int .i64) w A1_2 l1_2.length l1_2) (hc1_2:l1_2.length≤c1_2) (h:Dzj.f k a0_0 l0_1 l0_2 a1_0 l1_1 l1_2=some r) :
  Calls Try.prog 27 #[.agg #[.bool a0_0,.slice A0_1 l0_1.length c0_1,.slice A0_2 l0_2.length c0_2],.agg #[.bool a1_0,.slice A1_1 l1_1.length c1_1,.slice A1_2 l1_2.length c1_2]] w fun e w'=>e=.returned (.bool r)∧Below w.heap.size w w':=by
 have hu38:=Try.underlying38;have HR0_1:=aM hr0_1;have HC0_1:=aM hc0_1;clear hr0_1 hc0_1;have HR0_2:=aM hr0_2;have HC0_2:=aM hc0_2;clear hr0_2 hc0_2;have HR1_1:=aM hr1_1;have HC1_1:=aM hc1_1;clear hr1_1 hc1_1;have HR1_2:=aM hr1_2;have HC1_2:=aM hc1_2;clear hr1_2 hc1_2;have HB:=aM (Below.refl w.heap.size w);have H:(if(a0_0 == a1_0)=true then((Bzj.f k l0_1 l1_1).bind fun t432=>(if t432=true then((Bzj.f k l0_2 l1_2).bind fun t433=>(some t433)) else(some false))) else(some false))=some r:=h
 clear h;by_cases c3:(a0_0 == a1_0)=true
 ·rw[if_pos c3] at H;have c3b0:(a0_0 == a1_0)=true:=c3;(try(have c3b1:decide (a0_0=a1_0)=true:=by simpa using c3))
  (try(have c3b2:(a0_0 == a1_0)=true:=by simpa using c3))
  clear c3;replace H:=bS H;obtain⟨t432,A40,H⟩:=H;(try dsimp only at H);have A4:=aM A40;clear A40;by_cases c5:t432=true
  ·subst c5;rw[if_pos rfl] at H;replace H:=bS H;obtain⟨t433,A60,H⟩:=H;replace H:(some t433)=some r:=H;have A6:=aM A60;clear A60;obtain rfl:=Option.some.inj H;go_enter Try.func27,Try.ntmps27
   go_wp2_with (first|((with_reducible refine gate_dst (N:=2) rfl ?_);refine box_event ?hg (N:=2) ?hd (cs:=#[.bool a0_0,.slice A0_1 l0_1.length c0_1,.slice A0_2 l0_2.length c0_2]) (t:=38) ?hr ?_;(case hd=>rfl);(case hg=>rfl);(case hr=>first|(go_simp;done)|(go_simp;rfl));intro gb430 hg w7 hbox hb;have BK430:=aM (hbox);have GW430:=aM (gW hg:w.heap.size≤gb430);have GE430:=aM (gW hg:w.heap.size≤gb430);replace HB:=aM (below_step pB hb);clear hb hbox hg)|((with_reducible refine gate_dst (N:=3) rfl ?_);refine box_event ?hg (N:=3) ?hd (cs:=#[.bool a1_0,.slice A1_1 l1_1.length c1_1,.slice A1_2 l1_2.length c1_2]) (t:=38) ?hr ?_;(case hd=>rfl);(case hg=>rfl);(case hr=>first|(go_simp;done)|(go_simp;rfl));intro gb431 hg w8 hbox hb;have BK431:=aM (hbox);have GW431:=aM (gW hg:w.heap.size≤gb431);have GE431:=aM (gW hg:w.heap.size≤gb431);have NB430_431:=aM (nL hg BK430:gb430≠gb431);have NB431_430:=aM (nG hg BK430:gb431≠gb430);replace BK430:=aM (kB BK430 hb);replace HB:=aM (below_step pB hb);clear hb hbox hg;have hnb9:=NB430_431.out;have hnc9:=NB431_430.out;obtain⟨hcz10_0,hcz10_1,hcz10_2,hfz10_0,hfz10_1,hfz10_2⟩:=bk3 BK430;obtain⟨hcz11_0,hcz11_1,hcz11_2,hfz11_0,hfz11_1,hfz11_2⟩:=bk3 BK431)|(go_at_call 46;(with_reducible refine(Bzj.calls k _ _ l0_1 _ _ l1_1 true _ ?side1 ?side2 ?side3 ?side4 A4.out).mono ?_);(case side1=>exact cX (Kd.C_below HR0_1.out HB.out));(case side2=>exact HC0_1.out);(case side3=>exact cX (Kd.C_below HR1_1.out HB.out));(case side4=>exact HC1_1.out);rintro e w' ⟨rfl,⟨nd,rfl⟩⟩)|(go_at_call 46;(with_reducible refine(Bzj.calls k _ _ l0_2 _ _ l1_2 t433 _ ?side1 ?side2 ?side3 ?side4 A6.out).mono ?_);(case side1=>repeat(first|exact(Kd.C_below HR0_2.out pB)|(with_reducible refine Kd.C_alloc ?_ _)|(with_reducible refine Kd.C_drewN ?_ _)|(with_reducible refine Kd.C_drew ?_)));(case side2=>exact HC0_2.out);(case side3=>repeat(first|exact(Kd.C_below HR1_2.out pB)|(with_reducible refine Kd.C_alloc ?_ _)|(with_reducible refine Kd.C_drewN ?_ _)|(with_reducible refine Kd.C_drew ?_)));(case side4=>exact HC1_2.out);rintro e w' ⟨rfl,⟨nd,rfl⟩⟩))
   go_ret
   exact⟨eW,pB⟩
  ·replace c5:=Bool.eq_false_iff.mpr c5;subst c5;rw[if_neg (show ¬ (false=true) by decide)] at H
   obtain rfl:=Option.some.inj H;go_enter Try.func27,Try.ntmps27
   go_wp2_with (first|((with_reducible refine gate_dst (N:=2) rfl ?_);refine box_event ?hg (N:=2) ?hd (cs:=#[.bool a0_0,.slice A0_1 l0_1.length c0_1,.slice A0_2 l0_2.length c0_2]) (t:=38) ?hr ?_;(case hd=>rfl);(case hg=>rfl);(case hr=>first|(go_simp;done)|(go_simp;rfl));intro gb430 hg w12 hbox hb;have BK430:=aM (hbox);have GW430:=aM (gW hg:w.heap.size≤gb430);have GE430:=aM (gW hg:w.heap.size≤gb430);replace HB:=aM (below_step pB hb);clear hb hbox hg)|((with_reducible refine gate_dst (N:=3) rfl ?_);refine box_event ?hg (N:=3) ?hd (cs:=#[.bool a1_0,.slice A1_1 l1_1.length c1_1,.slice A1_2 l1_2.length c1_2]) (t:=38) ?hr ?_;(case hd=>rfl);(case hg=>rfl);(case hr=>first|(go_simp;done)|(go_simp;rfl));intro gb431 hg w13 hbox hb;have BK431:=aM (hbox);have GW431:=aM (gW hg:w.heap.size≤gb431);have GE431:=aM (gW hg:w.heap.size≤gb431);have NB430_431:=aM (nL hg BK430:gb430≠gb431);have NB431_430:=aM (nG hg BK430:gb431≠gb430);replace BK430:=aM (kB BK430 hb);replace HB:=aM (below_step pB hb);clear hb hbox hg;have hnb14:=NB430_431.out;have hnc14:=NB431_430.out;obtain⟨hcz15_0,hcz15_1,hcz15_2,hfz15_0,hfz15_1,hfz15_2⟩:=bk3 BK430;obtain⟨hcz16_0,hcz16_1,hcz16_2,hfz16_0,hfz16_1,hfz16_2⟩:=bk3 BK431)|(go_at_call 46;(with_reducible refine(Bzj.calls k _ _ l0_1 _ _ l1_1 false _ ?side1 ?side2 ?side3 ?side4 A4.out).mono ?_);(case side1=>exact cX (Kd.C_below HR0_1.out HB.out));(case side2=>exact HC0_1.out);(case side3=>exact cX (Kd.C_below HR1_1.out HB.out));(case side4=>exact HC1_1.out);rintro e w' ⟨rfl,⟨nd,rfl⟩⟩))
   go_ret
   exact⟨eW,pB⟩
 ·rw[if_neg c3] at H;have c3b0:(a0_0 == a1_0)=false:=by simpa using c3
  (try(have c3b1:decide (a0_0=a1_0)=false:=by simpa using c3))
  (try(have c3b2:(a0_0 == a1_0)=false:=by simpa using c3))
  (try(have c3b3:¬ (a0_0=a1_0):=by simpa using c3))
  clear c3;obtain rfl:=Option.some.inj H;go_enter Try.func27,Try.ntmps27
  go_wp2_with (first|((with_reducible refine gate_dst (N:=2) rfl ?_);refine box_event ?hg (N:=2) ?hd (cs:=#[.bool a0_0,.slice A0_1 l0_1.length c0_1,.slice A0_2 l0_2.length c0_2]) (t:=38) ?hr ?_;(case hd=>rfl);(case hg=>rfl);(case hr=>first|(go_simp;done)|(go_simp;rfl));intro gb430 hg w17 hbox hb;have BK430:=aM (hbox);have GW430:=aM (gW hg:w.heap.size≤gb430);have GE430:=aM (gW hg:w.heap.size≤gb430);replace HB:=aM (below_step pB hb);clear hb hbox hg)|((with_reducible refine gate_dst (N:=3) rfl ?_);refine box_event ?hg (N:=3) ?hd (cs:=#[.bool a1_0,.slice A1_1 l1_1.length c1_1,.slice A1_2 l1_2.length c1_2]) (t:=38) ?hr ?_;(case hd=>rfl);(case hg=>rfl);(case hr=>first|(go_simp;done)|(go_simp;rfl));intro gb431 hg w18 hbox hb;have BK431:=aM (hbox);have GW431:=aM (gW hg:w.heap.size≤gb431);have GE431:=aM (gW hg:w.heap.size≤gb431);have NB430_431:=aM (nL hg BK430:gb430≠gb431);have NB431_430:=aM (nG hg BK430:gb431≠gb430);replace BK430:=aM (kB BK430 hb);replace HB:=aM (below_step pB hb);clear hb hbox hg;have hnb19:=NB430_431.out;have hnc19:=NB431_430.out;obtain⟨hcz20_0,hcz20_1,hcz20_2,hfz20_0,hfz20_1,hfz20_2⟩:=bk3 BK430;obtain⟨hcz21_0,hcz21_1,hcz21_2,hfz21_0,hfz21_1,hfz21_2⟩:=bk3 BK431))
  go_ret
  exact⟨eW,pB⟩

def Czf.f (k:Nat) (a0_0:Bool) (l0_1:List Int) (l0_2:List Int) (a1:Int) (a2:Int):Option (Bool):=(Czy.f k a1 a2).bind fun bt435=>(if bt435.2.2.2=0 then((Dzj.f k a0_0 l0_1 l0_2 bt435.1 bt435.2.1 bt435.2.2.1).bind fun t444=>(some t444)) else(some false))
theorem Czf.mono:∀ a0 a1 a2 a3 a4 k,LeO (Czf.f k a0 a1 a2 a3 a4) (Czf.f (k+1) a0 a1 a2 a3 a4):=by
 intro a0 a1 a2 a3 a4 k;unfold Czf.f;with_reducible repeat' first|exact Dzj.mono _ _ _ _ _ _ _|exact Czy.mono _ _ _|exact LeO.refl _|exact LeO.none _|refine LeO.ite ?_ ?_|refine LeO.bind ?_ (fun _=>?_)
theorem Czf.calls (k:Nat) (a0_0:Bool) (A0_1:Option Addr) (c0_1:Nat) (l0_1:List Int) (A0_2:Option Addr) (c0_2:Nat) (l0_2:List Int) (a1:Int) (a2:Int) (r:Bool) (w:World) (hr0_1:Kd.C (Kd.int .i64) w A0_1 l0_1.length l0_1) (hc0_1:l0_1.length≤c0_1) (hr0_2:Kd.C (Kd.int .i64) w A0_2 l0_2.length l0_2) (hc0_2:l0_2.length≤c0_2) (h:Czf.f k a0_0 l0_1 l0_2 a1 a2=some r) :
  Calls Try.prog 21 #[.agg #[.bool a0_0,.slice A0_1 l0_1.length c0_1,.slice A0_2 l0_2.length c0_2],.int .i64 a1,.int .i64 a2] w fun e w'=>e=.returned (.bool r)∧Below w.heap.size w w':=by
 have hu38:=Try.underlying38;have HR0_1:=aM hr0_1;have HC0_1:=aM hc0_1;clear hr0_1 hc0_1;have HR0_2:=aM hr0_2;have HC0_2:=aM hc0_2;clear hr0_2 hc0_2;have HB:=aM (Below.refl w.heap.size w);have H:((Czy.f k a1 a2).bind fun bt435=>(if bt435.2.2.2=0 then((Dzj.f k a0_0 l0_1 l0_2 bt435.1 bt435.2.1 bt435.2.2.1).bind fun t444=>(some t444)) else(some false)))=some r:=h
 clear h;replace H:=bS H;obtain⟨⟨t435,t436,t439,t442⟩,A40,H⟩:=H;(try dsimp only at H);have A4:=aM A40;clear A40;by_cases c5:t442=0
 ·rw[if_pos c5] at H;have c5b0:(t442 == 0)=true:=beq_iff_eq.mpr c5;have c5b1:(t442 != 0)=false:=bne_eq_false_iff_eq.mpr c5;clear c5;replace H:=bS H;obtain⟨t444,A60,H⟩:=H;replace H:(some t444)=some r:=H;have A6:=aM A60;clear A60;obtain rfl:=Option.some.inj H;go_enter Try.func21,Try.ntmps21
  go_wp2_with (first|((with_reducible refine gate_dst (N:=3) rfl ?_);refine box_event ?hg (N:=3) ?hd (cs:=#[.bool a0_0,.slice A0_1 l0_1.length c0_1,.slice A0_2 l0_2.length c0_2]) (t:=38) ?hr ?_;(case hd=>rfl);(case hg=>rfl);(case hr=>first|(go_simp;done)|(go_simp;rfl));intro gb434 hg w7 hbox hb;have BK434:=aM (hbox);have GW434:=aM (gW hg:w.heap.size≤gb434);have GE434:=aM (gW hg:w.heap.size≤gb434);replace HB:=aM (below_step pB hb);clear hb hbox hg)|((with_reducible refine gate_callee (f:=38) rfl ?_);refine goesL_ (some 12) rfl rfl Try.func38 (by kernel_rfl) rfl #[.int .i64 a1,.int .i64 a2] rfl mA ?_;(with_reducible refine(Czy.calls k a1 a2 t435 t436 t439 t442 _ A4.out).mono ?_);rintro e w8 ⟨v437,v440,rfl,ho0,ho1,hb⟩;refine⟨_,rfl,?_⟩;have HO438:=aM (Kd.R_lower ho0 (below_size pB));have HO441:=aM (Kd.R_lower ho1 (below_size pB));replace BK434:=aM (kB BK434 hb);replace HB:=aM (below_step pB hb);(try clear hb);(try clear hb2);(try clear hk);(try clear hi);(try clear ho0);(try clear ho1))|((with_reducible refine gate_dst (N:=7) rfl ?_);refine box_event ?hg (N:=7) ?hd (cs:=#[.bool false,.slice none 0 0,.slice none 0 0]) (t:=38) ?hr ?_;(case hd=>rfl);(case hg=>rfl);(case hr=>first|(go_simp;done)|(go_simp;rfl));intro gb443 hg w9 hbox hb;have BK443:=aM (hbox);have GW443:=aM (gW hg:w.heap.size≤gb443);have GE443:=aM (gW hg:w.heap.size≤gb443);have NB434_443:=aM (nL hg BK434:gb434≠gb443);have NB443_434:=aM (nG hg BK434:gb443≠gb434);replace HO438:=aM (Kd.R_below (rX HO438.out) hb);replace HO441:=aM (Kd.R_below (rX HO441.out) hb);replace BK434:=aM (kB BK434 hb);replace HB:=aM (below_step pB hb);clear hb hbox hg;have hnb10:=NB443_434.out;have hnc10:=NB434_443.out;obtain⟨hcz11_0,hcz11_1,hcz11_2,hfz11_0,hfz11_1,hfz11_2⟩:=bk3 BK443;obtain⟨Ao12,co12,eo12⟩:=Kd.R_slice HO438.out;subst eo12;obtain⟨Ao13,co13,eo13⟩:=Kd.R_slice HO441.out;subst eo13;obtain⟨hcz14_0,hcz14_1,hcz14_2,hfz14_0,hfz14_1,hfz14_2⟩:=bk3 BK434)|(go_at_call 27;(with_reducible refine(Dzj.calls k a0_0 _ _ l0_1 _ _ l0_2 t435 _ _ t436 _ _ t439 t444 _ ?side1 ?side2 ?side3 ?side4 ?side5 ?side6 ?side7 ?side8 A6.out).mono ?_);(case side1=>exact Kd.C_below HR0_1.out pB);(case side2=>exact HC0_1.out);(case side3=>exact Kd.C_below HR0_2.out pB);(case side4=>exact HC0_2.out);(case side5=>refine(Kd.R_reads' (e:=3) (base:=w.heap.size) (ok:=fun k_=>some k_≠(.slice Ao13 t439.length co13:Value).ownBlock) (n:=t436.length) (c:=co12) ?_).2.2;exact(rX (Kd.R_mono (Kd.R_far (p:=⟨gb443,2,none⟩) (Kd.R_far (p:=⟨gb443,1,none⟩) (Kd.R_far (p:=⟨gb443,0,none⟩) (Kd.R_types HO438.out BK443.out (by decide)) (fun _ hk=>hk.2) (.bool t435)) (fun _ hk=>hk.2) (.slice Ao12 t436.length co12)) (fun _ hk=>hk.2) (.slice Ao13 t439.length co13)) (fun _ h_=>h_.1))));(case side6=>exact(Kd.R_reads' HO438.out).2.1);(case side7=>refine(Kd.R_reads' (e:=3) (base:=w.heap.size) (ok:=fun k_=>some k_≠(.slice Ao12 t436.length co12:Value).ownBlock) (n:=t439.length) (c:=co13) ?_).2.2;exact(rX (Kd.R_mono (Kd.R_far (p:=⟨gb443,2,none⟩) (Kd.R_far (p:=⟨gb443,1,none⟩) (Kd.R_far (p:=⟨gb443,0,none⟩) (Kd.R_types HO441.out BK443.out (by decide)) (fun _ hk=>hk.2) (.bool t435)) (fun _ hk=>hk.2) (.slice Ao12 t436.length co12)) (fun _ hk=>hk.2) (.slice Ao13 t439.length co13)) (fun _ h_=>h_.1))));(case side8=>exact(Kd.R_reads' HO441.out).2.1);rintro e w15 ⟨rfl,hb⟩;replace HO438:=aM (Kd.R_below (rX (Kd.R_mono (Kd.R_far (p:=⟨gb443,2,none⟩) (Kd.R_far (p:=⟨gb443,1,none⟩) (Kd.R_far (p:=⟨gb443,0,none⟩) (Kd.R_types HO438.out BK443.out (by decide)) (fun _ hk=>hk.2) (.bool t435)) (fun _ hk=>hk.2) (.slice Ao12 t436.length co12)) (fun _ hk=>hk.2) (.slice Ao13 t439.length co13)) (fun _ h_=>h_.1))) hb);replace HO441:=aM (Kd.R_below (rX (Kd.R_mono (Kd.R_far (p:=⟨gb443,2,none⟩) (Kd.R_far (p:=⟨gb443,1,none⟩) (Kd.R_far (p:=⟨gb443,0,none⟩) (Kd.R_types HO441.out BK443.out (by decide)) (fun _ hk=>hk.2) (.bool t435)) (fun _ hk=>hk.2) (.slice Ao12 t436.length co12)) (fun _ hk=>hk.2) (.slice Ao13 t439.length co13)) (fun _ h_=>h_.1))) hb);replace BK434:=aM (blk_below (g:=gb434) (o:=.cells #[.bool a0_0,.slice A0_1 l0_1.length c0_1,.slice A0_2 l0_2.length c0_2] 38 (0,0)) (by refine bD ?_;refine blk_far ?_ NB434_443.out _;refine bD ?_;refine blk_far ?_ NB434_443.out _;refine bD ?_;refine blk_far ?_ NB434_443.out _;(with_reducible repeat(first|refine blk_drewN ?_ _|refine blk_drew ?_|refine blk_alloc ?_ _));exact BK434.out) hb);replace BK443:=aM (blk_below (g:=gb443) (o:=.cells #[.bool t435,.slice Ao12 t436.length co12,.slice Ao13 t439.length co13] 38 (0,0)) (by refine bD ?_;refine blk_put (cs:=#[.bool t435,.slice Ao12 t436.length co12,.slice none 0 0]) ?_ 2 _ rfl;refine bD ?_;refine blk_put (cs:=#[.bool t435,.slice none 0 0,.slice none 0 0]) ?_ 1 _ rfl;refine bD ?_;refine blk_put (cs:=#[.bool false,.slice none 0 0,.slice none 0 0]) ?_ 0 _ rfl;(with_reducible repeat(first|refine blk_drewN ?_ _|refine blk_drew ?_|refine blk_alloc ?_ _));exact BK443.out) hb);replace HB:=aM (below_step pB hb);(try clear hb);(try clear hb2);(try clear hk);(try clear hi)))
  go_ret
  exact⟨eW,pB⟩
 ·rw[if_neg c5] at H;have c5b0:(t442 == 0)=false:=beq_eq_false_iff_ne.mpr c5;have c5b1:(t442 != 0)=true:=bne_iff_ne.mpr c5;obtain rfl:=Option.some.inj H;go_enter Try.func21,Try.ntmps21
  go_wp2_with (first|((with_reducible refine gate_dst (N:=3) rfl ?_);refine box_event ?hg (N:=3) ?hd (cs:=#[.bool a0_0,.slice A0_1 l0_1.length c0_1,.slice A0_2 l0_2.length c0_2]) (t:=38) ?hr ?_;(case hd=>rfl);(case hg=>rfl);(case hr=>first|(go_simp;done)|(go_simp;rfl));intro gb434 hg w16 hbox hb;have BK434:=aM (hbox);have GW434:=aM (gW hg:w.heap.size≤gb434);have GE434:=aM (gW hg:w.heap.size≤gb434);replace HB:=aM (below_step pB hb);clear hb hbox hg)|((with_reducible refine gate_callee (f:=38) rfl ?_);refine goesL_ (some 12) rfl rfl Try.func38 (by kernel_rfl) rfl #[.int .i64 a1,.int .i64 a2] rfl mA ?_;(with_reducible refine(Czy.calls k a1 a2 t435 t436 t439 t442 _ A4.out).mono ?_);rintro e w17 ⟨v437,v440,rfl,ho0,ho1,hb⟩;refine⟨_,rfl,?_⟩;have HO438:=aM (Kd.R_lower ho0 (below_size pB));have HO441:=aM (Kd.R_lower ho1 (below_size pB));replace BK434:=aM (kB BK434 hb);replace HB:=aM (below_step pB hb);(try clear hb);(try clear hb2);(try clear hk);(try clear hi);(try clear ho0);(try clear ho1))|((with_reducible refine gate_dst (N:=7) rfl ?_);refine box_event ?hg (N:=7) ?hd (cs:=#[.bool false,.slice none 0 0,.slice none 0 0]) (t:=38) ?hr ?_;(case hd=>rfl);(case hg=>rfl);(case hr=>first|(go_simp;done)|(go_simp;rfl));intro gb443 hg w18 hbox hb;have BK443:=aM (hbox);have GW443:=aM (gW hg:w.heap.size≤gb443);have GE443:=aM (gW hg:w.heap.size≤gb443);have NB434_443:=aM (nL hg BK434:gb434≠gb443);have NB443_434:=aM (nG hg BK434:gb443≠gb434);replace HO438:=aM (Kd.R_below (rX HO438.out) hb);replace HO441:=aM (Kd.R_below (rX HO441.out) hb);replace BK434:=aM (kB BK434 hb);replace HB:=aM (below_step pB hb);clear hb hbox hg;have hnb19:=NB443_434.out;have hnc19:=NB434_443.out;obtain⟨hcz20_0,hcz20_1,hcz20_2,hfz20_0,hfz20_1,hfz20_2⟩:=bk3 BK443;obtain⟨Ao21,co21,eo21⟩:=Kd.R_slice HO438.out;subst eo21;obtain⟨Ao22,co22,eo22⟩:=Kd.R_slice HO441.out;subst eo22))
  go_ret
  exact⟨eW,pB⟩

def Ezv.f (k:Nat) (a0:Int):Option (Bool × List Int × List Int × Int):=(Czy.f k a0 1).bind fun bt446=>(some (bt446.1,bt446.2.1,bt446.2.2.1,bt446.2.2.2))
theorem Ezv.mono:∀ a0 k,LeO (Ezv.f k a0) (Ezv.f (k+1) a0):=by
 intro a0 k;unfold Ezv.f;with_reducible repeat' first|exact Czy.mono _ _ _|exact LeO.refl _|exact LeO.none _|refine LeO.ite ?_ ?_|refine LeO.bind ?_ (fun _=>?_)
theorem Ezv.calls (k:Nat) (a0:Int) (r1:Bool) (r2:List Int) (r3:List Int) (r4:Int) (w:World) (h:Ezv.f k a0=some (r1,r2,r3,r4)) :
  Calls Try.prog 28 #[.int .i64 a0] w fun e w'=>∃ v1_ v2_:Value,e=.returned (.tuple #[.agg #[.bool r1,v1_,v2_],.int .i64 r4])∧Kd.R (Kd.int .i64) 3 w' w.heap.size (fun k_=>some k_≠(v2_:Value).ownBlock) v1_ r2∧Kd.R (Kd.int .i64) 3 w' w.heap.size (fun k_=>some k_≠(v1_:Value).ownBlock) v2_ r3∧Below w.heap.size w w':=by
 have hu38:=Try.underlying38;have HB:=aM (Below.refl w.heap.size w);have H:((Czy.f k a0 1).bind fun bt446=>(some (bt446.1,bt446.2.1,bt446.2.2.1,bt446.2.2.2)))=some (r1,r2,r3,r4):=h
 clear h;replace H:=bS H;obtain⟨⟨t446,t447,t450,t453⟩,A20,H⟩:=H;replace H:(some (t446,t447,t450,t453))=some (r1,r2,r3,r4):=H;have A2:=aM A20;clear A20;simp only[Option.some.injEq,Prod.mk.injEq] at H;obtain⟨rfl,rfl,rfl,rfl⟩:=H;go_enter Try.func28,Try.ntmps28
 go_wp2_with (first|((with_reducible refine gate_dst (N:=2) rfl ?_);refine box_event ?hg (N:=2) ?hd (cs:=#[.bool false,.slice none 0 0,.slice none 0 0]) (t:=38) ?hr ?_;(case hd=>rfl);(case hg=>rfl);(case hr=>first|(go_simp;done)|(go_simp;rfl));intro gb445 hg w3 hbox hb;have BK445:=aM (hbox);have GW445:=aM (gW hg:w.heap.size≤gb445);have GE445:=aM (gW hg:w.heap.size≤gb445);replace HB:=aM (below_step pB hb);clear hb hbox hg)|((with_reducible refine gate_callee (f:=38) rfl ?_);refine goesL_ (some 5) rfl rfl Try.func38 (by kernel_rfl) rfl #[.int .i64 a0,.int .i64 1] rfl mA ?_;(with_reducible refine(Czy.calls k a0 1 t446 t447 t450 t453 _ A2.out).mono ?_);rintro e w4 ⟨v448,v451,rfl,ho0,ho1,hb⟩;refine⟨_,rfl,?_⟩;have HO449:=aM (Kd.R_lower ho0 (below_size pB));have HO452:=aM (Kd.R_lower ho1 (below_size pB));replace BK445:=aM (kB BK445 hb);replace HB:=aM (below_step pB hb);(try clear hb);(try clear hb2);(try clear hk);(try clear hi);(try clear ho0);(try clear ho1);obtain⟨hcz5_0,hcz5_1,hcz5_2,hfz5_0,hfz5_1,hfz5_2⟩:=bk3 BK445;obtain⟨Ao6,co6,eo6⟩:=Kd.R_slice HO449.out;subst eo6;obtain⟨Ao7,co7,eo7⟩:=Kd.R_slice HO452.out;subst eo7))
 refine bodyPost_ret (results_ct rfl _ _ gb445 38 #[.bool t446,.slice Ao6 t447.length co6,.slice Ao7 t450.length co7] (0,0) _ rfl (by refine bD ?_;refine blk_put (cs:=#[.bool t446,.slice Ao6 t447.length co6,.slice none 0 0]) ?_ 2 _ rfl;refine bD ?_;refine blk_put (cs:=#[.bool t446,.slice none 0 0,.slice none 0 0]) ?_ 1 _ rfl;refine bD ?_;refine blk_put (cs:=#[.bool false,.slice none 0 0,.slice none 0 0]) ?_ 0 _ rfl;(with_reducible repeat(first|refine blk_drewN ?_ _|refine blk_drew ?_|refine blk_alloc ?_ _));exact BK445.out) Try.underlying38 rfl (by kernel_rfl)) rfl ?_
 exact⟨_,_,eW,by(with_reducible repeat(first|apply Kd.R_alloc|apply Kd.R_drewN|apply Kd.R_drew));exact Kd.R_mono (Kd.R_far (p:=⟨gb445,2,none⟩) (Kd.R_far (p:=⟨gb445,1,none⟩) (Kd.R_far (p:=⟨gb445,0,none⟩) (Kd.R_types HO449.out BK445.out (by decide)) (fun _ hk=>hk.2) (.bool t446)) (fun _ hk=>hk.2) (.slice Ao6 t447.length co6)) (fun _ hk=>hk.2) (.slice Ao7 t450.length co7)) (fun _ hk=>hk.1),by(with_reducible repeat(first|apply Kd.R_alloc|apply Kd.R_drewN|apply Kd.R_drew));exact Kd.R_mono (Kd.R_far (p:=⟨gb445,2,none⟩) (Kd.R_far (p:=⟨gb445,1,none⟩) (Kd.R_far (p:=⟨gb445,0,none⟩) (Kd.R_types HO452.out BK445.out (by decide)) (fun _ hk=>hk.2) (.bool t446)) (fun _ hk=>hk.2) (.slice Ao6 t447.length co6)) (fun _ hk=>hk.2) (.slice Ao7 t450.length co7)) (fun _ hk=>hk.1),pB⟩

end Go.Proofs.Ytokkiljkgejnhaa.Print
