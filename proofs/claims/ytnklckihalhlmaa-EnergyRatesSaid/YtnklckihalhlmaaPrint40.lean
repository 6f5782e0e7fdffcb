import Derived.Test.YtnklckihalhlmaaPrint0
import Derived.Test.YtnklckihalhlmaaPrint32
import Derived.Test.YtnklckihalhlmaaPrint34
import Derived.Test.YtnklckihalhlmaaPrint38
namespace Go.Proofs.Ytnklckihalhlmaa.Print
open Go.RowKit Go.Proofs.YtnklckihalhlmaaW.PrintWords Go.Proofs.YtnklckihalhlmaaW.PrintLast Go.Proofs.YtnklckihalhlmaaW.PrintMore
attribute [local go_sem] max2_int min2_int max_two min_two max_three min_three max_four min_four
set_option linter.unusedVariables false
set_option maxRecDepth 100000
set_option maxHeartbeats 8000000
set_option linter.unusedSimpArgs false

def Czm.l0:Nat→List Int→List Int→Int→Option (Bool)
 | 0,_,_,_=>none
 | k+1,x0,x1,x5=>if x5 < (x0.length:Int) then(if 0≤x5 then(if x5 < (x1.length:Int) then(if(rd x0 x5)=(rd x1 x5) then(Czm.l0 k x0 x1 (wrap64 (x5+1))) else(some false)) else(none)) else(none)) else(some true)
def Czm.f (k:Nat) (l0:List Int) (l1:List Int):Option (Bool):=if(l0.length:Int)=(l1.length:Int) then(Czm.l0 k l0 l1 0) else(some false)
theorem Czm.mono_l:∀ k,(∀ y0 y1 y2,LeO (Czm.l0 k y0 y1 y2) (Czm.l0 (k+1) y0 y1 y2))
 | 0=>fun _ _ _ r h=>by simp [Czm.l0] at h
 | k+1=>by
  have ih0:=Czm.mono_l k
  ·intro y0 y1 y2;unfold Czm.l0;exact mM
theorem Czm.mono:∀ a0 a1 k,LeO (Czm.f k a0 a1) (Czm.f (k+1) a0 a1):=by
 intro a0 a1 k;have ih0:=Czm.mono_l k;unfold Czm.f;exact mM
theorem Czm.calls (k:Nat) (A0:Option Addr) (c0:Nat) (l0:List Int) (A1:Option Addr) (c1:Nat) (l1:List Int) (r:Bool) (w:World) (hr0:Kd.C (Kd.int .i64) w A0 l0.length l0) (hc0:l0.length≤c0) (hr1:Kd.C (Kd.int .i64) w A1 l1.length l1) (hc1:l1.length≤c1) (h:Czm.f k l0 l1=some r) :
  Calls Try.prog 44 #[.slice A0 l0.length c0,.slice A1 l1.length c1] w fun e w'=>e=.returned (.bool r)∧Drawn0 w w':=by
 have HR0:=aM hr0;have HC0:=aM hc0;clear hr0 hc0;have HR1:=aM hr1;have HC1:=aM hc1;clear hr1 hc1;have H:(if(l0.length:Int)=(l1.length:Int) then(Czm.l0 k l0 l1 0) else(some false))=some r:=h
 clear h;by_cases c3:(l0.length:Int)=(l1.length:Int)
 ·rw[if_pos c3] at H;have c3b0:((l0.length:Int) == (l1.length:Int))=true:=beq_iff_eq.mpr c3;have c3b1:((l0.length:Int) != (l1.length:Int))=false:=bne_eq_false_iff_eq.mpr c3;have c3b2:(l0.length == l1.length)=true:=by first|simpa using c3|(simp at c3 ⊢;omega)
  clear c3;have H':=aM H;clear H;go_enter Try.func44,Try.ntmps44
  go_wp2
  repeat(go_quiet (fail);try go_wp2)
  go_loopg [5] k (fun kq v5 w'=>∃ (x5_1:Int),v5=.int .i64 x5_1∧Aside0 (Czm.l0 kq l0 l1 x5_1=some r)∧Aside0 (kq≤k)∧Drawn0 w w')
  case atStart=>exact⟨(0),sD,H',⟨Nat.le_refl _⟩,dR⟩
  case round =>
   clear H';try clear c1
   try clear p2
   try clear c3
   try clear c3b0
   try clear c3b1
   try clear c3b2
   obtain⟨x5_1,rfl,HA,HK1,⟨m1,rfl⟩⟩:=hrel;cases gk with
   | zero=>exact absurd HA.out (by simp [Czm.l0])
   | succ k1 =>
    have H:=HA.out;clear HA;simp only[Czm.l0] at H;by_cases c4:x5_1 < (l0.length:Int)
    ·rw[if_pos c4] at H;have c4b0:=dE c4;clear c4;obtain⟨c5b0,H⟩:=iN H;obtain⟨c6b0,H⟩:=iN H;by_cases c7:(rd l0 x5_1)=(rd l1 x5_1)
     ·rw[if_pos c7] at H;have c7b0:((rd l0 x5_1) == (rd l1 x5_1))=true:=beq_iff_eq.mpr c7;have c7b1:((rd l0 x5_1) != (rd l1 x5_1))=false:=bne_eq_false_iff_eq.mpr c7;clear c7;have H':=aM H;clear H;obtain⟨ad637,e637,hx637_0,p637,q637⟩:=aI HR0.out x5_1;cases e637;obtain⟨ad638,e638,hx638_0,p638,q638⟩:=aI HR1.out x5_1;cases e638;go_wp2
      repeat(go_quiet (fail);try go_wp2)
      go_roundg k1
      case measure=>have:=HK1.out;omega
      case rel=>exact⟨(wrap64 (x5_1+1)),sD,H',⟨by have:=HK1.out;omega⟩,dR⟩
     ·rw[if_neg c7] at H;have c7b0:((rd l0 x5_1) == (rd l1 x5_1))=false:=beq_eq_false_iff_ne.mpr c7;have c7b1:((rd l0 x5_1) != (rd l1 x5_1))=true:=bne_iff_ne.mpr c7;obtain rfl:=Option.some.inj H;obtain⟨ad637,e637,hx637_0,p637,q637⟩:=aI HR0.out x5_1;cases e637;obtain⟨ad638,e638,hx638_0,p638,q638⟩:=aI HR1.out x5_1;cases e638;go_wp2
      repeat(go_quiet (fail);try go_wp2)
      go_ret
      exact⟨sD,dR⟩
    ·rw[if_neg c4] at H;have c4b0:decide (x5_1 < (l0.length:Int))=false:=decide_eq_false c4;clear c4;obtain rfl:=Option.some.inj H;go_wp2
     repeat(go_quiet (fail);try go_wp2)
     go_ret
     exact⟨sD,dR⟩
 ·rw[if_neg c3] at H;have c3b0:((l0.length:Int) == (l1.length:Int))=false:=beq_eq_false_iff_ne.mpr c3;have c3b1:((l0.length:Int) != (l1.length:Int))=true:=bne_iff_ne.mpr c3;have c3b2:(l0.length == l1.length)=false:=by first|simpa using c3|(simp at c3 ⊢;omega)
  obtain rfl:=Option.some.inj H;go_enter Try.func44,Try.ntmps44
  go_wp2
  repeat(go_quiet (fail);try go_wp2)
  go_ret
  exact⟨sD,dR⟩


def Azf.j0:Nat→Bool→Bool→List Int→List Int→Option (Bool)
 | 0,_,_,_,_=>none
 | k+1,x30,x640000,x640001,x640002=>if x30=true then(some false) else((Bzz.f k x640001 x640002).bind fun bt642=>(if bt642.2=0 then((Czm.f k bt642.1 (([1]:List Int))).bind fun t649=>(some t649)) else(some false)))
def Azf.f (k:Nat) (a0_0:Bool) (l0_1:List Int) (l0_2:List Int):Option (Bool):=(Azw.f k l0_1).bind fun t640=>(if t640=true then((Azw.f k l0_2).bind fun t641=>(if t641=true then(if(l0_2.length:Int)=0 then(Azf.j0 k true a0_0 l0_1 l0_2) else(if(l0_1.length:Int)=0 then(Azf.j0 k a0_0 a0_0 l0_1 l0_2) else(Azf.j0 k false a0_0 l0_1 l0_2))) else(Azf.j0 k true a0_0 l0_1 l0_2))) else(Azf.j0 k true a0_0 l0_1 l0_2))
theorem Azf.mono_l:∀ k,(∀ y0 y1 y2 y3,LeO (Azf.j0 k y0 y1 y2 y3) (Azf.j0 (k+1) y0 y1 y2 y3))
 | 0=>fun _ _ _ _ r h=>by simp [Azf.j0] at h
 | k+1=>by
  have ih0:=Azf.mono_l k
  ·intro y0 y1 y2 y3;unfold Azf.j0;have i0:=@Bzz.mono;have i1:=@Azw.mono;have i2:=@Czm.mono;exact mM
theorem Azf.mono:∀ a0 a1 a2 k,LeO (Azf.f k a0 a1 a2) (Azf.f (k+1) a0 a1 a2):=by
 intro a0 a1 a2 k;have ih0:=Azf.mono_l k;unfold Azf.f;have i0:=@Bzz.mono;have i1:=@Azw.mono;have i2:=@Czm.mono;exact mM
theorem Azf.calls (k:Nat) (a0_0:Bool) (A0_1:Option Addr) (c0_1:Nat) (l0_1:List Int) (A0_2:Option Addr) (c0_2:Nat) (l0_2:List Int) (r:Bool) (w:World) (hr0_1:Kd.C (Kd.int .i64) w A0_1 l0_1.length l0_1) (hc0_1:l0_1.length≤c0_1) (hr0_2:Kd.C (Kd.int .i64) w A0_2 l0_2.length l0_2) (hc0_2:l0_2.length≤c0_2) (h:Azf.f k a0_0 l0_1 l0_2=some r) :
  Calls Try.prog 24 #[.agg #[.bool a0_0,.slice A0_1 l0_1.length c0_1,.slice A0_2 l0_2.length c0_2]] w fun e w'=>e=.returned (.bool r)∧Below w.heap.size w w':=by
 have hu39:=Try.underlying39;have HR0_1:=aM hr0_1;have HC0_1:=aM hc0_1;clear hr0_1 hc0_1;have HR0_2:=aM hr0_2;have HC0_2:=aM hc0_2;clear hr0_2 hc0_2;have HB:=aM (Below.refl w.heap.size w);have H:((Azw.f k l0_1).bind fun t640=>(if t640=true then((Azw.f k l0_2).bind fun t641=>(if t641=true then(if(l0_2.length:Int)=0 then(Azf.j0 k true a0_0 l0_1 l0_2) else(if(l0_1.length:Int)=0 then(Azf.j0 k a0_0 a0_0 l0_1 l0_2) else(Azf.j0 k false a0_0 l0_1 l0_2))) else(Azf.j0 k true a0_0 l0_1 l0_2))) else(Azf.j0 k true a0_0 l0_1 l0_2)))=some r:=h
 clear h;have HC2:=aM H;clear H;go_enter Try.func24,Try.ntmps24
 go_upto_region 1 with (first|((with_reducible refine gd 1 rfl ?_);refine bxg #[.bool a0_0,.slice A0_1 l0_1.length c0_1,.slice A0_2 l0_2.length c0_2] 39 ?_;intro gb639 hg w3 BK639 hb;have GW639:=gA w hg;have GE639:=gA w hg;replace HB:=bB hb;clear hb hg))
 (try simp only[Act.put,sA,sZ,sC])
 go_cut [30] (fun v30 wc=>∃ (kq:Nat) (x30_1:Bool),v30=.bool x30_1∧Aside0 (Azf.j0 kq x30_1 a0_0 l0_1 l0_2=some r)∧Aside0 (kq≤k)∧Aside0 (wc.heap[gb639]?=some (.cells #[.bool a0_0,(.slice A0_1 l0_1.length c0_1),(.slice A0_2 l0_2.length c0_2)] 39 (0,0)))∧Aside0 (Below w.heap.size w wc))
 case first =>
  have H:=HC2.out;clear HC2;obtain⟨t640,A4,H⟩:=bT H;(try dsimp only at H);by_cases c5:t640=true
  ·subst c5;rw[if_pos rfl] at H;obtain⟨t641,A6,H⟩:=bT H;(try dsimp only at H);by_cases c7:t641=true
   ·subst c7;rw[if_pos rfl] at H;by_cases c8:(l0_2.length:Int)=0
    ·rw[if_pos c8] at H;have c8b0:((l0_2.length:Int) == 0)=true:=beq_iff_eq.mpr c8;have c8b1:((l0_2.length:Int) != 0)=false:=bne_eq_false_iff_eq.mpr c8;clear c8;(first|rw[c8b0]|(simp only[i64_w,i32_w];rw[c8b0])|skip)
     have H':=aM H;clear H;obtain⟨hcz9_0,hcz9_1,hcz9_2,hfz9_0,hfz9_1,hfz9_2⟩:=bk3 BK639;go_wp2_with (first|((with_reducible refine gc 42 rfl ?_);refine gC 42 (some 7) Try.func42 #[.slice A0_1 l0_1.length c0_1] ?_;(with_reducible refine(Azw.calls k _ _ l0_1 true _ ?side1 ?side2 A4.out).mono ?_);(case side1=>exact cB HR0_1);(case side2=>exact HC0_1.out);rintro e w' ⟨rfl,⟨nd,rfl⟩⟩;refine⟨_,rfl,?_⟩)|(go_at_call 42;(with_reducible refine(Azw.calls k _ _ l0_2 true _ ?side1 ?side2 A6.out).mono ?_);(case side1=>exact cB HR0_2);(case side2=>exact HC0_2.out);rintro e w' ⟨rfl,⟨nd,rfl⟩⟩))
     go_meet
     case rel=>exact⟨_,(true),sD,H',⟨by first|omega|exact Nat.le_refl _⟩,⟨by(with_reducible repeat(first|refine blk_drewN ?_ _|refine blk_drew ?_|refine blk_alloc ?_ _));exact BK639.out⟩,⟨pB⟩⟩
    ·rw[if_neg c8] at H;have c8b0:((l0_2.length:Int) == 0)=false:=beq_eq_false_iff_ne.mpr c8;have c8b1:((l0_2.length:Int) != 0)=true:=bne_iff_ne.mpr c8;have c8b2:¬ (l0_2=[]):=fun h_=>c8 (by rw[h_];rfl)
     (first|rw[c8b0]|(simp only[i64_w,i32_w];rw[c8b0])|skip)
     by_cases c10:(l0_1.length:Int)=0
     ·rw[if_pos c10] at H;have c10b0:((l0_1.length:Int) == 0)=true:=beq_iff_eq.mpr c10;have c10b1:((l0_1.length:Int) != 0)=false:=bne_eq_false_iff_eq.mpr c10;clear c10;have H':=aM H;clear H;obtain⟨hcz11_0,hcz11_1,hcz11_2,hfz11_0,hfz11_1,hfz11_2⟩:=bk3 BK639;go_wp2_with (first|((with_reducible refine gc 42 rfl ?_);refine gC 42 (some 7) Try.func42 #[.slice A0_1 l0_1.length c0_1] ?_;(with_reducible refine(Azw.calls k _ _ l0_1 true _ ?side1 ?side2 A4.out).mono ?_);(case side1=>exact cB HR0_1);(case side2=>exact HC0_1.out);rintro e w' ⟨rfl,⟨nd,rfl⟩⟩;refine⟨_,rfl,?_⟩)|(go_at_call 42;(with_reducible refine(Azw.calls k _ _ l0_2 true _ ?side1 ?side2 A6.out).mono ?_);(case side1=>exact cB HR0_2);(case side2=>exact HC0_2.out);rintro e w' ⟨rfl,⟨nd,rfl⟩⟩))
      go_meet
      case rel=>exact⟨_,(a0_0),sD,H',⟨by first|omega|exact Nat.le_refl _⟩,⟨by(with_reducible repeat(first|refine blk_drewN ?_ _|refine blk_drew ?_|refine blk_alloc ?_ _));exact BK639.out⟩,⟨pB⟩⟩
     ·rw[if_neg c10] at H;have c10b0:((l0_1.length:Int) == 0)=false:=beq_eq_false_iff_ne.mpr c10;have c10b1:((l0_1.length:Int) != 0)=true:=bne_iff_ne.mpr c10;have c10b2:¬ (l0_1=[]):=fun h_=>c10 (by rw[h_];rfl)
      have H':=aM H;clear H;obtain⟨hcz12_0,hcz12_1,hcz12_2,hfz12_0,hfz12_1,hfz12_2⟩:=bk3 BK639;go_wp2_with (first|((with_reducible refine gc 42 rfl ?_);refine gC 42 (some 7) Try.func42 #[.slice A0_1 l0_1.length c0_1] ?_;(with_reducible refine(Azw.calls k _ _ l0_1 true _ ?side1 ?side2 A4.out).mono ?_);(case side1=>exact cB HR0_1);(case side2=>exact HC0_1.out);rintro e w' ⟨rfl,⟨nd,rfl⟩⟩;refine⟨_,rfl,?_⟩)|(go_at_call 42;(with_reducible refine(Azw.calls k _ _ l0_2 true _ ?side1 ?side2 A6.out).mono ?_);(case side1=>exact cB HR0_2);(case side2=>exact HC0_2.out);rintro e w' ⟨rfl,⟨nd,rfl⟩⟩))
      go_meet
      case rel=>exact⟨_,(false),sD,H',⟨by first|omega|exact Nat.le_refl _⟩,⟨by(with_reducible repeat(first|refine blk_drewN ?_ _|refine blk_drew ?_|refine blk_alloc ?_ _));exact BK639.out⟩,⟨pB⟩⟩
   ·obtain rfl:=bN c7;rw[if_neg nF] at H
    have H':=aM H;clear H;obtain⟨hcz13_0,hcz13_1,hcz13_2,hfz13_0,hfz13_1,hfz13_2⟩:=bk3 BK639;go_wp2_with (first|((with_reducible refine gc 42 rfl ?_);refine gC 42 (some 7) Try.func42 #[.slice A0_1 l0_1.length c0_1] ?_;(with_reducible refine(Azw.calls k _ _ l0_1 true _ ?side1 ?side2 A4.out).mono ?_);(case side1=>exact cB HR0_1);(case side2=>exact HC0_1.out);rintro e w' ⟨rfl,⟨nd,rfl⟩⟩;refine⟨_,rfl,?_⟩)|(go_at_call 42;(with_reducible refine(Azw.calls k _ _ l0_2 false _ ?side1 ?side2 A6.out).mono ?_);(case side1=>exact cB HR0_2);(case side2=>exact HC0_2.out);rintro e w' ⟨rfl,⟨nd,rfl⟩⟩))
    go_meet
    case rel=>exact⟨_,(true),sD,H',⟨by first|omega|exact Nat.le_refl _⟩,⟨by(with_reducible repeat(first|refine blk_drewN ?_ _|refine blk_drew ?_|refine blk_alloc ?_ _));exact BK639.out⟩,⟨pB⟩⟩
  ·obtain rfl:=bN c5;rw[if_neg nF] at H
   have H':=aM H;clear H;obtain⟨hcz14_0,hcz14_1,hcz14_2,hfz14_0,hfz14_1,hfz14_2⟩:=bk3 BK639;go_wp2_with (first|((with_reducible refine gc 42 rfl ?_);refine gC 42 (some 7) Try.func42 #[.slice A0_1 l0_1.length c0_1] ?_;(with_reducible refine(Azw.calls k _ _ l0_1 false _ ?side1 ?side2 A4.out).mono ?_);(case side1=>exact cB HR0_1);(case side2=>exact HC0_1.out);rintro e w' ⟨rfl,⟨nd,rfl⟩⟩;refine⟨_,rfl,?_⟩))
   go_meet
   case rel=>exact⟨_,(true),sD,H',⟨by first|omega|exact Nat.le_refl _⟩,⟨by(with_reducible repeat(first|refine blk_drewN ?_ _|refine blk_drew ?_|refine blk_alloc ?_ _));exact BK639.out⟩,⟨pB⟩⟩
 case rest =>
  clear HC2;try clear c1
  try clear c2
  try clear p2
  try clear c4
  try clear c5
  try clear c7
  try clear c8
  try clear c8b0
  try clear c8b1
  try clear c8b2
  try clear c10
  try clear c10b0
  try clear c10b1
  try clear c10b2
  try clear hcz11_0
  try clear hcz11_1
  try clear hcz11_2
  try clear hcz12_0
  try clear hcz12_1
  try clear hcz12_2
  try clear hcz13_0
  try clear hcz13_1
  try clear hcz13_2
  try clear hcz14_0
  try clear hcz14_1
  try clear hcz14_2
  try clear hcz9_0
  try clear hcz9_1
  try clear hcz9_2
  try clear hfz11_0
  try clear hfz11_1
  try clear hfz11_2
  try clear hfz12_0
  try clear hfz12_1
  try clear hfz12_2
  try clear hfz13_0
  try clear hfz13_1
  try clear hfz13_2
  try clear hfz14_0
  try clear hfz14_1
  try clear hfz14_2
  try clear hfz9_0
  try clear hfz9_1
  try clear hfz9_2
  obtain⟨kq,x30_1,rfl,HA,HJ1,BK639,HB⟩:=hcut;cases kq with
  | zero=>exact absurd HA.out (by simp [Azf.j0])
  | succ kj1 =>
   have H:=HA.out;clear HA;simp only[Azf.j0] at H;by_cases c15:x30_1=true
   ·subst c15;rw[if_pos rfl] at H;obtain rfl:=Option.some.inj H;go_wp2
    go_ret
    exact⟨eW,pB⟩
   ·obtain rfl:=bN c15;rw[if_neg nF] at H
    obtain⟨⟨t642,t645⟩,A16,H⟩:=bT H;(try dsimp only at H);by_cases c17:t645=0
    ·rw[if_pos c17] at H;have c17b0:(t645 == 0)=true:=beq_iff_eq.mpr c17;have c17b1:(t645 != 0)=false:=bne_eq_false_iff_eq.mpr c17;clear c17;obtain⟨y646,hy646⟩:∃ y_:List Int,y_=(([1]:List Int)):=⟨_,rfl⟩;replace H:((Czm.f kj1 t642 y646).bind fun t649=>(some t649))=some r:=yE hy646 H
     have Ny646:=aM hy646;clear hy646;replace H:=bS H;obtain⟨t649,A180,H⟩:=H;replace H:(some t649)=some r:=H;have A18:=aM A180;clear A180;obtain rfl:=Option.some.inj H;obtain⟨hcz19_0,hcz19_1,hcz19_2,hfz19_0,hfz19_1,hfz19_2⟩:=bk3 BK639;go_wp2_with (first|((with_reducible refine gc 43 rfl ?_);refine gC 43 (some 36) Try.func43 #[.slice A0_1 l0_1.length c0_1,.slice A0_2 l0_2.length c0_2] ?_;(with_reducible refine(Bzz.calls kj1 _ _ l0_1 (fun k_=>k_ < w.heap.size) _ _ l0_2 t642 t645 _ ?side1 ?side2 ?side3 A16.out).mono ?_);(case side1=>exact cB HR0_1);(case side2=>exact HC0_1.out);(case side3=>exact Kd.V_mk HC0_2.out (Kd.F_below (Kd.C_F (Kd.heap_int .i64) HR0_2.out) pB));rintro e w20 ⟨v643,rfl,ho0,hb⟩;refine⟨_,rfl,?_⟩;have HO644:=rL (Kd.R_mono (ok':=fun k_=>True) ho0 (fun _ hk_=>trivial));replace BK639:=kb BK639 hb;replace HB:=bB hb;clear hb ho0)|((with_reducible refine gd 43 rfl ?_);refine iLg 43 [1] ?_;intro v647 w21 ho22 hb;replace ho22:=rY Ny646 ho22;have HO648:=rL (rn ho22 HO644);replace HO644:=rE HO644 ho22 hb;replace BK639:=kb BK639 hb;replace HB:=bB hb;clear hb ho22;obtain⟨Ao23,co23,rfl⟩:=Kd.R_slice HO644.out;obtain⟨Ao24,co24,rfl⟩:=Kd.R_slice HO648.out)|(go_at_call 44;(with_reducible refine(Czm.calls kj1 _ _ t642 _ _ y646 t649 _ ?side1 ?side2 ?side3 ?side4 A18.out).mono ?_);(case side1=>exact cR HO644);(case side2=>exact lR HO644);(case side3=>exact cR HO648);(case side4=>exact lR HO648);rintro e w' ⟨rfl,⟨nd,rfl⟩⟩))
     go_ret
     exact⟨eW,pB⟩
    ·rw[if_neg c17] at H;have c17b0:(t645 == 0)=false:=beq_eq_false_iff_ne.mpr c17;have c17b1:(t645 != 0)=true:=bne_iff_ne.mpr c17;obtain rfl:=Option.some.inj H;obtain⟨hcz25_0,hcz25_1,hcz25_2,hfz25_0,hfz25_1,hfz25_2⟩:=bk3 BK639;go_wp2_with (first|((with_reducible refine gc 43 rfl ?_);refine gC 43 (some 36) Try.func43 #[.slice A0_1 l0_1.length c0_1,.slice A0_2 l0_2.length c0_2] ?_;(with_reducible refine(Bzz.calls kj1 _ _ l0_1 (fun k_=>k_ < w.heap.size) _ _ l0_2 t642 t645 _ ?side1 ?side2 ?side3 A16.out).mono ?_);(case side1=>exact cB HR0_1);(case side2=>exact HC0_1.out);(case side3=>exact Kd.V_mk HC0_2.out (Kd.F_below (Kd.C_F (Kd.heap_int .i64) HR0_2.out) pB));rintro e w26 ⟨v643,rfl,ho0,hb⟩;refine⟨_,rfl,?_⟩;have HO644:=rL (Kd.R_mono (ok':=fun k_=>True) ho0 (fun _ hk_=>trivial));replace BK639:=kb BK639 hb;replace HB:=bB hb;clear hb ho0))
     go_ret
     exact⟨eW,pB⟩

def Czy.j0:Nat→List Int→List Int→Bool→Option (List Int × Int)
 | 0,_,_,_=>none
 | k+1,x0,x1,x13=>if x13=true then(some (([]:List Int),3)) else((Azk.f k x0 x1).bind fun t652=>((Bzk.f k t652).bind fun bt655=>(some (bt655.1,bt655.2))))
def Czy.f (k:Nat) (l0:List Int) (l1:List Int):Option (List Int × Int):=(Azw.f k l0).bind fun t650=>(if t650=true then((Azw.f k l1).bind fun t651=>(Czy.j0 k l0 l1 (!t651))) else(Czy.j0 k l0 l1 true))
theorem Czy.mono_l:∀ k,(∀ y0 y1 y2,LeO (Czy.j0 k y0 y1 y2) (Czy.j0 (k+1) y0 y1 y2))
 | 0=>fun _ _ _ r h=>by simp [Czy.j0] at h
 | k+1=>by
  have ih0:=Czy.mono_l k
  ·intro y0 y1 y2;unfold Czy.j0;have i0:=@Azw.mono;have i1:=@Bzk.mono;have i2:=@Azk.mono;exact mM
theorem Czy.mono:∀ a0 a1 k,LeO (Czy.f k a0 a1) (Czy.f (k+1) a0 a1):=by
 intro a0 a1 k;have ih0:=Czy.mono_l k;unfold Czy.f;have i0:=@Azw.mono;have i1:=@Bzk.mono;have i2:=@Azk.mono;exact mM
theorem Czy.calls (k:Nat) (A0:Option Addr) (c0:Nat) (l0:List Int) (A1:Option Addr) (c1:Nat) (l1:List Int) (r1:List Int) (r2:Int) (w:World) (hr0:Kd.C (Kd.int .i64) w A0 l0.length l0) (hc0:l0.length≤c0) (hr1:Kd.C (Kd.int .i64) w A1 l1.length l1) (hc1:l1.length≤c1) (h:Czy.f k l0 l1=some (r1,r2)) :
  Calls Try.prog 47 #[.slice A0 l0.length c0,.slice A1 l1.length c1] w fun e w'=>∃ v0_:Value,e=.returned (.tuple #[v0_,.int .i64 r2])∧Kd.R (Kd.int .i64) 3 w' w.heap.size (fun _=>True) v0_ r1∧Below w.heap.size w w':=by
 have HR0:=aM hr0;have HC0:=aM hc0;clear hr0 hc0;have HR1:=aM hr1;have HC1:=aM hc1;clear hr1 hc1;have HB:=aM (Below.refl w.heap.size w);have H:((Azw.f k l0).bind fun t650=>(if t650=true then((Azw.f k l1).bind fun t651=>(Czy.j0 k l0 l1 (!t651))) else(Czy.j0 k l0 l1 true)))=some (r1,r2):=h
 clear h;have HC3:=aM H;clear H;go_enter Try.func47,Try.ntmps47
 go_upto_region 1 with (fail)
 go_cut [13] (fun v13 wc=>∃ (kq:Nat) (x13_2:Bool),v13=.bool x13_2∧Aside0 (Czy.j0 kq l0 l1 x13_2=some (r1,r2))∧Aside0 (kq≤k)∧Aside0 (Below w.heap.size w wc))
 case first =>
  have H:=HC3.out;clear HC3;obtain⟨t650,A4,H⟩:=bT H;(try dsimp only at H);by_cases c5:t650=true
  ·subst c5;rw[if_pos rfl] at H;obtain⟨t651,A6,H⟩:=bT H;(try dsimp only at H);have H':=aM H;clear H;go_wp2_with (first|((with_reducible refine gc 42 rfl ?_);refine gC 42 (some 7) Try.func42 #[.slice A0 l0.length c0] ?_;(with_reducible refine(Azw.calls k _ _ l0 true _ ?side1 ?side2 A4.out).mono ?_);(case side1=>exact cB HR0);(case side2=>exact HC0.out);rintro e w' ⟨rfl,⟨nd,rfl⟩⟩;refine⟨_,rfl,?_⟩)|(go_at_call 42;(with_reducible refine(Azw.calls k _ _ l1 t651 _ ?side1 ?side2 A6.out).mono ?_);(case side1=>exact cB HR1);(case side2=>exact HC1.out);rintro e w' ⟨rfl,⟨nd,rfl⟩⟩))
   go_meet
   case rel=>exact⟨_,(!t651),sD,H',⟨by first|omega|exact Nat.le_refl _⟩,⟨pB⟩⟩
  ·obtain rfl:=bN c5;rw[if_neg nF] at H
   have H':=aM H;clear H;go_wp2_with (first|((with_reducible refine gc 42 rfl ?_);refine gC 42 (some 7) Try.func42 #[.slice A0 l0.length c0] ?_;(with_reducible refine(Azw.calls k _ _ l0 false _ ?side1 ?side2 A4.out).mono ?_);(case side1=>exact cB HR0);(case side2=>exact HC0.out);rintro e w' ⟨rfl,⟨nd,rfl⟩⟩;refine⟨_,rfl,?_⟩))
   go_meet
   case rel=>exact⟨_,(true),sD,H',⟨by first|omega|exact Nat.le_refl _⟩,⟨pB⟩⟩
 case rest =>
  clear HC3;try clear c1
  try clear p2
  try clear c4
  try clear c5
  obtain⟨kq,x13_2,rfl,HA,HJ2,HB⟩:=hcut;cases kq with
  | zero=>exact absurd HA.out (by simp [Czy.j0])
  | succ kj2 =>
   have H:=HA.out;clear HA;simp only[Czy.j0] at H;by_cases c7:x13_2=true
   ·subst c7;rw[if_pos rfl] at H;obtain⟨rfl,rfl⟩:=q2 H;go_wp2
    go_ret2
    exact⟨_,eW,nK,pB⟩
   ·obtain rfl:=bN c7;rw[if_neg nF] at H
    obtain⟨t652,A8,H⟩:=bT H;(try dsimp only at H);replace H:=bS H;obtain⟨⟨t655,t656⟩,A90,H⟩:=H;replace H:(some (t655,t656))=some (r1,r2):=H;have A9:=aM A90;clear A90;obtain⟨rfl,rfl⟩:=q2 H;go_wp2_with (first|((with_reducible refine gc 66 rfl ?_);refine gC 66 (some 16) Try.func66 #[.slice A0 l0.length c0,.slice A1 l1.length c1] ?_;(with_reducible refine(Azk.calls kj2 _ _ l0 _ _ l1 t652 _ ?side1 ?side2 ?side3 ?side4 A8.out).mono ?_);(case side1=>exact cB HR0);(case side2=>exact HC0.out);(case side3=>exact cB HR1);(case side4=>exact HC1.out);rintro e w10 ⟨v653,rfl,ho0,hb⟩;refine⟨_,rfl,?_⟩;have HO654:=rL ho0;replace HB:=bB hb;clear hb ho0;obtain⟨Ao11,co11,rfl⟩:=Kd.R_slice HO654.out)|((with_reducible refine gc 65 rfl ?_);refine gC 65 (some 17) Try.func65 #[.slice Ao11 t652.length co11] ?_;(with_reducible refine(Bzk.calls kj2 _ _ t652 t655 t656 _ ?side1 ?side2 A9.out).mono ?_);(case side1=>exact cR HO654);(case side2=>exact lR HO654);rintro e w12 ⟨v657,rfl,ho0,hb⟩;refine⟨_,rfl,?_⟩;have HO658:=rL (rn ho0 HO654);replace HO654:=rE HO654 ho0 hb;replace HB:=bB hb;clear hb ho0))
    go_ret2
    exact⟨_,eW,by exact rX (Kd.R_mono HO658.out (fun _ hk=>trivial)),pB⟩

end Go.Proofs.Ytnklckihalhlmaa.Print
