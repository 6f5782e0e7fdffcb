import Derived.Test.YtnklckihalhlmaaPrint0
import Derived.Test.YtnklckihalhlmaaPrint4
import Derived.Test.YtnklckihalhlmaaPrint6
namespace Go.Proofs.Ytnklckihalhlmaa.Print
open Go.RowKit Go.Proofs.YtnklckihalhlmaaW.PrintWords Go.Proofs.YtnklckihalhlmaaW.PrintLast Go.Proofs.YtnklckihalhlmaaW.PrintMore
attribute [local go_sem] max2_int min2_int max_two min_two max_three min_three max_four min_four
set_option linter.unusedVariables false
set_option maxRecDepth 100000
set_option maxHeartbeats 8000000
set_option linter.unusedSimpArgs false

def Azm.l0:Nat→List Int→Int→Int→Option (Int)
 | 0,_,_,_=>none
 | k+1,x0,x7,x8=>if x8 < x7 then(if 0≤x8 then(if x8 < (x0.length:Int) then((Gzk.f (rd x0 x8)).bind fun t133=>(if t133=true then(some x8) else(Azm.l0 k x0 x7 (wrap64 (x8+1))))) else(none)) else(none)) else(some (-1))
def Azm.f (k:Nat) (l0:List Int)  : Option (Int):=Azm.l0 k l0 (l0.length:Int) 0
theorem Azm.mono_l:∀ k,(∀ y0 y1 y2,LeO (Azm.l0 k y0 y1 y2) (Azm.l0 (k+1) y0 y1 y2))
 | 0=>fun _ _ _ r h=>by simp [Azm.l0] at h
 | k+1=>by
  have ih0:=Azm.mono_l k
  ·intro y0 y1 y2;unfold Azm.l0;exact mM
theorem Azm.mono:∀ a0 k,LeO (Azm.f k a0) (Azm.f (k+1) a0):=by
 intro a0 k;have ih0:=Azm.mono_l k;unfold Azm.f;exact mM
theorem Azm.calls (k:Nat) (A0:Option Addr) (c0:Nat) (l0:List Int)  (r:Int) (w:World) (hr0:Kd.C (Kd.int .i64) w A0 l0.length l0) (hc0:l0.length≤c0) (h:Azm.f k l0=some r) :
  Calls Try.prog 86 #[.slice A0 l0.length c0,.func (.func 74) #[] #[]] w fun e w'=>e=.returned (.int .i64 r)∧Drawn0 w w':=by
 have HR0:=aM hr0;have HC0:=aM hc0;clear hr0 hc0;have H:(Azm.l0 k l0 (l0.length:Int) 0)=some r:=h;clear h;have H':=aM H;clear H;go_enter Try.func86,Try.ntmps86
 go_wp2
 go_loopg [8] k (fun kq v8 w'=>∃ (x8_1:Int),v8=.int .i64 x8_1∧Aside0 (Azm.l0 kq l0 (l0.length:Int) x8_1=some r)∧Aside0 (kq≤k)∧Drawn0 w w')
 case atStart=>exact⟨(0),sD,H',⟨Nat.le_refl _⟩,dR⟩
 case round =>
  clear H';try clear p2
  obtain⟨x8_1,rfl,HA,HK1,⟨m1,rfl⟩⟩:=hrel;cases gk with
  | zero=>exact absurd HA.out (by simp [Azm.l0])
  | succ k1 =>
   have H:=HA.out;clear HA;simp only[Azm.l0] at H;by_cases c3:x8_1 < (l0.length:Int)
   ·rw[if_pos c3] at H;have c3b0:=dE c3;clear c3;obtain⟨c4b0,H⟩:=iN H;obtain⟨c5b0,H⟩:=iN H;obtain⟨t133,A6,H⟩:=bT H;(try dsimp only at H);by_cases c7:t133=true
    ·subst c7;rw[if_pos rfl] at H;obtain rfl:=Option.some.inj H;obtain⟨ad132,e132,hx132_0,p132,q132⟩:=aI HR0.out x8_1;cases e132;go_wp2_with (first|(go_at_call 74;(with_reducible refine(Gzk.calls (rd l0 x8_1) true _ A6.out).mono ?_);rintro e w' ⟨rfl,⟨nd,rfl⟩⟩))
     go_ret
     exact⟨sD,dR⟩
    ·obtain rfl:=bN c7;rw[if_neg nF] at H
     have H':=aM H;clear H;obtain⟨ad132,e132,hx132_0,p132,q132⟩:=aI HR0.out x8_1;cases e132;go_wp2_with (first|(go_at_call 74;(with_reducible refine(Gzk.calls (rd l0 x8_1) false _ A6.out).mono ?_);rintro e w' ⟨rfl,⟨nd,rfl⟩⟩))
     go_roundg k1
     case measure=>have:=HK1.out;omega
     case rel=>exact⟨(wrap64 (x8_1+1)),sD,H',⟨by have:=HK1.out;omega⟩,dR⟩
   ·rw[if_neg c3] at H;have c3b0:decide (x8_1 < (l0.length:Int))=false:=decide_eq_false c3;clear c3;obtain rfl:=Option.some.inj H;go_wp2
    go_ret
    exact⟨sD,dR⟩

def Bzb.f (k:Nat) (l0:List Int)  : Option (Bool):=(Azm.f k l0).bind fun t134=>(some (decide (t134≥0)))
theorem Bzb.mono:∀ a0 k,LeO (Bzb.f k a0) (Bzb.f (k+1) a0):=by
 intro a0 k;unfold Bzb.f;have i0:=@Azm.mono;exact mM
theorem Bzb.calls (k:Nat) (A0:Option Addr) (c0:Nat) (l0:List Int)  (r:Bool) (w:World) (hr0:Kd.C (Kd.int .i64) w A0 l0.length l0) (hc0:l0.length≤c0) (h:Bzb.f k l0=some r) :
  Calls Try.prog 73 #[.slice A0 l0.length c0,.func (.func 74) #[] #[]] w fun e w'=>e=.returned (.bool r)∧Drawn0 w w':=by
 have HR0:=aM hr0;have HC0:=aM hc0;clear hr0 hc0;have H:((Azm.f k l0).bind fun t134=>(some (decide (t134≥0))))=some r:=h
 clear h;replace H:=bS H;obtain⟨t134,A30,H⟩:=H;replace H:(some (decide (t134≥0)))=some r:=H;have A3:=aM A30;clear A30;obtain rfl:=Option.some.inj H;go_enter Try.func73,Try.ntmps73
 go_wp2_with (first|((with_reducible refine gc 86 rfl ?_);refine gC 86 (some 7) Try.func86 #[.slice A0 l0.length c0,.func (.func 74) #[] #[]] ?_;(with_reducible refine(Azm.calls k _ _ l0  t134 _ ?side1 ?side2 A3.out).mono ?_);(case side1=>exact cX HR0.out);(case side2=>exact HC0.out);rintro e w' ⟨rfl,⟨nd,rfl⟩⟩;refine⟨_,rfl,?_⟩))
 go_ret
 exact⟨sD,dR⟩

def Ezz.j0:Nat→Int→List Int→Bool→Option (Int × Int)
 | 0,_,_,_=>none
 | k+1,x0,x1,x8=>if x8=true then(some (0,1)) else(if(x1.length:Int)=0 then(some (0,10)) else(if(x1.length:Int) > 512 then(some (0,8)) else((Bzb.f k x1).bind fun t135=>(if t135=true then(some (0,1)) else((Fzj.f k x1).bind fun bt136=>(if bt136.2=0 then(if bt136.1=0 then(if x0 > 0 then(some (0,16)) else(some (bt136.1,0))) else(some (bt136.1,0))) else(some (0,2))))))))
def Ezz.f (k:Nat) (a0:Int) (l1:List Int):Option (Int × Int):=if a0 < 0 then(Ezz.j0 k a0 l1 true) else(Ezz.j0 k a0 l1 (decide (a0 > 1125899906842624)))
theorem Ezz.mono_l:∀ k,(∀ y0 y1 y2,LeO (Ezz.j0 k y0 y1 y2) (Ezz.j0 (k+1) y0 y1 y2))
 | 0=>fun _ _ _ r h=>by simp [Ezz.j0] at h
 | k+1=>by
  have ih0:=Ezz.mono_l k
  ·intro y0 y1 y2;unfold Ezz.j0;have i0:=@Fzj.mono;have i1:=@Bzb.mono;exact mM
theorem Ezz.mono:∀ a0 a1 k,LeO (Ezz.f k a0 a1) (Ezz.f (k+1) a0 a1):=by
 intro a0 a1 k;have ih0:=Ezz.mono_l k;unfold Ezz.f;have i0:=@Fzj.mono;have i1:=@Bzb.mono;exact mM
theorem Ezz.calls (k:Nat) (a0:Int) (A1:Option Addr) (c1:Nat) (l1:List Int) (r1:Int) (r2:Int) (w:World) (hr1:Kd.C (Kd.int .i64) w A1 l1.length l1) (hc1:l1.length≤c1) (h:Ezz.f k a0 l1=some (r1,r2)) :
  Calls Try.prog 52 #[.int .i64 a0,.slice A1 l1.length c1] w fun e w'=>e=.returned (.tuple #[.int .i64 r1,.int .i64 r2])∧Below w.heap.size w w':=by
 have HR1:=aM hr1;have HC1:=aM hc1;clear hr1 hc1;have HB:=aM (Below.refl w.heap.size w);have H:(if a0 < 0 then(Ezz.j0 k a0 l1 true) else(Ezz.j0 k a0 l1 (decide (a0 > 1125899906842624))))=some (r1,r2):=h
 clear h;have HC3:=aM H;clear H;go_enter Try.func52,Try.ntmps52
 go_upto_region 1 with (fail)
 go_cut [8] (fun v8 wc=>∃ (kq:Nat) (x8_2:Bool),v8=.bool x8_2∧Aside0 (Ezz.j0 kq a0 l1 x8_2=some (r1,r2))∧Aside0 (kq≤k)∧Aside0 (Below w.heap.size w wc))
 case first =>
  have H:=HC3.out;clear HC3;by_cases c4:a0 < 0
  ·rw[if_pos c4] at H;have c4b0:=dE c4;clear c4;(first|rw[c4b0]|(simp only[i64_w,i32_w];rw[c4b0])|skip)
   have H':=aM H;clear H;go_wp2
   go_meet
   case rel=>exact⟨_,(true),sD,H',⟨by first|omega|exact Nat.le_refl _⟩,⟨pB⟩⟩
  ·rw[if_neg c4] at H;have c4b0:decide (a0 < 0)=false:=decide_eq_false c4;clear c4;(first|rw[c4b0]|(simp only[i64_w,i32_w];rw[c4b0])|skip)
   have H':=aM H;clear H;go_wp2
   go_meet
   case rel=>exact⟨_,(decide (a0 > 1125899906842624)),sD,H',⟨by first|omega|exact Nat.le_refl _⟩,⟨pB⟩⟩
 case rest =>
  clear HC3;try clear c1
  try clear p2
  try clear c4
  try clear c4b0
  obtain⟨kq,x8_2,rfl,HA,HJ2,HB⟩:=hcut;cases kq with
  | zero=>exact absurd HA.out (by simp [Ezz.j0])
  | succ kj2 =>
   have H:=HA.out;clear HA;simp only[Ezz.j0] at H;by_cases c5:x8_2=true
   ·subst c5;rw[if_pos rfl] at H;obtain⟨rfl,rfl⟩:=q2 H;go_wp2
    go_ret2
    exact⟨eW,pB⟩
   ·obtain rfl:=bN c5;rw[if_neg nF] at H
    by_cases c6:(l1.length:Int)=0
    ·rw[if_pos c6] at H;have c6b0:((l1.length:Int) == 0)=true:=beq_iff_eq.mpr c6;have c6b1:((l1.length:Int) != 0)=false:=bne_eq_false_iff_eq.mpr c6;clear c6;obtain⟨rfl,rfl⟩:=q2 H;go_wp2
     go_ret2
     exact⟨eW,pB⟩
    ·rw[if_neg c6] at H;have c6b0:((l1.length:Int) == 0)=false:=beq_eq_false_iff_ne.mpr c6;have c6b1:((l1.length:Int) != 0)=true:=bne_iff_ne.mpr c6;have c6b2:¬ (l1=[]):=fun h_=>c6 (by rw[h_];rfl)
     by_cases c7:(l1.length:Int) > 512
     ·rw[if_pos c7] at H;have c7b0:decide (512 < (l1.length:Int))=true:=dE c7;have c7b1:decide (512 < l1.length)=true:=dE (by omega)
      clear c7;obtain⟨rfl,rfl⟩:=q2 H;go_wp2
      go_ret2
      exact⟨eW,pB⟩
     ·rw[if_neg c7] at H;have c7b0:decide (512 < (l1.length:Int))=false:=decide_eq_false c7;have c7b1:decide (512 < l1.length)=false:=decide_eq_false (by omega)
      clear c7;obtain⟨t135,A8,H⟩:=bT H;(try dsimp only at H);by_cases c9:t135=true
      ·subst c9;rw[if_pos rfl] at H;obtain⟨rfl,rfl⟩:=q2 H;go_wp2_with (first|((with_reducible refine gc 73 rfl ?_);refine gC 73 (some 25) Try.func73 #[.slice A1 l1.length c1,.func (.func 74) #[] #[]] ?_;(with_reducible refine(Bzb.calls kj2 _ _ l1  true _ ?side1 ?side2 A8.out).mono ?_);(case side1=>exact cB HR1);(case side2=>exact HC1.out);rintro e w' ⟨rfl,⟨nd,rfl⟩⟩;refine⟨_,rfl,?_⟩))
       go_ret2
       exact⟨eW,pB⟩
      ·obtain rfl:=bN c9;rw[if_neg nF] at H
       obtain⟨⟨t136,t137⟩,A10,H⟩:=bT H;(try dsimp only at H);by_cases c11:t137=0
       ·rw[if_pos c11] at H;have c11b0:(t137 == 0)=true:=beq_iff_eq.mpr c11;have c11b1:(t137 != 0)=false:=bne_eq_false_iff_eq.mpr c11;clear c11;by_cases c12:t136=0
        ·rw[if_pos c12] at H;have c12b0:(t136 == 0)=true:=beq_iff_eq.mpr c12;have c12b1:(t136 != 0)=false:=bne_eq_false_iff_eq.mpr c12;clear c12;by_cases c13:a0 > 0
         ·rw[if_pos c13] at H;have c13b0:decide (0 < a0)=true:=dE c13;clear c13;obtain⟨rfl,rfl⟩:=q2 H;go_wp2_with (first|((with_reducible refine gc 73 rfl ?_);refine gC 73 (some 25) Try.func73 #[.slice A1 l1.length c1,.func (.func 74) #[] #[]] ?_;(with_reducible refine(Bzb.calls kj2 _ _ l1  false _ ?side1 ?side2 A8.out).mono ?_);(case side1=>exact cB HR1);(case side2=>exact HC1.out);rintro e w' ⟨rfl,⟨nd,rfl⟩⟩;refine⟨_,rfl,?_⟩)|((with_reducible refine gc 75 rfl ?_);refine gC 75 (some 28) Try.func75 #[.slice A1 l1.length c1] ?_;(with_reducible refine(Fzj.calls kj2 _ _ l1 t136 t137 _ ?side1 ?side2 A10.out).mono ?_);(case side1=>exact cB HR1);(case side2=>exact HC1.out);rintro e w14 ⟨rfl,hb⟩;refine⟨_,rfl,?_⟩;replace HB:=bB hb;clear hb))
          go_ret2
          exact⟨eW,pB⟩
         ·rw[if_neg c13] at H;have c13b0:decide (0 < a0)=false:=decide_eq_false c13;clear c13;obtain⟨rfl,rfl⟩:=q2 H;go_wp2_with (first|((with_reducible refine gc 73 rfl ?_);refine gC 73 (some 25) Try.func73 #[.slice A1 l1.length c1,.func (.func 74) #[] #[]] ?_;(with_reducible refine(Bzb.calls kj2 _ _ l1  false _ ?side1 ?side2 A8.out).mono ?_);(case side1=>exact cB HR1);(case side2=>exact HC1.out);rintro e w' ⟨rfl,⟨nd,rfl⟩⟩;refine⟨_,rfl,?_⟩)|((with_reducible refine gc 75 rfl ?_);refine gC 75 (some 28) Try.func75 #[.slice A1 l1.length c1] ?_;(with_reducible refine(Fzj.calls kj2 _ _ l1 t136 t137 _ ?side1 ?side2 A10.out).mono ?_);(case side1=>exact cB HR1);(case side2=>exact HC1.out);rintro e w15 ⟨rfl,hb⟩;refine⟨_,rfl,?_⟩;replace HB:=bB hb;clear hb))
          go_ret2
          exact⟨eW,pB⟩
        ·rw[if_neg c12] at H;have c12b0:(t136 == 0)=false:=beq_eq_false_iff_ne.mpr c12;have c12b1:(t136 != 0)=true:=bne_iff_ne.mpr c12;obtain⟨rfl,rfl⟩:=q2 H;go_wp2_with (first|((with_reducible refine gc 73 rfl ?_);refine gC 73 (some 25) Try.func73 #[.slice A1 l1.length c1,.func (.func 74) #[] #[]] ?_;(with_reducible refine(Bzb.calls kj2 _ _ l1  false _ ?side1 ?side2 A8.out).mono ?_);(case side1=>exact cB HR1);(case side2=>exact HC1.out);rintro e w' ⟨rfl,⟨nd,rfl⟩⟩;refine⟨_,rfl,?_⟩)|((with_reducible refine gc 75 rfl ?_);refine gC 75 (some 28) Try.func75 #[.slice A1 l1.length c1] ?_;(with_reducible refine(Fzj.calls kj2 _ _ l1 t136 t137 _ ?side1 ?side2 A10.out).mono ?_);(case side1=>exact cB HR1);(case side2=>exact HC1.out);rintro e w16 ⟨rfl,hb⟩;refine⟨_,rfl,?_⟩;replace HB:=bB hb;clear hb))
         go_ret2
         exact⟨eW,pB⟩
       ·rw[if_neg c11] at H;have c11b0:(t137 == 0)=false:=beq_eq_false_iff_ne.mpr c11;have c11b1:(t137 != 0)=true:=bne_iff_ne.mpr c11;obtain⟨rfl,rfl⟩:=q2 H;go_wp2_with (first|((with_reducible refine gc 73 rfl ?_);refine gC 73 (some 25) Try.func73 #[.slice A1 l1.length c1,.func (.func 74) #[] #[]] ?_;(with_reducible refine(Bzb.calls kj2 _ _ l1  false _ ?side1 ?side2 A8.out).mono ?_);(case side1=>exact cB HR1);(case side2=>exact HC1.out);rintro e w' ⟨rfl,⟨nd,rfl⟩⟩;refine⟨_,rfl,?_⟩)|((with_reducible refine gc 75 rfl ?_);refine gC 75 (some 28) Try.func75 #[.slice A1 l1.length c1] ?_;(with_reducible refine(Fzj.calls kj2 _ _ l1 t136 t137 _ ?side1 ?side2 A10.out).mono ?_);(case side1=>exact cB HR1);(case side2=>exact HC1.out);rintro e w17 ⟨rfl,hb⟩;refine⟨_,rfl,?_⟩;replace HB:=bB hb;clear hb))
        go_ret2
        exact⟨eW,pB⟩

def Gzb.f (a0:Int) (a1:Int) (a2:Int):Option (Int × Int):=if a2=0 then(some (0,0)) else((Azq.f a0 a1 a2 0).bind fun bt138=>(some (bt138.1,wrap64 ((wrap64 (a0 * a1)) - (wrap64 (bt138.1 * a2))))))
theorem Gzb.calls (a0:Int) (a1:Int) (a2:Int) (r1:Int) (r2:Int) (w:World) (h:Gzb.f a0 a1 a2=some (r1,r2)) :
  Calls Try.prog 53 #[.int .i64 a0,.int .i64 a1,.int .i64 a2] w fun e w'=>e=.returned (.tuple #[.int .i64 r1,.int .i64 r2])∧Below w.heap.size w w':=by
 have HB:=aM (Below.refl w.heap.size w);have H:(if a2=0 then(some (0,0)) else((Azq.f a0 a1 a2 0).bind fun bt138=>(some (bt138.1,wrap64 ((wrap64 (a0 * a1)) - (wrap64 (bt138.1 * a2)))))))=some (r1,r2):=h
 clear h;by_cases c4:a2=0
 ·rw[if_pos c4] at H;have c4b0:(a2 == 0)=true:=beq_iff_eq.mpr c4;have c4b1:(a2 != 0)=false:=bne_eq_false_iff_eq.mpr c4;clear c4;obtain⟨rfl,rfl⟩:=q2 H;go_enter Try.func53,Try.ntmps53
  go_wp2
  go_ret2
  exact⟨eW,pB⟩
 ·rw[if_neg c4] at H;have c4b0:(a2 == 0)=false:=beq_eq_false_iff_ne.mpr c4;have c4b1:(a2 != 0)=true:=bne_iff_ne.mpr c4;replace H:=bS H;obtain⟨⟨t138,t139⟩,A50,H⟩:=H;replace H:(some (t138,wrap64 ((wrap64 (a0 * a1)) - (wrap64 (t138 * a2)))))=some (r1,r2):=H;have A5:=aM A50;clear A50;obtain⟨rfl,rfl⟩:=q2 H;go_enter Try.func53,Try.ntmps53
  go_wp2_with (first|((with_reducible refine gc 50 rfl ?_);refine gC 50 (some 16) Try.func50 #[.int .i64 a0,.int .i64 a1,.int .i64 a2,.int .i64 0] ?_;(with_reducible refine(Azq.calls a0 a1 a2 0 t138 t139 _ A5.out).mono ?_);rintro e w6 ⟨rfl,hb⟩;refine⟨_,rfl,?_⟩;replace HB:=bB hb;clear hb))
  go_ret2
  exact⟨eW,pB⟩








def Gzv.f (a0:Int) (a1:Int) (l2:List (List Int)):Option (Int):=if 0 < (l2.length:Int) then(if 0≤a1 then(if a1 < ((rd_L6 l2 0).length:Int) then(if 0≤a0 then(if a0 < ((rd_L6 l2 0).length:Int) then(some (wrap64 ((rd (rd_L6 l2 0) a1) - (rd (rd_L6 l2 0) a0)))) else(none)) else(none)) else(none)) else(none)) else(none)
theorem Gzv.calls (a0:Int) (a1:Int) (A2:Option Addr) (c2:Nat) (l2:List (List Int)) (r:Int) (w:World) (hr2:Kd.C (Kd.slice 3 (Kd.int .i64)) w A2 l2.length l2) (hc2:l2.length≤c2) (h:Gzv.f a0 a1 l2=some r) :
  Calls Try.prog 55 #[.int .i64 a0,.int .i64 a1,.pointer A2] w fun e w'=>e=.returned (.int .i64 r)∧Drawn0 w w':=by
 have HR2:=aM hr2;have HC2:=aM hc2;clear hr2 hc2;have H:(if 0 < (l2.length:Int) then(if 0≤a1 then(if a1 < ((rd_L6 l2 0).length:Int) then(if 0≤a0 then(if a0 < ((rd_L6 l2 0).length:Int) then(some (wrap64 ((rd (rd_L6 l2 0) a1) - (rd (rd_L6 l2 0) a0)))) else(none)) else(none)) else(none)) else(none)) else(none))=some r:=h
 clear h;by_cases c4:0 < (l2.length:Int)
 ·rw[if_pos c4] at H;have c4b0:=dE c4;have c4b1:decide (0 < l2.length)=true:=dE (by omega)
  clear c4;obtain⟨c5b0,H⟩:=iN H;obtain⟨c6b0,H⟩:=iN H;obtain⟨c7b0,H⟩:=iN H;obtain⟨c8b0,H⟩:=iN H;obtain rfl:=Option.some.inj H;have p140:0≤(0:Int):=(by omega)
  have q140:0 < (l2.length:Int):=oE aS
  obtain⟨ad140,A140_0,c140_0,e140,hx140_0,hl140_0,hi140_0⟩:=at_L6 HR2.out 0 p140 q140;cases e140
  have qi140:(0 < l2.length)=True:=eq_true (by omega)
  (try rw[show((0:Int)).toNat=0 from rfl] at hx140_0)
  (try rw[Addr.add_zero'] at hx140_0)
  have HR140_0:=aM hi140_0;have HC140_0:=aM hl140_0;clear hi140_0 hl140_0;replace p140:=eq_true p140;replace q140:=eq_true q140;obtain⟨ad141,e141,hx141_0,p141,q141⟩:=aI HR140_0.out a1;cases e141;have p142:0≤(0:Int):=(by omega)
  have q142:0 < (l2.length:Int):=oE aS
  obtain⟨ad142,A142_0,c142_0,e142,hx142_0,hl142_0,hi142_0⟩:=at_L6 HR2.out 0 p142 q142;obtain rfl:ad140=ad142:=(by injection e142)
  have qi142:(0 < l2.length)=True:=eq_true (by omega)
  (try rw[show((0:Int)).toNat=0 from rfl] at hx142_0)
  (try rw[Addr.add_zero'] at hx142_0)
  have HR142_0:=aM hi142_0;have HC142_0:=aM hl142_0;clear hi142_0 hl142_0;replace p142:=eq_true p142;replace q142:=eq_true q142;have ea_:=Option.some.inj (hx140_0.symm.trans hx142_0);injection ea_ with ea_ en_ ec_
  subst ea_;subst ec_;clear en_;obtain⟨ad143,e143,hx143_0,p143,q143⟩:=aI HR142_0.out a0;cases e143;go_enter Try.func55,Try.ntmps55
  go_wp2
  repeat(go_quiet (fail);try go_wp2)
  go_ret
  exact⟨sD,dR⟩
 ·rw[if_neg c4] at H;exact absurd H (by simp)

end Go.Proofs.Ytnklckihalhlmaa.Print
