import Derived.Test.YtnklckihalhlmaaPrint0
import Derived.Test.YtnklckihalhlmaaPrint2
namespace Go.Proofs.Ytnklckihalhlmaa.Print
open Go.RowKit Go.Proofs.YtnklckihalhlmaaW.PrintWords Go.Proofs.YtnklckihalhlmaaW.PrintLast Go.Proofs.YtnklckihalhlmaaW.PrintMore
attribute [local go_sem] max2_int min2_int max_two min_two max_three min_three max_four min_four
set_option linter.unusedVariables false
set_option maxRecDepth 100000
set_option maxHeartbeats 8000000
set_option linter.unusedSimpArgs false

/--|x|-/
def Azq.ab (x:Int):Int:=if x < 0 then -x else x
def Azq.inB (x:Int):Bool:=decide (-1125899906842624≤x) && decide (x≤1125899906842624)
/-- Is the quotient's amount one more? -/
def Azq.grows (neg:Bool) (mode q r c:Int):Bool :=
 if mode=0 then neg && decide (0 < r) else if mode=1 then !neg && decide (0 < r) else decide (c < 2 * r) || (decide (2 * r=c) && decide (q % 2=1))
def Azq.fin (neg:Bool) (g:Bool) (q:Int):Int × Int :=
 if 1125899906842624 < (if g then q+1 else q) then(0,2) else(if neg then -(if g then q+1 else q) else(if g then q+1 else q),0)
def Azq.val (a b c mode:Int):Int × Int :=
 Azq.fin ((decide (a < 0) != decide (b < 0)) != decide (c < 0))
  (Azq.grows ((decide (a < 0) != decide (b < 0)) != decide (c < 0)) mode (Azq.ab a * Azq.ab b / Azq.ab c) (Azq.ab a * Azq.ab b % Azq.ab c) (Azq.ab c))
  (Azq.ab a * Azq.ab b / Azq.ab c)
def Azq.f (a0:Int) (a1:Int) (a2:Int) (a3:Int):Option (Int × Int) :=
 some (if Azq.inB a0 && Azq.inB a1 && Azq.inB a2 then(if a2=0 then(0,16) else if a3 < 0 then(0,17) else if 3≤a3 then(0,17) else Azq.val a0 a1 a2 a3) else(0,1))
theorem Azq.in_l0 (l:List Int) (hl:l.length≤9223372036854775806) (d:Nat):∀ (k i:Nat),l.length - i=d→i≤l.length→d < k→Dzz.l0 k l (l.length:Int) (i:Int)=some ((l.drop i).all Azq.inB):=by
 induction d with
 | zero =>
  intro k i h1 h2 h3;obtain⟨k,rfl⟩:∃ m,k=m+1:=⟨k - 1,by omega⟩
  simp only[Dzz.l0];rw[if_neg (by omega),List.drop_eq_nil_of_le (by omega)];rfl
 | succ d ih =>
  intro k i h1 h2 h3;obtain⟨k,rfl⟩:∃ m,k=m+1:=⟨k - 1,by omega⟩
  have hi:i < l.length:=by omega
  have er:rd l (i:Int)=l[i]:=by simp [rd,List.getD,hi]
  have ew:wrap64 ((i:Int)+1)=((i+1:Nat):Int):=by unfold wrap64;omega
  rw[List.drop_eq_getElem_cons hi,List.all_cons];simp only[Dzz.l0];rw[if_pos (by omega),if_pos (by omega),if_pos (by omega),er,ew,ih k (i+1) (by omega) (by omega) (by omega)]
  unfold Azq.inB;by_cases c1:l[i] < -1125899906842624
  ·rw[if_pos c1,decide_eq_false (by omega:¬ -1125899906842624≤l[i])];rfl
  ·rw[if_neg c1,dE (by omega:-1125899906842624≤l[i])]
   by_cases c2:l[i] > 1125899906842624
   ·rw[if_pos c2,decide_eq_false (by omega:¬ l[i]≤1125899906842624)];rfl
   ·rw[if_neg c2,dE (by omega:l[i]≤1125899906842624)];rfl
theorem Azq.in_f (l:List Int) (hl:l.length≤9223372036854775806):Dzz.f (l.length+1) l=some (l.all Azq.inB):=by
 have:=Azq.in_l0 l hl l.length (l.length+1) 0 (by omega) (by omega) (by omega)
 unfold Dzz.f;simpa using this
theorem Azq.in_val (a b c:Int):Dzz.f 4 [a,b,c]=some (Azq.inB a && Azq.inB b && Azq.inB c):=by
 have:=Azq.in_f [a,b,c] (by simp)
 simpa [Bool.and_assoc] using this
theorem Azq.size_val (x:Int) (h:Azq.inB x=true):Hzq.f x=some (Azq.ab x):=by
 simp only[Azq.inB,Bool.and_eq_true,decide_eq_true_eq] at h;have e:∀ y:Int,0≤y→y≤1125899906842624→IntKind.u64.wrap y=y:=fun y h0 h1=>Bzj.w64 y h0 (by omega)
 unfold Hzq.f Azq.ab;split
 ·have:wrap64 (-x)=-x:=by unfold wrap64;omega
  rw[this,e _ (by omega) (by omega)]
 ·rw[e _ (by omega) (by omega)]
theorem Azq.ab_range (x:Int) (h:Azq.inB x=true):0≤Azq.ab x∧Azq.ab x≤1125899906842624:=by
 simp only[Azq.inB,Bool.and_eq_true,decide_eq_true_eq] at h;unfold Azq.ab;split <;> omega
/-- What the body computes,once the amounts are there. -/
theorem Azq.size_calls (x:Int) (w:World) (h:Azq.inB x=true):Calls Try.prog 71 #[.int .i64 x] w fun e w'=>e=.returned (.int .u64 (Azq.ab x))∧Drawn0 w w' :=
 Hzq.calls x _ w (Azq.size_val x h)
theorem Azq.hilo {A B C:Int} (hA:0≤A∧A≤1125899906842624) (hB:0≤B∧B≤1125899906842624) (hC:1≤C∧C≤1125899906842624) :
  Bzj.f A B=some (A * B / 18446744073709551616,A * B % 18446744073709551616) ∧
  Azv.f (A * B / 18446744073709551616) (A * B % 18446744073709551616) C=some (if A * B / C < 4611686018427387904 then(A * B / C,A * B % C,true) else(0,0,false)):=by
 have h:=Bzj.mul_le hA.1 hA.2 hB.1 hB.2;have e:A * B / 18446744073709551616 * 18446744073709551616+A * B % 18446744073709551616=A * B:=by omega
 constructor
 ·unfold Bzj.f;rw[if_pos ⟨hA.1,hA.2,hB.1,hB.2⟩]
 ·unfold Azv.f;rw[if_pos ⟨by omega,by omega,by omega,by omega,hC.1,hC.2⟩,e]
  split <;> rfl
theorem Azq.calls_out (a0 a1 a2 a3:Int) (w:World) (hb:(Azq.inB a0 && Azq.inB a1 && Azq.inB a2)=false) :
  Calls Try.prog 50 #[.int .i64 a0,.int .i64 a1,.int .i64 a2,.int .i64 a3] w fun e w'=>e=.returned (.tuple #[.int .i64 0,.int .i64 1])∧Below w.heap.size w w':=by
 have hin:=Azq.in_val a0 a1 a2;rw[hb] at hin;have HIN:=aM hin;clear hin hb;go_enter Try.func50,Try.ntmps50
 go_wp2_with (first|((with_reducible refine gd 19 rfl ?_);refine iL 19 [a0,a1,a2] ?_;intro v117 w8 ho9 hb;have HB:=aM hb;have HO:=aM ho9;clear hb ho9;obtain⟨Ao10,co10,rfl⟩:=Kd.R_slice HO.out)|(go_at_call 69;(refine(Dzz.calls 4 _ _ [a0,a1,a2] false _ ?side1 ?side2 HIN.out).mono ?_);(case side1=>exact(Kd.R_reads' HO.out).2.2);(case side2=>exact lR HO);rintro e w' ⟨rfl,⟨nd,rfl⟩⟩))
 go_ret2
 exact⟨rfl,pB⟩
theorem zz4_0 {P:Prop} (h:P:=by
 go_wp2_with (first|((with_reducible refine gd 19 rfl ?_);refine iL 19 [a0,a1,a2] ?_;intro v117 w8 ho9 hb;have HB:=aM hb;have HO:=aM ho9;clear hb ho9;obtain⟨Ao10,co10,rfl⟩:=Kd.R_slice HO.out)|(go_at_call 69;(refine(Dzz.calls 4 _ _ [a0,a1,a2] true _ ?side1 ?side2 HIN.out).mono ?_);(case side1=>exact(Kd.R_reads' HO.out).2.2);(case side2=>exact lR HO);rintro e w' ⟨rfl,⟨nd,rfl⟩⟩))
 go_ret2
 exact⟨rfl,pB⟩):P:=h
theorem Azq.calls_bad (a0 a1 a2 a3:Int) (w:World) (hb:(Azq.inB a0 && Azq.inB a1 && Azq.inB a2)=true) (r2:Int) (hr:r2=if a2=0 then 16 else 17) (hbad:a2=0∨a3 < 0∨3≤a3) :
  Calls Try.prog 50 #[.int .i64 a0,.int .i64 a1,.int .i64 a2,.int .i64 a3] w fun e w'=>e=.returned (.tuple #[.int .i64 0,.int .i64 r2])∧Below w.heap.size w w':=by
 have hin:=Azq.in_val a0 a1 a2;rw[hb] at hin;have HIN:=aM hin;clear hin hb;by_cases hc:a2=0
 ·rw[if_pos hc] at hr;subst hr;have c0:(a2 == 0)=true:=beq_iff_eq.mpr hc;clear hc hbad;go_enter Try.func50,Try.ntmps50
  exact zz4_0
 ·rw[if_neg hc] at hr;subst hr;have c0:(a2 == 0)=false:=beq_eq_false_iff_ne.mpr hc;by_cases hm:a3 < 0
  ·have c1:decide (a3 < 0)=true:=dE hm;clear hc hbad hm;go_enter Try.func50,Try.ntmps50
   exact zz4_0
  ·have c1:decide (a3 < 0)=false:=decide_eq_false hm;have c2:decide (3≤a3)=true:=dE (by omega)
   clear hc hbad hm;go_enter Try.func50,Try.ntmps50
   exact zz4_0
theorem Azq.fin_big {neg g:Bool} {q:Int} (h:4611686018427387904≤q):Azq.fin neg g q=(0,2):=by
 unfold Azq.fin;rw[if_pos (by split <;> omega)]
theorem Azq.calls_big (a0 a1 a2 a3:Int) (w:World) (HI0:Aside0 (Azq.inB a0=true)) (HI1:Aside0 (Azq.inB a1=true)) (HI2:Aside0 (Azq.inB a2=true)) (HIN:Aside0 (Dzz.f 4 [a0,a1,a2]=some true))
  (c0:(a2 == 0)=false) (c1:decide (a3 < 0)=false) (c2:decide (3≤a3)=false) (hi lo q r:Int) (HP:Aside0 (Bzj.f (Azq.ab a0) (Azq.ab a1)=some (hi,lo))) (HD:Aside0 (Azv.f hi lo (Azq.ab a2)=some (q,r,false))) :
  Calls Try.prog 50 #[.int .i64 a0,.int .i64 a1,.int .i64 a2,.int .i64 a3] w fun e w'=>e=.returned (.tuple #[.int .i64 0,.int .i64 2])∧Below w.heap.size w w':=by
 go_enter Try.func50,Try.ntmps50
 go_wp2_with (first|((with_reducible refine gd 19 rfl ?_);refine iL 19 [a0,a1,a2] ?_;intro v117 w8 ho9 hb;have HB:=aM hb;have HO:=aM ho9;clear hb ho9;obtain⟨Ao10,co10,rfl⟩:=Kd.R_slice HO.out)|(go_at_call 69;(refine(Dzz.calls 4 _ _ [a0,a1,a2] true _ ?side1 ?side2 HIN.out).mono ?_);(case side1=>exact(Kd.R_reads' HO.out).2.2);(case side2=>exact lR HO);rintro e w' ⟨rfl,⟨nd,rfl⟩⟩)|(go_at_call 71;(with_reducible refine(Azq.size_calls _ _ ?side1).mono ?_);(case side1=>first|exact HI0.out|exact HI1.out|exact HI2.out);rintro e w' ⟨rfl,⟨nd,rfl⟩⟩)|(go_at_call 70;(with_reducible refine(Bzj.calls _ _ _ _ _ HP.out).mono ?_);rintro e w46 ⟨rfl,hb⟩;replace HB:=bB hb;clear hb)|(go_at_call 72;(with_reducible refine(Azv.calls _ _ _ _ _ _ _ HD.out).mono ?_);rintro e w47 ⟨rfl,hb⟩;replace HB:=bB hb;clear hb))
 go_ret2
 exact⟨rfl,pB⟩
set_option maxHeartbeats 16000000 in
theorem zz4_1 {P:Prop} (h:P:=by
 go_wp2_with (first|((with_reducible refine gd 19 rfl ?_);refine iL 19 [a0,a1,a2] ?_;intro v117 w8 ho9 hb;have HB:=aM hb;have HO:=aM ho9;clear hb ho9;obtain⟨Ao10,co10,rfl⟩:=Kd.R_slice HO.out)|(go_at_call 69;(refine(Dzz.calls 4 _ _ [a0,a1,a2] true _ ?side1 ?side2 HIN.out).mono ?_);(case side1=>exact(Kd.R_reads' HO.out).2.2);(case side2=>exact lR HO);rintro e w' ⟨rfl,⟨nd,rfl⟩⟩)|(go_at_call 71;(with_reducible refine(Azq.size_calls _ _ ?side1).mono ?_);(case side1=>first|exact HI0.out|exact HI1.out|exact HI2.out);rintro e w' ⟨rfl,⟨nd,rfl⟩⟩)|(go_at_call 70;(with_reducible refine(Bzj.calls _ _ _ _ _ HP.out).mono ?_);rintro e w46 ⟨rfl,hb⟩;replace HB:=bB hb;clear hb)|(go_at_call 72;(with_reducible refine(Azv.calls _ _ _ _ _ _ _ HD.out).mono ?_);rintro e w47 ⟨rfl,hb⟩;replace HB:=bB hb;clear hb))
 go_ret2
 exact⟨by first|rfl|(simp;done),pB⟩):P:=h
theorem Azq.calls_m0 (a0 a1 a2:Int) (w:World) (HI0:Aside0 (Azq.inB a0=true)) (HI1:Aside0 (Azq.inB a1=true)) (HI2:Aside0 (Azq.inB a2=true)) (HIN:Aside0 (Dzz.f 4 [a0,a1,a2]=some true))
  (c0:(a2 == 0)=false) (hi lo q r:Int) (HP:Aside0 (Bzj.f (Azq.ab a0) (Azq.ab a1)=some (hi,lo))) (HD:Aside0 (Azv.f hi lo (Azq.ab a2)=some (q,r,true)))
  (hq0:0≤q) (hq1:q < 4611686018427387904) (hr0:0≤r) (hr1:r < Azq.ab a2) (hab:Azq.ab a2≤1125899906842624) (nb:Bool) (hn:(!((!(decide (a0 < 0) == decide (a1 < 0))) == decide (a2 < 0)))=nb)
  (r1 r2:Int) (hr:Azq.fin nb (Azq.grows nb 0 q r (Azq.ab a2)) q=(r1,r2)) :
  Calls Try.prog 50 #[.int .i64 a0,.int .i64 a1,.int .i64 a2,.int .i64 0] w fun e w'=>e=.returned (.tuple #[.int .i64 r1,.int .i64 r2])∧Below w.heap.size w w':=by

 cases nb
 ·skip
  have hg:Azq.grows false 0 q r (Azq.ab a2)=false:=by unfold Azq.grows;simp
  by_cases ho:1125899906842624 < q
  ·have e1:Azq.fin false false q=(0,2):=by unfold Azq.fin;simp;omega
   rw[hg,e1] at hr;simp only[Prod.mk.injEq] at hr;obtain⟨rfl,rfl⟩:=hr;have c9:decide (1125899906842624 < q)=true:=dE ho;clear e1 hg;go_enter Try.func50,Try.ntmps50
   exact zz4_1
  ·have e1:Azq.fin false false q=(q,0):=by unfold Azq.fin;simp;omega
   rw[hg,e1] at hr;simp only[Prod.mk.injEq] at hr;obtain⟨rfl,rfl⟩:=hr;have c9:decide (1125899906842624 < q)=false:=decide_eq_false ho;clear e1 hg;go_enter Try.func50,Try.ntmps50
   exact zz4_1
 ·skip
  by_cases hp:0 < r
  ·have c5:decide (0 < r)=true:=dE hp;have hg:Azq.grows true 0 q r (Azq.ab a2)=true:=by unfold Azq.grows;simp;omega
   by_cases ho:1125899906842624 < q+1
   ·have e1:Azq.fin true true q=(0,2):=by unfold Azq.fin;simp;omega
    rw[hg,e1] at hr;simp only[Prod.mk.injEq] at hr;obtain⟨rfl,rfl⟩:=hr;have c9:decide (1125899906842624 < q+1)=true:=dE ho;clear e1 hg;go_enter Try.func50,Try.ntmps50
    exact zz4_1
   ·have e1:Azq.fin true true q=(-(q+1),0):=by unfold Azq.fin;simp;omega
    rw[hg,e1] at hr;simp only[Prod.mk.injEq] at hr;obtain⟨rfl,rfl⟩:=hr;have c9:decide (1125899906842624 < q+1)=false:=decide_eq_false ho;clear e1 hg;go_enter Try.func50,Try.ntmps50
    exact zz4_1
  ·have c5:decide (0 < r)=false:=decide_eq_false hp;have hg:Azq.grows true 0 q r (Azq.ab a2)=false:=by unfold Azq.grows;simp;omega
   by_cases ho:1125899906842624 < q
   ·have e1:Azq.fin true false q=(0,2):=by unfold Azq.fin;simp;omega
    rw[hg,e1] at hr;simp only[Prod.mk.injEq] at hr;obtain⟨rfl,rfl⟩:=hr;have c9:decide (1125899906842624 < q)=true:=dE ho;clear e1 hg;go_enter Try.func50,Try.ntmps50
    exact zz4_1
   ·have e1:Azq.fin true false q=(-(q),0):=by unfold Azq.fin;simp;omega
    rw[hg,e1] at hr;simp only[Prod.mk.injEq] at hr;obtain⟨rfl,rfl⟩:=hr;have c9:decide (1125899906842624 < q)=false:=decide_eq_false ho;clear e1 hg;go_enter Try.func50,Try.ntmps50
    exact zz4_1
set_option maxHeartbeats 16000000 in
theorem Azq.calls_m1 (a0 a1 a2:Int) (w:World) (HI0:Aside0 (Azq.inB a0=true)) (HI1:Aside0 (Azq.inB a1=true)) (HI2:Aside0 (Azq.inB a2=true)) (HIN:Aside0 (Dzz.f 4 [a0,a1,a2]=some true))
  (c0:(a2 == 0)=false) (hi lo q r:Int) (HP:Aside0 (Bzj.f (Azq.ab a0) (Azq.ab a1)=some (hi,lo))) (HD:Aside0 (Azv.f hi lo (Azq.ab a2)=some (q,r,true)))
  (hq0:0≤q) (hq1:q < 4611686018427387904) (hr0:0≤r) (hr1:r < Azq.ab a2) (hab:Azq.ab a2≤1125899906842624) (nb:Bool) (hn:(!((!(decide (a0 < 0) == decide (a1 < 0))) == decide (a2 < 0)))=nb)
  (r1 r2:Int) (hr:Azq.fin nb (Azq.grows nb 1 q r (Azq.ab a2)) q=(r1,r2)) :
  Calls Try.prog 50 #[.int .i64 a0,.int .i64 a1,.int .i64 a2,.int .i64 1] w fun e w'=>e=.returned (.tuple #[.int .i64 r1,.int .i64 r2])∧Below w.heap.size w w':=by

 cases nb
 ·skip
  by_cases hp:0 < r
  ·have c5:decide (0 < r)=true:=dE hp;have hg:Azq.grows false 1 q r (Azq.ab a2)=true:=by unfold Azq.grows;simp;omega
   by_cases ho:1125899906842624 < q+1
   ·have e1:Azq.fin false true q=(0,2):=by unfold Azq.fin;simp;omega
    rw[hg,e1] at hr;simp only[Prod.mk.injEq] at hr;obtain⟨rfl,rfl⟩:=hr;have c9:decide (1125899906842624 < q+1)=true:=dE ho;clear e1 hg;go_enter Try.func50,Try.ntmps50
    exact zz4_1
   ·have e1:Azq.fin false true q=(q+1,0):=by unfold Azq.fin;simp;omega
    rw[hg,e1] at hr;simp only[Prod.mk.injEq] at hr;obtain⟨rfl,rfl⟩:=hr;have c9:decide (1125899906842624 < q+1)=false:=decide_eq_false ho;clear e1 hg;go_enter Try.func50,Try.ntmps50
    exact zz4_1
  ·have c5:decide (0 < r)=false:=decide_eq_false hp;have hg:Azq.grows false 1 q r (Azq.ab a2)=false:=by unfold Azq.grows;simp;omega
   by_cases ho:1125899906842624 < q
   ·have e1:Azq.fin false false q=(0,2):=by unfold Azq.fin;simp;omega
    rw[hg,e1] at hr;simp only[Prod.mk.injEq] at hr;obtain⟨rfl,rfl⟩:=hr;have c9:decide (1125899906842624 < q)=true:=dE ho;clear e1 hg;go_enter Try.func50,Try.ntmps50
    exact zz4_1
   ·have e1:Azq.fin false false q=(q,0):=by unfold Azq.fin;simp;omega
    rw[hg,e1] at hr;simp only[Prod.mk.injEq] at hr;obtain⟨rfl,rfl⟩:=hr;have c9:decide (1125899906842624 < q)=false:=decide_eq_false ho;clear e1 hg;go_enter Try.func50,Try.ntmps50
    exact zz4_1
 ·skip
  have hg:Azq.grows true 1 q r (Azq.ab a2)=false:=by unfold Azq.grows;simp
  by_cases ho:1125899906842624 < q
  ·have e1:Azq.fin true false q=(0,2):=by unfold Azq.fin;simp;omega
   rw[hg,e1] at hr;simp only[Prod.mk.injEq] at hr;obtain⟨rfl,rfl⟩:=hr;have c9:decide (1125899906842624 < q)=true:=dE ho;clear e1 hg;go_enter Try.func50,Try.ntmps50
   exact zz4_1
  ·have e1:Azq.fin true false q=(-(q),0):=by unfold Azq.fin;simp;omega
   rw[hg,e1] at hr;simp only[Prod.mk.injEq] at hr;obtain⟨rfl,rfl⟩:=hr;have c9:decide (1125899906842624 < q)=false:=decide_eq_false ho;clear e1 hg;go_enter Try.func50,Try.ntmps50
   exact zz4_1
set_option maxHeartbeats 16000000 in
theorem Azq.calls_m2 (a0 a1 a2:Int) (w:World) (HI0:Aside0 (Azq.inB a0=true)) (HI1:Aside0 (Azq.inB a1=true)) (HI2:Aside0 (Azq.inB a2=true)) (HIN:Aside0 (Dzz.f 4 [a0,a1,a2]=some true))
  (c0:(a2 == 0)=false) (hi lo q r:Int) (HP:Aside0 (Bzj.f (Azq.ab a0) (Azq.ab a1)=some (hi,lo))) (HD:Aside0 (Azv.f hi lo (Azq.ab a2)=some (q,r,true)))
  (hq0:0≤q) (hq1:q < 4611686018427387904) (hr0:0≤r) (hr1:r < Azq.ab a2) (hab:Azq.ab a2≤1125899906842624) (nb:Bool) (hn:(!((!(decide (a0 < 0) == decide (a1 < 0))) == decide (a2 < 0)))=nb)
  (r1 r2:Int) (hr:Azq.fin nb (Azq.grows nb 2 q r (Azq.ab a2)) q=(r1,r2)) :
  Calls Try.prog 50 #[.int .i64 a0,.int .i64 a1,.int .i64 a2,.int .i64 2] w fun e w'=>e=.returned (.tuple #[.int .i64 r1,.int .i64 r2])∧Below w.heap.size w w':=by

 cases nb
 ·skip
  by_cases h1:Azq.ab a2 < 2 * r
  ·have c5:decide (Azq.ab a2 < 2 * r)=true:=dE h1;have hg:Azq.grows false 2 q r (Azq.ab a2)=true:=by unfold Azq.grows;simp;omega
   by_cases ho:1125899906842624 < q+1
   ·have e1:Azq.fin false true q=(0,2):=by unfold Azq.fin;simp;omega
    rw[hg,e1] at hr;simp only[Prod.mk.injEq] at hr;obtain⟨rfl,rfl⟩:=hr;have c9:decide (1125899906842624 < q+1)=true:=dE ho;clear e1 hg;go_enter Try.func50,Try.ntmps50
    exact zz4_1
   ·have e1:Azq.fin false true q=(q+1,0):=by unfold Azq.fin;simp;omega
    rw[hg,e1] at hr;simp only[Prod.mk.injEq] at hr;obtain⟨rfl,rfl⟩:=hr;have c9:decide (1125899906842624 < q+1)=false:=decide_eq_false ho;clear e1 hg;go_enter Try.func50,Try.ntmps50
    exact zz4_1
  ·have c5:decide (Azq.ab a2 < 2 * r)=false:=decide_eq_false h1;by_cases h2:2 * r=Azq.ab a2
   ·have c6:(2 * r == Azq.ab a2)=true:=beq_iff_eq.mpr h2;by_cases h3:q % 2=1
    ·have c7:(q % 2 == 1)=true:=beq_iff_eq.mpr h3;have hg:Azq.grows false 2 q r (Azq.ab a2)=true:=by unfold Azq.grows;simp;omega
     clear h2 h3;by_cases ho:1125899906842624 < q+1
     ·have e1:Azq.fin false true q=(0,2):=by unfold Azq.fin;simp;omega
      rw[hg,e1] at hr;simp only[Prod.mk.injEq] at hr;obtain⟨rfl,rfl⟩:=hr;have c9:decide (1125899906842624 < q+1)=true:=dE ho;clear e1 hg;go_enter Try.func50,Try.ntmps50
      exact zz4_1
     ·have e1:Azq.fin false true q=(q+1,0):=by unfold Azq.fin;simp;omega
      rw[hg,e1] at hr;simp only[Prod.mk.injEq] at hr;obtain⟨rfl,rfl⟩:=hr;have c9:decide (1125899906842624 < q+1)=false:=decide_eq_false ho;clear e1 hg;go_enter Try.func50,Try.ntmps50
      exact zz4_1
    ·have c7:(q % 2 == 1)=false:=beq_eq_false_iff_ne.mpr h3;have hg:Azq.grows false 2 q r (Azq.ab a2)=false:=by unfold Azq.grows;simp;omega
     clear h2 h3;by_cases ho:1125899906842624 < q
     ·have e1:Azq.fin false false q=(0,2):=by unfold Azq.fin;simp;omega
      rw[hg,e1] at hr;simp only[Prod.mk.injEq] at hr;obtain⟨rfl,rfl⟩:=hr;have c9:decide (1125899906842624 < q)=true:=dE ho;clear e1 hg;go_enter Try.func50,Try.ntmps50
      exact zz4_1
     ·have e1:Azq.fin false false q=(q,0):=by unfold Azq.fin;simp;omega
      rw[hg,e1] at hr;simp only[Prod.mk.injEq] at hr;obtain⟨rfl,rfl⟩:=hr;have c9:decide (1125899906842624 < q)=false:=decide_eq_false ho;clear e1 hg;go_enter Try.func50,Try.ntmps50
      exact zz4_1
   ·have c6:(2 * r == Azq.ab a2)=false:=beq_eq_false_iff_ne.mpr h2;have hg:Azq.grows false 2 q r (Azq.ab a2)=false:=by unfold Azq.grows;simp;omega
    clear h2;by_cases ho:1125899906842624 < q
    ·have e1:Azq.fin false false q=(0,2):=by unfold Azq.fin;simp;omega
     rw[hg,e1] at hr;simp only[Prod.mk.injEq] at hr;obtain⟨rfl,rfl⟩:=hr;have c9:decide (1125899906842624 < q)=true:=dE ho;clear e1 hg;go_enter Try.func50,Try.ntmps50
     exact zz4_1
    ·have e1:Azq.fin false false q=(q,0):=by unfold Azq.fin;simp;omega
     rw[hg,e1] at hr;simp only[Prod.mk.injEq] at hr;obtain⟨rfl,rfl⟩:=hr;have c9:decide (1125899906842624 < q)=false:=decide_eq_false ho;clear e1 hg;go_enter Try.func50,Try.ntmps50
     exact zz4_1
 ·skip
  by_cases h1:Azq.ab a2 < 2 * r
  ·have c5:decide (Azq.ab a2 < 2 * r)=true:=dE h1;have hg:Azq.grows true 2 q r (Azq.ab a2)=true:=by unfold Azq.grows;simp;omega
   by_cases ho:1125899906842624 < q+1
   ·have e1:Azq.fin true true q=(0,2):=by unfold Azq.fin;simp;omega
    rw[hg,e1] at hr;simp only[Prod.mk.injEq] at hr;obtain⟨rfl,rfl⟩:=hr;have c9:decide (1125899906842624 < q+1)=true:=dE ho;clear e1 hg;go_enter Try.func50,Try.ntmps50
    exact zz4_1
   ·have e1:Azq.fin true true q=(-(q+1),0):=by unfold Azq.fin;simp;omega
    rw[hg,e1] at hr;simp only[Prod.mk.injEq] at hr;obtain⟨rfl,rfl⟩:=hr;have c9:decide (1125899906842624 < q+1)=false:=decide_eq_false ho;clear e1 hg;go_enter Try.func50,Try.ntmps50
    exact zz4_1
  ·have c5:decide (Azq.ab a2 < 2 * r)=false:=decide_eq_false h1;by_cases h2:2 * r=Azq.ab a2
   ·have c6:(2 * r == Azq.ab a2)=true:=beq_iff_eq.mpr h2;by_cases h3:q % 2=1
    ·have c7:(q % 2 == 1)=true:=beq_iff_eq.mpr h3;have hg:Azq.grows true 2 q r (Azq.ab a2)=true:=by unfold Azq.grows;simp;omega
     clear h2 h3;by_cases ho:1125899906842624 < q+1
     ·have e1:Azq.fin true true q=(0,2):=by unfold Azq.fin;simp;omega
      rw[hg,e1] at hr;simp only[Prod.mk.injEq] at hr;obtain⟨rfl,rfl⟩:=hr;have c9:decide (1125899906842624 < q+1)=true:=dE ho;clear e1 hg;go_enter Try.func50,Try.ntmps50
      exact zz4_1
     ·have e1:Azq.fin true true q=(-(q+1),0):=by unfold Azq.fin;simp;omega
      rw[hg,e1] at hr;simp only[Prod.mk.injEq] at hr;obtain⟨rfl,rfl⟩:=hr;have c9:decide (1125899906842624 < q+1)=false:=decide_eq_false ho;clear e1 hg;go_enter Try.func50,Try.ntmps50
      exact zz4_1
    ·have c7:(q % 2 == 1)=false:=beq_eq_false_iff_ne.mpr h3;have hg:Azq.grows true 2 q r (Azq.ab a2)=false:=by unfold Azq.grows;simp;omega
     clear h2 h3;by_cases ho:1125899906842624 < q
     ·have e1:Azq.fin true false q=(0,2):=by unfold Azq.fin;simp;omega
      rw[hg,e1] at hr;simp only[Prod.mk.injEq] at hr;obtain⟨rfl,rfl⟩:=hr;have c9:decide (1125899906842624 < q)=true:=dE ho;clear e1 hg;go_enter Try.func50,Try.ntmps50
      exact zz4_1
     ·have e1:Azq.fin true false q=(-(q),0):=by unfold Azq.fin;simp;omega
      rw[hg,e1] at hr;simp only[Prod.mk.injEq] at hr;obtain⟨rfl,rfl⟩:=hr;have c9:decide (1125899906842624 < q)=false:=decide_eq_false ho;clear e1 hg;go_enter Try.func50,Try.ntmps50
      exact zz4_1
   ·have c6:(2 * r == Azq.ab a2)=false:=beq_eq_false_iff_ne.mpr h2;have hg:Azq.grows true 2 q r (Azq.ab a2)=false:=by unfold Azq.grows;simp;omega
    clear h2;by_cases ho:1125899906842624 < q
    ·have e1:Azq.fin true false q=(0,2):=by unfold Azq.fin;simp;omega
     rw[hg,e1] at hr;simp only[Prod.mk.injEq] at hr;obtain⟨rfl,rfl⟩:=hr;have c9:decide (1125899906842624 < q)=true:=dE ho;clear e1 hg;go_enter Try.func50,Try.ntmps50
     exact zz4_1
    ·have e1:Azq.fin true false q=(-(q),0):=by unfold Azq.fin;simp;omega
     rw[hg,e1] at hr;simp only[Prod.mk.injEq] at hr;obtain⟨rfl,rfl⟩:=hr;have c9:decide (1125899906842624 < q)=false:=decide_eq_false ho;clear e1 hg;go_enter Try.func50,Try.ntmps50
     exact zz4_1
theorem Azq.calls (a0:Int) (a1:Int) (a2:Int) (a3:Int) (r1:Int) (r2:Int) (w:World) (h:Azq.f a0 a1 a2 a3=some (r1,r2)) :
  Calls Try.prog 50 #[.int .i64 a0,.int .i64 a1,.int .i64 a2,.int .i64 a3] w fun e w'=>e=.returned (.tuple #[.int .i64 r1,.int .i64 r2])∧Below w.heap.size w w':=by
 unfold Azq.f at h;have h:=Option.some.inj h;by_cases hb:(Azq.inB a0 && Azq.inB a1 && Azq.inB a2)=true
 case neg =>
  rw[if_neg hb] at h;simp only[Prod.mk.injEq] at h;obtain⟨rfl,rfl⟩:=h;exact Azq.calls_out a0 a1 a2 a3 w (by simpa using hb)
 case pos =>
  rw[if_pos hb] at h;by_cases hc:a2=0
  ·rw[if_pos hc] at h;simp only[Prod.mk.injEq] at h;obtain⟨rfl,rfl⟩:=h;exact Azq.calls_bad a0 a1 a2 a3 w hb 16 (by rw[if_pos hc]) (.inl hc)
  rw[if_neg hc] at h;by_cases h1:a3 < 0
  ·rw[if_pos h1] at h;simp only[Prod.mk.injEq] at h;obtain⟨rfl,rfl⟩:=h;exact Azq.calls_bad a0 a1 a2 a3 w hb 17 (by rw[if_neg hc]) (.inr (.inl h1))
  rw[if_neg h1] at h;by_cases h2:3≤a3
  ·rw[if_pos h2] at h;simp only[Prod.mk.injEq] at h;obtain⟨rfl,rfl⟩:=h;exact Azq.calls_bad a0 a1 a2 a3 w hb 17 (by rw[if_neg hc]) (.inr (.inr h2))
  rw[if_neg h2] at h;have hin:=Azq.in_val a0 a1 a2;rw[hb] at hin;simp only[Bool.and_eq_true] at hb;obtain⟨⟨b0,b1⟩,b2⟩:=hb;have hA:=Azq.ab_range a0 b0;have hB:=Azq.ab_range a1 b1;have hC:=Azq.ab_range a2 b2;have hC1:1≤Azq.ab a2:=by unfold Azq.ab;split <;> omega
  obtain⟨e1,e2⟩:=Azq.hilo hA hB ⟨hC1,hC.2⟩;unfold Azq.val at h;by_cases hs:Azq.ab a0 * Azq.ab a1 / Azq.ab a2 < 4611686018427387904
  ·rw[if_pos hs] at e2;have hq0:0≤Azq.ab a0 * Azq.ab a1 / Azq.ab a2:=Int.ediv_nonneg (Int.mul_nonneg hA.1 hB.1) (by omega)
   have hr0:0≤Azq.ab a0 * Azq.ab a1 % Azq.ab a2:=Int.emod_nonneg _ (by omega)
   have hr1:Azq.ab a0 * Azq.ab a1 % Azq.ab a2 < Azq.ab a2:=Int.emod_lt_of_pos _ (by omega)
   have c0:(a2 == 0)=false:=beq_eq_false_iff_ne.mpr hc;have hn:(!((!(decide (a0 < 0) == decide (a1 < 0))) == decide (a2 < 0)))=((decide (a0 < 0) != decide (a1 < 0)) != decide (a2 < 0)):=rfl;obtain rfl|rfl|rfl:a3=0∨a3=1∨a3=2:=by omega
   ·exact Azq.calls_m0 a0 a1 a2 w ⟨b0⟩ ⟨b1⟩ ⟨b2⟩ ⟨hin⟩ c0 _ _ _ _ ⟨e1⟩ ⟨e2⟩ hq0 hs hr0 hr1 hC.2 _ hn r1 r2 h
   ·exact Azq.calls_m1 a0 a1 a2 w ⟨b0⟩ ⟨b1⟩ ⟨b2⟩ ⟨hin⟩ c0 _ _ _ _ ⟨e1⟩ ⟨e2⟩ hq0 hs hr0 hr1 hC.2 _ hn r1 r2 h
   ·exact Azq.calls_m2 a0 a1 a2 w ⟨b0⟩ ⟨b1⟩ ⟨b2⟩ ⟨hin⟩ c0 _ _ _ _ ⟨e1⟩ ⟨e2⟩ hq0 hs hr0 hr1 hC.2 _ hn r1 r2 h
  ·rw[if_neg hs] at e2;rw[Azq.fin_big (by omega)] at h
   simp only[Prod.mk.injEq] at h;obtain⟨rfl,rfl⟩:=h;exact Azq.calls_big a0 a1 a2 a3 w ⟨b0⟩ ⟨b1⟩ ⟨b2⟩ ⟨hin⟩ (beq_eq_false_iff_ne.mpr hc) (decide_eq_false h1) (decide_eq_false h2) _ _ _ _ ⟨e1⟩ ⟨e2⟩

end Go.Proofs.Ytnklckihalhlmaa.Print
