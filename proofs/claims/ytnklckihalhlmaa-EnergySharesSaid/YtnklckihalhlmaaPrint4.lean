import Derived.Test.YtnklckihalhlmaaPrint0
namespace Go.Proofs.Ytnklckihalhlmaa.Print
open Go.RowKit Go.Proofs.YtnklckihalhlmaaW.PrintWords Go.Proofs.YtnklckihalhlmaaW.PrintLast Go.Proofs.YtnklckihalhlmaaW.PrintMore
attribute [local go_sem] max2_int min2_int max_two min_two max_three min_three max_four min_four
set_option linter.unusedVariables false
set_option maxRecDepth 100000
set_option maxHeartbeats 8000000
set_option linter.unusedSimpArgs false

/--|x|-/
def Azj.ab (x:Int):Int:=if x < 0 then -x else x
def Azj.inB (x:Int):Bool:=decide (-1125899906842624≤x) && decide (x≤1125899906842624)
/-- Is the quotient's amount one more? -/
def Azj.grows (neg:Bool) (mode q r c:Int):Bool :=
 if mode=0 then neg && decide (0 < r) else if mode=1 then !neg && decide (0 < r) else decide (c < 2 * r) || (decide (2 * r=c) && decide (q % 2=1))
def Azj.fin (neg:Bool) (g:Bool) (q:Int):Int × Int :=
 if 1125899906842624 < (if g then q+1 else q) then(0,2) else(if neg then -(if g then q+1 else q) else(if g then q+1 else q),0)
def Azj.val (a b c mode:Int):Int × Int :=
 Azj.fin ((decide (a < 0) != decide (b < 0)) != decide (c < 0))
  (Azj.grows ((decide (a < 0) != decide (b < 0)) != decide (c < 0)) mode (Azj.ab a * Azj.ab b / Azj.ab c) (Azj.ab a * Azj.ab b % Azj.ab c) (Azj.ab c))
  (Azj.ab a * Azj.ab b / Azj.ab c)
def Azj.f (a0:Int) (a1:Int) (a2:Int) (a3:Int):Option (Int × Int) :=
 some (if Azj.inB a0 && Azj.inB a1 && Azj.inB a2 then(if a2=0 then(0,16) else if a3 < 0 then(0,17) else if 3≤a3 then(0,17) else Azj.val a0 a1 a2 a3) else(0,1))
theorem Azj.in_l0 (l:List Int) (hl:l.length≤9223372036854775806) (d:Nat):∀ (k i:Nat),l.length - i=d→i≤l.length→d < k→Dzq.l0 k l (l.length:Int) (i:Int)=some ((l.drop i).all Azj.inB):=by
 induction d with
 | zero =>
  intro k i a6 a7 a8;obtain⟨k,rfl⟩:∃ m,k=m+1:=⟨k - 1,by omega⟩
  simp only[Dzq.l0];rw[if_neg (by omega),List.drop_eq_nil_of_le (by omega)];rfl
 | succ d ih =>
  intro k i a6 a7 a8;obtain⟨k,rfl⟩:∃ m,k=m+1:=⟨k - 1,by omega⟩
  have hi:i < l.length:=by omega
  have er:rd l (i:Int)=l[i]:=by simp [rd,List.getD,hi]
  have ew:wrap64 ((i:Int)+1)=((i+1:Nat):Int):=by unfold wrap64;omega
  rw[List.drop_eq_getElem_cons hi,List.all_cons];simp only[Dzq.l0];rw[if_pos (by omega),if_pos (by omega),if_pos (by omega),er,ew,ih k (i+1) (by omega) (by omega) (by omega)]
  unfold Azj.inB;by_cases a9:l[i] < -1125899906842624
  ·rw[if_pos a9,decide_eq_false (by omega:¬ -1125899906842624≤l[i])];rfl
  ·rw[if_neg a9,dE (by omega:-1125899906842624≤l[i])]
   by_cases c2:l[i] > 1125899906842624
   ·rw[if_pos c2,decide_eq_false (by omega:¬ l[i]≤1125899906842624)];rfl
   ·rw[if_neg c2,dE (by omega:l[i]≤1125899906842624)];rfl
theorem Azj.in_f (l:List Int) (hl:l.length≤9223372036854775806):Dzq.f (l.length+1) l=some (l.all Azj.inB):=by
 have:=Azj.in_l0 l hl l.length (l.length+1) 0 (by omega) (by omega) (by omega)
 unfold Dzq.f;simpa using this
theorem Azj.in_val (a b c:Int):Dzq.f 4 [a,b,c]=some (Azj.inB a && Azj.inB b && Azj.inB c):=by
 have:=Azj.in_f [a,b,c] (by simp)
 simpa [Bool.and_assoc] using this
theorem Azj.size_val (x:Int) (h:Azj.inB x=true):Hzw.f x=some (Azj.ab x):=by
 simp only[Azj.inB,Bool.and_eq_true,decide_eq_true_eq] at h;have e:∀ y:Int,0≤y→y≤1125899906842624→IntKind.u64.wrap y=y:=fun y a6 a7=>Bzw.w64 y a6 (by omega)
 unfold Hzw.f Azj.ab;split
 ·have:wrap64 (-x)=-x:=by unfold wrap64;omega
  rw[this,e _ (by omega) (by omega)]
 ·rw[e _ (by omega) (by omega)]
theorem Azj.ab_range (x:Int) (h:Azj.inB x=true):0≤Azj.ab x∧Azj.ab x≤1125899906842624:=by
 simp only[Azj.inB,Bool.and_eq_true,decide_eq_true_eq] at h;unfold Azj.ab;split <;> omega
/-- What the body computes,once the amounts are there. -/
theorem Azj.size_calls (x:Int) (w:World) (h:Azj.inB x=true):Calls Try.prog 71 #[.int .i64 x] w fun e w'=>e=.returned (.int .u64 (Azj.ab x))∧Drawn0 w w' :=
 Hzw.calls x _ w (Azj.size_val x h)
theorem Azj.hilo {A B C:Int} (hA:0≤A∧A≤1125899906842624) (hB:0≤B∧B≤1125899906842624) (hC:1≤C∧C≤1125899906842624) :
  Bzw.f A B=some (A * B / 18446744073709551616,A * B % 18446744073709551616) ∧
  Azk.f (A * B / 18446744073709551616) (A * B % 18446744073709551616) C=some (if A * B / C < 4611686018427387904 then(A * B / C,A * B % C,true) else(0,0,false)):=by
 have h:=Bzw.mul_le hA.1 hA.2 hB.1 hB.2;have e:A * B / 18446744073709551616 * 18446744073709551616+A * B % 18446744073709551616=A * B:=by omega
 constructor
 ·unfold Bzw.f;rw[if_pos ⟨hA.1,hA.2,hB.1,hB.2⟩]
 ·unfold Azk.f;rw[if_pos ⟨by omega,by omega,by omega,by omega,hC.1,hC.2⟩,e]
  split <;> rfl
theorem Azj.calls_out (a6 a7 a8 a9:Int) (w:World) (hb:(Azj.inB a6 && Azj.inB a7 && Azj.inB a8)=false) :
  Calls Try.prog 50 #[.int .i64 a6,.int .i64 a7,.int .i64 a8,.int .i64 a9] w fun e w'=>e=.returned (.tuple #[.int .i64 0,.int .i64 1])∧Below w.heap.size w w':=by
 have hin:=Azj.in_val a6 a7 a8;rw[hb] at hin;have HIN:=aM hin;clear hin hb;go_enter Try.func50,Try.ntmps50
 go_wp2_with (first|((with_reducible refine gd 19 rfl ?_);refine iL 19 [a6,a7,a8] ?_;intro b3 b4 b5 hb;have HB:=aM hb;have HO:=aM b5;clear hb b5;obtain⟨b6,b7,rfl⟩:=Kd.R_slice HO.out)|(go_at_call 69;(refine(Dzq.calls 4 _ _ [a6,a7,a8] false _ ?_ ?_ HIN.out).mono ?_);(focus(exact(Kd.R_reads' HO.out).2.2));exact lR HO;rintro e w' ⟨rfl,⟨nd,rfl⟩⟩))
 go_ret2
 exact⟨rfl,pB⟩
theorem zz4_0 {P:Prop} (h:P:=by
 go_wp2_with (first|((with_reducible refine gd 19 rfl ?_);refine iL 19 [a6,a7,a8] ?_;intro b5 b6 b7 hb;have HB:=aM hb;have HO:=aM b7;clear hb b7;obtain⟨b8,b9,rfl⟩:=Kd.R_slice HO.out)|(go_at_call 69;(refine(Dzq.calls 4 _ _ [a6,a7,a8] true _ ?_ ?_ HIN.out).mono ?_);(focus(exact(Kd.R_reads' HO.out).2.2));exact lR HO;rintro e w' ⟨rfl,⟨nd,rfl⟩⟩))
 go_ret2
 exact⟨rfl,pB⟩):P:=h
theorem Azj.calls_bad (a6 a7 a8 a9:Int) (w:World) (hb:(Azj.inB a6 && Azj.inB a7 && Azj.inB a8)=true) (b3:Int) (hr:b3=if a8=0 then 16 else 17) (hbad:a8=0∨a9 < 0∨3≤a9) :
  Calls Try.prog 50 #[.int .i64 a6,.int .i64 a7,.int .i64 a8,.int .i64 a9] w fun e w'=>e=.returned (.tuple #[.int .i64 0,.int .i64 b3])∧Below w.heap.size w w':=by
 have hin:=Azj.in_val a6 a7 a8;rw[hb] at hin;have HIN:=aM hin;clear hin hb;by_cases hc:a8=0
 ·rw[if_pos hc] at hr;subst hr;have b4:(a8 == 0)=true:=beq_iff_eq.mpr hc;clear hc hbad;go_enter Try.func50,Try.ntmps50
  exact zz4_0
 ·rw[if_neg hc] at hr;subst hr;have b4:(a8 == 0)=false:=beq_eq_false_iff_ne.mpr hc;by_cases hm:a9 < 0
  ·have d0:decide (a9 < 0)=true:=dE hm;clear hc hbad hm;go_enter Try.func50,Try.ntmps50
   exact zz4_0
  ·have d0:decide (a9 < 0)=false:=decide_eq_false hm;have c2:decide (3≤a9)=true:=dE (by omega)
   clear hc hbad hm;go_enter Try.func50,Try.ntmps50
   exact zz4_0
theorem Azj.fin_big {neg g:Bool} {q:Int} (h:4611686018427387904≤q):Azj.fin neg g q=(0,2):=by
 unfold Azj.fin;rw[if_pos (by split <;> omega)]
theorem Azj.calls_big (a6 a7 a8 a9:Int) (w:World) (b3:Aside0 (Azj.inB a6=true)) (b4:Aside0 (Azj.inB a7=true)) (b5:Aside0 (Azj.inB a8=true)) (HIN:Aside0 (Dzq.f 4 [a6,a7,a8]=some true))
  (b6:(a8 == 0)=false) (b7:decide (a9 < 0)=false) (c2:decide (3≤a9)=false) (hi lo q r:Int) (HP:Aside0 (Bzw.f (Azj.ab a6) (Azj.ab a7)=some (hi,lo))) (HD:Aside0 (Azk.f hi lo (Azj.ab a8)=some (q,r,false))) :
  Calls Try.prog 50 #[.int .i64 a6,.int .i64 a7,.int .i64 a8,.int .i64 a9] w fun e w'=>e=.returned (.tuple #[.int .i64 0,.int .i64 2])∧Below w.heap.size w w':=by
 go_enter Try.func50,Try.ntmps50
 go_wp2_with (first|((with_reducible refine gd 19 rfl ?_);refine iL 19 [a6,a7,a8] ?_;intro b8 b9 d0 hb;have HB:=aM hb;have HO:=aM d0;clear hb d0;obtain⟨d1,d3,rfl⟩:=Kd.R_slice HO.out)|(go_at_call 69;(refine(Dzq.calls 4 _ _ [a6,a7,a8] true _ ?_ ?_ HIN.out).mono ?_);(focus(exact(Kd.R_reads' HO.out).2.2));exact lR HO;rintro e w' ⟨rfl,⟨nd,rfl⟩⟩)|(go_at_call 71;(with_reducible refine(Azj.size_calls _ _ ?_).mono ?_);(focus(first|exact b3.out|exact b4.out|exact b5.out));rintro e w' ⟨rfl,⟨nd,rfl⟩⟩)|(go_at_call 70;(with_reducible refine(Bzw.calls _ _ _ _ _ HP.out).mono ?_);rintro e d4 ⟨rfl,hb⟩;replace HB:=bB hb;clear hb)|(go_at_call 72;(with_reducible refine(Azk.calls _ _ _ _ _ _ _ HD.out).mono ?_);rintro e d5 ⟨rfl,hb⟩;replace HB:=bB hb;clear hb))
 go_ret2
 exact⟨rfl,pB⟩
set_option maxHeartbeats 16000000 in
theorem zz4_1 {P:Prop} (h:P:=by
 go_wp2_with (first|((with_reducible refine gd 19 rfl ?_);refine iL 19 [a6,a7,a8] ?_;intro d1 d3 d4 hb;have HB:=aM hb;have HO:=aM d4;clear hb d4;obtain⟨d5,d6,rfl⟩:=Kd.R_slice HO.out)|(go_at_call 69;(refine(Dzq.calls 4 _ _ [a6,a7,a8] true _ ?_ ?_ HIN.out).mono ?_);(focus(exact(Kd.R_reads' HO.out).2.2));exact lR HO;rintro e w' ⟨rfl,⟨nd,rfl⟩⟩)|(go_at_call 71;(with_reducible refine(Azj.size_calls _ _ ?_).mono ?_);(focus(first|exact a9.out|exact b3.out|exact b4.out));rintro e w' ⟨rfl,⟨nd,rfl⟩⟩)|(go_at_call 70;(with_reducible refine(Bzw.calls _ _ _ _ _ HP.out).mono ?_);rintro e d7 ⟨rfl,hb⟩;replace HB:=bB hb;clear hb)|(go_at_call 72;(with_reducible refine(Azk.calls _ _ _ _ _ _ _ HD.out).mono ?_);rintro e d8 ⟨rfl,hb⟩;replace HB:=bB hb;clear hb))
 go_ret2
 exact⟨by first|rfl|(simp;done),pB⟩):P:=h
theorem Azj.calls_m0 (a6 a7 a8:Int) (w:World) (a9:Aside0 (Azj.inB a6=true)) (b3:Aside0 (Azj.inB a7=true)) (b4:Aside0 (Azj.inB a8=true)) (HIN:Aside0 (Dzq.f 4 [a6,a7,a8]=some true))
  (b5:(a8 == 0)=false) (hi lo q r:Int) (HP:Aside0 (Bzw.f (Azj.ab a6) (Azj.ab a7)=some (hi,lo))) (HD:Aside0 (Azk.f hi lo (Azj.ab a8)=some (q,r,true)))
  (hq0:0≤q) (hq1:q < 4611686018427387904) (b6:0≤r) (b7:r < Azj.ab a8) (hab:Azj.ab a8≤1125899906842624) (nb:Bool) (hn:(!((!(decide (a6 < 0) == decide (a7 < 0))) == decide (a8 < 0)))=nb)
  (b8 b9:Int) (hr:Azj.fin nb (Azj.grows nb 0 q r (Azj.ab a8)) q=(b8,b9)) :
  Calls Try.prog 50 #[.int .i64 a6,.int .i64 a7,.int .i64 a8,.int .i64 0] w fun e w'=>e=.returned (.tuple #[.int .i64 b8,.int .i64 b9])∧Below w.heap.size w w':=by

 cases nb
 ·skip
  have hg:Azj.grows false 0 q r (Azj.ab a8)=false:=by unfold Azj.grows;simp
  by_cases ho:1125899906842624 < q
  ·have d0:Azj.fin false false q=(0,2):=by unfold Azj.fin;simp;omega
   rw[hg,d0] at hr;simp only[Prod.mk.injEq] at hr;obtain⟨rfl,rfl⟩:=hr;have c9:decide (1125899906842624 < q)=true:=dE ho;clear d0 hg;go_enter Try.func50,Try.ntmps50
   exact zz4_1
  ·have d0:Azj.fin false false q=(q,0):=by unfold Azj.fin;simp;omega
   rw[hg,d0] at hr;simp only[Prod.mk.injEq] at hr;obtain⟨rfl,rfl⟩:=hr;have c9:decide (1125899906842624 < q)=false:=decide_eq_false ho;clear d0 hg;go_enter Try.func50,Try.ntmps50
   exact zz4_1
 ·skip
  by_cases hp:0 < r
  ·have c5:decide (0 < r)=true:=dE hp;have hg:Azj.grows true 0 q r (Azj.ab a8)=true:=by unfold Azj.grows;simp;omega
   by_cases ho:1125899906842624 < q+1
   ·have d0:Azj.fin true true q=(0,2):=by unfold Azj.fin;simp;omega
    rw[hg,d0] at hr;simp only[Prod.mk.injEq] at hr;obtain⟨rfl,rfl⟩:=hr;have c9:decide (1125899906842624 < q+1)=true:=dE ho;clear d0 hg;go_enter Try.func50,Try.ntmps50
    exact zz4_1
   ·have d0:Azj.fin true true q=(-(q+1),0):=by unfold Azj.fin;simp;omega
    rw[hg,d0] at hr;simp only[Prod.mk.injEq] at hr;obtain⟨rfl,rfl⟩:=hr;have c9:decide (1125899906842624 < q+1)=false:=decide_eq_false ho;clear d0 hg;go_enter Try.func50,Try.ntmps50
    exact zz4_1
  ·have c5:decide (0 < r)=false:=decide_eq_false hp;have hg:Azj.grows true 0 q r (Azj.ab a8)=false:=by unfold Azj.grows;simp;omega
   by_cases ho:1125899906842624 < q
   ·have d0:Azj.fin true false q=(0,2):=by unfold Azj.fin;simp;omega
    rw[hg,d0] at hr;simp only[Prod.mk.injEq] at hr;obtain⟨rfl,rfl⟩:=hr;have c9:decide (1125899906842624 < q)=true:=dE ho;clear d0 hg;go_enter Try.func50,Try.ntmps50
    exact zz4_1
   ·have d0:Azj.fin true false q=(-(q),0):=by unfold Azj.fin;simp;omega
    rw[hg,d0] at hr;simp only[Prod.mk.injEq] at hr;obtain⟨rfl,rfl⟩:=hr;have c9:decide (1125899906842624 < q)=false:=decide_eq_false ho;clear d0 hg;go_enter Try.func50,Try.ntmps50
    exact zz4_1
set_option maxHeartbeats 16000000 in
theorem Azj.calls_m1 (a6 a7 a8:Int) (w:World) (a9:Aside0 (Azj.inB a6=true)) (b3:Aside0 (Azj.inB a7=true)) (b4:Aside0 (Azj.inB a8=true)) (HIN:Aside0 (Dzq.f 4 [a6,a7,a8]=some true))
  (b5:(a8 == 0)=false) (hi lo q r:Int) (HP:Aside0 (Bzw.f (Azj.ab a6) (Azj.ab a7)=some (hi,lo))) (HD:Aside0 (Azk.f hi lo (Azj.ab a8)=some (q,r,true)))
  (hq0:0≤q) (hq1:q < 4611686018427387904) (b6:0≤r) (b7:r < Azj.ab a8) (hab:Azj.ab a8≤1125899906842624) (nb:Bool) (hn:(!((!(decide (a6 < 0) == decide (a7 < 0))) == decide (a8 < 0)))=nb)
  (b8 b9:Int) (hr:Azj.fin nb (Azj.grows nb 1 q r (Azj.ab a8)) q=(b8,b9)) :
  Calls Try.prog 50 #[.int .i64 a6,.int .i64 a7,.int .i64 a8,.int .i64 1] w fun e w'=>e=.returned (.tuple #[.int .i64 b8,.int .i64 b9])∧Below w.heap.size w w':=by

 cases nb
 ·skip
  by_cases hp:0 < r
  ·have c5:decide (0 < r)=true:=dE hp;have hg:Azj.grows false 1 q r (Azj.ab a8)=true:=by unfold Azj.grows;simp;omega
   by_cases ho:1125899906842624 < q+1
   ·have d0:Azj.fin false true q=(0,2):=by unfold Azj.fin;simp;omega
    rw[hg,d0] at hr;simp only[Prod.mk.injEq] at hr;obtain⟨rfl,rfl⟩:=hr;have c9:decide (1125899906842624 < q+1)=true:=dE ho;clear d0 hg;go_enter Try.func50,Try.ntmps50
    exact zz4_1
   ·have d0:Azj.fin false true q=(q+1,0):=by unfold Azj.fin;simp;omega
    rw[hg,d0] at hr;simp only[Prod.mk.injEq] at hr;obtain⟨rfl,rfl⟩:=hr;have c9:decide (1125899906842624 < q+1)=false:=decide_eq_false ho;clear d0 hg;go_enter Try.func50,Try.ntmps50
    exact zz4_1
  ·have c5:decide (0 < r)=false:=decide_eq_false hp;have hg:Azj.grows false 1 q r (Azj.ab a8)=false:=by unfold Azj.grows;simp;omega
   by_cases ho:1125899906842624 < q
   ·have d0:Azj.fin false false q=(0,2):=by unfold Azj.fin;simp;omega
    rw[hg,d0] at hr;simp only[Prod.mk.injEq] at hr;obtain⟨rfl,rfl⟩:=hr;have c9:decide (1125899906842624 < q)=true:=dE ho;clear d0 hg;go_enter Try.func50,Try.ntmps50
    exact zz4_1
   ·have d0:Azj.fin false false q=(q,0):=by unfold Azj.fin;simp;omega
    rw[hg,d0] at hr;simp only[Prod.mk.injEq] at hr;obtain⟨rfl,rfl⟩:=hr;have c9:decide (1125899906842624 < q)=false:=decide_eq_false ho;clear d0 hg;go_enter Try.func50,Try.ntmps50
    exact zz4_1
 ·skip
  have hg:Azj.grows true 1 q r (Azj.ab a8)=false:=by unfold Azj.grows;simp
  by_cases ho:1125899906842624 < q
  ·have d0:Azj.fin true false q=(0,2):=by unfold Azj.fin;simp;omega
   rw[hg,d0] at hr;simp only[Prod.mk.injEq] at hr;obtain⟨rfl,rfl⟩:=hr;have c9:decide (1125899906842624 < q)=true:=dE ho;clear d0 hg;go_enter Try.func50,Try.ntmps50
   exact zz4_1
  ·have d0:Azj.fin true false q=(-(q),0):=by unfold Azj.fin;simp;omega
   rw[hg,d0] at hr;simp only[Prod.mk.injEq] at hr;obtain⟨rfl,rfl⟩:=hr;have c9:decide (1125899906842624 < q)=false:=decide_eq_false ho;clear d0 hg;go_enter Try.func50,Try.ntmps50
   exact zz4_1
set_option maxHeartbeats 16000000 in
theorem zz4_2 {P:Prop} (h:P:=by
 go_wp2_with (first|((with_reducible refine gd 19 rfl ?_);refine iL 19 [a6,a7,a8] ?_;intro d3 d4 d5 hb;have HB:=aM hb;have HO:=aM d5;clear hb d5;obtain⟨d6,d7,rfl⟩:=Kd.R_slice HO.out)|(go_at_call 69;(refine(Dzq.calls 4 _ _ [a6,a7,a8] true _ ?_ ?_ HIN.out).mono ?_);(focus(exact(Kd.R_reads' HO.out).2.2));exact lR HO;rintro e w' ⟨rfl,⟨nd,rfl⟩⟩)|(go_at_call 71;(with_reducible refine(Azj.size_calls _ _ ?_).mono ?_);(focus(first|exact a9.out|exact b3.out|exact b4.out));rintro e w' ⟨rfl,⟨nd,rfl⟩⟩)|(go_at_call 70;(with_reducible refine(Bzw.calls _ _ _ _ _ HP.out).mono ?_);rintro e d8 ⟨rfl,hb⟩;replace HB:=bB hb;clear hb)|(go_at_call 72;(with_reducible refine(Azk.calls _ _ _ _ _ _ _ HD.out).mono ?_);rintro e d9 ⟨rfl,hb⟩;replace HB:=bB hb;clear hb))
 go_ret2
 exact⟨by first|rfl|(simp;done),pB⟩):P:=h
theorem Azj.calls_m2 (a6 a7 a8:Int) (w:World) (a9:Aside0 (Azj.inB a6=true)) (b3:Aside0 (Azj.inB a7=true)) (b4:Aside0 (Azj.inB a8=true)) (HIN:Aside0 (Dzq.f 4 [a6,a7,a8]=some true))
  (b5:(a8 == 0)=false) (hi lo q r:Int) (HP:Aside0 (Bzw.f (Azj.ab a6) (Azj.ab a7)=some (hi,lo))) (HD:Aside0 (Azk.f hi lo (Azj.ab a8)=some (q,r,true)))
  (hq0:0≤q) (hq1:q < 4611686018427387904) (b6:0≤r) (b7:r < Azj.ab a8) (hab:Azj.ab a8≤1125899906842624) (nb:Bool) (hn:(!((!(decide (a6 < 0) == decide (a7 < 0))) == decide (a8 < 0)))=nb)
  (b8 b9:Int) (hr:Azj.fin nb (Azj.grows nb 2 q r (Azj.ab a8)) q=(b8,b9)) :
  Calls Try.prog 50 #[.int .i64 a6,.int .i64 a7,.int .i64 a8,.int .i64 2] w fun e w'=>e=.returned (.tuple #[.int .i64 b8,.int .i64 b9])∧Below w.heap.size w w':=by

 cases nb
 ·skip
  by_cases d0:Azj.ab a8 < 2 * r
  ·have c5:decide (Azj.ab a8 < 2 * r)=true:=dE d0;have hg:Azj.grows false 2 q r (Azj.ab a8)=true:=by unfold Azj.grows;simp;omega
   by_cases ho:1125899906842624 < q+1
   ·have d1:Azj.fin false true q=(0,2):=by unfold Azj.fin;simp;omega
    rw[hg,d1] at hr;simp only[Prod.mk.injEq] at hr;obtain⟨rfl,rfl⟩:=hr;have c9:decide (1125899906842624 < q+1)=true:=dE ho;clear d1 hg;go_enter Try.func50,Try.ntmps50
    exact zz4_2
   ·have d1:Azj.fin false true q=(q+1,0):=by unfold Azj.fin;simp;omega
    rw[hg,d1] at hr;simp only[Prod.mk.injEq] at hr;obtain⟨rfl,rfl⟩:=hr;have c9:decide (1125899906842624 < q+1)=false:=decide_eq_false ho;clear d1 hg;go_enter Try.func50,Try.ntmps50
    exact zz4_2
  ·have c5:decide (Azj.ab a8 < 2 * r)=false:=decide_eq_false d0;by_cases e6:2 * r=Azj.ab a8
   ·have c6:(2 * r == Azj.ab a8)=true:=beq_iff_eq.mpr e6;by_cases e7:q % 2=1
    ·have c7:(q % 2 == 1)=true:=beq_iff_eq.mpr e7;have hg:Azj.grows false 2 q r (Azj.ab a8)=true:=by unfold Azj.grows;simp;omega
     clear e6 e7;by_cases ho:1125899906842624 < q+1
     ·have d1:Azj.fin false true q=(0,2):=by unfold Azj.fin;simp;omega
      rw[hg,d1] at hr;simp only[Prod.mk.injEq] at hr;obtain⟨rfl,rfl⟩:=hr;have c9:decide (1125899906842624 < q+1)=true:=dE ho;clear d1 hg;go_enter Try.func50,Try.ntmps50
      exact zz4_2
     ·have d1:Azj.fin false true q=(q+1,0):=by unfold Azj.fin;simp;omega
      rw[hg,d1] at hr;simp only[Prod.mk.injEq] at hr;obtain⟨rfl,rfl⟩:=hr;have c9:decide (1125899906842624 < q+1)=false:=decide_eq_false ho;clear d1 hg;go_enter Try.func50,Try.ntmps50
      exact zz4_2
    ·have c7:(q % 2 == 1)=false:=beq_eq_false_iff_ne.mpr e7;have hg:Azj.grows false 2 q r (Azj.ab a8)=false:=by unfold Azj.grows;simp;omega
     clear e6 e7;by_cases ho:1125899906842624 < q
     ·have d1:Azj.fin false false q=(0,2):=by unfold Azj.fin;simp;omega
      rw[hg,d1] at hr;simp only[Prod.mk.injEq] at hr;obtain⟨rfl,rfl⟩:=hr;have c9:decide (1125899906842624 < q)=true:=dE ho;clear d1 hg;go_enter Try.func50,Try.ntmps50
      exact zz4_2
     ·have d1:Azj.fin false false q=(q,0):=by unfold Azj.fin;simp;omega
      rw[hg,d1] at hr;simp only[Prod.mk.injEq] at hr;obtain⟨rfl,rfl⟩:=hr;have c9:decide (1125899906842624 < q)=false:=decide_eq_false ho;clear d1 hg;go_enter Try.func50,Try.ntmps50
      exact zz4_2
   ·have c6:(2 * r == Azj.ab a8)=false:=beq_eq_false_iff_ne.mpr e6;have hg:Azj.grows false 2 q r (Azj.ab a8)=false:=by unfold Azj.grows;simp;omega
    clear e6;by_cases ho:1125899906842624 < q
    ·have d1:Azj.fin false false q=(0,2):=by unfold Azj.fin;simp;omega
     rw[hg,d1] at hr;simp only[Prod.mk.injEq] at hr;obtain⟨rfl,rfl⟩:=hr;have c9:decide (1125899906842624 < q)=true:=dE ho;clear d1 hg;go_enter Try.func50,Try.ntmps50
     exact zz4_2
    ·have d1:Azj.fin false false q=(q,0):=by unfold Azj.fin;simp;omega
     rw[hg,d1] at hr;simp only[Prod.mk.injEq] at hr;obtain⟨rfl,rfl⟩:=hr;have c9:decide (1125899906842624 < q)=false:=decide_eq_false ho;clear d1 hg;go_enter Try.func50,Try.ntmps50
     exact zz4_2
 ·skip
  by_cases d0:Azj.ab a8 < 2 * r
  ·have c5:decide (Azj.ab a8 < 2 * r)=true:=dE d0;have hg:Azj.grows true 2 q r (Azj.ab a8)=true:=by unfold Azj.grows;simp;omega
   by_cases ho:1125899906842624 < q+1
   ·have d1:Azj.fin true true q=(0,2):=by unfold Azj.fin;simp;omega
    rw[hg,d1] at hr;simp only[Prod.mk.injEq] at hr;obtain⟨rfl,rfl⟩:=hr;have c9:decide (1125899906842624 < q+1)=true:=dE ho;clear d1 hg;go_enter Try.func50,Try.ntmps50
    exact zz4_2
   ·have d1:Azj.fin true true q=(-(q+1),0):=by unfold Azj.fin;simp;omega
    rw[hg,d1] at hr;simp only[Prod.mk.injEq] at hr;obtain⟨rfl,rfl⟩:=hr;have c9:decide (1125899906842624 < q+1)=false:=decide_eq_false ho;clear d1 hg;go_enter Try.func50,Try.ntmps50
    exact zz4_2
  ·have c5:decide (Azj.ab a8 < 2 * r)=false:=decide_eq_false d0;by_cases e6:2 * r=Azj.ab a8
   ·have c6:(2 * r == Azj.ab a8)=true:=beq_iff_eq.mpr e6;by_cases e7:q % 2=1
    ·have c7:(q % 2 == 1)=true:=beq_iff_eq.mpr e7;have hg:Azj.grows true 2 q r (Azj.ab a8)=true:=by unfold Azj.grows;simp;omega
     clear e6 e7;by_cases ho:1125899906842624 < q+1
     ·have d1:Azj.fin true true q=(0,2):=by unfold Azj.fin;simp;omega
      rw[hg,d1] at hr;simp only[Prod.mk.injEq] at hr;obtain⟨rfl,rfl⟩:=hr;have c9:decide (1125899906842624 < q+1)=true:=dE ho;clear d1 hg;go_enter Try.func50,Try.ntmps50
      exact zz4_2
     ·have d1:Azj.fin true true q=(-(q+1),0):=by unfold Azj.fin;simp;omega
      rw[hg,d1] at hr;simp only[Prod.mk.injEq] at hr;obtain⟨rfl,rfl⟩:=hr;have c9:decide (1125899906842624 < q+1)=false:=decide_eq_false ho;clear d1 hg;go_enter Try.func50,Try.ntmps50
      exact zz4_2
    ·have c7:(q % 2 == 1)=false:=beq_eq_false_iff_ne.mpr e7;have hg:Azj.grows true 2 q r (Azj.ab a8)=false:=by unfold Azj.grows;simp;omega
     clear e6 e7;by_cases ho:1125899906842624 < q
     ·have d1:Azj.fin true false q=(0,2):=by unfold Azj.fin;simp;omega
      rw[hg,d1] at hr;simp only[Prod.mk.injEq] at hr;obtain⟨rfl,rfl⟩:=hr;have c9:decide (1125899906842624 < q)=true:=dE ho;clear d1 hg;go_enter Try.func50,Try.ntmps50
      exact zz4_2
     ·have d1:Azj.fin true false q=(-(q),0):=by unfold Azj.fin;simp;omega
      rw[hg,d1] at hr;simp only[Prod.mk.injEq] at hr;obtain⟨rfl,rfl⟩:=hr;have c9:decide (1125899906842624 < q)=false:=decide_eq_false ho;clear d1 hg;go_enter Try.func50,Try.ntmps50
      exact zz4_2
   ·have c6:(2 * r == Azj.ab a8)=false:=beq_eq_false_iff_ne.mpr e6;have hg:Azj.grows true 2 q r (Azj.ab a8)=false:=by unfold Azj.grows;simp;omega
    clear e6;by_cases ho:1125899906842624 < q
    ·have d1:Azj.fin true false q=(0,2):=by unfold Azj.fin;simp;omega
     rw[hg,d1] at hr;simp only[Prod.mk.injEq] at hr;obtain⟨rfl,rfl⟩:=hr;have c9:decide (1125899906842624 < q)=true:=dE ho;clear d1 hg;go_enter Try.func50,Try.ntmps50
     exact zz4_2
    ·have d1:Azj.fin true false q=(-(q),0):=by unfold Azj.fin;simp;omega
     rw[hg,d1] at hr;simp only[Prod.mk.injEq] at hr;obtain⟨rfl,rfl⟩:=hr;have c9:decide (1125899906842624 < q)=false:=decide_eq_false ho;clear d1 hg;go_enter Try.func50,Try.ntmps50
     exact zz4_2
theorem Azj.calls (a6:Int) (a7:Int) (a8:Int) (a9:Int) (b3:Int) (b4:Int) (w:World) (h:Azj.f a6 a7 a8 a9=some (b3,b4)) :
  Calls Try.prog 50 #[.int .i64 a6,.int .i64 a7,.int .i64 a8,.int .i64 a9] w fun e w'=>e=.returned (.tuple #[.int .i64 b3,.int .i64 b4])∧Below w.heap.size w w':=by
 unfold Azj.f at h;have h:=Option.some.inj h;by_cases hb:(Azj.inB a6 && Azj.inB a7 && Azj.inB a8)=true
 case neg =>
  rw[if_neg hb] at h;simp only[Prod.mk.injEq] at h;obtain⟨rfl,rfl⟩:=h;exact Azj.calls_out a6 a7 a8 a9 w (by simpa using hb)
 case pos =>
  rw[if_pos hb] at h;by_cases hc:a8=0
  ·rw[if_pos hc] at h;simp only[Prod.mk.injEq] at h;obtain⟨rfl,rfl⟩:=h;exact Azj.calls_bad a6 a7 a8 a9 w hb 16 (by rw[if_pos hc]) (.inl hc)
  rw[if_neg hc] at h;by_cases b5:a9 < 0
  ·rw[if_pos b5] at h;simp only[Prod.mk.injEq] at h;obtain⟨rfl,rfl⟩:=h;exact Azj.calls_bad a6 a7 a8 a9 w hb 17 (by rw[if_neg hc]) (.inr (.inl b5))
  rw[if_neg b5] at h;by_cases b6:3≤a9
  ·rw[if_pos b6] at h;simp only[Prod.mk.injEq] at h;obtain⟨rfl,rfl⟩:=h;exact Azj.calls_bad a6 a7 a8 a9 w hb 17 (by rw[if_neg hc]) (.inr (.inr b6))
  rw[if_neg b6] at h;have hin:=Azj.in_val a6 a7 a8;rw[hb] at hin;simp only[Bool.and_eq_true] at hb;obtain⟨⟨b7,b8⟩,b9⟩:=hb;have hA:=Azj.ab_range a6 b7;have hB:=Azj.ab_range a7 b8;have hC:=Azj.ab_range a8 b9;have hC1:1≤Azj.ab a8:=by unfold Azj.ab;split <;> omega
  obtain⟨d0,d1⟩:=Azj.hilo hA hB ⟨hC1,hC.2⟩;unfold Azj.val at h;by_cases hs:Azj.ab a6 * Azj.ab a7 / Azj.ab a8 < 4611686018427387904
  ·rw[if_pos hs] at d1;have hq0:0≤Azj.ab a6 * Azj.ab a7 / Azj.ab a8:=Int.ediv_nonneg (Int.mul_nonneg hA.1 hB.1) (by omega)
   have d3:0≤Azj.ab a6 * Azj.ab a7 % Azj.ab a8:=Int.emod_nonneg _ (by omega)
   have d4:Azj.ab a6 * Azj.ab a7 % Azj.ab a8 < Azj.ab a8:=Int.emod_lt_of_pos _ (by omega)
   have d5:(a8 == 0)=false:=beq_eq_false_iff_ne.mpr hc;have hn:(!((!(decide (a6 < 0) == decide (a7 < 0))) == decide (a8 < 0)))=((decide (a6 < 0) != decide (a7 < 0)) != decide (a8 < 0)):=rfl;obtain rfl|rfl|rfl:a9=0∨a9=1∨a9=2:=by omega
   ·exact Azj.calls_m0 a6 a7 a8 w ⟨b7⟩ ⟨b8⟩ ⟨b9⟩ ⟨hin⟩ d5 _ _ _ _ ⟨d0⟩ ⟨d1⟩ hq0 hs d3 d4 hC.2 _ hn b3 b4 h
   ·exact Azj.calls_m1 a6 a7 a8 w ⟨b7⟩ ⟨b8⟩ ⟨b9⟩ ⟨hin⟩ d5 _ _ _ _ ⟨d0⟩ ⟨d1⟩ hq0 hs d3 d4 hC.2 _ hn b3 b4 h
   ·exact Azj.calls_m2 a6 a7 a8 w ⟨b7⟩ ⟨b8⟩ ⟨b9⟩ ⟨hin⟩ d5 _ _ _ _ ⟨d0⟩ ⟨d1⟩ hq0 hs d3 d4 hC.2 _ hn b3 b4 h
  ·rw[if_neg hs] at d1;rw[Azj.fin_big (by omega)] at h
   simp only[Prod.mk.injEq] at h;obtain⟨rfl,rfl⟩:=h;exact Azj.calls_big a6 a7 a8 a9 w ⟨b7⟩ ⟨b8⟩ ⟨b9⟩ ⟨hin⟩ (beq_eq_false_iff_ne.mpr hc) (decide_eq_false b5) (decide_eq_false b6) _ _ _ _ ⟨d0⟩ ⟨d1⟩

end Go.Proofs.Ytnklckihalhlmaa.Print
