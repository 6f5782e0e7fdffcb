import Derived.Test.YtpnfdhhfdidlmaaPrint0
namespace Go.Proofs.Ytpnfdhhfdidlmaa.Print
open Go.RowKit Go.Proofs.YtpnfdhhfdidlmaaW.PrintWords Go.Proofs.YtpnfdhhfdidlmaaW.PrintLast Go.Proofs.YtpnfdhhfdidlmaaW.PrintMore
attribute [local go_sem] max2_int min2_int max_two min_two max_three min_three max_four min_four
set_option linter.unusedVariables false
set_option maxRecDepth 100000
set_option maxHeartbeats 8000000
set_option linter.unusedSimpArgs false

def Czb.f (a0:Int):Option (Bool):=if a0≥(-1125899906842624) then(some (decide (a0≤1125899906842624))) else(some false)
theorem Czb.calls (a0:Int) (r:Bool) (w:World) (h:Czb.f a0=some r) :
  Calls Try.prog 50 #[.int .i64 a0] w fun e w'=>e=.returned (.bool r)∧Drawn0 w w':=by
 have H:(if a0≥(-1125899906842624) then(some (decide (a0≤1125899906842624))) else(some false))=some r:=h
 clear h;by_cases c2:a0≥(-1125899906842624)
 ·rw[if_pos c2] at H;have c2b0:decide ((-1125899906842624)≤a0)=true:=dE c2;clear c2;obtain rfl:=Option.some.inj H;go_enter Try.func50,Try.ntmps50
  go_wp2
  go_ret
  exact⟨by first|rfl|(simp;done)|(simp [*];done),by repeat(first|exact Drawn0.refl _|apply Drawn0.step)⟩
 ·rw[if_neg c2] at H;have c2b0:decide ((-1125899906842624)≤a0)=false:=decide_eq_false c2;clear c2;obtain rfl:=Option.some.inj H;go_enter Try.func50,Try.ntmps50
  go_wp2
  go_ret
  exact⟨by first|rfl|(simp;done)|(simp [*];done),by repeat(first|exact Drawn0.refl _|apply Drawn0.step)⟩

def Bzy.l0:Nat→Int→Int→Int→Int→Int→Int→Option (Int × Int)
 | 0,_,_,_,_,_,_=>none
 | k+1,x0,x1,x2,x8,x9,x10=>if x10≥0 then(if 0≤x10 then(if(Go.bits .and .i64 (shr .i64 x0 x10) 1)=1 then(if x2=0 then(none) else(Bzy.l0 k x0 x1 x2 (mn (wrap64 ((wrap64 (2 * x8))+(wrap64 (Int.tdiv (wrap64 ((wrap64 (2 * x9))+x1)) x2)))) 4503599627370496) (Int.tmod (wrap64 ((wrap64 (2 * x9))+x1)) x2) (wrap64 (x10 - 1)))) else(if x2=0 then(none) else(Bzy.l0 k x0 x1 x2 (mn (wrap64 ((wrap64 (2 * x8))+(wrap64 (Int.tdiv (wrap64 (2 * x9)) x2)))) 4503599627370496) (Int.tmod (wrap64 (2 * x9)) x2) (wrap64 (x10 - 1))))) else(none)) else(some (x8,x9))
def Bzy.f (k:Nat) (a0:Int) (a1:Int) (a2:Int):Option (Int × Int):=Bzy.l0 k a0 a1 a2 0 0 50
theorem Bzy.mono_l:∀ k,(∀ y0 y1 y2 y3 y4 y5,LeO (Bzy.l0 k y0 y1 y2 y3 y4 y5) (Bzy.l0 (k+1) y0 y1 y2 y3 y4 y5))
 | 0=>fun _ _ _ _ _ _ r h=>by simp [Bzy.l0] at h
 | k+1=>by
  have ih0:=Bzy.mono_l k
  ·intro y0 y1 y2 y3 y4 y5;unfold Bzy.l0;with_reducible repeat' first|exact ih0 _ _ _ _ _ _|exact LeO.refl _|exact LeO.none _|refine LeO.ite ?_ ?_|refine LeO.bind ?_ (fun _=>?_)
theorem Bzy.mono:∀ a0 a1 a2 k,LeO (Bzy.f k a0 a1 a2) (Bzy.f (k+1) a0 a1 a2):=by
 intro a0 a1 a2 k;have ih0:=Bzy.mono_l k;unfold Bzy.f;with_reducible repeat' first|exact ih0 _ _ _ _ _ _|exact LeO.refl _|exact LeO.none _|refine LeO.ite ?_ ?_|refine LeO.bind ?_ (fun _=>?_)
theorem Bzy.calls (k:Nat) (a0:Int) (a1:Int) (a2:Int) (r1:Int) (r2:Int) (w:World) (h:Bzy.f k a0 a1 a2=some (r1,r2)) :
  Calls Try.prog 51 #[.int .i64 a0,.int .i64 a1,.int .i64 a2] w fun e w'=>e=.returned (.tuple #[.int .i64 r1,.int .i64 r2])∧Below w.heap.size w w':=by
 have HB:=aM (Below.refl w.heap.size w);have H:(Bzy.l0 k a0 a1 a2 0 0 50)=some (r1,r2):=h;clear h;have H':=aM H;clear H;go_enter Try.func51,Try.ntmps51
 go_wp2
 go_loopg [8,9,10] k (fun kq v8 v9 v10 w'=>∃ (x8_1:Int) (x9_1:Int) (x10_1:Int),v8=.int .i64 x8_1∧v9=.int .i64 x9_1∧v10=.int .i64 x10_1∧Aside0 (Bzy.l0 kq a0 a1 a2 x8_1 x9_1 x10_1=some (r1,r2))∧Aside0 (kq≤k)∧Aside0 (Below w.heap.size w w'))
 case atStart=>exact⟨(0),(0),(50),sD,sD,sD,H',⟨Nat.le_refl _⟩,⟨pB⟩⟩
 case round =>
  clear H';try clear p2
  obtain⟨x8_1,x9_1,x10_1,rfl,rfl,rfl,HA,HK1,HB⟩:=hrel;cases gk with
  | zero=>exact absurd HA.out (by simp [Bzy.l0])
  | succ k1 =>
   have H:=HA.out;clear HA;simp only[Bzy.l0] at H;by_cases c4:x10_1≥0
   ·rw[if_pos c4] at H;have c4b0:decide (0≤x10_1)=true:=dE c4;clear c4;by_cases c5:0≤x10_1
    ·rw[if_pos c5] at H;have c5b0:=eq_true c5;have c5b1:decide (0≤x10_1)=true:=dE c5;clear c5;obtain⟨ji6,hji6⟩:∃ j_:Int,(shr .i64 a0 x10_1)=j_:=⟨_,rfl⟩;replace H:(if(Go.bits .and .i64 (ji6) 1)=1 then(if a2=0 then(none) else(Bzy.l0 k1 a0 a1 a2 (mn (wrap64 ((wrap64 (2 * x8_1))+(wrap64 (Int.tdiv (wrap64 ((wrap64 (2 * x9_1))+a1)) a2)))) 4503599627370496) (Int.tmod (wrap64 ((wrap64 (2 * x9_1))+a1)) a2) (wrap64 (x10_1 - 1)))) else(if a2=0 then(none) else(Bzy.l0 k1 a0 a1 a2 (mn (wrap64 ((wrap64 (2 * x8_1))+(wrap64 (Int.tdiv (wrap64 (2 * x9_1)) a2)))) 4503599627370496) (Int.tmod (wrap64 (2 * x9_1)) a2) (wrap64 (x10_1 - 1)))))=some (r1,r2):=by first|(rw[hji6] at H;exact H)|(simp only[hji6] at H ⊢;exact H)
     have hji6_:(a0 / 2 ^ min x10_1.toNat 64)=ji6:=hji6;have hji6z:x10_1≤64→(a0 / 2 ^ x10_1.toNat)=ji6:=shr_small hji6;by_cases c7:(Go.bits .and .i64 (ji6) 1)=1
     ·rw[if_pos c7] at H;have c7b0:((Go.bits .and .i64 (ji6) 1) == 1)=true:=beq_iff_eq.mpr c7;have c7b1:((Go.bits .and .i64 (ji6) 1) != 1)=false:=bne_eq_false_iff_eq.mpr c7;clear c7;by_cases c8:a2=0
      ·rw[if_pos c8] at H;exact absurd H (by simp)
      ·rw[if_neg c8] at H;have c8b0:(a2 == 0)=false:=beq_eq_false_iff_ne.mpr c8;have c8b1:(a2 != 0)=true:=bne_iff_ne.mpr c8;obtain⟨ji9,hji9⟩:∃ j_:Int,(mn (wrap64 ((wrap64 (2 * x8_1))+(wrap64 (Int.tdiv (wrap64 ((wrap64 (2 * x9_1))+a1)) a2)))) 4503599627370496)=j_:=⟨_,rfl⟩;replace H:(Bzy.l0 k1 a0 a1 a2 ji9 (Int.tmod (wrap64 ((wrap64 (2 * x9_1))+a1)) a2) (wrap64 (x10_1 - 1)))=some (r1,r2):=by first|(rw[hji9] at H;exact H)|(simp only[hji9] at H ⊢;exact H)
       have hji9_:(if 4503599627370496 < (wrap64 ((wrap64 (2 * x8_1))+(wrap64 (Int.tdiv (wrap64 ((wrap64 (2 * x9_1))+a1)) a2)))) then 4503599627370496 else(wrap64 ((wrap64 (2 * x8_1))+(wrap64 (Int.tdiv (wrap64 ((wrap64 (2 * x9_1))+a1)) a2)))))=ji9:=hji9
       have H':=aM H;clear H;go_wp2
       go_roundg k1
       case measure=>have:=HK1.out;omega
       case rel=>exact⟨(ji9),(Int.tmod (wrap64 ((wrap64 (2 * x9_1))+a1)) a2),(wrap64 (x10_1 - 1)),(by first|rfl|(simp;done)|(simp only[← hji9] <;> (first|rfl|simp))|(simp [*];done)),sD,sD,H',⟨by have:=HK1.out;omega⟩,⟨pB⟩⟩
     ·rw[if_neg c7] at H;have c7b0:((Go.bits .and .i64 (ji6) 1) == 1)=false:=beq_eq_false_iff_ne.mpr c7;have c7b1:((Go.bits .and .i64 (ji6) 1) != 1)=true:=bne_iff_ne.mpr c7;by_cases c10:a2=0
      ·rw[if_pos c10] at H;exact absurd H (by simp)
      ·rw[if_neg c10] at H;have c10b0:(a2 == 0)=false:=beq_eq_false_iff_ne.mpr c10;have c10b1:(a2 != 0)=true:=bne_iff_ne.mpr c10;obtain⟨ji11,hji11⟩:∃ j_:Int,(mn (wrap64 ((wrap64 (2 * x8_1))+(wrap64 (Int.tdiv (wrap64 (2 * x9_1)) a2)))) 4503599627370496)=j_:=⟨_,rfl⟩;replace H:(Bzy.l0 k1 a0 a1 a2 ji11 (Int.tmod (wrap64 (2 * x9_1)) a2) (wrap64 (x10_1 - 1)))=some (r1,r2):=by first|(rw[hji11] at H;exact H)|(simp only[hji11] at H ⊢;exact H)
       have hji11_:(if 4503599627370496 < (wrap64 ((wrap64 (2 * x8_1))+(wrap64 (Int.tdiv (wrap64 (2 * x9_1)) a2)))) then 4503599627370496 else(wrap64 ((wrap64 (2 * x8_1))+(wrap64 (Int.tdiv (wrap64 (2 * x9_1)) a2)))))=ji11:=hji11
       have H':=aM H;clear H;go_wp2
       go_roundg k1
       case measure=>have:=HK1.out;omega
       case rel=>exact⟨(ji11),(Int.tmod (wrap64 (2 * x9_1)) a2),(wrap64 (x10_1 - 1)),(by first|rfl|(simp;done)|(simp only[← hji11] <;> (first|rfl|simp))|(simp [*];done)),sD,sD,H',⟨by have:=HK1.out;omega⟩,⟨pB⟩⟩
    ·rw[if_neg c5] at H;exact absurd H (by simp)
   ·rw[if_neg c4] at H;have c4b0:decide (0≤x10_1)=false:=decide_eq_false c4;clear c4;simp only[Option.some.injEq,Prod.mk.injEq] at H;obtain⟨rfl,rfl⟩:=H;go_wp2
    go_ret2
    exact⟨eW,pB⟩

def Dzz.f (a0:Int):Option (Int):=if a0 < 0 then(some (wrap64 (-a0))) else(some a0)
theorem Dzz.calls (a0:Int) (r:Int) (w:World) (h:Dzz.f a0=some r) :
  Calls Try.prog 52 #[.int .i64 a0] w fun e w'=>e=.returned (.int .i64 r)∧Drawn0 w w':=by
 have H:(if a0 < 0 then(some (wrap64 (-a0))) else(some a0))=some r:=h
 clear h;by_cases c2:a0 < 0
 ·rw[if_pos c2] at H;have c2b0:decide (a0 < 0)=true:=dE c2;clear c2;obtain rfl:=Option.some.inj H;go_enter Try.func52,Try.ntmps52
  go_wp2
  go_ret
  exact⟨by first|rfl|(simp;done)|(simp [*];done),by repeat(first|exact Drawn0.refl _|apply Drawn0.step)⟩
 ·rw[if_neg c2] at H;have c2b0:decide (a0 < 0)=false:=decide_eq_false c2;clear c2;obtain rfl:=Option.some.inj H;go_enter Try.func52,Try.ntmps52
  go_wp2
  go_ret
  exact⟨by first|rfl|(simp;done)|(simp [*];done),by repeat(first|exact Drawn0.refl _|apply Drawn0.step)⟩

def Dzq.f (a0:Int):Option (Int × Int):=(Czb.f a0).bind fun t394=>(if t394=true then(some (a0,0)) else(some (0,2)))
theorem Dzq.calls (a0:Int) (r1:Int) (r2:Int) (w:World) (h:Dzq.f a0=some (r1,r2)) :
  Calls Try.prog 53 #[.int .i64 a0] w fun e w'=>e=.returned (.tuple #[.int .i64 r1,.int .i64 r2])∧Drawn0 w w':=by
 have H:((Czb.f a0).bind fun t394=>(if t394=true then(some (a0,0)) else(some (0,2))))=some (r1,r2):=h
 clear h;replace H:=bS H;obtain⟨t394,A20,H⟩:=H;(try dsimp only at H);have A2:=aM A20;clear A20;by_cases c3:t394=true
 ·subst c3;rw[if_pos rfl] at H;simp only[Option.some.injEq,Prod.mk.injEq] at H;obtain⟨rfl,rfl⟩:=H;go_enter Try.func53,Try.ntmps53
  go_wp2_with (first|((with_reducible refine gate_callee (f:=50) rfl ?_);refine goesL_ (some 5) rfl rfl Try.func50 (by kernel_rfl) rfl #[.int .i64 a0] rfl mA ?_;(with_reducible refine(Czb.calls a0 true _ A2.out).mono ?_);rintro e w' ⟨rfl,⟨nd,rfl⟩⟩;refine⟨_,rfl,?_⟩))
  go_ret2
  exact⟨by first|rfl|(simp;done)|(simp [*];done),by repeat(first|exact Drawn0.refl _|apply Drawn0.step)⟩
 ·replace c3:=Bool.eq_false_iff.mpr c3;subst c3;rw[if_neg (show ¬ (false=true) by decide)] at H
  simp only[Option.some.injEq,Prod.mk.injEq] at H;obtain⟨rfl,rfl⟩:=H;go_enter Try.func53,Try.ntmps53
  go_wp2_with (first|((with_reducible refine gate_callee (f:=50) rfl ?_);refine goesL_ (some 5) rfl rfl Try.func50 (by kernel_rfl) rfl #[.int .i64 a0] rfl mA ?_;(with_reducible refine(Czb.calls a0 false _ A2.out).mono ?_);rintro e w' ⟨rfl,⟨nd,rfl⟩⟩;refine⟨_,rfl,?_⟩))
  go_ret2
  exact⟨by first|rfl|(simp;done)|(simp [*];done),by repeat(first|exact Drawn0.refl _|apply Drawn0.step)⟩

end Go.Proofs.Ytpnfdhhfdidlmaa.Print
