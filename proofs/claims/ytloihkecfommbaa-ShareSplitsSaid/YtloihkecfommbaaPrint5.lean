import Derived.Test.YtloihkecfommbaaPrint0
import Derived.Test.YtloihkecfommbaaPrint4
namespace Go.Proofs.Ytloihkecfommbaa.Print
open Go.RowKit Go.Proofs.YtloihkecfommbaaW.PrintWords Go.Proofs.YtloihkecfommbaaW.PrintLast Go.Proofs.YtloihkecfommbaaW.PrintMore
attribute [local go_sem] max2_int min2_int max_two min_two max_three min_three max_four min_four
set_option linter.unusedVariables false
set_option maxRecDepth 100000
set_option maxHeartbeats 8000000
set_option linter.unusedSimpArgs false

def Czy.f (a0:Int) (a1:Int) (a2:Int):Option (Int × Int):=if a2=0 then(some (0,0)) else((Azj.f a0 a1 a2 0).bind fun bt116=>(some (bt116.1,wrap64 ((wrap64 (a0 * a1)) - (wrap64 (bt116.1 * a2))))))
theorem Czy.calls (a0:Int) (a1:Int) (a2:Int) (r1:Int) (r2:Int) (w:World) (h:Czy.f a0 a1 a2=some (r1,r2)) :
  Calls Try.prog 24 #[.int .i64 a0,.int .i64 a1,.int .i64 a2] w fun e w'=>e=.returned (.tuple #[.int .i64 r1,.int .i64 r2])∧Below w.heap.size w w':=by
 have HB:=aM (Below.refl w.heap.size w);have H:(if a2=0 then(some (0,0)) else((Azj.f a0 a1 a2 0).bind fun bt116=>(some (bt116.1,wrap64 ((wrap64 (a0 * a1)) - (wrap64 (bt116.1 * a2)))))))=some (r1,r2):=h
 clear h;by_cases c4:a2=0
 ·rw[if_pos c4] at H;have c4b0:(a2 == 0)=true:=beq_iff_eq.mpr c4;have c4b1:(a2 != 0)=false:=bne_eq_false_iff_eq.mpr c4;clear c4;simp only[Option.some.injEq,Prod.mk.injEq] at H;obtain⟨rfl,rfl⟩:=H;go_enter Try.func24,Try.ntmps24
  go_wp2
  go_ret2
  exact⟨eW,pB⟩
 ·rw[if_neg c4] at H;have c4b0:(a2 == 0)=false:=beq_eq_false_iff_ne.mpr c4;have c4b1:(a2 != 0)=true:=bne_iff_ne.mpr c4;replace H:=bS H;obtain⟨⟨t116,t117⟩,A50,H⟩:=H;replace H:(some (t116,wrap64 ((wrap64 (a0 * a1)) - (wrap64 (t116 * a2)))))=some (r1,r2):=H;have A5:=aM A50;clear A50;simp only[Option.some.injEq,Prod.mk.injEq] at H;obtain⟨rfl,rfl⟩:=H;go_enter Try.func24,Try.ntmps24
  go_wp2_with (first|((with_reducible refine gate_callee (f:=39) rfl ?_);refine goesL_ (some 16) rfl rfl Try.func39 (by kernel_rfl) rfl #[.int .i64 a0,.int .i64 a1,.int .i64 a2,.int .i64 0] rfl mA ?_;(with_reducible refine(Azj.calls a0 a1 a2 0 t116 t117 _ A5.out).mono ?_);rintro e w6 ⟨rfl,hb⟩;refine⟨_,rfl,?_⟩;replace HB:=aM (below_step pB hb);(try clear hb);(try clear hb2);(try clear hk);(try clear hi)))
  go_ret2
  exact⟨eW,pB⟩







def Czj.f (a0:Int) (a1:Int) (l2:List (List Int)):Option (Int):=if 0 < (l2.length:Int) then(if 0≤a1 then(if a1 < ((rd_L4 l2 0).length:Int) then(if 0≤a0 then(if a0 < ((rd_L4 l2 0).length:Int) then(some (wrap64 ((rd (rd_L4 l2 0) a1) - (rd (rd_L4 l2 0) a0)))) else(none)) else(none)) else(none)) else(none)) else(none)
theorem Czj.calls (a0:Int) (a1:Int) (A2:Option Addr) (c2:Nat) (l2:List (List Int)) (r:Int) (w:World) (hr2:Kd.C (Kd.slice 3 (Kd.int .i64)) w A2 l2.length l2) (hc2:l2.length≤c2) (h:Czj.f a0 a1 l2=some r) :
  Calls Try.prog 26 #[.int .i64 a0,.int .i64 a1,.pointer A2] w fun e w'=>e=.returned (.int .i64 r)∧Drawn0 w w':=by
 have HR2:=aM hr2;have HC2:=aM hc2;clear hr2 hc2;have H:(if 0 < (l2.length:Int) then(if 0≤a1 then(if a1 < ((rd_L4 l2 0).length:Int) then(if 0≤a0 then(if a0 < ((rd_L4 l2 0).length:Int) then(some (wrap64 ((rd (rd_L4 l2 0) a1) - (rd (rd_L4 l2 0) a0)))) else(none)) else(none)) else(none)) else(none)) else(none))=some r:=h
 clear h;by_cases c4:0 < (l2.length:Int)
 ·rw[if_pos c4] at H;have c4b0:decide (0 < (l2.length:Int))=true:=dE c4;have c4b1:decide (0 < l2.length)=true:=dE (by omega)
  clear c4;by_cases c5:0≤a1
  ·rw[if_pos c5] at H;have c5b0:decide (0≤a1)=true:=dE c5;clear c5;by_cases c6:a1 < ((rd_L4 l2 0).length:Int)
   ·rw[if_pos c6] at H;have c6b0:decide (a1 < ((rd_L4 l2 0).length:Int))=true:=dE c6;clear c6;by_cases c7:0≤a0
    ·rw[if_pos c7] at H;have c7b0:decide (0≤a0)=true:=dE c7;clear c7;by_cases c8:a0 < ((rd_L4 l2 0).length:Int)
     ·rw[if_pos c8] at H;have c8b0:decide (a0 < ((rd_L4 l2 0).length:Int))=true:=dE c8;clear c8;obtain rfl:=Option.some.inj H;have p118:0≤(0:Int):=(by omega)
      have q118:0 < (l2.length:Int):=oE aS
      obtain⟨ad118,A118_0,c118_0,e118,hx118_0,hl118_0,hi118_0⟩:=at_L4 HR2.out 0 p118 q118;cases e118
      have qi118:(0 < l2.length)=True:=eq_true (by omega)
      (try rw[show((0:Int)).toNat=0 from rfl] at hx118_0)
      (try rw[Addr.add_zero'] at hx118_0)
      have HR118_0:=aM hi118_0;have HC118_0:=aM hl118_0;clear hi118_0 hl118_0;replace p118:=eq_true p118;replace q118:=eq_true q118;have p119:0≤(a1:Int):=oE aS
      have q119:a1 < ((rd_L4 l2 0).length:Int):=oE aS
      obtain⟨ad119,e119,hx119_0⟩:=Kd.at_int HR118_0.out a1 p119 q119;cases e119
      replace p119:=eq_true p119;replace q119:=eq_true q119;have p120:0≤(0:Int):=(by omega)
      have q120:0 < (l2.length:Int):=oE aS
      obtain⟨ad120,A120_0,c120_0,e120,hx120_0,hl120_0,hi120_0⟩:=at_L4 HR2.out 0 p120 q120;obtain rfl:ad118=ad120:=(by injection e120)
      have qi120:(0 < l2.length)=True:=eq_true (by omega)
      (try rw[show((0:Int)).toNat=0 from rfl] at hx120_0)
      (try rw[Addr.add_zero'] at hx120_0)
      have HR120_0:=aM hi120_0;have HC120_0:=aM hl120_0;clear hi120_0 hl120_0;replace p120:=eq_true p120;replace q120:=eq_true q120;have ea_:=Option.some.inj (hx118_0.symm.trans hx120_0);injection ea_ with ea_ en_ ec_
      subst ea_;subst ec_;clear en_;have p121:0≤(a0:Int):=oE aS
      have q121:a0 < ((rd_L4 l2 0).length:Int):=oE aS
      obtain⟨ad121,e121,hx121_0⟩:=Kd.at_int HR120_0.out a0 p121 q121;cases e121
      replace p121:=eq_true p121;replace q121:=eq_true q121;go_enter Try.func26,Try.ntmps26
      go_wp2
      repeat(go_quiet (fail);try go_wp2)
      go_ret
      exact⟨by first|rfl|(simp;done)|(simp [*];done),by repeat(first|exact Drawn0.refl _|apply Drawn0.step)⟩
     ·rw[if_neg c8] at H;exact absurd H (by simp)
    ·rw[if_neg c7] at H;exact absurd H (by simp)
   ·rw[if_neg c6] at H;exact absurd H (by simp)
  ·rw[if_neg c5] at H;exact absurd H (by simp)
 ·rw[if_neg c4] at H;exact absurd H (by simp)

end Go.Proofs.Ytloihkecfommbaa.Print
