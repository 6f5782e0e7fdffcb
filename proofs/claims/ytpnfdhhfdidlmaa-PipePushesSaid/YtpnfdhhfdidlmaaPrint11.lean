import Derived.Test.YtpnfdhhfdidlmaaPrint0
import Derived.Test.YtpnfdhhfdidlmaaPrint10
namespace Go.Proofs.Ytpnfdhhfdidlmaa.Print
open Go.RowKit Go.Proofs.YtpnfdhhfdidlmaaW.PrintWords Go.Proofs.YtpnfdhhfdidlmaaW.PrintLast Go.Proofs.YtpnfdhhfdidlmaaW.PrintMore
attribute [local go_sem] max2_int min2_int max_two min_two max_three min_three max_four min_four
set_option linter.unusedVariables false
set_option maxRecDepth 100000
set_option maxHeartbeats 8000000
set_option linter.unusedSimpArgs false

def Dzf.f (a0:Int) (a1:Int) (a2:Int):Option (Int × Int):=if a2=0 then(some (0,0)) else((Azq.f a0 a1 a2 0).bind fun bt154=>(some (bt154.1,wrap64 ((wrap64 (a0 * a1)) - (wrap64 (bt154.1 * a2))))))
theorem Dzf.calls (a0:Int) (a1:Int) (a2:Int) (r1:Int) (r2:Int) (w:World) (h:Dzf.f a0 a1 a2=some (r1,r2)) :
  Calls Try.prog 39 #[.int .i64 a0,.int .i64 a1,.int .i64 a2] w fun e w'=>e=.returned (.tuple #[.int .i64 r1,.int .i64 r2])∧Below w.heap.size w w':=by
 have HB:=aM (Below.refl w.heap.size w);have H:(if a2=0 then(some (0,0)) else((Azq.f a0 a1 a2 0).bind fun bt154=>(some (bt154.1,wrap64 ((wrap64 (a0 * a1)) - (wrap64 (bt154.1 * a2)))))))=some (r1,r2):=h
 clear h;by_cases c4:a2=0
 ·rw[if_pos c4] at H;have c4b0:(a2 == 0)=true:=beq_iff_eq.mpr c4;have c4b1:(a2 != 0)=false:=bne_eq_false_iff_eq.mpr c4;clear c4;simp only[Option.some.injEq,Prod.mk.injEq] at H;obtain⟨rfl,rfl⟩:=H;go_enter Try.func39,Try.ntmps39
  go_wp2
  go_ret2
  exact⟨eW,pB⟩
 ·rw[if_neg c4] at H;have c4b0:(a2 == 0)=false:=beq_eq_false_iff_ne.mpr c4;have c4b1:(a2 != 0)=true:=bne_iff_ne.mpr c4;replace H:=bS H;obtain⟨⟨t154,t155⟩,A50,H⟩:=H;replace H:(some (t154,wrap64 ((wrap64 (a0 * a1)) - (wrap64 (t154 * a2)))))=some (r1,r2):=H;have A5:=aM A50;clear A50;simp only[Option.some.injEq,Prod.mk.injEq] at H;obtain⟨rfl,rfl⟩:=H;go_enter Try.func39,Try.ntmps39
  go_wp2_with (first|((with_reducible refine gate_callee (f:=48) rfl ?_);refine goesL_ (some 16) rfl rfl Try.func48 (by kernel_rfl) rfl #[.int .i64 a0,.int .i64 a1,.int .i64 a2,.int .i64 0] rfl mA ?_;(with_reducible refine(Azq.calls a0 a1 a2 0 t154 t155 _ A5.out).mono ?_);rintro e w6 ⟨rfl,hb⟩;refine⟨_,rfl,?_⟩;replace HB:=aM (below_step pB hb);(try clear hb);(try clear hb2);(try clear hk);(try clear hi)))
  go_ret2
  exact⟨eW,pB⟩







def Dzp.f (a0:Int) (a1:Int) (l2:List (List Int)):Option (Int):=if 0 < (l2.length:Int) then(if 0≤a1 then(if a1 < ((rd_L1 l2 0).length:Int) then(if 0≤a0 then(if a0 < ((rd_L1 l2 0).length:Int) then(some (wrap64 ((rd (rd_L1 l2 0) a1) - (rd (rd_L1 l2 0) a0)))) else(none)) else(none)) else(none)) else(none)) else(none)
theorem Dzp.calls (a0:Int) (a1:Int) (A2:Option Addr) (c2:Nat) (l2:List (List Int)) (r:Int) (w:World) (hr2:Kd.C (Kd.slice 3 (Kd.int .i64)) w A2 l2.length l2) (hc2:l2.length≤c2) (h:Dzp.f a0 a1 l2=some r) :
  Calls Try.prog 41 #[.int .i64 a0,.int .i64 a1,.pointer A2] w fun e w'=>e=.returned (.int .i64 r)∧Drawn0 w w':=by
 have HR2:=aM hr2;have HC2:=aM hc2;clear hr2 hc2;have H:(if 0 < (l2.length:Int) then(if 0≤a1 then(if a1 < ((rd_L1 l2 0).length:Int) then(if 0≤a0 then(if a0 < ((rd_L1 l2 0).length:Int) then(some (wrap64 ((rd (rd_L1 l2 0) a1) - (rd (rd_L1 l2 0) a0)))) else(none)) else(none)) else(none)) else(none)) else(none))=some r:=h
 clear h;by_cases c4:0 < (l2.length:Int)
 ·rw[if_pos c4] at H;have c4b0:decide (0 < (l2.length:Int))=true:=dE c4;have c4b1:decide (0 < l2.length)=true:=dE (by omega)
  clear c4;by_cases c5:0≤a1
  ·rw[if_pos c5] at H;have c5b0:decide (0≤a1)=true:=dE c5;clear c5;by_cases c6:a1 < ((rd_L1 l2 0).length:Int)
   ·rw[if_pos c6] at H;have c6b0:decide (a1 < ((rd_L1 l2 0).length:Int))=true:=dE c6;clear c6;by_cases c7:0≤a0
    ·rw[if_pos c7] at H;have c7b0:decide (0≤a0)=true:=dE c7;clear c7;by_cases c8:a0 < ((rd_L1 l2 0).length:Int)
     ·rw[if_pos c8] at H;have c8b0:decide (a0 < ((rd_L1 l2 0).length:Int))=true:=dE c8;clear c8;obtain rfl:=Option.some.inj H;have p156:0≤(0:Int):=(by omega)
      have q156:0 < (l2.length:Int):=oE aS
      obtain⟨ad156,A156_0,c156_0,e156,hx156_0,hl156_0,hi156_0⟩:=at_L1 HR2.out 0 p156 q156;cases e156
      have qi156:(0 < l2.length)=True:=eq_true (by omega)
      (try rw[show((0:Int)).toNat=0 from rfl] at hx156_0)
      (try rw[Addr.add_zero'] at hx156_0)
      have HR156_0:=aM hi156_0;have HC156_0:=aM hl156_0;clear hi156_0 hl156_0;replace p156:=eq_true p156;replace q156:=eq_true q156;have p157:0≤(a1:Int):=oE aS
      have q157:a1 < ((rd_L1 l2 0).length:Int):=oE aS
      obtain⟨ad157,e157,hx157_0⟩:=Kd.at_int HR156_0.out a1 p157 q157;cases e157
      replace p157:=eq_true p157;replace q157:=eq_true q157;have p158:0≤(0:Int):=(by omega)
      have q158:0 < (l2.length:Int):=oE aS
      obtain⟨ad158,A158_0,c158_0,e158,hx158_0,hl158_0,hi158_0⟩:=at_L1 HR2.out 0 p158 q158;obtain rfl:ad156=ad158:=(by injection e158)
      have qi158:(0 < l2.length)=True:=eq_true (by omega)
      (try rw[show((0:Int)).toNat=0 from rfl] at hx158_0)
      (try rw[Addr.add_zero'] at hx158_0)
      have HR158_0:=aM hi158_0;have HC158_0:=aM hl158_0;clear hi158_0 hl158_0;replace p158:=eq_true p158;replace q158:=eq_true q158;have ea_:=Option.some.inj (hx156_0.symm.trans hx158_0);injection ea_ with ea_ en_ ec_
      subst ea_;subst ec_;clear en_;have p159:0≤(a0:Int):=oE aS
      have q159:a0 < ((rd_L1 l2 0).length:Int):=oE aS
      obtain⟨ad159,e159,hx159_0⟩:=Kd.at_int HR158_0.out a0 p159 q159;cases e159
      replace p159:=eq_true p159;replace q159:=eq_true q159;go_enter Try.func41,Try.ntmps41
      go_wp2
      repeat(go_quiet (fail);try go_wp2)
      go_ret
      exact⟨by first|rfl|(simp;done)|(simp [*];done),by repeat(first|exact Drawn0.refl _|apply Drawn0.step)⟩
     ·rw[if_neg c8] at H;exact absurd H (by simp)
    ·rw[if_neg c7] at H;exact absurd H (by simp)
   ·rw[if_neg c6] at H;exact absurd H (by simp)
  ·rw[if_neg c5] at H;exact absurd H (by simp)
 ·rw[if_neg c4] at H;exact absurd H (by simp)

end Go.Proofs.Ytpnfdhhfdidlmaa.Print
