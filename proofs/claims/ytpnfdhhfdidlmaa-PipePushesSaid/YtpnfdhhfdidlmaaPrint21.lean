import Derived.Test.YtpnfdhhfdidlmaaPrint0
import Derived.Test.YtpnfdhhfdidlmaaPrint20
namespace Go.Proofs.Ytpnfdhhfdidlmaa.Print
open Go.RowKit Go.Proofs.YtpnfdhhfdidlmaaW.PrintWords Go.Proofs.YtpnfdhhfdidlmaaW.PrintLast Go.Proofs.YtpnfdhhfdidlmaaW.PrintMore
attribute [local go_sem] max2_int min2_int max_two min_two max_three min_three max_four min_four
set_option linter.unusedVariables false
set_option maxRecDepth 100000
set_option maxHeartbeats 8000000
set_option linter.unusedSimpArgs false

mutual
def Azv.j0:Nat→Int→Int→Int→Int→Bool→Option (Int × Int)
 | 0,_,_,_,_,_=>none
 | k+1,x0,x1,x2,x3,x26=>if x26=true then(some (0,1)) else(if x2=0 then(some (0,16)) else(if x3 < 0 then(Azv.j1 k x0 x1 x2 x3 true) else(Azv.j1 k x0 x1 x2 x3 (decide (x3 > 2)))))
def Azv.j1:Nat→Int→Int→Int→Int→Bool→Option (Int × Int)
 | 0,_,_,_,_,_=>none
 | k+1,x0,x1,x2,x3,x34=>if x34=true then(some (0,17)) else((Dzz.f x0).bind fun t398=>((Dzz.f x1).bind fun t399=>((Dzz.f x2).bind fun t400=>((Bzy.f k t398 t399 t400).bind fun bt401=>(if x1 < 0 then(Azv.j2 k x2 x3 bt401.1 bt401.2 (!(decide (x0 < 0)))) else(Azv.j2 k x2 x3 bt401.1 bt401.2 (decide (x0 < 0))))))))
def Azv.j2:Nat→Int→Int→Int→Int→Bool→Option (Int × Int)
 | 0,_,_,_,_,_=>none
 | k+1,x2,x3,x10,x11,x12=>if x2 < 0 then(Azv.j3 k x2 x3 x10 x11 (!x12)) else(Azv.j3 k x2 x3 x10 x11 x12)
def Azv.j3:Nat→Int→Int→Int→Int→Bool→Option (Int × Int)
 | 0,_,_,_,_,_=>none
 | k+1,x2,x3,x10,x11,x12=>if x3=0 then(if x12=true then(Azv.j4 k x2 x3 x10 x11 x12 true) else(if x3=1 then(Azv.j4 k x2 x3 x10 x11 x12 (!x12)) else(Azv.j4 k x2 x3 x10 x11 x12 false))) else(if x3=1 then(Azv.j4 k x2 x3 x10 x11 x12 (!x12)) else(Azv.j4 k x2 x3 x10 x11 x12 false))
def Azv.j4:Nat→Int→Int→Int→Int→Bool→Bool→Option (Int × Int)
 | 0,_,_,_,_,_,_=>none
 | k+1,x2,x3,x10,x11,x12,x13=>if x3=2 then((Dzz.f x2).bind fun t403=>(if(wrap64 (2 * x11)) > t403 then(Azv.j5 k x10 x11 x12 true) else((Dzz.f x2).bind fun t404=>(if(wrap64 (2 * x11))=t404 then(Azv.j5 k x10 x11 x12 ((Int.tmod x10 2) == 1)) else(Azv.j5 k x10 x11 x12 false))))) else(Azv.j5 k x10 x11 x12 x13)
def Azv.j5:Nat→Int→Int→Bool→Bool→Option (Int × Int)
 | 0,_,_,_,_=>none
 | k+1,x10,x11,x12,x13=>if x11 > 0 then(Azv.j6 k x10 x12 x13) else(Azv.j6 k x10 x12 false)
def Azv.j6:Nat→Int→Bool→Bool→Option (Int × Int)
 | 0,_,_,_=>none
 | k+1,x10,x12,x91=>if x91=true then(if x12=true then((Dzq.f (wrap64 (-(wrap64 (x10+1))))).bind fun bt405=>(some (bt405.1,bt405.2))) else((Dzq.f (wrap64 (x10+1))).bind fun bt407=>(some (bt407.1,bt407.2)))) else(if x12=true then((Dzq.f (wrap64 (-x10))).bind fun bt409=>(some (bt409.1,bt409.2))) else((Dzq.f x10).bind fun bt411=>(some (bt411.1,bt411.2))))
end
def Azv.f (k:Nat) (a0:Int) (a1:Int) (a2:Int) (a3:Int):Option (Int × Int):=(Czb.f a0).bind fun t395=>(if t395=true then((Czb.f a1).bind fun t396=>(if t396=true then((Czb.f a2).bind fun t397=>(Azv.j0 k a0 a1 a2 a3 (!t397))) else(Azv.j0 k a0 a1 a2 a3 true))) else(Azv.j0 k a0 a1 a2 a3 true))
theorem Azv.mono_l:∀ k,(∀ y0 y1 y2 y3 y4,LeO (Azv.j0 k y0 y1 y2 y3 y4) (Azv.j0 (k+1) y0 y1 y2 y3 y4))∧(∀ y0 y1 y2 y3 y4,LeO (Azv.j1 k y0 y1 y2 y3 y4) (Azv.j1 (k+1) y0 y1 y2 y3 y4))∧(∀ y0 y1 y2 y3 y4,LeO (Azv.j2 k y0 y1 y2 y3 y4) (Azv.j2 (k+1) y0 y1 y2 y3 y4))∧(∀ y0 y1 y2 y3 y4,LeO (Azv.j3 k y0 y1 y2 y3 y4) (Azv.j3 (k+1) y0 y1 y2 y3 y4))∧(∀ y0 y1 y2 y3 y4 y5,LeO (Azv.j4 k y0 y1 y2 y3 y4 y5) (Azv.j4 (k+1) y0 y1 y2 y3 y4 y5))∧(∀ y0 y1 y2 y3,LeO (Azv.j5 k y0 y1 y2 y3) (Azv.j5 (k+1) y0 y1 y2 y3))∧(∀ y0 y1 y2,LeO (Azv.j6 k y0 y1 y2) (Azv.j6 (k+1) y0 y1 y2))
 | 0=>⟨fun _ _ _ _ _ r h=>by simp [Azv.j0] at h,fun _ _ _ _ _ r h=>by simp [Azv.j1] at h,fun _ _ _ _ _ r h=>by simp [Azv.j2] at h,fun _ _ _ _ _ r h=>by simp [Azv.j3] at h,fun _ _ _ _ _ _ r h=>by simp [Azv.j4] at h,fun _ _ _ _ r h=>by simp [Azv.j5] at h,fun _ _ _ r h=>by simp [Azv.j6] at h⟩
 | k+1=>by
  obtain⟨ih0,ih1,ih2,ih3,ih4,ih5,ih6⟩:=Azv.mono_l k;refine⟨?_,?_,?_,?_,?_,?_,?_⟩
  ·intro y0 y1 y2 y3 y4;unfold Azv.j0;with_reducible repeat' first|exact ih0 _ _ _ _ _|exact ih1 _ _ _ _ _|exact ih2 _ _ _ _ _|exact ih3 _ _ _ _ _|exact ih4 _ _ _ _ _ _|exact ih5 _ _ _ _|exact ih6 _ _ _|exact Bzy.mono _ _ _ _|exact LeO.refl _|exact LeO.none _|refine LeO.ite ?_ ?_|refine LeO.bind ?_ (fun _=>?_)
  ·intro y0 y1 y2 y3 y4;unfold Azv.j1;with_reducible repeat' first|exact ih0 _ _ _ _ _|exact ih1 _ _ _ _ _|exact ih2 _ _ _ _ _|exact ih3 _ _ _ _ _|exact ih4 _ _ _ _ _ _|exact ih5 _ _ _ _|exact ih6 _ _ _|exact Bzy.mono _ _ _ _|exact LeO.refl _|exact LeO.none _|refine LeO.ite ?_ ?_|refine LeO.bind ?_ (fun _=>?_)
  ·intro y0 y1 y2 y3 y4;unfold Azv.j2;with_reducible repeat' first|exact ih0 _ _ _ _ _|exact ih1 _ _ _ _ _|exact ih2 _ _ _ _ _|exact ih3 _ _ _ _ _|exact ih4 _ _ _ _ _ _|exact ih5 _ _ _ _|exact ih6 _ _ _|exact Bzy.mono _ _ _ _|exact LeO.refl _|exact LeO.none _|refine LeO.ite ?_ ?_|refine LeO.bind ?_ (fun _=>?_)
  ·intro y0 y1 y2 y3 y4;unfold Azv.j3;with_reducible repeat' first|exact ih0 _ _ _ _ _|exact ih1 _ _ _ _ _|exact ih2 _ _ _ _ _|exact ih3 _ _ _ _ _|exact ih4 _ _ _ _ _ _|exact ih5 _ _ _ _|exact ih6 _ _ _|exact Bzy.mono _ _ _ _|exact LeO.refl _|exact LeO.none _|refine LeO.ite ?_ ?_|refine LeO.bind ?_ (fun _=>?_)
  ·intro y0 y1 y2 y3 y4 y5;unfold Azv.j4;with_reducible repeat' first|exact ih0 _ _ _ _ _|exact ih1 _ _ _ _ _|exact ih2 _ _ _ _ _|exact ih3 _ _ _ _ _|exact ih4 _ _ _ _ _ _|exact ih5 _ _ _ _|exact ih6 _ _ _|exact Bzy.mono _ _ _ _|exact LeO.refl _|exact LeO.none _|refine LeO.ite ?_ ?_|refine LeO.bind ?_ (fun _=>?_)
  ·intro y0 y1 y2 y3;unfold Azv.j5;with_reducible repeat' first|exact ih0 _ _ _ _ _|exact ih1 _ _ _ _ _|exact ih2 _ _ _ _ _|exact ih3 _ _ _ _ _|exact ih4 _ _ _ _ _ _|exact ih5 _ _ _ _|exact ih6 _ _ _|exact Bzy.mono _ _ _ _|exact LeO.refl _|exact LeO.none _|refine LeO.ite ?_ ?_|refine LeO.bind ?_ (fun _=>?_)
  ·intro y0 y1 y2;unfold Azv.j6;with_reducible repeat' first|exact ih0 _ _ _ _ _|exact ih1 _ _ _ _ _|exact ih2 _ _ _ _ _|exact ih3 _ _ _ _ _|exact ih4 _ _ _ _ _ _|exact ih5 _ _ _ _|exact ih6 _ _ _|exact Bzy.mono _ _ _ _|exact LeO.refl _|exact LeO.none _|refine LeO.ite ?_ ?_|refine LeO.bind ?_ (fun _=>?_)
theorem Azv.mono:∀ a0 a1 a2 a3 k,LeO (Azv.f k a0 a1 a2 a3) (Azv.f (k+1) a0 a1 a2 a3):=by
 intro a0 a1 a2 a3 k;obtain⟨ih0,ih1,ih2,ih3,ih4,ih5,ih6⟩:=Azv.mono_l k;unfold Azv.f;with_reducible repeat' first|exact ih0 _ _ _ _ _|exact ih1 _ _ _ _ _|exact ih2 _ _ _ _ _|exact ih3 _ _ _ _ _|exact ih4 _ _ _ _ _ _|exact ih5 _ _ _ _|exact ih6 _ _ _|exact Bzy.mono _ _ _ _|exact LeO.refl _|exact LeO.none _|refine LeO.ite ?_ ?_|refine LeO.bind ?_ (fun _=>?_)
theorem Azv.calls (k:Nat) (a0:Int) (a1:Int) (a2:Int) (a3:Int) (r1:Int) (r2:Int) (w:World) (h:Azv.f k a0 a1 a2 a3=some (r1,r2)) :
  Calls Try.prog 42 #[.int .i64 a0,.int .i64 a1,.int .i64 a2,.int .i64 a3] w fun e w'=>e=.returned (.tuple #[.int .i64 r1,.int .i64 r2])∧Below w.heap.size w w':=by
 have HB:=aM (Below.refl w.heap.size w);have H:((Czb.f a0).bind fun t395=>(if t395=true then((Czb.f a1).bind fun t396=>(if t396=true then((Czb.f a2).bind fun t397=>(Azv.j0 k a0 a1 a2 a3 (!t397))) else(Azv.j0 k a0 a1 a2 a3 true))) else(Azv.j0 k a0 a1 a2 a3 true)))=some (r1,r2):=h
 clear h;have HC5:=aM H;clear H;go_enter Try.func42,Try.ntmps42
 go_upto_region 1 with (fail)
 go_cut [26] (fun v26 wc=>∃ (kq:Nat) (x26_4:Bool),v26=.bool x26_4∧Aside0 (Azv.j0 kq a0 a1 a2 a3 x26_4=some (r1,r2))∧Aside0 (kq≤k)∧Aside0 (Below w.heap.size w wc))
 case first =>
  have H:=HC5.out;clear HC5;replace H:=bS H;obtain⟨t395,A60,H⟩:=H;(try dsimp only at H);have A6:=aM A60;clear A60;by_cases c7:t395=true
  ·subst c7;rw[if_pos rfl] at H;replace H:=bS H;obtain⟨t396,A80,H⟩:=H;(try dsimp only at H);have A8:=aM A80;clear A80;by_cases c9:t396=true
   ·subst c9;rw[if_pos rfl] at H;replace H:=bS H;obtain⟨t397,A100,H⟩:=H;(try dsimp only at H);have A10:=aM A100;clear A100;have H':=aM H;clear H;go_wp2_with (first|((with_reducible refine gate_callee (f:=50) rfl ?_);refine goesL_ (some 15) rfl rfl Try.func50 (by kernel_rfl) rfl #[.int .i64 a0] rfl mA ?_;(with_reducible refine(Czb.calls a0 true _ A6.out).mono ?_);rintro e w' ⟨rfl,⟨nd,rfl⟩⟩;refine⟨_,rfl,?_⟩)|(go_at_call 50;(with_reducible refine(Czb.calls a1 true _ A8.out).mono ?_);rintro e w' ⟨rfl,⟨nd,rfl⟩⟩)|(go_at_call 50;(with_reducible refine(Czb.calls a2 t397 _ A10.out).mono ?_);rintro e w' ⟨rfl,⟨nd,rfl⟩⟩))
    go_meet
    case rel=>exact⟨_,(!t397),sD,H',⟨by first|omega|exact Nat.le_refl _⟩,⟨pB⟩⟩
   ·replace c9:=Bool.eq_false_iff.mpr c9;subst c9;rw[if_neg (show ¬ (false=true) by decide)] at H
    have H':=aM H;clear H;go_wp2_with (first|((with_reducible refine gate_callee (f:=50) rfl ?_);refine goesL_ (some 15) rfl rfl Try.func50 (by kernel_rfl) rfl #[.int .i64 a0] rfl mA ?_;(with_reducible refine(Czb.calls a0 true _ A6.out).mono ?_);rintro e w' ⟨rfl,⟨nd,rfl⟩⟩;refine⟨_,rfl,?_⟩)|(go_at_call 50;(with_reducible refine(Czb.calls a1 false _ A8.out).mono ?_);rintro e w' ⟨rfl,⟨nd,rfl⟩⟩))
    go_meet
    case rel=>exact⟨_,(true),sD,H',⟨by first|omega|exact Nat.le_refl _⟩,⟨pB⟩⟩
  ·replace c7:=Bool.eq_false_iff.mpr c7;subst c7;rw[if_neg (show ¬ (false=true) by decide)] at H
   have H':=aM H;clear H;go_wp2_with (first|((with_reducible refine gate_callee (f:=50) rfl ?_);refine goesL_ (some 15) rfl rfl Try.func50 (by kernel_rfl) rfl #[.int .i64 a0] rfl mA ?_;(with_reducible refine(Czb.calls a0 false _ A6.out).mono ?_);rintro e w' ⟨rfl,⟨nd,rfl⟩⟩;refine⟨_,rfl,?_⟩))
   go_meet
   case rel=>exact⟨_,(true),sD,H',⟨by first|omega|exact Nat.le_refl _⟩,⟨pB⟩⟩
 case rest =>
  clear HC5;try clear p2
  try clear c4
  try clear c5
  try clear c7
  try clear c9
  obtain⟨kq,x26_4,rfl,HA,HJ4,HB⟩:=hcut;cases kq with
  | zero=>exact absurd HA.out (by simp [Azv.j0])
  | succ kj4 =>
   have H:=HA.out;clear HA;simp only[Azv.j0] at H;by_cases c11:x26_4=true
   ·subst c11;rw[if_pos rfl] at H;simp only[Option.some.injEq,Prod.mk.injEq] at H;obtain⟨rfl,rfl⟩:=H;go_wp2
    go_ret2
    exact⟨eW,pB⟩
   ·replace c11:=Bool.eq_false_iff.mpr c11;subst c11;rw[if_neg (show ¬ (false=true) by decide)] at H
    by_cases c12:a2=0
    ·rw[if_pos c12] at H;have c12b0:(a2 == 0)=true:=beq_iff_eq.mpr c12;have c12b1:(a2 != 0)=false:=bne_eq_false_iff_eq.mpr c12;clear c12;simp only[Option.some.injEq,Prod.mk.injEq] at H;obtain⟨rfl,rfl⟩:=H;go_wp2
     go_ret2
     exact⟨eW,pB⟩
    ·rw[if_neg c12] at H;have c12b0:(a2 == 0)=false:=beq_eq_false_iff_ne.mpr c12;have c12b1:(a2 != 0)=true:=bne_iff_ne.mpr c12;have HC13:=aM H;clear H;go_upto_region 5 with (fail)
     go_cut [34] (fun v34 wc=>∃ (kq:Nat) (x34_12:Bool),v34=.bool x34_12∧Aside0 (Azv.j1 kq a0 a1 a2 a3 x34_12=some (r1,r2))∧Aside0 (kq≤kj4)∧Aside0 (Below w.heap.size w wc))
     case first =>
      have H:=HC13.out;clear HC13;by_cases c14:a3 < 0
      ·rw[if_pos c14] at H;have c14b0:decide (a3 < 0)=true:=dE c14;clear c14;(first|rw[c14b0]|(simp only[i64_w,i32_w];rw[c14b0])|skip)
       have H':=aM H;clear H;go_wp2
       go_meet
       case rel=>exact⟨_,(true),sD,H',⟨by have:=HJ4.out;first|omega|exact Nat.le_refl _⟩,⟨pB⟩⟩
      ·rw[if_neg c14] at H;have c14b0:decide (a3 < 0)=false:=decide_eq_false c14;clear c14;(first|rw[c14b0]|(simp only[i64_w,i32_w];rw[c14b0])|skip)
       have H':=aM H;clear H;go_wp2
       go_meet
       case rel=>exact⟨_,(decide (a3 > 2)),sD,H',⟨by have:=HJ4.out;first|omega|exact Nat.le_refl _⟩,⟨pB⟩⟩
     case rest =>
      clear HC13;try clear c1
      try clear p2
      try clear c4
      try clear c5
      try clear c7
      try clear c9
      try clear c11
      try clear c12
      try clear c12b0
      try clear c12b1
      try clear c14
      try clear c14b0
      try clear p2
      obtain⟨kq,x34_12,rfl,HA,HJ12,HB⟩:=hcut;cases kq with
      | zero=>exact absurd HA.out (by simp [Azv.j1])
      | succ kj12 =>
       have H:=HA.out;clear HA;simp only[Azv.j1] at H;by_cases c15:x34_12=true
       ·subst c15;rw[if_pos rfl] at H;simp only[Option.some.injEq,Prod.mk.injEq] at H;obtain⟨rfl,rfl⟩:=H;go_wp2
        go_ret2
        exact⟨eW,pB⟩
       ·replace c15:=Bool.eq_false_iff.mpr c15;subst c15;rw[if_neg (show ¬ (false=true) by decide)] at H
        replace H:=bS H;obtain⟨t398,A160,H⟩:=H;(try dsimp only at H);have A16:=aM A160;clear A160;replace H:=bS H;obtain⟨t399,A170,H⟩:=H;(try dsimp only at H);have A17:=aM A170;clear A170;replace H:=bS H;obtain⟨t400,A180,H⟩:=H;(try dsimp only at H);have A18:=aM A180;clear A180;replace H:=bS H;obtain⟨⟨t401,t402⟩,A190,H⟩:=H;(try dsimp only at H);have A19:=aM A190;clear A190;have HC20:=aM H;clear H;go_upto_if 48 with (first|((with_reducible refine gate_callee (f:=52) rfl ?_);refine goesL_ (some 37) rfl rfl Try.func52 (by kernel_rfl) rfl #[.int .i64 a0] rfl mA ?_;(with_reducible refine(Dzz.calls a0 t398 _ A16.out).mono ?_);rintro e w' ⟨rfl,⟨nd,rfl⟩⟩;refine⟨_,rfl,?_⟩)|((with_reducible refine gate_callee (f:=52) rfl ?_);refine goesL_ (some 39) rfl rfl Try.func52 (by kernel_rfl) rfl #[.int .i64 a1] rfl mA ?_;(with_reducible refine(Dzz.calls a1 t399 _ A17.out).mono ?_);rintro e w' ⟨rfl,⟨nd,rfl⟩⟩;refine⟨_,rfl,?_⟩)|((with_reducible refine gate_callee (f:=52) rfl ?_);refine goesL_ (some 41) rfl rfl Try.func52 (by kernel_rfl) rfl #[.int .i64 a2] rfl mA ?_;(with_reducible refine(Dzz.calls a2 t400 _ A18.out).mono ?_);rintro e w' ⟨rfl,⟨nd,rfl⟩⟩;refine⟨_,rfl,?_⟩)|((with_reducible refine gate_callee (f:=51) rfl ?_);refine goesL_ (some 42) rfl rfl Try.func51 (by kernel_rfl) rfl #[.int .i64 t398,.int .i64 t399,.int .i64 t400] rfl mA ?_;(with_reducible refine(Bzy.calls kj12 t398 t399 t400 t401 t402 _ A19.out).mono ?_);rintro e w21 ⟨rfl,hb⟩;refine⟨_,rfl,?_⟩;replace HB:=aM (below_step pB hb);(try clear hb);(try clear hb2);(try clear hk);(try clear hi)))
        (try simp only[Act.put,sA,sZ,sC])
        go_cut [12] (fun v12 wc=>∃ (kq:Nat) (x12_19:Bool),v12=.bool x12_19∧Aside0 (Azv.j2 kq a2 a3 t401 t402 x12_19=some (r1,r2))∧Aside0 (kq≤kj12)∧Aside0 (Below w.heap.size w wc))
        case first =>
         have H:=HC20.out;clear HC20;by_cases c22:a1 < 0
         ·rw[if_pos c22] at H;have c22b0:decide (a1 < 0)=true:=dE c22;clear c22;(first|rw[c22b0]|(simp only[i64_w,i32_w];rw[c22b0])|skip)
          have H':=aM H;clear H;go_wp2
          go_meet
          case rel=>exact⟨_,(!(decide (a0 < 0))),sD,H',⟨by have:=HJ4.out;have:=HJ12.out;first|omega|exact Nat.le_refl _⟩,⟨pB⟩⟩
         ·rw[if_neg c22] at H;have c22b0:decide (a1 < 0)=false:=decide_eq_false c22;clear c22;(first|rw[c22b0]|(simp only[i64_w,i32_w];rw[c22b0])|skip)
          have H':=aM H;clear H;go_wp2
          go_meet
          case rel=>exact⟨_,(decide (a0 < 0)),sD,H',⟨by have:=HJ4.out;have:=HJ12.out;first|omega|exact Nat.le_refl _⟩,⟨pB⟩⟩
        case rest =>
         clear HC20;try clear c1
         try clear c2
         try clear p2
         try clear c4
         try clear c5
         try clear c7
         try clear c9
         try clear c11
         try clear c12
         try clear c12b0
         try clear c12b1
         try clear c14
         try clear c14b0
         try clear c15
         try clear c22
         try clear c22b0
         try clear p2
         obtain⟨kq,x12_19,rfl,HA,HJ19,HB⟩:=hcut;cases kq with
         | zero=>exact absurd HA.out (by simp [Azv.j2])
         | succ kj19 =>
          have H:=HA.out;clear HA;simp only[Azv.j2] at H;have HC23:=aM H;clear H;go_upto_if 52 with (fail)
          go_cut [12] (fun v12 wc=>∃ (kq:Nat) (x12_22:Bool),v12=.bool x12_22∧Aside0 (Azv.j3 kq a2 a3 t401 t402 x12_22=some (r1,r2))∧Aside0 (kq≤kj19)∧Aside0 (Below w.heap.size w wc))
          case first =>
           have H:=HC23.out;clear HC23;by_cases c24:a2 < 0
           ·rw[if_pos c24] at H;have c24b0:decide (a2 < 0)=true:=dE c24;clear c24;(first|rw[c24b0]|(simp only[i64_w,i32_w];rw[c24b0])|skip)
            have H':=aM H;clear H;go_wp2
            go_meet
            case rel=>exact⟨_,(!x12_19),sD,H',⟨by have:=HJ4.out;have:=HJ12.out;have:=HJ19.out;first|omega|exact Nat.le_refl _⟩,⟨pB⟩⟩
           ·rw[if_neg c24] at H;have c24b0:decide (a2 < 0)=false:=decide_eq_false c24;clear c24;(first|rw[c24b0]|(simp only[i64_w,i32_w];rw[c24b0])|skip)
            have H':=aM H;clear H;go_wp2
            go_meet
            case rel=>exact⟨_,(x12_19),sD,H',⟨by have:=HJ4.out;have:=HJ12.out;have:=HJ19.out;first|omega|exact Nat.le_refl _⟩,⟨pB⟩⟩
          case rest =>
           clear HC23;try clear c1
           try clear c2
           try clear p2
           try clear c4
           try clear c5
           try clear c7
           try clear c9
           try clear c11
           try clear c12
           try clear c12b0
           try clear c12b1
           try clear c14
           try clear c14b0
           try clear c15
           try clear c22
           try clear c22b0
           try clear c24
           try clear c24b0
           try clear p2
           obtain⟨kq,x12_22,rfl,HA,HJ22,HB⟩:=hcut;cases kq with
           | zero=>exact absurd HA.out (by simp [Azv.j3])
           | succ kj22 =>
            have H:=HA.out;clear HA;simp only[Azv.j3] at H;have HC25:=aM H;clear H;go_upto_region 13 with (fail)
            go_cut [13] (fun v13 wc=>∃ (kq:Nat) (x13_24:Bool),v13=.bool x13_24∧Aside0 (Azv.j4 kq a2 a3 t401 t402 x12_22 x13_24=some (r1,r2))∧Aside0 (kq≤kj22)∧Aside0 (Below w.heap.size w wc))
            case first =>
             have H:=HC25.out;clear HC25;by_cases c26:a3=0
             ·rw[if_pos c26] at H;have c26b0:(a3 == 0)=true:=beq_iff_eq.mpr c26;have c26b1:(a3 != 0)=false:=bne_eq_false_iff_eq.mpr c26;clear c26;(first|rw[c26b0]|(simp only[i64_w,i32_w];rw[c26b0])|skip)
              by_cases c27:x12_22=true
              ·subst c27;rw[if_pos rfl] at H;have H':=aM H;clear H;go_wp2
               go_meet
               case rel=>exact⟨_,(true),sD,H',⟨by have:=HJ4.out;have:=HJ12.out;have:=HJ19.out;have:=HJ22.out;first|omega|exact Nat.le_refl _⟩,⟨pB⟩⟩
              ·replace c27:=Bool.eq_false_iff.mpr c27;subst c27;rw[if_neg (show ¬ (false=true) by decide)] at H
               by_cases c28:a3=1
               ·rw[if_pos c28] at H;have c28b0:(a3 == 1)=true:=beq_iff_eq.mpr c28;have c28b1:(a3 != 1)=false:=bne_eq_false_iff_eq.mpr c28;clear c28;have H':=aM H;clear H;go_wp2
                go_meet
                case rel=>exact⟨_,(!false),sD,H',⟨by have:=HJ4.out;have:=HJ12.out;have:=HJ19.out;have:=HJ22.out;first|omega|exact Nat.le_refl _⟩,⟨pB⟩⟩
               ·rw[if_neg c28] at H;have c28b0:(a3 == 1)=false:=beq_eq_false_iff_ne.mpr c28;have c28b1:(a3 != 1)=true:=bne_iff_ne.mpr c28;have H':=aM H;clear H;go_wp2
                go_meet
                case rel=>exact⟨_,(false),sD,H',⟨by have:=HJ4.out;have:=HJ12.out;have:=HJ19.out;have:=HJ22.out;first|omega|exact Nat.le_refl _⟩,⟨pB⟩⟩
             ·rw[if_neg c26] at H;have c26b0:(a3 == 0)=false:=beq_eq_false_iff_ne.mpr c26;have c26b1:(a3 != 0)=true:=bne_iff_ne.mpr c26;(first|rw[c26b0]|(simp only[i64_w,i32_w];rw[c26b0])|skip)
              by_cases c29:a3=1
              ·rw[if_pos c29] at H;have c29b0:(a3 == 1)=true:=beq_iff_eq.mpr c29;have c29b1:(a3 != 1)=false:=bne_eq_false_iff_eq.mpr c29;clear c29;have H':=aM H;clear H;go_wp2
               go_meet
               case rel=>exact⟨_,(!x12_22),sD,H',⟨by have:=HJ4.out;have:=HJ12.out;have:=HJ19.out;have:=HJ22.out;first|omega|exact Nat.le_refl _⟩,⟨pB⟩⟩
              ·rw[if_neg c29] at H;have c29b0:(a3 == 1)=false:=beq_eq_false_iff_ne.mpr c29;have c29b1:(a3 != 1)=true:=bne_iff_ne.mpr c29;have H':=aM H;clear H;go_wp2
               go_meet
               case rel=>exact⟨_,(false),sD,H',⟨by have:=HJ4.out;have:=HJ12.out;have:=HJ19.out;have:=HJ22.out;first|omega|exact Nat.le_refl _⟩,⟨pB⟩⟩
            case rest =>
             clear HC25;try clear c1
             try clear c2
             try clear p2
             try clear c4
             try clear c5
             try clear c7
             try clear c9
             try clear c11
             try clear c12
             try clear c12b0
             try clear c12b1
             try clear c14
             try clear c14b0
             try clear c15
             try clear c22
             try clear c22b0
             try clear c24
             try clear c24b0
             try clear c26
             try clear c26b0
             try clear c26b1
             try clear c27
             try clear c28
             try clear c28b0
             try clear c28b1
             try clear c29
             try clear c29b0
             try clear c29b1
             try clear p2
             obtain⟨kq,x13_24,rfl,HA,HJ24,HB⟩:=hcut;cases kq with
             | zero=>exact absurd HA.out (by simp [Azv.j4])
             | succ kj24 =>
              have H:=HA.out;clear HA;simp only[Azv.j4] at H;have HC30:=aM H;clear H;go_upto_if 69 with (fail)
              go_cut [13] (fun v13 wc=>∃ (kq:Nat) (x13_29:Bool),v13=.bool x13_29∧Aside0 (Azv.j5 kq t401 t402 x12_22 x13_29=some (r1,r2))∧Aside0 (kq≤kj24)∧Aside0 (Below w.heap.size w wc))
              case first =>
               have H:=HC30.out;clear HC30;by_cases c31:a3=2
               ·rw[if_pos c31] at H;have c31b0:(a3 == 2)=true:=beq_iff_eq.mpr c31;have c31b1:(a3 != 2)=false:=bne_eq_false_iff_eq.mpr c31;clear c31;(first|rw[c31b0]|(simp only[i64_w,i32_w];rw[c31b0])|skip)
                replace H:=bS H;obtain⟨t403,A320,H⟩:=H;(try dsimp only at H);have A32:=aM A320;clear A320;by_cases c33:(wrap64 (2 * t402)) > t403
                ·rw[if_pos c33] at H;have c33b0:decide (t403 < (wrap64 (2 * t402)))=true:=dE c33;have c33b0w:decide (t403 < (IntKind.i64.wrap (2 * t402)))=true:=by have h_:=c33b0;first|exact h_|(simp only[i64_w];exact h_)
                 clear c33;have H':=aM H;clear H;go_wp2_with (first|((with_reducible refine gate_callee (f:=52) rfl ?_);refine goesL_ (some 73) rfl rfl Try.func52 (by kernel_rfl) rfl #[.int .i64 a2] rfl mA ?_;(with_reducible refine(Dzz.calls a2 t403 _ A32.out).mono ?_);rintro e w' ⟨rfl,⟨nd,rfl⟩⟩;refine⟨_,rfl,?_⟩))
                 go_meet
                 case rel=>exact⟨_,(true),sD,H',⟨by have:=HJ4.out;have:=HJ12.out;have:=HJ19.out;have:=HJ22.out;have:=HJ24.out;first|omega|exact Nat.le_refl _⟩,⟨pB⟩⟩
                ·rw[if_neg c33] at H;have c33b0:decide (t403 < (wrap64 (2 * t402)))=false:=decide_eq_false c33;have c33b0w:decide (t403 < (IntKind.i64.wrap (2 * t402)))=false:=by have h_:=c33b0;first|exact h_|(simp only[i64_w];exact h_)
                 clear c33;replace H:=bS H;obtain⟨t404,A340,H⟩:=H;(try dsimp only at H);have A34:=aM A340;clear A340;by_cases c35:(wrap64 (2 * t402))=t404
                 ·rw[if_pos c35] at H;have c35b0:((wrap64 (2 * t402)) == t404)=true:=beq_iff_eq.mpr c35;have c35b1:((wrap64 (2 * t402)) != t404)=false:=bne_eq_false_iff_eq.mpr c35;clear c35;have H':=aM H;clear H;go_wp2_with (first|((with_reducible refine gate_callee (f:=52) rfl ?_);refine goesL_ (some 73) rfl rfl Try.func52 (by kernel_rfl) rfl #[.int .i64 a2] rfl mA ?_;(with_reducible refine(Dzz.calls a2 t403 _ A32.out).mono ?_);rintro e w' ⟨rfl,⟨nd,rfl⟩⟩;refine⟨_,rfl,?_⟩)|(go_at_call 52;(with_reducible refine(Dzz.calls a2 t404 _ A34.out).mono ?_);rintro e w' ⟨rfl,⟨nd,rfl⟩⟩))
                  go_meet
                  case rel=>exact⟨_,(((Int.tmod t401 2) == 1)),sD,H',⟨by have:=HJ4.out;have:=HJ12.out;have:=HJ19.out;have:=HJ22.out;have:=HJ24.out;first|omega|exact Nat.le_refl _⟩,⟨pB⟩⟩
                 ·rw[if_neg c35] at H;have c35b0:((wrap64 (2 * t402)) == t404)=false:=beq_eq_false_iff_ne.mpr c35;have c35b1:((wrap64 (2 * t402)) != t404)=true:=bne_iff_ne.mpr c35;have H':=aM H;clear H;go_wp2_with (first|((with_reducible refine gate_callee (f:=52) rfl ?_);refine goesL_ (some 73) rfl rfl Try.func52 (by kernel_rfl) rfl #[.int .i64 a2] rfl mA ?_;(with_reducible refine(Dzz.calls a2 t403 _ A32.out).mono ?_);rintro e w' ⟨rfl,⟨nd,rfl⟩⟩;refine⟨_,rfl,?_⟩)|(go_at_call 52;(with_reducible refine(Dzz.calls a2 t404 _ A34.out).mono ?_);rintro e w' ⟨rfl,⟨nd,rfl⟩⟩))
                  go_meet
                  case rel=>exact⟨_,(false),sD,H',⟨by have:=HJ4.out;have:=HJ12.out;have:=HJ19.out;have:=HJ22.out;have:=HJ24.out;first|omega|exact Nat.le_refl _⟩,⟨pB⟩⟩
               ·rw[if_neg c31] at H;have c31b0:(a3 == 2)=false:=beq_eq_false_iff_ne.mpr c31;have c31b1:(a3 != 2)=true:=bne_iff_ne.mpr c31;(first|rw[c31b0]|(simp only[i64_w,i32_w];rw[c31b0])|skip)
                have H':=aM H;clear H;go_wp2
                go_meet
                case rel=>exact⟨_,(x13_24),sD,H',⟨by have:=HJ4.out;have:=HJ12.out;have:=HJ19.out;have:=HJ22.out;have:=HJ24.out;first|omega|exact Nat.le_refl _⟩,⟨pB⟩⟩
              case rest =>
               clear HC30;try clear c1
               try clear c2
               try clear p2
               try clear c3
               try clear c4
               try clear c5
               try clear p6
               try clear c7
               try clear c9
               try clear c11
               try clear c12
               try clear c12b0
               try clear c12b1
               try clear c14
               try clear c14b0
               try clear c15
               try clear c22
               try clear c22b0
               try clear c24
               try clear c24b0
               try clear c26
               try clear c26b0
               try clear c26b1
               try clear c27
               try clear c28
               try clear c28b0
               try clear c28b1
               try clear c29
               try clear c29b0
               try clear c29b1
               try clear c31
               try clear c31b0
               try clear c31b1
               try clear c33
               try clear c33b0
               try clear c35
               try clear c35b0
               try clear c35b1
               try clear p2
               obtain⟨kq,x13_29,rfl,HA,HJ29,HB⟩:=hcut;cases kq with
               | zero=>exact absurd HA.out (by simp [Azv.j5])
               | succ kj29 =>
                have H:=HA.out;clear HA;simp only[Azv.j5] at H;have HC36:=aM H;clear H;go_upto_region 16 with (fail)
                go_cut [91] (fun v91 wc=>∃ (kq:Nat) (x91_35:Bool),v91=.bool x91_35∧Aside0 (Azv.j6 kq t401 x12_22 x91_35=some (r1,r2))∧Aside0 (kq≤kj29)∧Aside0 (Below w.heap.size w wc))
                case first =>
                 have H:=HC36.out;clear HC36;by_cases c37:t402 > 0
                 ·rw[if_pos c37] at H;have c37b0:decide (0 < t402)=true:=dE c37;clear c37;(first|rw[c37b0]|(simp only[i64_w,i32_w];rw[c37b0])|skip)
                  have H':=aM H;clear H;go_wp2
                  go_meet
                  case rel=>exact⟨_,(x13_29),sD,H',⟨by have:=HJ4.out;have:=HJ12.out;have:=HJ19.out;have:=HJ22.out;have:=HJ24.out;have:=HJ29.out;first|omega|exact Nat.le_refl _⟩,⟨pB⟩⟩
                 ·rw[if_neg c37] at H;have c37b0:decide (0 < t402)=false:=decide_eq_false c37;clear c37;(first|rw[c37b0]|(simp only[i64_w,i32_w];rw[c37b0])|skip)
                  have H':=aM H;clear H;go_wp2
                  go_meet
                  case rel=>exact⟨_,(false),sD,H',⟨by have:=HJ4.out;have:=HJ12.out;have:=HJ19.out;have:=HJ22.out;have:=HJ24.out;have:=HJ29.out;first|omega|exact Nat.le_refl _⟩,⟨pB⟩⟩
                case rest =>
                 clear HC36;try clear c1
                 try clear c2
                 try clear p2
                 try clear c3
                 try clear c4
                 try clear c5
                 try clear p6
                 try clear c7
                 try clear c9
                 try clear c11
                 try clear c12
                 try clear c12b0
                 try clear c12b1
                 try clear c14
                 try clear c14b0
                 try clear c15
                 try clear c22
                 try clear c22b0
                 try clear c24
                 try clear c24b0
                 try clear c26
                 try clear c26b0
                 try clear c26b1
                 try clear c27
                 try clear c28
                 try clear c28b0
                 try clear c28b1
                 try clear c29
                 try clear c29b0
                 try clear c29b1
                 try clear c31
                 try clear c31b0
                 try clear c31b1
                 try clear c33
                 try clear c33b0
                 try clear c35
                 try clear c35b0
                 try clear c35b1
                 try clear c37
                 try clear c37b0
                 try clear p2
                 try clear p6
                 obtain⟨kq,x91_35,rfl,HA,HJ35,HB⟩:=hcut;cases kq with
                 | zero=>exact absurd HA.out (by simp [Azv.j6])
                 | succ kj35 =>
                  have H:=HA.out;clear HA;simp only[Azv.j6] at H;by_cases c38:x91_35=true
                  ·subst c38;rw[if_pos rfl] at H;by_cases c39:x12_22=true
                   ·subst c39;rw[if_pos rfl] at H;replace H:=bS H;obtain⟨⟨t405,t406⟩,A400,H⟩:=H;replace H:(some (t405,t406))=some (r1,r2):=H;have A40:=aM A400;clear A400;simp only[Option.some.injEq,Prod.mk.injEq] at H;obtain⟨rfl,rfl⟩:=H;go_wp2_with (first|((with_reducible refine gate_callee (f:=53) rfl ?_);refine goesL_ (some 98) rfl rfl Try.func53 (by kernel_rfl) rfl #[.int .i64 (wrap64 (-(wrap64 (t401+1))))] rfl mA ?_;(with_reducible refine(Dzq.calls (wrap64 (-(wrap64 (t401+1)))) t405 t406 _ A40.out).mono ?_);rintro e w' ⟨rfl,⟨nd,rfl⟩⟩;refine⟨_,rfl,?_⟩))
                    go_ret2
                    exact⟨eW,pB⟩
                   ·replace c39:=Bool.eq_false_iff.mpr c39;subst c39;rw[if_neg (show ¬ (false=true) by decide)] at H
                    replace H:=bS H;obtain⟨⟨t407,t408⟩,A410,H⟩:=H;replace H:(some (t407,t408))=some (r1,r2):=H;have A41:=aM A410;clear A410;simp only[Option.some.injEq,Prod.mk.injEq] at H;obtain⟨rfl,rfl⟩:=H;go_wp2_with (first|((with_reducible refine gate_callee (f:=53) rfl ?_);refine goesL_ (some 98) rfl rfl Try.func53 (by kernel_rfl) rfl #[.int .i64 (wrap64 (t401+1))] rfl mA ?_;(with_reducible refine(Dzq.calls (wrap64 (t401+1)) t407 t408 _ A41.out).mono ?_);rintro e w' ⟨rfl,⟨nd,rfl⟩⟩;refine⟨_,rfl,?_⟩))
                    go_ret2
                    exact⟨eW,pB⟩
                  ·replace c38:=Bool.eq_false_iff.mpr c38;subst c38;rw[if_neg (show ¬ (false=true) by decide)] at H
                   by_cases c42:x12_22=true
                   ·subst c42;rw[if_pos rfl] at H;replace H:=bS H;obtain⟨⟨t409,t410⟩,A430,H⟩:=H;replace H:(some (t409,t410))=some (r1,r2):=H;have A43:=aM A430;clear A430;simp only[Option.some.injEq,Prod.mk.injEq] at H;obtain⟨rfl,rfl⟩:=H;go_wp2_with (first|((with_reducible refine gate_callee (f:=53) rfl ?_);refine goesL_ (some 98) rfl rfl Try.func53 (by kernel_rfl) rfl #[.int .i64 (wrap64 (-t401))] rfl mA ?_;(with_reducible refine(Dzq.calls (wrap64 (-t401)) t409 t410 _ A43.out).mono ?_);rintro e w' ⟨rfl,⟨nd,rfl⟩⟩;refine⟨_,rfl,?_⟩))
                    go_ret2
                    exact⟨eW,pB⟩
                   ·replace c42:=Bool.eq_false_iff.mpr c42;subst c42;rw[if_neg (show ¬ (false=true) by decide)] at H
                    replace H:=bS H;obtain⟨⟨t411,t412⟩,A440,H⟩:=H;replace H:(some (t411,t412))=some (r1,r2):=H;have A44:=aM A440;clear A440;simp only[Option.some.injEq,Prod.mk.injEq] at H;obtain⟨rfl,rfl⟩:=H;go_wp2_with (first|((with_reducible refine gate_callee (f:=53) rfl ?_);refine goesL_ (some 98) rfl rfl Try.func53 (by kernel_rfl) rfl #[.int .i64 t401] rfl mA ?_;(with_reducible refine(Dzq.calls t401 t411 t412 _ A44.out).mono ?_);rintro e w' ⟨rfl,⟨nd,rfl⟩⟩;refine⟨_,rfl,?_⟩))
                    go_ret2
                    exact⟨eW,pB⟩

end Go.Proofs.Ytpnfdhhfdidlmaa.Print
