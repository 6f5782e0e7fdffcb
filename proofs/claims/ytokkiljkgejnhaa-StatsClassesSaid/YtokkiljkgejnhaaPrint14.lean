import Derived.Test.YtokkiljkgejnhaaPrint0
namespace Go.Proofs.Ytokkiljkgejnhaa.Print
open Go.RowKit Go.Proofs.YtokkiljkgejnhaaW.PrintWords Go.Proofs.YtokkiljkgejnhaaW.PrintLast Go.Proofs.YtokkiljkgejnhaaW.PrintMore
attribute [local go_sem] max2_int min2_int max_two min_two max_three min_three max_four min_four
set_option linter.unusedVariables false
set_option maxRecDepth 100000
set_option maxHeartbeats 8000000
set_option linter.unusedSimpArgs false

def Azy.l0:Nat→List Int→List Int→Int→Option (Bool)
 | 0,_,_,_=>none
 | k+1,x0,x1,x5=>if x5 < (x0.length:Int) then(if 0≤x5 then(if x5 < (x1.length:Int) then(if(rd x0 x5)=(rd x1 x5) then(Azy.l0 k x0 x1 (wrap64 (x5+1))) else(some false)) else(none)) else(none)) else(some true)
def Azy.f (k:Nat) (l0:List Int) (l1:List Int):Option (Bool):=if(l0.length:Int)=(l1.length:Int) then(Azy.l0 k l0 l1 0) else(some false)
theorem Azy.mono_l:∀ k,(∀ y0 y1 y2,LeO (Azy.l0 k y0 y1 y2) (Azy.l0 (k+1) y0 y1 y2))
 | 0=>fun _ _ _ r h=>by simp [Azy.l0] at h
 | k+1=>by
  have ih0:=Azy.mono_l k
  ·intro y0 y1 y2;unfold Azy.l0;with_reducible repeat' first|exact ih0 _ _ _|exact LeO.refl _|exact LeO.none _|refine LeO.ite ?_ ?_|refine LeO.bind ?_ (fun _=>?_)
theorem Azy.mono:∀ a0 a1 k,LeO (Azy.f k a0 a1) (Azy.f (k+1) a0 a1):=by
 intro a0 a1 k;have ih0:=Azy.mono_l k;unfold Azy.f;with_reducible repeat' first|exact ih0 _ _ _|exact LeO.refl _|exact LeO.none _|refine LeO.ite ?_ ?_|refine LeO.bind ?_ (fun _=>?_)
theorem Azy.calls (k:Nat) (A0:Option Addr) (c0:Nat) (l0:List Int) (A1:Option Addr) (c1:Nat) (l1:List Int) (r:Bool) (w:World) (hr0:Kd.C (Kd.int .i64) w A0 l0.length l0) (hc0:l0.length≤c0) (hr1:Kd.C (Kd.int .i64) w A1 l1.length l1) (hc1:l1.length≤c1) (h:Azy.f k l0 l1=some r) :
  Calls Try.prog 19 #[.slice A0 l0.length c0,.slice A1 l1.length c1] w fun e w'=>e=.returned (.bool r)∧Drawn0 w w':=by
 have HR0:=aM hr0;have HC0:=aM hc0;clear hr0 hc0;have HR1:=aM hr1;have HC1:=aM hc1;clear hr1 hc1;have H:(if(l0.length:Int)=(l1.length:Int) then(Azy.l0 k l0 l1 0) else(some false))=some r:=h
 clear h;by_cases c3:(l0.length:Int)=(l1.length:Int)
 ·rw[if_pos c3] at H;have c3b0:((l0.length:Int) == (l1.length:Int))=true:=beq_iff_eq.mpr c3;have c3b1:((l0.length:Int) != (l1.length:Int))=false:=bne_eq_false_iff_eq.mpr c3;have c3b2:(l0.length == l1.length)=true:=by first|simpa using c3|(simp at c3 ⊢;omega)
  clear c3;have H':=aM H;clear H;go_enter Try.func19,Try.ntmps19
  go_wp2
  repeat(go_quiet (fail);try go_wp2)
  go_loopg [5] k (fun kq v5 w'=>∃ (x5_1:Int),v5=.int .i64 x5_1∧Aside0 (Azy.l0 kq l0 l1 x5_1=some r)∧Aside0 (kq≤k)∧Drawn0 w w')
  case atStart=>exact⟨(0),sD,H',⟨Nat.le_refl _⟩,by repeat(first|exact Drawn0.refl _|apply Drawn0.step)⟩
  case round =>
   clear H';try clear c1
   try clear p2
   try clear c3
   try clear c3b0
   try clear c3b1
   try clear c3b2
   obtain⟨x5_1,rfl,HA,HK1,⟨m1,rfl⟩⟩:=hrel;cases gk with
   | zero=>exact absurd HA.out (by simp [Azy.l0])
   | succ k1 =>
    have H:=HA.out;clear HA;simp only[Azy.l0] at H;by_cases c4:x5_1 < (l0.length:Int)
    ·rw[if_pos c4] at H;have c4b0:decide (x5_1 < (l0.length:Int))=true:=dE c4;clear c4;by_cases c5:0≤x5_1
     ·rw[if_pos c5] at H;have c5b0:decide (0≤x5_1)=true:=dE c5;clear c5;by_cases c6:x5_1 < (l1.length:Int)
      ·rw[if_pos c6] at H;have c6b0:decide (x5_1 < (l1.length:Int))=true:=dE c6;clear c6;by_cases c7:(rd l0 x5_1)=(rd l1 x5_1)
       ·rw[if_pos c7] at H;have c7b0:((rd l0 x5_1) == (rd l1 x5_1))=true:=beq_iff_eq.mpr c7;have c7b1:((rd l0 x5_1) != (rd l1 x5_1))=false:=bne_eq_false_iff_eq.mpr c7;clear c7;have H':=aM H;clear H;have p261:0≤(x5_1:Int):=oE aS
        have q261:x5_1 < (l0.length:Int):=oE aS
        obtain⟨ad261,e261,hx261_0⟩:=Kd.at_int HR0.out x5_1 p261 q261;cases e261
        replace p261:=eq_true p261;replace q261:=eq_true q261;have p262:0≤(x5_1:Int):=oE aS
        have q262:x5_1 < (l1.length:Int):=oE aS
        obtain⟨ad262,e262,hx262_0⟩:=Kd.at_int HR1.out x5_1 p262 q262;cases e262
        replace p262:=eq_true p262;replace q262:=eq_true q262;go_wp2
        repeat(go_quiet (fail);try go_wp2)
        go_roundg k1
        case measure=>have:=HK1.out;omega
        case rel=>exact⟨(wrap64 (x5_1+1)),sD,H',⟨by have:=HK1.out;omega⟩,by repeat(first|exact Drawn0.refl _|apply Drawn0.step)⟩
       ·rw[if_neg c7] at H;have c7b0:((rd l0 x5_1) == (rd l1 x5_1))=false:=beq_eq_false_iff_ne.mpr c7;have c7b1:((rd l0 x5_1) != (rd l1 x5_1))=true:=bne_iff_ne.mpr c7;obtain rfl:=Option.some.inj H;have p261:0≤(x5_1:Int):=oE aS
        have q261:x5_1 < (l0.length:Int):=oE aS
        obtain⟨ad261,e261,hx261_0⟩:=Kd.at_int HR0.out x5_1 p261 q261;cases e261
        replace p261:=eq_true p261;replace q261:=eq_true q261;have p262:0≤(x5_1:Int):=oE aS
        have q262:x5_1 < (l1.length:Int):=oE aS
        obtain⟨ad262,e262,hx262_0⟩:=Kd.at_int HR1.out x5_1 p262 q262;cases e262
        replace p262:=eq_true p262;replace q262:=eq_true q262;go_wp2
        repeat(go_quiet (fail);try go_wp2)
        go_ret
        exact⟨by first|rfl|(simp;done)|(simp [*];done),by repeat(first|exact Drawn0.refl _|apply Drawn0.step)⟩
      ·rw[if_neg c6] at H;exact absurd H (by simp)
     ·rw[if_neg c5] at H;exact absurd H (by simp)
    ·rw[if_neg c4] at H;have c4b0:decide (x5_1 < (l0.length:Int))=false:=decide_eq_false c4;clear c4;obtain rfl:=Option.some.inj H;go_wp2
     repeat(go_quiet (fail);try go_wp2)
     go_ret
     exact⟨by first|rfl|(simp;done)|(simp [*];done),by repeat(first|exact Drawn0.refl _|apply Drawn0.step)⟩
 ·rw[if_neg c3] at H;have c3b0:((l0.length:Int) == (l1.length:Int))=false:=beq_eq_false_iff_ne.mpr c3;have c3b1:((l0.length:Int) != (l1.length:Int))=true:=bne_iff_ne.mpr c3;have c3b2:(l0.length == l1.length)=false:=by first|simpa using c3|(simp at c3 ⊢;omega)
  obtain rfl:=Option.some.inj H;go_enter Try.func19,Try.ntmps19
  go_wp2
  repeat(go_quiet (fail);try go_wp2)
  go_ret
  exact⟨by first|rfl|(simp;done)|(simp [*];done),by repeat(first|exact Drawn0.refl _|apply Drawn0.step)⟩

def Azk.l0:Nat→List Int→Int→Int→Option (Bool)
 | 0,_,_,_=>none
 | k+1,x0,x8,x9=>if x9 < x8 then(if 0≤x9 then(if x9 < (x0.length:Int) then(if(rd x0 x9) < 0 then(some false) else(if(rd x0 x9)≥1000000000 then(some false) else(Azk.l0 k x0 x8 (wrap64 (x9+1))))) else(none)) else(none)) else(if(x0.length:Int)=0 then(some true) else(if 0≤(wrap64 ((x0.length:Int) - 1)) then(if(wrap64 ((x0.length:Int) - 1)) < (x0.length:Int) then(some ((rd x0 (wrap64 ((x0.length:Int) - 1))) != 0)) else(none)) else(none)))
def Azk.f (k:Nat) (l0:List Int):Option (Bool):=if(l0.length:Int) > 48 then(some false) else(Azk.l0 k l0 (l0.length:Int) 0)
theorem Azk.mono_l:∀ k,(∀ y0 y1 y2,LeO (Azk.l0 k y0 y1 y2) (Azk.l0 (k+1) y0 y1 y2))
 | 0=>fun _ _ _ r h=>by simp [Azk.l0] at h
 | k+1=>by
  have ih0:=Azk.mono_l k
  ·intro y0 y1 y2;unfold Azk.l0;with_reducible repeat' first|exact ih0 _ _ _|exact LeO.refl _|exact LeO.none _|refine LeO.ite ?_ ?_|refine LeO.bind ?_ (fun _=>?_)
theorem Azk.mono:∀ a0 k,LeO (Azk.f k a0) (Azk.f (k+1) a0):=by
 intro a0 k;have ih0:=Azk.mono_l k;unfold Azk.f;with_reducible repeat' first|exact ih0 _ _ _|exact LeO.refl _|exact LeO.none _|refine LeO.ite ?_ ?_|refine LeO.bind ?_ (fun _=>?_)
theorem Azk.calls (k:Nat) (A0:Option Addr) (c0:Nat) (l0:List Int) (r:Bool) (w:World) (hr0:Kd.C (Kd.int .i64) w A0 l0.length l0) (hc0:l0.length≤c0) (h:Azk.f k l0=some r) :
  Calls Try.prog 65 #[.slice A0 l0.length c0] w fun e w'=>e=.returned (.bool r)∧Drawn0 w w':=by
 have HR0:=aM hr0;have HC0:=aM hc0;clear hr0 hc0;have H:(if(l0.length:Int) > 48 then(some false) else(Azk.l0 k l0 (l0.length:Int) 0))=some r:=h
 clear h;by_cases c2:(l0.length:Int) > 48
 ·rw[if_pos c2] at H;have c2b0:decide (48 < (l0.length:Int))=true:=dE c2;have c2b1:decide (48 < l0.length)=true:=dE (by omega)
  clear c2;obtain rfl:=Option.some.inj H;go_enter Try.func65,Try.ntmps65
  go_wp2
  go_ret
  exact⟨by first|rfl|(simp;done)|(simp [*];done),by repeat(first|exact Drawn0.refl _|apply Drawn0.step)⟩
 ·rw[if_neg c2] at H;have c2b0:decide (48 < (l0.length:Int))=false:=decide_eq_false c2;have c2b1:decide (48 < l0.length)=false:=decide_eq_false (by omega)
  clear c2;have H':=aM H;clear H;go_enter Try.func65,Try.ntmps65
  go_wp2
  go_loopg [9] k (fun kq v9 w'=>∃ (x9_1:Int),v9=.int .i64 x9_1∧Aside0 (Azk.l0 kq l0 (l0.length:Int) x9_1=some r)∧Aside0 (kq≤k)∧Drawn0 w w')
  case atStart=>exact⟨(0),sD,H',⟨Nat.le_refl _⟩,by repeat(first|exact Drawn0.refl _|apply Drawn0.step)⟩
  case round =>
   clear H';try clear c2
   try clear c2b0
   try clear c2b1
   try clear p2
   obtain⟨x9_1,rfl,HA,HK1,⟨m1,rfl⟩⟩:=hrel;cases gk with
   | zero=>exact absurd HA.out (by simp [Azk.l0])
   | succ k1 =>
    have H:=HA.out;clear HA;simp only[Azk.l0] at H;by_cases c3:x9_1 < (l0.length:Int)
    ·rw[if_pos c3] at H;have c3b0:decide (x9_1 < (l0.length:Int))=true:=dE c3;clear c3;by_cases c4:0≤x9_1
     ·rw[if_pos c4] at H;have c4b0:decide (0≤x9_1)=true:=dE c4;clear c4;by_cases c5:x9_1 < (l0.length:Int)
      ·rw[if_pos c5] at H;have c5b0:decide (x9_1 < (l0.length:Int))=true:=dE c5;clear c5;by_cases c6:(rd l0 x9_1) < 0
       ·rw[if_pos c6] at H;have c6b0:decide ((rd l0 x9_1) < 0)=true:=dE c6;clear c6;obtain rfl:=Option.some.inj H;have p263:0≤(x9_1:Int):=oE aS
        have q263:x9_1 < (l0.length:Int):=oE aS
        obtain⟨ad263,e263,hx263_0⟩:=Kd.at_int HR0.out x9_1 p263 q263;cases e263
        replace p263:=eq_true p263;replace q263:=eq_true q263;go_wp2
        go_ret
        exact⟨by first|rfl|(simp;done)|(simp [*];done),by repeat(first|exact Drawn0.refl _|apply Drawn0.step)⟩
       ·rw[if_neg c6] at H;have c6b0:decide ((rd l0 x9_1) < 0)=false:=decide_eq_false c6;clear c6;by_cases c7:(rd l0 x9_1)≥1000000000
        ·rw[if_pos c7] at H;have c7b0:decide (1000000000≤(rd l0 x9_1))=true:=dE c7;clear c7;obtain rfl:=Option.some.inj H;have p263:0≤(x9_1:Int):=oE aS
         have q263:x9_1 < (l0.length:Int):=oE aS
         obtain⟨ad263,e263,hx263_0⟩:=Kd.at_int HR0.out x9_1 p263 q263;cases e263
         replace p263:=eq_true p263;replace q263:=eq_true q263;have p264:0≤(x9_1:Int):=oE aS
         have q264:x9_1 < (l0.length:Int):=oE aS
         obtain⟨ad264,e264,hx264_0⟩:=Kd.at_int HR0.out x9_1 p264 q264;obtain rfl:ad263=ad264:=(by injection e264)
         replace p264:=eq_true p264;replace q264:=eq_true q264;go_wp2
         go_ret
         exact⟨by first|rfl|(simp;done)|(simp [*];done),by repeat(first|exact Drawn0.refl _|apply Drawn0.step)⟩
        ·rw[if_neg c7] at H;have c7b0:decide (1000000000≤(rd l0 x9_1))=false:=decide_eq_false c7;clear c7;have H':=aM H;clear H;have p263:0≤(x9_1:Int):=oE aS
         have q263:x9_1 < (l0.length:Int):=oE aS
         obtain⟨ad263,e263,hx263_0⟩:=Kd.at_int HR0.out x9_1 p263 q263;cases e263
         replace p263:=eq_true p263;replace q263:=eq_true q263;have p264:0≤(x9_1:Int):=oE aS
         have q264:x9_1 < (l0.length:Int):=oE aS
         obtain⟨ad264,e264,hx264_0⟩:=Kd.at_int HR0.out x9_1 p264 q264;obtain rfl:ad263=ad264:=(by injection e264)
         replace p264:=eq_true p264;replace q264:=eq_true q264;go_wp2
         go_roundg k1
         case measure=>have:=HK1.out;omega
         case rel=>exact⟨(wrap64 (x9_1+1)),sD,H',⟨by have:=HK1.out;omega⟩,by repeat(first|exact Drawn0.refl _|apply Drawn0.step)⟩
      ·rw[if_neg c5] at H;exact absurd H (by simp)
     ·rw[if_neg c4] at H;exact absurd H (by simp)
    ·rw[if_neg c3] at H;have c3b0:decide (x9_1 < (l0.length:Int))=false:=decide_eq_false c3;clear c3;by_cases c8:(l0.length:Int)=0
     ·rw[if_pos c8] at H;have c8b0:((l0.length:Int) == 0)=true:=beq_iff_eq.mpr c8;have c8b1:((l0.length:Int) != 0)=false:=bne_eq_false_iff_eq.mpr c8;clear c8;obtain rfl:=Option.some.inj H;go_wp2
      go_ret
      exact⟨by first|rfl|(simp;done)|(simp [*];done),by repeat(first|exact Drawn0.refl _|apply Drawn0.step)⟩
     ·rw[if_neg c8] at H;have c8b0:((l0.length:Int) == 0)=false:=beq_eq_false_iff_ne.mpr c8;have c8b1:((l0.length:Int) != 0)=true:=bne_iff_ne.mpr c8;have c8b2:¬ (l0=[]):=fun h_=>c8 (by rw[h_];rfl)
      obtain⟨ji9,hji9⟩:∃ j_:Int,(wrap64 ((l0.length:Int) - 1))=j_:=⟨_,rfl⟩;replace H:(if 0≤(ji9) then(if(ji9) < (l0.length:Int) then(some ((rd l0 (ji9)) != 0)) else(none)) else(none))=some r:=by first|(rw[hji9] at H;exact H)|(simp only[hji9] at H ⊢;exact H)
      have hji9w:(IntKind.i64.wrap ((l0.length:Int) - 1))=ji9:=(i64_w _).trans hji9;by_cases c10:0≤(ji9)
      ·rw[if_pos c10] at H;have c10b0:decide (0≤(ji9))=true:=dE c10;clear c10;by_cases c11:(ji9) < (l0.length:Int)
       ·rw[if_pos c11] at H;have c11b0:decide ((ji9) < (l0.length:Int))=true:=dE c11;clear c11;obtain rfl:=Option.some.inj H;have p265:0≤((ji9):Int):=oE aS
        have q265:(ji9) < (l0.length:Int):=oE aS
        obtain⟨ad265,e265,hx265_0⟩:=Kd.at_int HR0.out (ji9) p265 q265;cases e265
        replace p265:=eq_true p265;replace q265:=eq_true q265;go_wp2
        go_ret
        exact⟨by first|rfl|(simp;done)|(simp only[← hji9] <;> (first|rfl|simp))|(simp [*];done),by repeat(first|exact Drawn0.refl _|apply Drawn0.step)⟩
       ·rw[if_neg c11] at H;exact absurd H (by simp)
      ·rw[if_neg c10] at H;exact absurd H (by simp)

def Dzm.f (l0:List Int) (a1:Int):Option (List Int):=if 0≤(mx a1 (l0.length:Int)) then(if(mx a1 (l0.length:Int):Int).toNat≤35184372088832 then((Ezm.f (List.replicate (mx a1 (l0.length:Int):Int).toNat 0) l0).bind fun bt269=>(some bt269.2)) else(none)) else(none)
theorem Dzm.calls (A0:Option Addr) (c0:Nat) (l0:List Int) (a1:Int) (r:List Int) (w:World) (hr0:Kd.C (Kd.int .i64) w A0 l0.length l0) (hc0:l0.length≤c0) (h:Dzm.f l0 a1=some r) :
  Calls Try.prog 69 #[.slice A0 l0.length c0,.int .i64 a1] w fun e w'=>∃ v0_:Value,e=.returned (v0_)∧Kd.R (Kd.int .i64) 3 w' w.heap.size (fun _=>True) v0_ r∧Below w.heap.size w w':=by
 have HR0:=aM hr0;have HC0:=aM hc0;clear hr0 hc0;have HB:=aM (Below.refl w.heap.size w);have H:(if 0≤(mx a1 (l0.length:Int)) then(if(mx a1 (l0.length:Int):Int).toNat≤35184372088832 then((Ezm.f (List.replicate (mx a1 (l0.length:Int):Int).toNat 0) l0).bind fun bt269=>(some bt269.2)) else(none)) else(none))=some r:=h
 clear h;obtain⟨ji3,hji3⟩:∃ j_:Int,(mx a1 (l0.length:Int))=j_:=⟨_,rfl⟩;replace H:(if 0≤(ji3) then(if(ji3:Int).toNat≤35184372088832 then((Ezm.f (List.replicate (ji3:Int).toNat 0) l0).bind fun bt269=>(some bt269.2)) else(none)) else(none))=some r:=by first|(rw[hji3] at H;exact H)|(simp only[hji3] at H ⊢;exact H)
 (try(have hji3l:0≤ji3:=by(rw[← hji3];unfold mx;(repeat' split) <;> omega)))
 (try(have hji3m:0≤ji3:=by omega))
 have hji3_:(if a1 < (l0.length:Int) then(l0.length:Int) else a1)=ji3:=hji3
 by_cases c4:0≤(ji3)
 ·rw[if_pos c4] at H;have c4b0:=eq_true c4;have c4b1:decide (0≤(ji3))=true:=dE c4;clear c4;by_cases c5:(ji3:Int).toNat≤35184372088832
  ·rw[if_pos c5] at H;have c5b0:=eq_true c5;have c5b1:decide ((ji3:Int).toNat≤35184372088832)=true:=dE c5;clear c5;obtain⟨y266,hy266⟩:∃ y_:List Int,y_=(List.replicate (ji3:Int).toNat 0):=⟨_,rfl⟩;replace H:((Ezm.f y266 l0).bind fun bt269=>(some bt269.2))=some r:=by first|(rw[hy266];with_reducible exact H)|(have H2_:=(Option.bind_some _ _).symm.trans H;rw[hy266];with_reducible exact H2_)|(have H2_:=(Option.bind_some _ _).symm.trans H;with_reducible exact H2_)|with_reducible exact H|(rw[hy266];exact H)|exact H
   have Ny266:=aM hy266;clear hy266;replace H:=bS H;obtain⟨⟨t269,t270⟩,A60,H⟩:=H;replace H:(some t270)=some r:=H;have A6:=aM A60;clear A60;obtain rfl:=Option.some.inj H;go_enter Try.func69,Try.ntmps69
   go_wp2_with (first|((with_reducible refine gate_dst (N:=10) rfl ?_);refine Kd.R_make (Kd.int .i64) _ 3 rfl (N:=10) rfl 22 _ _ rfl ji3 rfl rfl Try.underlying22 (.int .i64 0) 8 info3 rfl (by decide) (by omega) 0 (ok:=fun _=>True) (okp:=fun _=>True) rfl (fun _ hk=>hk) trivial (oE aS) (Nat.le_trans (Nat.mul_le_mul_right _ (oE aS:ji3.toNat≤35184372088832)) (by omega)) (Below.refl _ _) (Nat.le_refl _) ?_;intro v267 w7 ho8 hb hg_ hnew_;clear hg_ hnew_;(first|rw[← Ny266.out] at ho8|(simp only[Int.reduceToNat] at ho8;rw[← Ny266.out] at ho8));have HO268:=aM (Kd.R_lower ho8 (below_size pB));replace HB:=aM (below_step pB hb);clear hb ho8;obtain⟨Ao9,co9,eo9⟩:=Kd.R_slice HO268.out;subst eo9)|((with_reducible refine gate_builtin (b:=.copy) rfl ?_);refine copyL_ (some 13) rfl rfl rfl (.slice Ao9 y266.length co9) (.slice A0 l0.length c0) rfl rfl ?_;(with_reducible refine(Ezm.calls (by kernel_rfl) (fun k_=>some k_=(.slice Ao9 y266.length co9:Value).ownBlock) (.slice Ao9 y266.length co9) y266 _ _ l0 t269 t270 w _ ?side1 ?side2 ?side3 ?side4 A6.out).mono ?_);(case side1=>repeat(first|(with_reducible first|exact HB.out|apply below_alloc|apply pw_below_drewN|apply below_drew1)|exact HB.out));(case side2=>exact Kd.R_tight rfl HO268.out);(case side3=>exact Kd.C_kept_came (Kd.heap_int .i64) HR0.out pB (fun k_ hs_=>(fun e_=>Kd.R_base HO268.out k_ e_.symm) hs_));(case side4=>exact HC0.out);rintro e w10 ⟨rfl,hy0,hb,hkp⟩;refine⟨_,rfl,?_⟩;replace HO268:=aM (Kd.R_reok rfl hy0 (fun k_ e_=>HO268.out.1 k_ e_));replace HB:=aM (hb);(try clear hb);(try clear hkp);(try clear hy0)))
   go_ret
   exact⟨_,by first|rfl|(simp [errW_none,errW_some] <;> rfl)|(simp only[← hji3];first|rfl|(simp [errW_none,errW_some] <;> rfl))|(simp [*,errW_none,errW_some] <;> rfl),rX HO268.out,pB⟩
  ·rw[if_neg c5] at H;exact absurd H (by simp)
 ·rw[if_neg c4] at H;exact absurd H (by simp)

end Go.Proofs.Ytokkiljkgejnhaa.Print
