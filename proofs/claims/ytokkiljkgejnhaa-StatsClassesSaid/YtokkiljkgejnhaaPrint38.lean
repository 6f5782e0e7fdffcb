import Derived.Test.YtokkiljkgejnhaaPrint0
namespace Go.Proofs.Ytokkiljkgejnhaa.Print
open Go.RowKit Go.Proofs.YtokkiljkgejnhaaW.PrintWords Go.Proofs.YtokkiljkgejnhaaW.PrintLast Go.Proofs.YtokkiljkgejnhaaW.PrintMore
attribute [local go_sem] max2_int min2_int max_two min_two max_three min_three max_four min_four
set_option linter.unusedVariables false
set_option maxRecDepth 100000
set_option maxHeartbeats 8000000
set_option linter.unusedSimpArgs false

def Azj.l0:Nat→List Int→Int→Option (Int)
 | 0,_,_=>none
 | k+1,x0,x3=>if x3 < (x0.length:Int) then(if 0≤x3 then(if(rd x0 x3) < (-1099511627776) then(some 1) else(if(rd x0 x3) > 1099511627776 then(some 1) else(Azj.l0 k x0 (wrap64 (x3+1))))) else(none)) else(some 0)
def Azj.f (k:Nat) (l0:List Int):Option (Int):=if(l0.length:Int)=0 then(some 10) else(if(l0.length:Int) > 512 then(some 8) else(Azj.l0 k l0 0))
theorem Azj.mono_l:∀ k,(∀ y0 y1,LeO (Azj.l0 k y0 y1) (Azj.l0 (k+1) y0 y1))
 | 0=>fun _ _ r h=>by simp [Azj.l0] at h
 | k+1=>by
  have ih0:=Azj.mono_l k
  ·intro y0 y1;unfold Azj.l0;with_reducible repeat' first|exact ih0 _ _|exact LeO.refl _|exact LeO.none _|refine LeO.ite ?_ ?_|refine LeO.bind ?_ (fun _=>?_)
theorem Azj.mono:∀ a0 k,LeO (Azj.f k a0) (Azj.f (k+1) a0):=by
 intro a0 k;have ih0:=Azj.mono_l k;unfold Azj.f;with_reducible repeat' first|exact ih0 _ _|exact LeO.refl _|exact LeO.none _|refine LeO.ite ?_ ?_|refine LeO.bind ?_ (fun _=>?_)
theorem Azj.calls (k:Nat) (A0:Option Addr) (c0:Nat) (l0:List Int) (r:Int) (w:World) (hr0:Kd.C (Kd.int .i64) w A0 l0.length l0) (hc0:l0.length≤c0) (h:Azj.f k l0=some r) :
  Calls Try.prog 33 #[.slice A0 l0.length c0] w fun e w'=>e=.returned (.int .i64 r)∧Drawn0 w w':=by
 have HR0:=aM hr0;have HC0:=aM hc0;clear hr0 hc0;have H:(if(l0.length:Int)=0 then(some 10) else(if(l0.length:Int) > 512 then(some 8) else(Azj.l0 k l0 0)))=some r:=h
 clear h;by_cases c2:(l0.length:Int)=0
 ·rw[if_pos c2] at H;have c2b0:((l0.length:Int) == 0)=true:=beq_iff_eq.mpr c2;have c2b1:((l0.length:Int) != 0)=false:=bne_eq_false_iff_eq.mpr c2;clear c2;obtain rfl:=Option.some.inj H;go_enter Try.func33,Try.ntmps33
  go_wp2
  go_ret
  exact⟨by first|rfl|(simp;done)|(simp [*];done),by repeat(first|exact Drawn0.refl _|apply Drawn0.step)⟩
 ·rw[if_neg c2] at H;have c2b0:((l0.length:Int) == 0)=false:=beq_eq_false_iff_ne.mpr c2;have c2b1:((l0.length:Int) != 0)=true:=bne_iff_ne.mpr c2;have c2b2:¬ (l0=[]):=fun h_=>c2 (by rw[h_];rfl)
  by_cases c3:(l0.length:Int) > 512
  ·rw[if_pos c3] at H;have c3b0:decide (512 < (l0.length:Int))=true:=dE c3;have c3b1:decide (512 < l0.length)=true:=dE (by omega)
   clear c3;obtain rfl:=Option.some.inj H;go_enter Try.func33,Try.ntmps33
   go_wp2
   go_ret
   exact⟨by first|rfl|(simp;done)|(simp [*];done),by repeat(first|exact Drawn0.refl _|apply Drawn0.step)⟩
  ·rw[if_neg c3] at H;have c3b0:decide (512 < (l0.length:Int))=false:=decide_eq_false c3;have c3b1:decide (512 < l0.length)=false:=decide_eq_false (by omega)
   clear c3;have H':=aM H;clear H;go_enter Try.func33,Try.ntmps33
   go_wp2
   go_loopg [3] k (fun kq v3 w'=>∃ (x3_1:Int),v3=.int .i64 x3_1∧Aside0 (Azj.l0 kq l0 x3_1=some r)∧Aside0 (kq≤k)∧Drawn0 w w')
   case atStart=>exact⟨(0),sD,H',⟨Nat.le_refl _⟩,by repeat(first|exact Drawn0.refl _|apply Drawn0.step)⟩
   case round =>
    clear H';try clear c2
    try clear c2b0
    try clear c2b1
    try clear c2b2
    try clear p2
    try clear c3
    try clear c3b0
    try clear c3b1
    obtain⟨x3_1,rfl,HA,HK1,⟨m1,rfl⟩⟩:=hrel;cases gk with
    | zero=>exact absurd HA.out (by simp [Azj.l0])
    | succ k1 =>
     have H:=HA.out;clear HA;simp only[Azj.l0] at H;by_cases c4:x3_1 < (l0.length:Int)
     ·rw[if_pos c4] at H;have c4b0:decide (x3_1 < (l0.length:Int))=true:=dE c4;clear c4;by_cases c5:0≤x3_1
      ·rw[if_pos c5] at H;have c5b0:decide (0≤x3_1)=true:=dE c5;clear c5;by_cases c6:(rd l0 x3_1) < (-1099511627776)
       ·rw[if_pos c6] at H;have c6b0:decide ((rd l0 x3_1) < (-1099511627776))=true:=dE c6;clear c6;obtain rfl:=Option.some.inj H;have p718:0≤(x3_1:Int):=oE aS
        have q718:x3_1 < (l0.length:Int):=oE aS
        obtain⟨ad718,e718,hx718_0⟩:=Kd.at_int HR0.out x3_1 p718 q718;cases e718
        replace p718:=eq_true p718;replace q718:=eq_true q718;go_wp2
        go_ret
        exact⟨by first|rfl|(simp;done)|(simp [*];done),by repeat(first|exact Drawn0.refl _|apply Drawn0.step)⟩
       ·rw[if_neg c6] at H;have c6b0:decide ((rd l0 x3_1) < (-1099511627776))=false:=decide_eq_false c6;clear c6;by_cases c7:(rd l0 x3_1) > 1099511627776
        ·rw[if_pos c7] at H;have c7b0:decide (1099511627776 < (rd l0 x3_1))=true:=dE c7;clear c7;obtain rfl:=Option.some.inj H;have p718:0≤(x3_1:Int):=oE aS
         have q718:x3_1 < (l0.length:Int):=oE aS
         obtain⟨ad718,e718,hx718_0⟩:=Kd.at_int HR0.out x3_1 p718 q718;cases e718
         replace p718:=eq_true p718;replace q718:=eq_true q718;have p719:0≤(x3_1:Int):=oE aS
         have q719:x3_1 < (l0.length:Int):=oE aS
         obtain⟨ad719,e719,hx719_0⟩:=Kd.at_int HR0.out x3_1 p719 q719;obtain rfl:ad718=ad719:=(by injection e719)
         replace p719:=eq_true p719;replace q719:=eq_true q719;go_wp2
         go_ret
         exact⟨by first|rfl|(simp;done)|(simp [*];done),by repeat(first|exact Drawn0.refl _|apply Drawn0.step)⟩
        ·rw[if_neg c7] at H;have c7b0:decide (1099511627776 < (rd l0 x3_1))=false:=decide_eq_false c7;clear c7;have H':=aM H;clear H;have p718:0≤(x3_1:Int):=oE aS
         have q718:x3_1 < (l0.length:Int):=oE aS
         obtain⟨ad718,e718,hx718_0⟩:=Kd.at_int HR0.out x3_1 p718 q718;cases e718
         replace p718:=eq_true p718;replace q718:=eq_true q718;have p719:0≤(x3_1:Int):=oE aS
         have q719:x3_1 < (l0.length:Int):=oE aS
         obtain⟨ad719,e719,hx719_0⟩:=Kd.at_int HR0.out x3_1 p719 q719;obtain rfl:ad718=ad719:=(by injection e719)
         replace p719:=eq_true p719;replace q719:=eq_true q719;go_wp2
         go_roundg k1
         case measure=>have:=HK1.out;omega
         case rel=>exact⟨(wrap64 (x3_1+1)),sD,H',⟨by have:=HK1.out;omega⟩,by repeat(first|exact Drawn0.refl _|apply Drawn0.step)⟩
      ·rw[if_neg c5] at H;exact absurd H (by simp)
     ·rw[if_neg c4] at H;have c4b0:decide (x3_1 < (l0.length:Int))=false:=decide_eq_false c4;clear c4;obtain rfl:=Option.some.inj H;go_wp2
      go_ret
      exact⟨by first|rfl|(simp;done)|(simp [*];done),by repeat(first|exact Drawn0.refl _|apply Drawn0.step)⟩


mutual
def Azw.j0:Nat→List Int→Int→Bool→Option (Int × Int)
 | 0,_,_,_=>none
 | k+1,x0,x1,x22=>if x22=true then(some (0,1)) else(Azw.l0 k x0 x1 0 false 0)
def Azw.l0:Nat→List Int→Int→Int→Bool→Int→Option (Int × Int)
 | 0,_,_,_,_,_=>none
 | k+1,x0,x1,x7,x8,x9=>if x9 < (x0.length:Int) then(Azw.l1 k x0 x1 x7 x8 x9 0 0) else(some (x7,0))
def Azw.l1:Nat→List Int→Int→Int→Bool→Int→Int→Int→Option (Int × Int)
 | 0,_,_,_,_,_,_,_=>none
 | k+1,x0,x1,x7,x8,x9,x10,x11=>if x11 < (x0.length:Int) then(if 0≤x11 then(if 0≤x9 then(if x9 < (x0.length:Int) then(if(rd x0 x11)≤(rd x0 x9) then(Azw.l1 k x0 x1 x7 x8 x9 (wrap64 (x10+1)) (wrap64 (x11+1))) else(Azw.l1 k x0 x1 x7 x8 x9 x10 (wrap64 (x11+1)))) else(none)) else(none)) else(none)) else(if(wrap64 (1000 * x10))≥(wrap64 (x1 * (x0.length:Int))) then(if x8=true then(if 0≤x9 then(if x9 < (x0.length:Int) then(if(rd x0 x9) < x7 then(Azw.l0 k x0 x1 (rd x0 x9) true (wrap64 (x9+1))) else(Azw.l0 k x0 x1 x7 x8 (wrap64 (x9+1)))) else(none)) else(none)) else(if 0≤x9 then(if x9 < (x0.length:Int) then(Azw.l0 k x0 x1 (rd x0 x9) true (wrap64 (x9+1))) else(none)) else(none))) else(Azw.l0 k x0 x1 x7 x8 (wrap64 (x9+1))))
end
def Azw.f (k:Nat) (l0:List Int) (a1:Int):Option (Int × Int):=(Azj.f k l0).bind fun t720=>(if t720=0 then(if a1 < 1 then(Azw.j0 k l0 a1 true) else(Azw.j0 k l0 a1 (decide (a1 > 1000)))) else(some (0,t720)))
theorem Azw.mono_l:∀ k,(∀ y0 y1 y2,LeO (Azw.j0 k y0 y1 y2) (Azw.j0 (k+1) y0 y1 y2))∧(∀ y0 y1 y2 y3 y4,LeO (Azw.l0 k y0 y1 y2 y3 y4) (Azw.l0 (k+1) y0 y1 y2 y3 y4))∧(∀ y0 y1 y2 y3 y4 y5 y6,LeO (Azw.l1 k y0 y1 y2 y3 y4 y5 y6) (Azw.l1 (k+1) y0 y1 y2 y3 y4 y5 y6))
 | 0=>⟨fun _ _ _ r h=>by simp [Azw.j0] at h,fun _ _ _ _ _ r h=>by simp [Azw.l0] at h,fun _ _ _ _ _ _ _ r h=>by simp [Azw.l1] at h⟩
 | k+1=>by
  obtain⟨ih0,ih1,ih2⟩:=Azw.mono_l k;refine⟨?_,?_,?_⟩
  ·intro y0 y1 y2;unfold Azw.j0;with_reducible repeat' first|exact ih0 _ _ _|exact ih1 _ _ _ _ _|exact ih2 _ _ _ _ _ _ _|exact Azj.mono _ _|exact LeO.refl _|exact LeO.none _|refine LeO.ite ?_ ?_|refine LeO.bind ?_ (fun _=>?_)
  ·intro y0 y1 y2 y3 y4;unfold Azw.l0;with_reducible repeat' first|exact ih0 _ _ _|exact ih1 _ _ _ _ _|exact ih2 _ _ _ _ _ _ _|exact Azj.mono _ _|exact LeO.refl _|exact LeO.none _|refine LeO.ite ?_ ?_|refine LeO.bind ?_ (fun _=>?_)
  ·intro y0 y1 y2 y3 y4 y5 y6;unfold Azw.l1;with_reducible repeat' first|exact ih0 _ _ _|exact ih1 _ _ _ _ _|exact ih2 _ _ _ _ _ _ _|exact Azj.mono _ _|exact LeO.refl _|exact LeO.none _|refine LeO.ite ?_ ?_|refine LeO.bind ?_ (fun _=>?_)
theorem Azw.mono:∀ a0 a1 k,LeO (Azw.f k a0 a1) (Azw.f (k+1) a0 a1):=by
 intro a0 a1 k;obtain⟨ih0,ih1,ih2⟩:=Azw.mono_l k;unfold Azw.f;with_reducible repeat' first|exact ih0 _ _ _|exact ih1 _ _ _ _ _|exact ih2 _ _ _ _ _ _ _|exact Azj.mono _ _|exact LeO.refl _|exact LeO.none _|refine LeO.ite ?_ ?_|refine LeO.bind ?_ (fun _=>?_)
theorem Azw.calls (k:Nat) (A0:Option Addr) (c0:Nat) (l0:List Int) (a1:Int) (r1:Int) (r2:Int) (w:World) (hr0:Kd.C (Kd.int .i64) w A0 l0.length l0) (hc0:l0.length≤c0) (h:Azw.f k l0 a1=some (r1,r2)) :
  Calls Try.prog 12 #[.slice A0 l0.length c0,.int .i64 a1] w fun e w'=>e=.returned (.tuple #[.int .i64 r1,.int .i64 r2])∧Drawn0 w w':=by
 have HR0:=aM hr0;have HC0:=aM hc0;clear hr0 hc0;have H:((Azj.f k l0).bind fun t720=>(if t720=0 then(if a1 < 1 then(Azw.j0 k l0 a1 true) else(Azw.j0 k l0 a1 (decide (a1 > 1000)))) else(some (0,t720))))=some (r1,r2):=h
 clear h;replace H:=bS H;obtain⟨t720,A30,H⟩:=H;(try dsimp only at H);have A3:=aM A30;clear A30;by_cases c4:t720=0
 ·rw[if_pos c4] at H;have c4b0:(t720 == 0)=true:=beq_iff_eq.mpr c4;have c4b1:(t720 != 0)=false:=bne_eq_false_iff_eq.mpr c4;clear c4;have HC5:=aM H;clear H;go_enter Try.func12,Try.ntmps12
  go_upto_region 4 with (first|(go_at_call 33;(with_reducible refine(Azj.calls k _ _ l0 t720 _ ?side1 ?side2 A3.out).mono ?_);(case side1=>exact cX HR0.out);(case side2=>exact HC0.out);rintro e w' ⟨rfl,⟨nd,rfl⟩⟩;(try first|exact⟨rfl,_,World.drewN_drewN _ _ _⟩|exact⟨rfl,_,Eq.trans (World.drewN_drewN _ _ _) (congrArg (World.drewN _) (Nat.add_assoc _ _ _))⟩)))
  repeat(go_quiet (first|(go_at_call 33;(with_reducible refine(Azj.calls k _ _ l0 t720 _ ?side1 ?side2 A3.out).mono ?_);(case side1=>exact cX HR0.out);(case side2=>exact HC0.out);rintro e w' ⟨rfl,⟨nd,rfl⟩⟩;(try first|exact⟨rfl,_,World.drewN_drewN _ _ _⟩|exact⟨rfl,_,Eq.trans (World.drewN_drewN _ _ _) (congrArg (World.drewN _) (Nat.add_assoc _ _ _))⟩)));go_upto_region 4 with (first|(go_at_call 33;(with_reducible refine(Azj.calls k _ _ l0 t720 _ ?side1 ?side2 A3.out).mono ?_);(case side1=>exact cX HR0.out);(case side2=>exact HC0.out);rintro e w' ⟨rfl,⟨nd,rfl⟩⟩;(try first|exact⟨rfl,_,World.drewN_drewN _ _ _⟩|exact⟨rfl,_,Eq.trans (World.drewN_drewN _ _ _) (congrArg (World.drewN _) (Nat.add_assoc _ _ _))⟩))))
  (try simp only[Act.put,sA,sZ,sC])
  go_cut [22] (fun v22 wc=>∃ (kq:Nat) (x22_4:Bool),v22=.bool x22_4∧Aside0 (Azw.j0 kq l0 a1 x22_4=some (r1,r2))∧Aside0 (kq≤k)∧Drawn0 w wc)
  case first =>
   have H:=HC5.out;clear HC5;by_cases c6:a1 < 1
   ·rw[if_pos c6] at H;have c6b0:decide (a1 < 1)=true:=dE c6;clear c6;(first|rw[c6b0]|(simp only[i64_w,i32_w];rw[c6b0])|skip)
    have H':=aM H;clear H;go_wp2
    repeat(go_quiet (fail);try go_wp2)
    go_meet
    case rel=>exact⟨_,(true),sD,H',⟨by first|omega|exact Nat.le_refl _⟩,by repeat(first|exact Drawn0.refl _|apply Drawn0.step)⟩
   ·rw[if_neg c6] at H;have c6b0:decide (a1 < 1)=false:=decide_eq_false c6;clear c6;(first|rw[c6b0]|(simp only[i64_w,i32_w];rw[c6b0])|skip)
    have H':=aM H;clear H;go_wp2
    repeat(go_quiet (fail);try go_wp2)
    go_meet
    case rel=>exact⟨_,(decide (a1 > 1000)),sD,H',⟨by first|omega|exact Nat.le_refl _⟩,by repeat(first|exact Drawn0.refl _|apply Drawn0.step)⟩
  case rest =>
   clear HC5;try clear c1
   try clear p2
   try clear c4
   try clear c4b0
   try clear c4b1
   try clear c6
   try clear c6b0
   obtain⟨kq,x22_4,rfl,HA,HJ4,⟨mc4,rfl⟩⟩:=hcut;cases kq with
   | zero=>exact absurd HA.out (by simp [Azw.j0])
   | succ kj4 =>
    have H:=HA.out;clear HA;simp only[Azw.j0] at H;by_cases c7:x22_4=true
    ·subst c7;rw[if_pos rfl] at H;simp only[Option.some.injEq,Prod.mk.injEq] at H;obtain⟨rfl,rfl⟩:=H;go_wp2
     repeat(go_quiet (fail);try go_wp2)
     go_ret2
     exact⟨by first|rfl|(simp;done)|(simp [*];done),by repeat(first|exact Drawn0.refl _|apply Drawn0.step)⟩
    ·replace c7:=Bool.eq_false_iff.mpr c7;subst c7;rw[if_neg (show ¬ (false=true) by decide)] at H
     have H':=aM H;clear H;go_wp2
     repeat(go_quiet (fail);try go_wp2)
     go_loopg [7,8,9] kj4 (fun kq v7 v8 v9 w'=>∃ (x7_2:Int) (x8_2:Bool) (x9_2:Int),v7=.int .i64 x7_2∧v8=.bool x8_2∧v9=.int .i64 x9_2∧Aside0 (Azw.l0 kq l0 a1 x7_2 x8_2 x9_2=some (r1,r2))∧Aside0 (kq≤kj4)∧Drawn0 w w')
     case atStart=>exact⟨(0),(false),(0),sD,sD,sD,H',⟨Nat.le_refl _⟩,by repeat(first|exact Drawn0.refl _|apply Drawn0.step)⟩
     case round =>
      clear H';try clear c1
      try clear p2
      try clear c4
      try clear c4b0
      try clear c4b1
      try clear c6
      try clear c6b0
      try clear c7
      try clear p2
      obtain⟨x7_2,x8_2,x9_2,rfl,rfl,rfl,HA,HK2,⟨m2,rfl⟩⟩:=hrel;cases gk with
      | zero=>exact absurd HA.out (by simp [Azw.l0])
      | succ k2 =>
       have H:=HA.out;clear HA;simp only[Azw.l0] at H;by_cases c8:x9_2 < (l0.length:Int)
       ·rw[if_pos c8] at H;have c8b0:decide (x9_2 < (l0.length:Int))=true:=dE c8;clear c8;have H':=aM H;clear H;go_wp2
        repeat(go_quiet (fail);try go_wp2)
        go_loopg [10,11] k2 (fun kq v10 v11 w'=>∃ (x10_3:Int) (x11_3:Int),v10=.int .i64 x10_3∧v11=.int .i64 x11_3∧Aside0 (Azw.l1 kq l0 a1 x7_2 x8_2 x9_2 x10_3 x11_3=some (r1,r2))∧Aside0 (kq≤k2)∧Drawn0 w w')
        case atStart=>exact⟨(0),(0),sD,sD,H',⟨Nat.le_refl _⟩,by repeat(first|exact Drawn0.refl _|apply Drawn0.step)⟩
        case round =>
         clear H';try clear c1
         try clear p2
         try clear c4
         try clear c4b0
         try clear c4b1
         try clear c6
         try clear c6b0
         try clear c7
         try clear c8
         try clear c8b0
         try clear p2
         obtain⟨x10_3,x11_3,rfl,rfl,HA,HK3,⟨m3,rfl⟩⟩:=hrel;cases gk with
         | zero=>exact absurd HA.out (by simp [Azw.l1])
         | succ k3 =>
          have H:=HA.out;clear HA;simp only[Azw.l1] at H;by_cases c9:x11_3 < (l0.length:Int)
          ·rw[if_pos c9] at H;have c9b0:decide (x11_3 < (l0.length:Int))=true:=dE c9;clear c9;by_cases c10:0≤x11_3
           ·rw[if_pos c10] at H;have c10b0:decide (0≤x11_3)=true:=dE c10;clear c10;by_cases c11:0≤x9_2
            ·rw[if_pos c11] at H;have c11b0:decide (0≤x9_2)=true:=dE c11;clear c11;by_cases c12:x9_2 < (l0.length:Int)
             ·rw[if_pos c12] at H;have c12b0:decide (x9_2 < (l0.length:Int))=true:=dE c12;clear c12;by_cases c13:(rd l0 x11_3)≤(rd l0 x9_2)
              ·rw[if_pos c13] at H;have c13b0:decide ((rd l0 x11_3)≤(rd l0 x9_2))=true:=dE c13;clear c13;have H':=aM H;clear H;have p721:0≤(x11_3:Int):=oE aS
               have q721:x11_3 < (l0.length:Int):=oE aS
               obtain⟨ad721,e721,hx721_0⟩:=Kd.at_int HR0.out x11_3 p721 q721;cases e721
               replace p721:=eq_true p721;replace q721:=eq_true q721;have p722:0≤(x9_2:Int):=oE aS
               have q722:x9_2 < (l0.length:Int):=oE aS
               obtain⟨ad722,e722,hx722_0⟩:=Kd.at_int HR0.out x9_2 p722 q722;obtain rfl:ad721=ad722:=(by injection e722)
               replace p722:=eq_true p722;replace q722:=eq_true q722;go_wp2
               repeat(go_quiet (fail);try go_wp2)
               go_roundg k3
               case measure=>have:=HJ4.out;have:=HK2.out;have:=HK3.out;omega
               case rel=>exact⟨(wrap64 (x10_3+1)),(wrap64 (x11_3+1)),sD,sD,H',⟨by have:=HJ4.out;have:=HK2.out;have:=HK3.out;omega⟩,by repeat(first|exact Drawn0.refl _|apply Drawn0.step)⟩
              ·rw[if_neg c13] at H;have c13b0:decide ((rd l0 x11_3)≤(rd l0 x9_2))=false:=decide_eq_false c13;clear c13;have H':=aM H;clear H;have p721:0≤(x11_3:Int):=oE aS
               have q721:x11_3 < (l0.length:Int):=oE aS
               obtain⟨ad721,e721,hx721_0⟩:=Kd.at_int HR0.out x11_3 p721 q721;cases e721
               replace p721:=eq_true p721;replace q721:=eq_true q721;have p722:0≤(x9_2:Int):=oE aS
               have q722:x9_2 < (l0.length:Int):=oE aS
               obtain⟨ad722,e722,hx722_0⟩:=Kd.at_int HR0.out x9_2 p722 q722;obtain rfl:ad721=ad722:=(by injection e722)
               replace p722:=eq_true p722;replace q722:=eq_true q722;go_wp2
               repeat(go_quiet (fail);try go_wp2)
               go_roundg k3
               case measure=>have:=HJ4.out;have:=HK2.out;have:=HK3.out;omega
               case rel=>exact⟨(x10_3),(wrap64 (x11_3+1)),sD,sD,H',⟨by have:=HJ4.out;have:=HK2.out;have:=HK3.out;omega⟩,by repeat(first|exact Drawn0.refl _|apply Drawn0.step)⟩
             ·rw[if_neg c12] at H;exact absurd H (by simp)
            ·rw[if_neg c11] at H;exact absurd H (by simp)
           ·rw[if_neg c10] at H;exact absurd H (by simp)
          ·rw[if_neg c9] at H;have c9b0:decide (x11_3 < (l0.length:Int))=false:=decide_eq_false c9;clear c9;by_cases c14:(wrap64 (1000 * x10_3))≥(wrap64 (a1 * (l0.length:Int)))
           ·rw[if_pos c14] at H;have c14b0:decide ((wrap64 (a1 * (l0.length:Int)))≤(wrap64 (1000 * x10_3)))=true:=dE c14;have c14b0w:decide ((IntKind.i64.wrap (a1 * (l0.length:Int)))≤(IntKind.i64.wrap (1000 * x10_3)))=true:=by have h_:=c14b0;first|exact h_|(simp only[i64_w];exact h_)
            clear c14;by_cases c15:x8_2=true
            ·subst c15;rw[if_pos rfl] at H;by_cases c16:0≤x9_2
             ·rw[if_pos c16] at H;have c16b0:decide (0≤x9_2)=true:=dE c16;clear c16;by_cases c17:x9_2 < (l0.length:Int)
              ·rw[if_pos c17] at H;have c17b0:decide (x9_2 < (l0.length:Int))=true:=dE c17;clear c17;by_cases c18:(rd l0 x9_2) < x7_2
               ·rw[if_pos c18] at H;have c18b0:decide ((rd l0 x9_2) < x7_2)=true:=dE c18;clear c18;have H':=aM H;clear H;have p723:0≤(x9_2:Int):=oE aS
                have q723:x9_2 < (l0.length:Int):=oE aS
                obtain⟨ad723,e723,hx723_0⟩:=Kd.at_int HR0.out x9_2 p723 q723;cases e723
                replace p723:=eq_true p723;replace q723:=eq_true q723;have p724:0≤(x9_2:Int):=oE aS
                have q724:x9_2 < (l0.length:Int):=oE aS
                obtain⟨ad724,e724,hx724_0⟩:=Kd.at_int HR0.out x9_2 p724 q724;obtain rfl:ad723=ad724:=(by injection e724)
                replace p724:=eq_true p724;replace q724:=eq_true q724;go_wp2
                repeat(go_quiet (fail);try go_wp2)
                go_roundg k3
                case measure=>have:=HJ4.out;have:=HK2.out;have:=HK3.out;omega
                case rel=>exact⟨(rd l0 x9_2),(true),(wrap64 (x9_2+1)),sD,sD,sD,H',⟨by have:=HJ4.out;have:=HK2.out;have:=HK3.out;omega⟩,by repeat(first|exact Drawn0.refl _|apply Drawn0.step)⟩
               ·rw[if_neg c18] at H;have c18b0:decide ((rd l0 x9_2) < x7_2)=false:=decide_eq_false c18;clear c18;have H':=aM H;clear H;have p723:0≤(x9_2:Int):=oE aS
                have q723:x9_2 < (l0.length:Int):=oE aS
                obtain⟨ad723,e723,hx723_0⟩:=Kd.at_int HR0.out x9_2 p723 q723;cases e723
                replace p723:=eq_true p723;replace q723:=eq_true q723;go_wp2
                repeat(go_quiet (fail);try go_wp2)
                go_roundg k3
                case measure=>have:=HJ4.out;have:=HK2.out;have:=HK3.out;omega
                case rel=>exact⟨(x7_2),(true),(wrap64 (x9_2+1)),sD,sD,sD,H',⟨by have:=HJ4.out;have:=HK2.out;have:=HK3.out;omega⟩,by repeat(first|exact Drawn0.refl _|apply Drawn0.step)⟩
              ·rw[if_neg c17] at H;exact absurd H (by simp)
             ·rw[if_neg c16] at H;exact absurd H (by simp)
            ·replace c15:=Bool.eq_false_iff.mpr c15;subst c15;rw[if_neg (show ¬ (false=true) by decide)] at H
             by_cases c19:0≤x9_2
             ·rw[if_pos c19] at H;have c19b0:decide (0≤x9_2)=true:=dE c19;clear c19;by_cases c20:x9_2 < (l0.length:Int)
              ·rw[if_pos c20] at H;have c20b0:decide (x9_2 < (l0.length:Int))=true:=dE c20;clear c20;have H':=aM H;clear H;have p725:0≤(x9_2:Int):=oE aS
               have q725:x9_2 < (l0.length:Int):=oE aS
               obtain⟨ad725,e725,hx725_0⟩:=Kd.at_int HR0.out x9_2 p725 q725;cases e725
               replace p725:=eq_true p725;replace q725:=eq_true q725;go_wp2
               repeat(go_quiet (fail);try go_wp2)
               go_roundg k3
               case measure=>have:=HJ4.out;have:=HK2.out;have:=HK3.out;omega
               case rel=>exact⟨(rd l0 x9_2),(true),(wrap64 (x9_2+1)),sD,sD,sD,H',⟨by have:=HJ4.out;have:=HK2.out;have:=HK3.out;omega⟩,by repeat(first|exact Drawn0.refl _|apply Drawn0.step)⟩
              ·rw[if_neg c20] at H;exact absurd H (by simp)
             ·rw[if_neg c19] at H;exact absurd H (by simp)
           ·rw[if_neg c14] at H;have c14b0:decide ((wrap64 (a1 * (l0.length:Int)))≤(wrap64 (1000 * x10_3)))=false:=decide_eq_false c14;have c14b0w:decide ((IntKind.i64.wrap (a1 * (l0.length:Int)))≤(IntKind.i64.wrap (1000 * x10_3)))=false:=by have h_:=c14b0;first|exact h_|(simp only[i64_w];exact h_)
            clear c14;have H':=aM H;clear H;go_wp2
            repeat(go_quiet (fail);try go_wp2)
            go_roundg k3
            case measure=>have:=HJ4.out;have:=HK2.out;have:=HK3.out;omega
            case rel=>exact⟨(x7_2),(x8_2),(wrap64 (x9_2+1)),sD,sD,sD,H',⟨by have:=HJ4.out;have:=HK2.out;have:=HK3.out;omega⟩,by repeat(first|exact Drawn0.refl _|apply Drawn0.step)⟩
       ·rw[if_neg c8] at H;have c8b0:decide (x9_2 < (l0.length:Int))=false:=decide_eq_false c8;clear c8;simp only[Option.some.injEq,Prod.mk.injEq] at H;obtain⟨rfl,rfl⟩:=H;go_wp2
        repeat(go_quiet (fail);try go_wp2)
        go_ret2
        exact⟨by first|rfl|(simp;done)|(simp [*];done),by repeat(first|exact Drawn0.refl _|apply Drawn0.step)⟩
 ·rw[if_neg c4] at H;have c4b0:(t720 == 0)=false:=beq_eq_false_iff_ne.mpr c4;have c4b1:(t720 != 0)=true:=bne_iff_ne.mpr c4;simp only[Option.some.injEq,Prod.mk.injEq] at H;obtain⟨rfl,rfl⟩:=H;go_enter Try.func12,Try.ntmps12
  have fl_:True:=trivial;repeat((first|clear fl_|go_quiet (first|(go_at_call 33;(with_reducible refine(Azj.calls k _ _ l0 t720 _ ?side1 ?side2 A3.out).mono ?_);(case side1=>exact cX HR0.out);(case side2=>exact HC0.out);rintro e w' ⟨rfl,⟨nd,rfl⟩⟩;(try first|exact⟨rfl,_,World.drewN_drewN _ _ _⟩|exact⟨rfl,_,Eq.trans (World.drewN_drewN _ _ _) (congrArg (World.drewN _) (Nat.add_assoc _ _ _))⟩))));go_wp2_with (first|(go_at_call 33;(with_reducible refine(Azj.calls k _ _ l0 t720 _ ?side1 ?side2 A3.out).mono ?_);(case side1=>exact cX HR0.out);(case side2=>exact HC0.out);rintro e w' ⟨rfl,⟨nd,rfl⟩⟩;(try first|exact⟨rfl,_,World.drewN_drewN _ _ _⟩|exact⟨rfl,_,Eq.trans (World.drewN_drewN _ _ _) (congrArg (World.drewN _) (Nat.add_assoc _ _ _))⟩))))
  go_ret2
  exact⟨by first|rfl|(simp;done)|(simp [*];done),by repeat(first|exact Drawn0.refl _|apply Drawn0.step)⟩

end Go.Proofs.Ytokkiljkgejnhaa.Print
