import Derived.Test.YtpjcpgobdiahpaaPrint0
import Derived.Test.YtpjcpgobdiahpaaPrint5
namespace Go.Proofs.Ytpjcpgobdiahpaa.Print
open Go.RowKit Go.Proofs.YtpjcpgobdiahpaaW.PrintWords Go.Proofs.YtpjcpgobdiahpaaW.PrintLast Go.Proofs.YtpjcpgobdiahpaaW.PrintMore
attribute [local go_sem] max2_int min2_int max_two min_two max_three min_three max_four min_four
set_option linter.unusedVariables false
set_option maxRecDepth 100000
set_option maxHeartbeats 8000000
set_option linter.unusedSimpArgs false

def Dzx.l0:Nat→Int→Int→List Int→Int→Int→Option (Int × Int)
 | 0,_,_,_,_,_=>none
 | k+1,x4,x5,x14,x15,x16=>if x16 < x15 then(if 0≤x16 then(if x16 < (x14.length:Int) then(Dzx.l0 k (wrap64 (x4+(wrap64 (Int.tdiv (rd x14 x16) 33554432)))) (wrap64 (x5+(Int.tmod (rd x14 x16) 33554432))) x14 x15 (wrap64 (x16+1))) else(none)) else(none)) else(if(wrap64 (x4+(wrap64 (Int.tdiv x5 33554432)))) > 33554433 then(some (0,2)) else(if(wrap64 (x4+(wrap64 (Int.tdiv x5 33554432)))) < (-33554433) then(some (0,2)) else((Ezx.f k (wrap64 ((wrap64 ((wrap64 (x4+(wrap64 (Int.tdiv x5 33554432)))) * 33554432))+(Int.tmod x5 33554432)))).bind fun bt148=>(some (bt148.1,bt148.2)))))
def Dzx.f (k:Nat) (l0:List Int):Option (Int × Int):=if(l0.length:Int) > 65536 then(some (0,8)) else((Bzb.f k l0).bind fun t146=>(if t146=true then(Dzx.l0 k 0 0 l0 (l0.length:Int) 0) else(some (0,1))))
theorem Dzx.mono_l:∀ k,(∀ y0 y1 y2 y3 y4,LeO (Dzx.l0 k y0 y1 y2 y3 y4) (Dzx.l0 (k+1) y0 y1 y2 y3 y4))
 | 0=>fun _ _ _ _ _ r h=>by simp [Dzx.l0] at h
 | k+1=>by
  have ih0:=Dzx.mono_l k
  ·intro y0 y1 y2 y3 y4;unfold Dzx.l0;with_reducible repeat' first|exact ih0 _ _ _ _ _|exact Bzb.mono _ _|exact Ezx.mono _ _|exact LeO.refl _|exact LeO.none _|refine LeO.ite ?_ ?_|refine LeO.bind ?_ (fun _=>?_)
theorem Dzx.mono:∀ a0 k,LeO (Dzx.f k a0) (Dzx.f (k+1) a0):=by
 intro a0 k;have ih0:=Dzx.mono_l k;unfold Dzx.f;with_reducible repeat' first|exact ih0 _ _ _ _ _|exact Bzb.mono _ _|exact Ezx.mono _ _|exact LeO.refl _|exact LeO.none _|refine LeO.ite ?_ ?_|refine LeO.bind ?_ (fun _=>?_)
theorem Dzx.calls (k:Nat) (A0:Option Addr) (c0:Nat) (l0:List Int) (r1:Int) (r2:Int) (w:World) (hr0:Kd.C (Kd.int .i64) w A0 l0.length l0) (hc0:l0.length≤c0) (h:Dzx.f k l0=some (r1,r2)) :
  Calls Try.prog 88 #[.slice A0 l0.length c0] w fun e w'=>e=.returned (.tuple #[.int .i64 r1,.int .i64 r2])∧Below w.heap.size w w':=by
 have HR0:=aM hr0;have HC0:=aM hc0;clear hr0 hc0;have HB:=aM (Below.refl w.heap.size w);have H:(if(l0.length:Int) > 65536 then(some (0,8)) else((Bzb.f k l0).bind fun t146=>(if t146=true then(Dzx.l0 k 0 0 l0 (l0.length:Int) 0) else(some (0,1)))))=some (r1,r2):=h
 clear h;by_cases c2:(l0.length:Int) > 65536
 ·rw[if_pos c2] at H;have c2b0:decide (65536 < (l0.length:Int))=true:=dE c2;have c2b1:decide (65536 < l0.length)=true:=dE (by omega)
  clear c2;simp only[Option.some.injEq,Prod.mk.injEq] at H;obtain⟨rfl,rfl⟩:=H;go_enter Try.func88,Try.ntmps88
  go_wp2
  go_ret2
  exact⟨eW,pB⟩
 ·rw[if_neg c2] at H;have c2b0:decide (65536 < (l0.length:Int))=false:=decide_eq_false c2;have c2b1:decide (65536 < l0.length)=false:=decide_eq_false (by omega)
  clear c2;replace H:=bS H;obtain⟨t146,A30,H⟩:=H;(try dsimp only at H);have A3:=aM A30;clear A30;by_cases c4:t146=true
  ·subst c4;rw[if_pos rfl] at H;have H':=aM H;clear H;go_enter Try.func88,Try.ntmps88
   go_wp2_with (first|((with_reducible refine gate_callee (f:=103) rfl ?_);refine goesL_ (some 12) rfl rfl Try.func103 (by kernel_rfl) rfl #[.slice A0 l0.length c0] rfl mA ?_;(with_reducible refine(Bzb.calls k _ _ l0 true _ ?side1 ?side2 A3.out).mono ?_);(case side1=>exact cX HR0.out);(case side2=>exact HC0.out);rintro e w' ⟨rfl,⟨nd,rfl⟩⟩;refine⟨_,rfl,?_⟩))
   try simp only[Act.put,sA,sZ,sC]
   go_loopg [4,5,16] k (fun kq v4 v5 v16 w'=>∃ (x4_1:Int) (x5_1:Int) (x16_1:Int),v4=.int .i64 x4_1∧v5=.int .i64 x5_1∧v16=.int .i64 x16_1∧Aside0 (Dzx.l0 kq x4_1 x5_1 l0 (l0.length:Int) x16_1=some (r1,r2))∧Aside0 (kq≤k)∧Aside0 (Below w.heap.size w w'))
   case atStart=>exact⟨(0),(0),(0),sD,sD,sD,H',⟨Nat.le_refl _⟩,⟨pB⟩⟩
   case round =>
    clear H';try clear c1
    try clear c2
    try clear c2b0
    try clear c2b1
    try clear p2
    try clear c4
    obtain⟨x4_1,x5_1,x16_1,rfl,rfl,rfl,HA,HK1,HB⟩:=hrel;cases gk with
    | zero=>exact absurd HA.out (by simp [Dzx.l0])
    | succ k1 =>
     have H:=HA.out;clear HA;simp only[Dzx.l0] at H;by_cases c5:x16_1 < (l0.length:Int)
     ·rw[if_pos c5] at H;have c5b0:decide (x16_1 < (l0.length:Int))=true:=dE c5;clear c5;by_cases c6:0≤x16_1
      ·rw[if_pos c6] at H;have c6b0:decide (0≤x16_1)=true:=dE c6;clear c6;by_cases c7:x16_1 < (l0.length:Int)
       ·rw[if_pos c7] at H;have c7b0:decide (x16_1 < (l0.length:Int))=true:=dE c7;clear c7;have H':=aM H;clear H;have p147:0≤(x16_1:Int):=oE aS
        have q147:x16_1 < (l0.length:Int):=oE aS
        obtain⟨ad147,e147,hx147_0⟩:=Kd.at_int HR0.out x16_1 p147 q147;cases e147
        replace hx147_0:=(HB.out.cell (World.block_lt_of_cell? w _ hx147_0)).trans hx147_0;replace p147:=eq_true p147;replace q147:=eq_true q147;go_wp2
        go_roundg k1
        case measure=>have:=HK1.out;omega
        case rel=>exact⟨(wrap64 (x4_1+(wrap64 (Int.tdiv (rd l0 x16_1) 33554432)))),(wrap64 (x5_1+(Int.tmod (rd l0 x16_1) 33554432))),(wrap64 (x16_1+1)),sD,sD,sD,H',⟨by have:=HK1.out;omega⟩,⟨pB⟩⟩
       ·rw[if_neg c7] at H;exact absurd H (by simp)
      ·rw[if_neg c6] at H;exact absurd H (by simp)
     ·rw[if_neg c5] at H;have c5b0:decide (x16_1 < (l0.length:Int))=false:=decide_eq_false c5;clear c5;by_cases c8:(wrap64 (x4_1+(wrap64 (Int.tdiv x5_1 33554432)))) > 33554433
      ·rw[if_pos c8] at H;have c8b0:decide (33554433 < (wrap64 (x4_1+(wrap64 (Int.tdiv x5_1 33554432)))))=true:=dE c8;have c8b0w:decide (33554433 < (IntKind.i64.wrap (x4_1+(IntKind.i64.wrap (Int.tdiv x5_1 33554432)))))=true:=by have h_:=c8b0;first|exact h_|(simp only[i64_w];exact h_)
       clear c8;simp only[Option.some.injEq,Prod.mk.injEq] at H;obtain⟨rfl,rfl⟩:=H;go_wp2
       go_ret2
       exact⟨eW,pB⟩
      ·rw[if_neg c8] at H;have c8b0:decide (33554433 < (wrap64 (x4_1+(wrap64 (Int.tdiv x5_1 33554432)))))=false:=decide_eq_false c8;have c8b0w:decide (33554433 < (IntKind.i64.wrap (x4_1+(IntKind.i64.wrap (Int.tdiv x5_1 33554432)))))=false:=by have h_:=c8b0;first|exact h_|(simp only[i64_w];exact h_)
       clear c8;by_cases c9:(wrap64 (x4_1+(wrap64 (Int.tdiv x5_1 33554432)))) < (-33554433)
       ·rw[if_pos c9] at H;have c9b0:decide ((wrap64 (x4_1+(wrap64 (Int.tdiv x5_1 33554432)))) < (-33554433))=true:=dE c9;have c9b0w:decide ((IntKind.i64.wrap (x4_1+(IntKind.i64.wrap (Int.tdiv x5_1 33554432)))) < (-33554433))=true:=by have h_:=c9b0;first|exact h_|(simp only[i64_w];exact h_)
        clear c9;simp only[Option.some.injEq,Prod.mk.injEq] at H;obtain⟨rfl,rfl⟩:=H;go_wp2
        go_ret2
        exact⟨eW,pB⟩
       ·rw[if_neg c9] at H;have c9b0:decide ((wrap64 (x4_1+(wrap64 (Int.tdiv x5_1 33554432)))) < (-33554433))=false:=decide_eq_false c9;have c9b0w:decide ((IntKind.i64.wrap (x4_1+(IntKind.i64.wrap (Int.tdiv x5_1 33554432)))) < (-33554433))=false:=by have h_:=c9b0;first|exact h_|(simp only[i64_w];exact h_)
        clear c9;replace H:=bS H;obtain⟨⟨t148,t149⟩,A100,H⟩:=H;replace H:(some (t148,t149))=some (r1,r2):=H;have A10:=aM A100;clear A100;simp only[Option.some.injEq,Prod.mk.injEq] at H;obtain⟨rfl,rfl⟩:=H;go_wp2_with (first|((with_reducible refine gate_callee (f:=104) rfl ?_);refine goesL_ (some 45) rfl rfl Try.func104 (by kernel_rfl) rfl #[.int .i64 (wrap64 ((wrap64 ((wrap64 (x4_1+(wrap64 (Int.tdiv x5_1 33554432)))) * 33554432))+(Int.tmod x5_1 33554432)))] rfl mA ?_;(with_reducible refine(Ezx.calls k1 (wrap64 ((wrap64 ((wrap64 (x4_1+(wrap64 (Int.tdiv x5_1 33554432)))) * 33554432))+(Int.tmod x5_1 33554432))) t148 t149 _ A10.out).mono ?_);rintro e w11 ⟨rfl,hb⟩;refine⟨_,rfl,?_⟩;replace HB:=aM (below_step pB hb);(try clear hb);(try clear hb2);(try clear hk);(try clear hi)))
        go_ret2
        exact⟨eW,pB⟩
  ·replace c4:=Bool.eq_false_iff.mpr c4;subst c4;rw[if_neg (show ¬ (false=true) by decide)] at H
   simp only[Option.some.injEq,Prod.mk.injEq] at H;obtain⟨rfl,rfl⟩:=H;go_enter Try.func88,Try.ntmps88
   go_wp2_with (first|((with_reducible refine gate_callee (f:=103) rfl ?_);refine goesL_ (some 12) rfl rfl Try.func103 (by kernel_rfl) rfl #[.slice A0 l0.length c0] rfl mA ?_;(with_reducible refine(Bzb.calls k _ _ l0 false _ ?side1 ?side2 A3.out).mono ?_);(case side1=>exact cX HR0.out);(case side2=>exact HC0.out);rintro e w' ⟨rfl,⟨nd,rfl⟩⟩;refine⟨_,rfl,?_⟩))
   go_ret2
   exact⟨eW,pB⟩

def Azk.l0:Nat→List Int→Int→Int→Option (Int)
 | 0,_,_,_=>none
 | k+1,x0,x7,x8=>if x8 < x7 then(if 0≤x8 then(if x8 < (x0.length:Int) then((Fzw.f (rd x0 x8)).bind fun t151=>(if t151=true then(some x8) else(Azk.l0 k x0 x7 (wrap64 (x8+1))))) else(none)) else(none)) else(some (-1))
def Azk.f (k:Nat) (l0:List Int)  : Option (Int):=Azk.l0 k l0 (l0.length:Int) 0
theorem Azk.mono_l:∀ k,(∀ y0 y1 y2,LeO (Azk.l0 k y0 y1 y2) (Azk.l0 (k+1) y0 y1 y2))
 | 0=>fun _ _ _ r h=>by simp [Azk.l0] at h
 | k+1=>by
  have ih0:=Azk.mono_l k
  ·intro y0 y1 y2;unfold Azk.l0;with_reducible repeat' first|exact ih0 _ _ _|exact LeO.refl _|exact LeO.none _|refine LeO.ite ?_ ?_|refine LeO.bind ?_ (fun _=>?_)
theorem Azk.mono:∀ a0 k,LeO (Azk.f k a0) (Azk.f (k+1) a0):=by
 intro a0 k;have ih0:=Azk.mono_l k;unfold Azk.f;with_reducible repeat' first|exact ih0 _ _ _|exact LeO.refl _|exact LeO.none _|refine LeO.ite ?_ ?_|refine LeO.bind ?_ (fun _=>?_)
theorem Azk.calls (k:Nat) (A0:Option Addr) (c0:Nat) (l0:List Int)  (r:Int) (w:World) (hr0:Kd.C (Kd.int .i64) w A0 l0.length l0) (hc0:l0.length≤c0) (h:Azk.f k l0=some r) :
  Calls Try.prog 102 #[.slice A0 l0.length c0,.func (.func 87) #[] #[]] w fun e w'=>e=.returned (.int .i64 r)∧Drawn0 w w':=by
 have HR0:=aM hr0;have HC0:=aM hc0;clear hr0 hc0;have H:(Azk.l0 k l0 (l0.length:Int) 0)=some r:=h;clear h;have H':=aM H;clear H;go_enter Try.func102,Try.ntmps102
 go_wp2
 go_loopg [8] k (fun kq v8 w'=>∃ (x8_1:Int),v8=.int .i64 x8_1∧Aside0 (Azk.l0 kq l0 (l0.length:Int) x8_1=some r)∧Aside0 (kq≤k)∧Drawn0 w w')
 case atStart=>exact⟨(0),sD,H',⟨Nat.le_refl _⟩,by repeat(first|exact Drawn0.refl _|apply Drawn0.step)⟩
 case round =>
  clear H';try clear p2
  obtain⟨x8_1,rfl,HA,HK1,⟨m1,rfl⟩⟩:=hrel;cases gk with
  | zero=>exact absurd HA.out (by simp [Azk.l0])
  | succ k1 =>
   have H:=HA.out;clear HA;simp only[Azk.l0] at H;by_cases c3:x8_1 < (l0.length:Int)
   ·rw[if_pos c3] at H;have c3b0:decide (x8_1 < (l0.length:Int))=true:=dE c3;clear c3;by_cases c4:0≤x8_1
    ·rw[if_pos c4] at H;have c4b0:decide (0≤x8_1)=true:=dE c4;clear c4;by_cases c5:x8_1 < (l0.length:Int)
     ·rw[if_pos c5] at H;have c5b0:decide (x8_1 < (l0.length:Int))=true:=dE c5;clear c5;replace H:=bS H;obtain⟨t151,A60,H⟩:=H;(try dsimp only at H);have A6:=aM A60;clear A60;by_cases c7:t151=true
      ·subst c7;rw[if_pos rfl] at H;obtain rfl:=Option.some.inj H;have p150:0≤(x8_1:Int):=oE aS
       have q150:x8_1 < (l0.length:Int):=oE aS
       obtain⟨ad150,e150,hx150_0⟩:=Kd.at_int HR0.out x8_1 p150 q150;cases e150
       replace p150:=eq_true p150;replace q150:=eq_true q150;go_wp2_with (first|(go_at_call 87;(with_reducible refine(Fzw.calls (rd l0 x8_1) true _ A6.out).mono ?_);rintro e w' ⟨rfl,⟨nd,rfl⟩⟩))
       go_ret
       exact⟨by first|rfl|(simp;done)|(simp [*];done),by repeat(first|exact Drawn0.refl _|apply Drawn0.step)⟩
      ·replace c7:=Bool.eq_false_iff.mpr c7;subst c7;rw[if_neg (show ¬ (false=true) by decide)] at H
       have H':=aM H;clear H;have p150:0≤(x8_1:Int):=oE aS
       have q150:x8_1 < (l0.length:Int):=oE aS
       obtain⟨ad150,e150,hx150_0⟩:=Kd.at_int HR0.out x8_1 p150 q150;cases e150
       replace p150:=eq_true p150;replace q150:=eq_true q150;go_wp2_with (first|(go_at_call 87;(with_reducible refine(Fzw.calls (rd l0 x8_1) false _ A6.out).mono ?_);rintro e w' ⟨rfl,⟨nd,rfl⟩⟩))
       go_roundg k1
       case measure=>have:=HK1.out;omega
       case rel=>exact⟨(wrap64 (x8_1+1)),sD,H',⟨by have:=HK1.out;omega⟩,by repeat(first|exact Drawn0.refl _|apply Drawn0.step)⟩
     ·rw[if_neg c5] at H;exact absurd H (by simp)
    ·rw[if_neg c4] at H;exact absurd H (by simp)
   ·rw[if_neg c3] at H;have c3b0:decide (x8_1 < (l0.length:Int))=false:=decide_eq_false c3;clear c3;obtain rfl:=Option.some.inj H;go_wp2
    go_ret
    exact⟨by first|rfl|(simp;done)|(simp [*];done),by repeat(first|exact Drawn0.refl _|apply Drawn0.step)⟩

def Bzz.f (k:Nat) (l0:List Int)  : Option (Bool):=(Azk.f k l0).bind fun t152=>(some (decide (t152≥0)))
theorem Bzz.mono:∀ a0 k,LeO (Bzz.f k a0) (Bzz.f (k+1) a0):=by
 intro a0 k;unfold Bzz.f;with_reducible repeat' first|exact Azk.mono _ _|exact LeO.refl _|exact LeO.none _|refine LeO.ite ?_ ?_|refine LeO.bind ?_ (fun _=>?_)
theorem Bzz.calls (k:Nat) (A0:Option Addr) (c0:Nat) (l0:List Int)  (r:Bool) (w:World) (hr0:Kd.C (Kd.int .i64) w A0 l0.length l0) (hc0:l0.length≤c0) (h:Bzz.f k l0=some r) :
  Calls Try.prog 86 #[.slice A0 l0.length c0,.func (.func 87) #[] #[]] w fun e w'=>e=.returned (.bool r)∧Drawn0 w w':=by
 have HR0:=aM hr0;have HC0:=aM hc0;clear hr0 hc0;have H:((Azk.f k l0).bind fun t152=>(some (decide (t152≥0))))=some r:=h
 clear h;replace H:=bS H;obtain⟨t152,A30,H⟩:=H;replace H:(some (decide (t152≥0)))=some r:=H;have A3:=aM A30;clear A30;obtain rfl:=Option.some.inj H;go_enter Try.func86,Try.ntmps86
 go_wp2_with (first|((with_reducible refine gate_callee (f:=102) rfl ?_);refine goesL_ (some 7) rfl rfl Try.func102 (by kernel_rfl) rfl #[.slice A0 l0.length c0,.func (.func 87) #[] #[]] rfl mA ?_;(with_reducible refine(Azk.calls k _ _ l0  t152 _ ?side1 ?side2 A3.out).mono ?_);(case side1=>exact cX HR0.out);(case side2=>exact HC0.out);rintro e w' ⟨rfl,⟨nd,rfl⟩⟩;refine⟨_,rfl,?_⟩))
 go_ret
 exact⟨by first|rfl|(simp;done)|(simp [*];done),by repeat(first|exact Drawn0.refl _|apply Drawn0.step)⟩


def Czp.j0:Nat→Int→List Int→Bool→Option (Int × Int)
 | 0,_,_,_=>none
 | k+1,x0,x1,x8=>if x8=true then(some (0,1)) else(if(x1.length:Int)=0 then(some (0,10)) else(if(x1.length:Int) > 512 then(some (0,8)) else((Bzz.f k x1).bind fun t153=>(if t153=true then(some (0,1)) else((Dzx.f k x1).bind fun bt154=>(if bt154.2=0 then(if bt154.1=0 then(if x0 > 0 then(some (0,16)) else(some (bt154.1,0))) else(some (bt154.1,0))) else(some (0,2))))))))
def Czp.f (k:Nat) (a0:Int) (l1:List Int):Option (Int × Int):=if a0 < 0 then(Czp.j0 k a0 l1 true) else(Czp.j0 k a0 l1 (decide (a0 > 1125899906842624)))
theorem Czp.mono_l:∀ k,(∀ y0 y1 y2,LeO (Czp.j0 k y0 y1 y2) (Czp.j0 (k+1) y0 y1 y2))
 | 0=>fun _ _ _ r h=>by simp [Czp.j0] at h
 | k+1=>by
  have ih0:=Czp.mono_l k
  ·intro y0 y1 y2;unfold Czp.j0;with_reducible repeat' first|exact ih0 _ _ _|exact Dzx.mono _ _|exact Bzz.mono _ _|exact LeO.refl _|exact LeO.none _|refine LeO.ite ?_ ?_|refine LeO.bind ?_ (fun _=>?_)
theorem Czp.mono:∀ a0 a1 k,LeO (Czp.f k a0 a1) (Czp.f (k+1) a0 a1):=by
 intro a0 a1 k;have ih0:=Czp.mono_l k;unfold Czp.f;with_reducible repeat' first|exact ih0 _ _ _|exact Dzx.mono _ _|exact Bzz.mono _ _|exact LeO.refl _|exact LeO.none _|refine LeO.ite ?_ ?_|refine LeO.bind ?_ (fun _=>?_)
theorem Czp.calls (k:Nat) (a0:Int) (A1:Option Addr) (c1:Nat) (l1:List Int) (r1:Int) (r2:Int) (w:World) (hr1:Kd.C (Kd.int .i64) w A1 l1.length l1) (hc1:l1.length≤c1) (h:Czp.f k a0 l1=some (r1,r2)) :
  Calls Try.prog 66 #[.int .i64 a0,.slice A1 l1.length c1] w fun e w'=>e=.returned (.tuple #[.int .i64 r1,.int .i64 r2])∧Below w.heap.size w w':=by
 have HR1:=aM hr1;have HC1:=aM hc1;clear hr1 hc1;have HB:=aM (Below.refl w.heap.size w);have H:(if a0 < 0 then(Czp.j0 k a0 l1 true) else(Czp.j0 k a0 l1 (decide (a0 > 1125899906842624))))=some (r1,r2):=h
 clear h;have HC3:=aM H;clear H;go_enter Try.func66,Try.ntmps66
 go_upto_region 1 with (fail)
 go_cut [8] (fun v8 wc=>∃ (kq:Nat) (x8_2:Bool),v8=.bool x8_2∧Aside0 (Czp.j0 kq a0 l1 x8_2=some (r1,r2))∧Aside0 (kq≤k)∧Aside0 (Below w.heap.size w wc))
 case first =>
  have H:=HC3.out;clear HC3;by_cases c4:a0 < 0
  ·rw[if_pos c4] at H;have c4b0:decide (a0 < 0)=true:=dE c4;clear c4;(first|rw[c4b0]|(simp only[i64_w,i32_w];rw[c4b0])|skip)
   have H':=aM H;clear H;go_wp2
   go_meet
   case rel=>exact⟨_,(true),sD,H',⟨by first|omega|exact Nat.le_refl _⟩,⟨pB⟩⟩
  ·rw[if_neg c4] at H;have c4b0:decide (a0 < 0)=false:=decide_eq_false c4;clear c4;(first|rw[c4b0]|(simp only[i64_w,i32_w];rw[c4b0])|skip)
   have H':=aM H;clear H;go_wp2
   go_meet
   case rel=>exact⟨_,(decide (a0 > 1125899906842624)),sD,H',⟨by first|omega|exact Nat.le_refl _⟩,⟨pB⟩⟩
 case rest =>
  clear HC3;try clear c1
  try clear p2
  try clear c4
  try clear c4b0
  obtain⟨kq,x8_2,rfl,HA,HJ2,HB⟩:=hcut;cases kq with
  | zero=>exact absurd HA.out (by simp [Czp.j0])
  | succ kj2 =>
   have H:=HA.out;clear HA;simp only[Czp.j0] at H;by_cases c5:x8_2=true
   ·subst c5;rw[if_pos rfl] at H;simp only[Option.some.injEq,Prod.mk.injEq] at H;obtain⟨rfl,rfl⟩:=H;go_wp2
    go_ret2
    exact⟨eW,pB⟩
   ·replace c5:=Bool.eq_false_iff.mpr c5;subst c5;rw[if_neg (show ¬ (false=true) by decide)] at H
    by_cases c6:(l1.length:Int)=0
    ·rw[if_pos c6] at H;have c6b0:((l1.length:Int) == 0)=true:=beq_iff_eq.mpr c6;have c6b1:((l1.length:Int) != 0)=false:=bne_eq_false_iff_eq.mpr c6;clear c6;simp only[Option.some.injEq,Prod.mk.injEq] at H;obtain⟨rfl,rfl⟩:=H;go_wp2
     go_ret2
     exact⟨eW,pB⟩
    ·rw[if_neg c6] at H;have c6b0:((l1.length:Int) == 0)=false:=beq_eq_false_iff_ne.mpr c6;have c6b1:((l1.length:Int) != 0)=true:=bne_iff_ne.mpr c6;have c6b2:¬ (l1=[]):=fun h_=>c6 (by rw[h_];rfl)
     by_cases c7:(l1.length:Int) > 512
     ·rw[if_pos c7] at H;have c7b0:decide (512 < (l1.length:Int))=true:=dE c7;have c7b1:decide (512 < l1.length)=true:=dE (by omega)
      clear c7;simp only[Option.some.injEq,Prod.mk.injEq] at H;obtain⟨rfl,rfl⟩:=H;go_wp2
      go_ret2
      exact⟨eW,pB⟩
     ·rw[if_neg c7] at H;have c7b0:decide (512 < (l1.length:Int))=false:=decide_eq_false c7;have c7b1:decide (512 < l1.length)=false:=decide_eq_false (by omega)
      clear c7;replace H:=bS H;obtain⟨t153,A80,H⟩:=H;(try dsimp only at H);have A8:=aM A80;clear A80;by_cases c9:t153=true
      ·subst c9;rw[if_pos rfl] at H;simp only[Option.some.injEq,Prod.mk.injEq] at H;obtain⟨rfl,rfl⟩:=H;go_wp2_with (first|((with_reducible refine gate_callee (f:=86) rfl ?_);refine goesL_ (some 25) rfl rfl Try.func86 (by kernel_rfl) rfl #[.slice A1 l1.length c1,.func (.func 87) #[] #[]] rfl mA ?_;(with_reducible refine(Bzz.calls kj2 _ _ l1  true _ ?side1 ?side2 A8.out).mono ?_);(case side1=>exact cX (Kd.C_below HR1.out HB.out));(case side2=>exact HC1.out);rintro e w' ⟨rfl,⟨nd,rfl⟩⟩;refine⟨_,rfl,?_⟩))
       go_ret2
       exact⟨eW,pB⟩
      ·replace c9:=Bool.eq_false_iff.mpr c9;subst c9;rw[if_neg (show ¬ (false=true) by decide)] at H
       replace H:=bS H;obtain⟨⟨t154,t155⟩,A100,H⟩:=H;(try dsimp only at H);have A10:=aM A100;clear A100;by_cases c11:t155=0
       ·rw[if_pos c11] at H;have c11b0:(t155 == 0)=true:=beq_iff_eq.mpr c11;have c11b1:(t155 != 0)=false:=bne_eq_false_iff_eq.mpr c11;clear c11;by_cases c12:t154=0
        ·rw[if_pos c12] at H;have c12b0:(t154 == 0)=true:=beq_iff_eq.mpr c12;have c12b1:(t154 != 0)=false:=bne_eq_false_iff_eq.mpr c12;clear c12;by_cases c13:a0 > 0
         ·rw[if_pos c13] at H;have c13b0:decide (0 < a0)=true:=dE c13;clear c13;simp only[Option.some.injEq,Prod.mk.injEq] at H;obtain⟨rfl,rfl⟩:=H;go_wp2_with (first|((with_reducible refine gate_callee (f:=86) rfl ?_);refine goesL_ (some 25) rfl rfl Try.func86 (by kernel_rfl) rfl #[.slice A1 l1.length c1,.func (.func 87) #[] #[]] rfl mA ?_;(with_reducible refine(Bzz.calls kj2 _ _ l1  false _ ?side1 ?side2 A8.out).mono ?_);(case side1=>exact cX (Kd.C_below HR1.out HB.out));(case side2=>exact HC1.out);rintro e w' ⟨rfl,⟨nd,rfl⟩⟩;refine⟨_,rfl,?_⟩)|((with_reducible refine gate_callee (f:=88) rfl ?_);refine goesL_ (some 28) rfl rfl Try.func88 (by kernel_rfl) rfl #[.slice A1 l1.length c1] rfl mA ?_;(with_reducible refine(Dzx.calls kj2 _ _ l1 t154 t155 _ ?side1 ?side2 A10.out).mono ?_);(case side1=>repeat(first|exact(Kd.C_below HR1.out pB)|(with_reducible refine Kd.C_alloc ?_ _)|(with_reducible refine Kd.C_drewN ?_ _)|(with_reducible refine Kd.C_drew ?_)));(case side2=>exact HC1.out);rintro e w14 ⟨rfl,hb⟩;refine⟨_,rfl,?_⟩;replace HB:=aM (below_step pB hb);(try clear hb);(try clear hb2);(try clear hk);(try clear hi)))
          go_ret2
          exact⟨eW,pB⟩
         ·rw[if_neg c13] at H;have c13b0:decide (0 < a0)=false:=decide_eq_false c13;clear c13;simp only[Option.some.injEq,Prod.mk.injEq] at H;obtain⟨rfl,rfl⟩:=H;go_wp2_with (first|((with_reducible refine gate_callee (f:=86) rfl ?_);refine goesL_ (some 25) rfl rfl Try.func86 (by kernel_rfl) rfl #[.slice A1 l1.length c1,.func (.func 87) #[] #[]] rfl mA ?_;(with_reducible refine(Bzz.calls kj2 _ _ l1  false _ ?side1 ?side2 A8.out).mono ?_);(case side1=>exact cX (Kd.C_below HR1.out HB.out));(case side2=>exact HC1.out);rintro e w' ⟨rfl,⟨nd,rfl⟩⟩;refine⟨_,rfl,?_⟩)|((with_reducible refine gate_callee (f:=88) rfl ?_);refine goesL_ (some 28) rfl rfl Try.func88 (by kernel_rfl) rfl #[.slice A1 l1.length c1] rfl mA ?_;(with_reducible refine(Dzx.calls kj2 _ _ l1 t154 t155 _ ?side1 ?side2 A10.out).mono ?_);(case side1=>repeat(first|exact(Kd.C_below HR1.out pB)|(with_reducible refine Kd.C_alloc ?_ _)|(with_reducible refine Kd.C_drewN ?_ _)|(with_reducible refine Kd.C_drew ?_)));(case side2=>exact HC1.out);rintro e w15 ⟨rfl,hb⟩;refine⟨_,rfl,?_⟩;replace HB:=aM (below_step pB hb);(try clear hb);(try clear hb2);(try clear hk);(try clear hi)))
          go_ret2
          exact⟨eW,pB⟩
        ·rw[if_neg c12] at H;have c12b0:(t154 == 0)=false:=beq_eq_false_iff_ne.mpr c12;have c12b1:(t154 != 0)=true:=bne_iff_ne.mpr c12;simp only[Option.some.injEq,Prod.mk.injEq] at H;obtain⟨rfl,rfl⟩:=H;go_wp2_with (first|((with_reducible refine gate_callee (f:=86) rfl ?_);refine goesL_ (some 25) rfl rfl Try.func86 (by kernel_rfl) rfl #[.slice A1 l1.length c1,.func (.func 87) #[] #[]] rfl mA ?_;(with_reducible refine(Bzz.calls kj2 _ _ l1  false _ ?side1 ?side2 A8.out).mono ?_);(case side1=>exact cX (Kd.C_below HR1.out HB.out));(case side2=>exact HC1.out);rintro e w' ⟨rfl,⟨nd,rfl⟩⟩;refine⟨_,rfl,?_⟩)|((with_reducible refine gate_callee (f:=88) rfl ?_);refine goesL_ (some 28) rfl rfl Try.func88 (by kernel_rfl) rfl #[.slice A1 l1.length c1] rfl mA ?_;(with_reducible refine(Dzx.calls kj2 _ _ l1 t154 t155 _ ?side1 ?side2 A10.out).mono ?_);(case side1=>repeat(first|exact(Kd.C_below HR1.out pB)|(with_reducible refine Kd.C_alloc ?_ _)|(with_reducible refine Kd.C_drewN ?_ _)|(with_reducible refine Kd.C_drew ?_)));(case side2=>exact HC1.out);rintro e w16 ⟨rfl,hb⟩;refine⟨_,rfl,?_⟩;replace HB:=aM (below_step pB hb);(try clear hb);(try clear hb2);(try clear hk);(try clear hi)))
         go_ret2
         exact⟨eW,pB⟩
       ·rw[if_neg c11] at H;have c11b0:(t155 == 0)=false:=beq_eq_false_iff_ne.mpr c11;have c11b1:(t155 != 0)=true:=bne_iff_ne.mpr c11;simp only[Option.some.injEq,Prod.mk.injEq] at H;obtain⟨rfl,rfl⟩:=H;go_wp2_with (first|((with_reducible refine gate_callee (f:=86) rfl ?_);refine goesL_ (some 25) rfl rfl Try.func86 (by kernel_rfl) rfl #[.slice A1 l1.length c1,.func (.func 87) #[] #[]] rfl mA ?_;(with_reducible refine(Bzz.calls kj2 _ _ l1  false _ ?side1 ?side2 A8.out).mono ?_);(case side1=>exact cX (Kd.C_below HR1.out HB.out));(case side2=>exact HC1.out);rintro e w' ⟨rfl,⟨nd,rfl⟩⟩;refine⟨_,rfl,?_⟩)|((with_reducible refine gate_callee (f:=88) rfl ?_);refine goesL_ (some 28) rfl rfl Try.func88 (by kernel_rfl) rfl #[.slice A1 l1.length c1] rfl mA ?_;(with_reducible refine(Dzx.calls kj2 _ _ l1 t154 t155 _ ?side1 ?side2 A10.out).mono ?_);(case side1=>repeat(first|exact(Kd.C_below HR1.out pB)|(with_reducible refine Kd.C_alloc ?_ _)|(with_reducible refine Kd.C_drewN ?_ _)|(with_reducible refine Kd.C_drew ?_)));(case side2=>exact HC1.out);rintro e w17 ⟨rfl,hb⟩;refine⟨_,rfl,?_⟩;replace HB:=aM (below_step pB hb);(try clear hb);(try clear hb2);(try clear hk);(try clear hi)))
        go_ret2
        exact⟨eW,pB⟩

def Azb.f (a0:Int) (a1:Int):Option (Int × Int):=if 0≤a0∧a0≤1125899906842624∧0≤a1∧a1≤1125899906842624 then some (a0 * a1 / 18446744073709551616,a0 * a1 % 18446744073709551616) else none
theorem Azb.w64 (n:Int) (h:0≤n) (h':n < 2 ^ 64):IntKind.u64.wrap n=n:=by
 have:IntKind.u64.wrap n=n % 18446744073709551616:=by simp [IntKind.wrap,IntKind.bits,IntKind.signed]
 rw[this];omega
theorem Azb.and32 (x:Int) (h0:0≤x) (h1:x < 18446744073709551616):Go.bits .and .u64 x 4294967295=x % 4294967296 :=
 bits_mask .u64 64 (by decide) Azb.w64 32 (by decide) x h0 h1
theorem Azb.or32 (x y:Int) (hx:0≤x) (hx1:x < 18446744073709551616) (hm:x % 4294967296=0) (hy:0≤y) (hy1:y < 4294967296):Go.bits .or .u64 x y=x+y :=
 bits_join .u64 64 (by decide) Azb.w64 32 x y hx hm hx1 hy hy1 (by omega)
theorem Azb.mul_le {a b A B:Int} (ha0:0≤a) (ha:a≤A) (hb0:0≤b) (hb:b≤B):0≤a * b∧a * b≤A * B :=
 ⟨Int.mul_nonneg ha0 hb0,Int.mul_le_mul ha hb hb0 (by omega)⟩
theorem Azb.parts (x00 x10 x01 x11:Int) (p00:0≤x00∧x00≤18446744065119617025) (p10:0≤x10∧x10≤1125899906580480) (p01:0≤x01∧x01≤1125899906580480) (p11:0≤x11∧x11≤68719476736) (low mid more:Int)
  (elow:low=IntKind.u64.wrap x00) (emid:mid=IntKind.u64.wrap (IntKind.u64.wrap x10+low / 4294967296)) (emore:more=IntKind.u64.wrap (IntKind.u64.wrap x01+Go.bits .and .u64 mid 4294967295)) :
  IntKind.u64.wrap (IntKind.u64.wrap (IntKind.u64.wrap x11+mid / 4294967296)+more / 4294967296)=(x11 * 18446744073709551616+(x10+x01) * 4294967296+x00) / 18446744073709551616 ∧
  Go.bits .or .u64 (IntKind.u64.wrap (more * 4294967296)) (Go.bits .and .u64 low 4294967295)=(x11 * 18446744073709551616+(x10+x01) * 4294967296+x00) % 18446744073709551616:=by
 rw[Azb.w64 x00 p00.1 (by omega)] at elow
 subst elow;rw[Azb.w64 x10 p10.1 (by omega),Azb.w64 _ (by omega) (by omega)] at emid
 subst emid;rw[Azb.and32 _ (by omega) (by omega),Azb.w64 x01 p01.1 (by omega),Azb.w64 _ (by omega) (by omega)] at emore
 subst emore;refine⟨?_,?_⟩
 ·rw[Azb.w64 x11 p11.1 (by omega),Azb.w64 (x11+_) (by omega) (by omega),Azb.w64 _ (by omega) (by omega)]
  omega
 ·rw[Azb.and32 low (by omega) (by omega)]
  have ew:∀ z:Int,IntKind.u64.wrap z=z % 18446744073709551616:=fun z=>by simp [IntKind.wrap,IntKind.bits,IntKind.signed]
  rw[ew,Azb.or32 _ _ (by omega) (by omega) (by omega) (by omega) (by omega)]
  omega
theorem Azb.arith (a b:Int) (ha0:0≤a) (ha:a≤1125899906842624) (hb0:0≤b) (hb:b≤1125899906842624) (a0 a1 b0 b1 low mid more:Int)
  (ea0:a0=Go.bits .and .u64 a 4294967295) (ea1:a1=a / 4294967296) (eb0:b0=Go.bits .and .u64 b 4294967295) (eb1:b1=b / 4294967296)
  (elow:low=IntKind.u64.wrap (a0 * b0)) (emid:mid=IntKind.u64.wrap (IntKind.u64.wrap (a1 * b0)+low / 4294967296)) (emore:more=IntKind.u64.wrap (IntKind.u64.wrap (a0 * b1)+Go.bits .and .u64 mid 4294967295)) :
  IntKind.u64.wrap (IntKind.u64.wrap (IntKind.u64.wrap (a1 * b1)+mid / 4294967296)+more / 4294967296)=a * b / 18446744073709551616 ∧
  Go.bits .or .u64 (IntKind.u64.wrap (more * 4294967296)) (Go.bits .and .u64 low 4294967295)=a * b % 18446744073709551616:=by
 rw[Azb.and32 a ha0 (by omega)] at ea0
 rw[Azb.and32 b hb0 (by omega)] at eb0
 have ka:a=a1 * 4294967296+a0:=by omega
 have kb:b=b1 * 4294967296+b0:=by omega
 have ra0:0≤a0∧a0≤4294967295:=by omega
 have rb0:0≤b0∧b0≤4294967295:=by omega
 have ra1:0≤a1∧a1≤262144:=by omega
 have rb1:0≤b1∧b1≤262144:=by omega
 have kab:a * b=a1 * b1 * 18446744073709551616+(a1 * b0+a0 * b1) * 4294967296+a0 * b0:=by rw[ka,kb];grind
 have p00:=Azb.mul_le ra0.1 ra0.2 rb0.1 rb0.2;have p10:=Azb.mul_le ra1.1 ra1.2 rb0.1 rb0.2;have p01:=Azb.mul_le ra0.1 ra0.2 rb1.1 rb1.2;have p11:=Azb.mul_le ra1.1 ra1.2 rb1.1 rb1.2;rw[kab];exact Azb.parts _ _ _ _ ⟨p00.1,by omega⟩ ⟨p10.1,by omega⟩ ⟨p01.1,by omega⟩ ⟨p11.1,by omega⟩ low mid more elow emid emore
theorem Azb.calls (a0:Int) (a1:Int) (r1:Int) (r2:Int) (w:World) (h:Azb.f a0 a1=some (r1,r2)) :
  Calls Try.prog 105 #[.int .u64 a0,.int .u64 a1] w fun e w'=>e=.returned (.agg #[.int .u64 r1,.int .u64 r2])∧Below w.heap.size w w':=by
 unfold Azb.f at h;split at h
 ·rename_i hb
  obtain⟨ha0,ha,hb0,hb⟩:=hb;obtain⟨z1,z2⟩:=Azb.arith a0 a1 ha0 ha hb0 hb _ _ _ _ _ _ _ rfl rfl rfl rfl rfl rfl rfl;simp only[Option.some.injEq,Prod.mk.injEq] at h;obtain⟨h1,h2⟩:=h;have Z1:=aM (z1.trans h1);have Z2:=aM (z2.trans h2);clear z1 z2 h1 h2;go_enter Try.func105,Try.ntmps105
  go_wp2
  refine bodyPost_ret (v:=.agg #[.int .u64 r1,.int .u64 r2]) ?_ rfl ⟨rfl,?_⟩
  ·rw[← Z1.out,← Z2.out];simp [results,Try.results105,go_sem]
  ·exact(Below.refl _ _).alloc (Nat.le_refl _) _
 ·simp at h

def Fzx.f (a0:Int):Option (Int):=if a0 < 0 then(some (IntKind.u64.wrap (wrap64 (-a0)))) else(some (IntKind.u64.wrap (a0)))
theorem Fzx.calls (a0:Int) (r:Int) (w:World) (h:Fzx.f a0=some r) :
  Calls Try.prog 106 #[.int .i64 a0] w fun e w'=>e=.returned (.int .u64 r)∧Drawn0 w w':=by
 have H:(if a0 < 0 then(some (IntKind.u64.wrap (wrap64 (-a0)))) else(some (IntKind.u64.wrap (a0))))=some r:=h
 clear h;by_cases c2:a0 < 0
 ·rw[if_pos c2] at H;have c2b0:decide (a0 < 0)=true:=dE c2;clear c2;obtain rfl:=Option.some.inj H;go_enter Try.func106,Try.ntmps106
  go_wp2
  go_ret
  exact⟨by first|rfl|(simp;done)|(simp [*];done),by repeat(first|exact Drawn0.refl _|apply Drawn0.step)⟩
 ·rw[if_neg c2] at H;have c2b0:decide (a0 < 0)=false:=decide_eq_false c2;clear c2;obtain rfl:=Option.some.inj H;go_enter Try.func106,Try.ntmps106
  go_wp2
  go_ret
  exact⟨by first|rfl|(simp;done)|(simp [*];done),by repeat(first|exact Drawn0.refl _|apply Drawn0.step)⟩


def Azw.f (a0_0:Int) (a0_1:Int) (a1:Int):Option (Int × Int × Bool) :=
 if 0≤a0_0∧a0_0 < 18446744073709551616∧0≤a0_1∧a0_1 < 18446744073709551616∧1≤a1∧a1≤1125899906842624 then
  (if(a0_0 * 18446744073709551616+a0_1) / a1 < 4611686018427387904 then some ((a0_0 * 18446744073709551616+a0_1) / a1,(a0_0 * 18446744073709551616+a0_1) % a1,true) else some (0,0,false))
 else none
/-- What the first k bits tell. -/
def Azw.T (p:Int) (k:Nat):Int:=p / 2 ^ (128 - k)
theorem Azw.p2 (n:Nat):(0:Int) < 2 ^ n:=Int.pow_pos (by decide)
theorem Azw.T_zero {p:Int} (h0:0≤p) (h:p < 340282366920938463463374607431768211456):Azw.T p 0=0:=Int.ediv_eq_zero_of_lt h0 h
theorem Azw.T_last (p:Int):Azw.T p 128=p:=by simp [Azw.T]
theorem Azw.T_nonneg {p:Int} (h0:0≤p) (k:Nat):0≤Azw.T p k:=Int.ediv_nonneg h0 (Int.le_of_lt (Azw.p2 _))
theorem Azw.T_succ (p:Int) (k:Nat) (hk:k < 128):Azw.T p (k+1)=2 * Azw.T p k+(p / 2 ^ (127 - k)) % 2:=by
 unfold Azw.T;have e1:128 - (k+1)=127 - k:=by omega
 have e2:128 - k=(127 - k)+1:=by omega
 rw[e1,e2,Int.pow_succ,← Int.ediv_ediv_of_nonneg (Int.le_of_lt (Azw.p2 _))];generalize p / 2 ^ (127 - k)=x;omega
theorem Azw.T_le {p:Int} (h0:0≤p) (k:Nat) (hk:k < 128):2 * Azw.T p k≤p:=by
 unfold Azw.T;have e2:128 - k=(127 - k)+1:=by omega
 rw[e2,Int.pow_succ,Int.mul_comm _ 2,← Int.ediv_ediv_of_nonneg (by omega)]
 have:=Int.ediv_le_self (a:=p / 2) (2 ^ (127 - k)) (by omega)
 generalize p / 2 / 2 ^ (127 - k)=y at *;omega
theorem Azw.bit_hi (a b:Int) (hb:0≤b) (hb1:b < 18446744073709551616) (k:Nat) (hk:k < 64):(a * 18446744073709551616+b) / 2 ^ (127 - k)=a / 2 ^ (63 - k):=by
 have e:127 - k=64+(63 - k):=by omega
 rw[e,Int.pow_add,← Int.ediv_ediv_of_nonneg (Int.le_of_lt (Azw.p2 _))];congr 1
 show _ / (18446744073709551616:Int)=a
 omega
theorem Azw.bit_lo (a b:Int) (k:Nat) (hk:64≤k) (hk1:k < 128):(a * 18446744073709551616+b) / 2 ^ (127 - k) % 2=b / 2 ^ (127 - k) % 2:=by
 obtain⟨j,hj⟩:∃ j,64=(127 - k)+(j+1):=⟨k - 64,by omega⟩
 have e:(18446744073709551616:Int)=2 ^ (127 - k) * 2 ^ j * 2:=by
  rw[Int.mul_assoc,← Int.pow_succ,← Int.pow_add,← hj];rfl
 have e3:a * 18446744073709551616+b=b+2 ^ (127 - k) * (2 * (a * 2 ^ j)):=by rw[e];grind
 rw[e3,Int.add_mul_ediv_left _ _ (Int.ne_of_gt (Azw.p2 _))];omega
theorem Azw.step {t c q r bit:Int} (hq:q=t / c) (hr:r=t % c):(2 * t+bit)=c * (2 * q)+(2 * r+bit):=by
 have:=Int.mul_ediv_add_emod t c;subst hq hr;grind
theorem Azw.divmod {t c q r:Int} (hc:0 < c) (h:t=c * q+r) (h0:0≤r) (h1:r < c):q=t / c∧r=t % c:=by
 subst h;constructor
 ·rw[Int.add_comm,Int.add_mul_ediv_left _ _ (by omega),Int.ediv_eq_zero_of_lt h0 h1];omega
 ·rw[Int.add_comm,Int.add_mul_emod_self_left,Int.emod_eq_of_lt h0 h1]
theorem Azw.and1 (x:Int) (h0:0≤x) (h1:x < 18446744073709551616):Go.bits .and .u64 x 1=x % 2 :=
 bits_mask .u64 64 (by decide) Azb.w64 1 (by decide) x h0 h1
theorem Azw.or1 (x y:Int) (hx:0≤x) (hx1:x < 18446744073709551616) (hm:x % 2=0) (hy:0≤y) (hy1:y < 2):Go.bits .or .u64 x y=x+y :=
 bits_join .u64 64 (by decide) Azb.w64 1 x y hx (by simpa using hm) hx1 hy (by simpa using hy1) (by omega)
/-- One round: from what k bits tell to what k+1 tell. -/
theorem Azw.round {p c q r:Int} {k:Nat} (hc:1≤c) (hk:k < 128) (h:q=Azw.T p k / c∧r=Azw.T p k % c) (b:Int) (hb:b=(p / 2 ^ (127 - k)) % 2) :
  (r * 2+b < c→q * 2=Azw.T p (k+1) / c∧r * 2+b=Azw.T p (k+1) % c) ∧
  (c≤r * 2+b→q * 2+1=Azw.T p (k+1) / c∧r * 2+b - c=Azw.T p (k+1) % c):=by
 have hs:=Azw.step (bit:=b) h.1 h.2;have hr0:0≤r:=by rw[h.2];exact Int.emod_nonneg _ (by omega)
 have hr1:r < c:=by rw[h.2];exact Int.emod_lt_of_pos _ (by omega)
 have hb2:0≤b∧b < 2:=by omega
 rw[Azw.T_succ p k hk,← hb];constructor
 ·intro hl;exact Azw.divmod (by omega) (by rw[hs];grind) (by omega) hl
 ·intro hl;exact Azw.divmod (by omega) (by rw[hs];grind) (by omega) (by omega)
theorem Azw.calls0 (a b c:Int) (w:World) (ha:0≤a) (ha1:a < 18446744073709551616) (hb:0≤b) (hb1:b < 18446744073709551616) (hc:1≤c) (hc1:c≤1125899906842624) (r1 r2:Int) (r3:Bool)
  (HR:Aside0 ((if(a * 18446744073709551616+b) / c < 4611686018427387904 then((a * 18446744073709551616+b) / c,(a * 18446744073709551616+b) % c,true) else(0,0,false))=(r1,r2,r3))) :
  Calls Try.prog 107 #[.agg #[.int .u64 a,.int .u64 b],.int .u64 c] w fun e w'=>e=.returned (.tuple #[.int .u64 r1,.int .u64 r2,.bool r3])∧Below w.heap.size w w':=by
 obtain⟨p,hp⟩:∃ p,p=a * 18446744073709551616+b:=⟨_,rfl⟩;have hp0:0≤p:=by omega
 have hp1:Aside0 (p < 340282366920938463463374607431768211456):=⟨by omega⟩
 have HP:=aM hp;rw[← hp] at HR;clear hp;go_enter Try.func107,Try.ntmps107
 go_wp2
 go_loop [7,8,12] (fun q r i=>∃ (k:Nat) (qv rv:Int),k≤128∧i=.int .i64 k∧q=.int .u64 qv∧r=.int .u64 rv∧Aside0 (qv=Azw.T p k / c∧rv=Azw.T p k % c)∧Aside0 (0 < k→qv < 4611686018427387904)) (fun _ _ i=>128 - (intOf i).toNat)
 case atStart=>exact⟨0,0,0,by omega,rfl,rfl,rfl,⟨by rw[Azw.T_zero hp0 hp1.out];simp⟩,⟨fun h=>absurd h (by omega)⟩⟩
 case round =>
  obtain⟨k,qv,rv,hk,rfl,rfl,rfl,H,HQ⟩:=hrel;have hq0:0≤qv:=by rw[H.out.1];exact Int.ediv_nonneg (Azw.T_nonneg hp0 k) (by omega)
  have hr0:0≤rv:=by rw[H.out.2];exact Int.emod_nonneg _ (by omega)
  have hr1:rv < c:=by rw[H.out.2];exact Int.emod_lt_of_pos _ (by omega)
  by_cases hlt:k < 128
  ·by_cases hq:qv < 2305843009213693952
   ·have hqd:Aside0 ((qv / 2305843009213693952 != 0)=false):=⟨by simp;omega⟩
    by_cases h64:k < 64
    ·have e64:k / 64=0:=by omega
     obtain⟨bv,hbv⟩:∃ bv,bv=(a / 2 ^ (63 - k % 64)) % 2:=⟨_,rfl⟩;have hb2:0≤bv∧bv < 2:=by omega
     have hb3:=hb2.1;have hb4:=hb2.2;have hrd:=Azw.round hc hlt H.out bv (by
      rw[hbv,HP.out,Azw.bit_hi a b hb hb1 k h64];have e:(63 - k % 64)=63 - k:=by omega
      rw[e])
     have HRD:=aM hrd;have hand:Go.bits .and .u64 (a / 2 ^ (63 - k % 64)) 1=bv:=by
      rw[hbv];exact Azw.and1 _ (Int.ediv_nonneg (by omega) (Int.le_of_lt (Azw.p2 _))) (Int.lt_of_le_of_lt (Int.ediv_le_self _ (by omega)) (by omega))
     have hor:Go.bits .or .u64 (rv * 2) bv=rv * 2+bv:=Azw.or1 _ _ (by omega) (by omega) (by omega) hb2.1 hb2.2
     have hor2:Go.bits .or .u64 (qv * 2) 1=qv * 2+1:=Azw.or1 _ _ (by omega) (by omega) (by omega) (by omega) (by omega)
     clear hrd hbv hb2;by_cases ht:c≤rv * 2+bv
     ·go_wp2
      go_round
      case rel=>exact⟨k+1,qv * 2+1,rv * 2+bv - c,by omega,by go_num,rfl,rfl,⟨HRD.out.2 ht⟩,⟨fun _=>by omega⟩⟩
      case measure=>simp [intOf];omega
     ·go_wp2
      go_round
      case rel=>exact⟨k+1,qv * 2,rv * 2+bv,by omega,by go_num,rfl,rfl,⟨HRD.out.1 (by omega)⟩,⟨fun _=>by omega⟩⟩
      case measure=>simp [intOf];omega
    ·have e64:k / 64=1:=by omega
     obtain⟨bv,hbv⟩:∃ bv,bv=(b / 2 ^ (63 - k % 64)) % 2:=⟨_,rfl⟩;have hb2:0≤bv∧bv < 2:=by omega
     have hb3:=hb2.1;have hb4:=hb2.2;have hrd:=Azw.round hc hlt H.out bv (by
      rw[hbv,HP.out,Azw.bit_lo a b k (by omega) hlt]
      have e:(63 - k % 64)=127 - k:=by omega
      rw[e])
     have HRD:=aM hrd;have hand:Go.bits .and .u64 (b / 2 ^ (63 - k % 64)) 1=bv:=by
      rw[hbv];exact Azw.and1 _ (Int.ediv_nonneg (by omega) (Int.le_of_lt (Azw.p2 _))) (Int.lt_of_le_of_lt (Int.ediv_le_self _ (by omega)) (by omega))
     have hor:Go.bits .or .u64 (rv * 2) bv=rv * 2+bv:=Azw.or1 _ _ (by omega) (by omega) (by omega) hb2.1 hb2.2
     have hor2:Go.bits .or .u64 (qv * 2) 1=qv * 2+1:=Azw.or1 _ _ (by omega) (by omega) (by omega) (by omega) (by omega)
     clear hrd hbv hb2;by_cases ht:c≤rv * 2+bv
     ·go_wp2
      go_round
      case rel=>exact⟨k+1,qv * 2+1,rv * 2+bv - c,by omega,by go_num,rfl,rfl,⟨HRD.out.2 ht⟩,⟨fun _=>by omega⟩⟩
      case measure=>simp [intOf];omega
     ·go_wp2
      go_round
      case rel=>exact⟨k+1,qv * 2,rv * 2+bv,by omega,by go_num,rfl,rfl,⟨HRD.out.1 (by omega)⟩,⟨fun _=>by omega⟩⟩
      case measure=>simp [intOf];omega
   ·have hqt:(qv / 2305843009213693952 != 0)=true:=by
     rw[bne_iff_ne];omega
    have HQT:=aM hqt;have hbig:¬ (p / c < 4611686018427387904):=by
     intro hcon;have h1:=Azw.T_le hp0 k hlt;have h2:2 * qv≤p / c:=by
      rw[H.out.1];have h3:c * (Azw.T p k / c)≤Azw.T p k:=Int.mul_ediv_self_le (by omega)
      exact Int.le_ediv_of_mul_le (by omega) (by
       have:2 * (Azw.T p k / c) * c=2 * (c * (Azw.T p k / c)):=by grind
       omega)
     omega
    have HR2:=HR.out;rw[if_neg hbig] at HR2;simp only[Prod.mk.injEq] at HR2;obtain⟨rfl,rfl,rfl⟩:=HR2;clear HR hbig;have hqn:¬ (qv < 2305843009213693952):=hq;by_cases h64:k < 64
    ·have e64:k / 64=0:=by omega
     go_wp2
     go_ret3
     exact⟨rfl,by exact(Below.refl _ _).alloc (Nat.le_refl _) _⟩
    ·have e64:k / 64=1:=by omega
     go_wp2
     go_ret3
     exact⟨rfl,by exact(Below.refl _ _).alloc (Nat.le_refl _) _⟩
  ·obtain rfl:k=128:=by omega
   have HR2:=HR.out;have e1:=H.out;rw[Azw.T_last] at e1;have hsm:p / c < 4611686018427387904:=by rw[← e1.1];exact HQ.out (by omega)
   rw[if_pos hsm] at HR2;simp only[Prod.mk.injEq] at HR2;obtain⟨h1,h2,rfl⟩:=HR2;obtain rfl:r1=qv:=by rw[e1.1];exact h1.symm
   obtain rfl:r2=rv:=by rw[e1.2];exact h2.symm
   clear h1 h2 e1 hsm HR;go_wp2
   go_ret3
   exact⟨rfl,by exact(Below.refl _ _).alloc (Nat.le_refl _) _⟩
theorem Azw.calls (a0_0:Int) (a0_1:Int) (a1:Int) (r1:Int) (r2:Int) (r3:Bool) (w:World) (h:Azw.f a0_0 a0_1 a1=some (r1,r2,r3)) :
  Calls Try.prog 107 #[.agg #[.int .u64 a0_0,.int .u64 a0_1],.int .u64 a1] w fun e w'=>e=.returned (.tuple #[.int .u64 r1,.int .u64 r2,.bool r3])∧Below w.heap.size w w':=by
 unfold Azw.f at h;split at h
 ·rename_i hb
  obtain⟨h1,h2,h3,h4,h5,h6⟩:=hb;refine Azw.calls0 a0_0 a0_1 a1 w h1 h2 h3 h4 h5 h6 r1 r2 r3 ⟨?_⟩;split at h
  ·rename_i hs
   rw[if_pos hs];exact Option.some.inj h
  ·rename_i hs
   rw[if_neg hs];exact Option.some.inj h
 ·simp at h

end Go.Proofs.Ytpjcpgobdiahpaa.Print
