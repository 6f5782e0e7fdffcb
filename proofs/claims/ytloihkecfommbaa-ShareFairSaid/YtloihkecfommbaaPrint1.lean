import Derived.Test.YtloihkecfommbaaPrint0
namespace Go.Proofs.Ytloihkecfommbaa.Print
open Go.RowKit Go.Proofs.YtloihkecfommbaaW.PrintWords Go.Proofs.YtloihkecfommbaaW.PrintLast Go.Proofs.YtloihkecfommbaaW.PrintMore
attribute [local go_sem] max2_int min2_int max_two min_two max_three min_three max_four min_four
set_option linter.unusedVariables false
set_option maxRecDepth 100000
set_option maxHeartbeats 8000000
set_option linter.unusedSimpArgs false



def Czz.l0:Nat→List Int→Int→Int→Option (Bool)
 | 0,_,_,_=>none
 | k+1,x5,x6,x7=>if x7 < x6 then(if 0≤x7 then(if x7 < (x5.length:Int) then(if(rd x5 x7) < (-1125899906842624) then(some false) else(if(rd x5 x7) > 1125899906842624 then(some false) else(Czz.l0 k x5 x6 (wrap64 (x7+1))))) else(none)) else(none)) else(some true)
def Czz.f (k:Nat) (l0:List Int):Option (Bool):=Czz.l0 k l0 (l0.length:Int) 0
theorem Czz.mono_l:∀ k,(∀ y0 y1 y2,LeO (Czz.l0 k y0 y1 y2) (Czz.l0 (k+1) y0 y1 y2))
 | 0=>fun _ _ _ r h=>by simp [Czz.l0] at h
 | k+1=>by
  have ih0:=Czz.mono_l k
  ·intro y0 y1 y2;unfold Czz.l0;with_reducible repeat' first|exact ih0 _ _ _|exact LeO.refl _|exact LeO.none _|refine LeO.ite ?_ ?_|refine LeO.bind ?_ (fun _=>?_)
theorem Czz.mono:∀ a0 k,LeO (Czz.f k a0) (Czz.f (k+1) a0):=by
 intro a0 k;have ih0:=Czz.mono_l k;unfold Czz.f;with_reducible repeat' first|exact ih0 _ _ _|exact LeO.refl _|exact LeO.none _|refine LeO.ite ?_ ?_|refine LeO.bind ?_ (fun _=>?_)
theorem Czz.calls (k:Nat) (A0:Option Addr) (c0:Nat) (l0:List Int) (r:Bool) (w:World) (hr0:Kd.C (Kd.int .i64) w A0 l0.length l0) (hc0:l0.length≤c0) (h:Czz.f k l0=some r) :
  Calls Try.prog 42 #[.slice A0 l0.length c0] w fun e w'=>e=.returned (.bool r)∧Drawn0 w w':=by
 have HR0:=aM hr0;have HC0:=aM hc0;clear hr0 hc0;have H:(Czz.l0 k l0 (l0.length:Int) 0)=some r:=h;clear h;have H':=aM H;clear H;go_enter Try.func42,Try.ntmps42
 go_wp2
 go_loopg [7] k (fun kq v7 w'=>∃ (x7_1:Int),v7=.int .i64 x7_1∧Aside0 (Czz.l0 kq l0 (l0.length:Int) x7_1=some r)∧Aside0 (kq≤k)∧Drawn0 w w')
 case atStart=>exact⟨(0),sD,H',⟨Nat.le_refl _⟩,by repeat(first|exact Drawn0.refl _|apply Drawn0.step)⟩
 case round =>
  clear H';obtain⟨x7_1,rfl,HA,HK1,⟨m1,rfl⟩⟩:=hrel;cases gk with
  | zero=>exact absurd HA.out (by simp [Czz.l0])
  | succ k1 =>
   have H:=HA.out;clear HA;simp only[Czz.l0] at H;by_cases c2:x7_1 < (l0.length:Int)
   ·rw[if_pos c2] at H;have c2b0:decide (x7_1 < (l0.length:Int))=true:=dE c2;clear c2;by_cases c3:0≤x7_1
    ·rw[if_pos c3] at H;have c3b0:decide (0≤x7_1)=true:=dE c3;clear c3;by_cases c4:x7_1 < (l0.length:Int)
     ·rw[if_pos c4] at H;have c4b0:decide (x7_1 < (l0.length:Int))=true:=dE c4;clear c4;by_cases c5:(rd l0 x7_1) < (-1125899906842624)
      ·rw[if_pos c5] at H;have c5b0:decide ((rd l0 x7_1) < (-1125899906842624))=true:=dE c5;clear c5;obtain rfl:=Option.some.inj H;have p101:0≤(x7_1:Int):=oE aS
       have q101:x7_1 < (l0.length:Int):=oE aS
       obtain⟨ad101,e101,hx101_0⟩:=Kd.at_int HR0.out x7_1 p101 q101;cases e101
       replace p101:=eq_true p101;replace q101:=eq_true q101;go_wp2
       go_ret
       exact⟨by first|rfl|(simp;done)|(simp [*];done),by repeat(first|exact Drawn0.refl _|apply Drawn0.step)⟩
      ·rw[if_neg c5] at H;have c5b0:decide ((rd l0 x7_1) < (-1125899906842624))=false:=decide_eq_false c5;clear c5;by_cases c6:(rd l0 x7_1) > 1125899906842624
       ·rw[if_pos c6] at H;have c6b0:decide (1125899906842624 < (rd l0 x7_1))=true:=dE c6;clear c6;obtain rfl:=Option.some.inj H;have p101:0≤(x7_1:Int):=oE aS
        have q101:x7_1 < (l0.length:Int):=oE aS
        obtain⟨ad101,e101,hx101_0⟩:=Kd.at_int HR0.out x7_1 p101 q101;cases e101
        replace p101:=eq_true p101;replace q101:=eq_true q101;go_wp2
        go_ret
        exact⟨by first|rfl|(simp;done)|(simp [*];done),by repeat(first|exact Drawn0.refl _|apply Drawn0.step)⟩
       ·rw[if_neg c6] at H;have c6b0:decide (1125899906842624 < (rd l0 x7_1))=false:=decide_eq_false c6;clear c6;have H':=aM H;clear H;have p101:0≤(x7_1:Int):=oE aS
        have q101:x7_1 < (l0.length:Int):=oE aS
        obtain⟨ad101,e101,hx101_0⟩:=Kd.at_int HR0.out x7_1 p101 q101;cases e101
        replace p101:=eq_true p101;replace q101:=eq_true q101;go_wp2
        go_roundg k1
        case measure=>have:=HK1.out;omega
        case rel=>exact⟨(wrap64 (x7_1+1)),sD,H',⟨by have:=HK1.out;omega⟩,by repeat(first|exact Drawn0.refl _|apply Drawn0.step)⟩
     ·rw[if_neg c4] at H;exact absurd H (by simp)
    ·rw[if_neg c3] at H;exact absurd H (by simp)
   ·rw[if_neg c2] at H;have c2b0:decide (x7_1 < (l0.length:Int))=false:=decide_eq_false c2;clear c2;obtain rfl:=Option.some.inj H;go_wp2
    go_ret
    exact⟨by first|rfl|(simp;done)|(simp [*];done),by repeat(first|exact Drawn0.refl _|apply Drawn0.step)⟩

def Ezv.f (k:Nat) (a0:Int):Option (Int × Int):=(Czz.f k (([a0]:List Int))).bind fun t105=>(if t105=true then(some (a0,0)) else(some (0,2)))
theorem Ezv.mono:∀ a0 k,LeO (Ezv.f k a0) (Ezv.f (k+1) a0):=by
 intro a0 k;unfold Ezv.f;with_reducible repeat' first|exact Czz.mono _ _|exact LeO.refl _|exact LeO.none _|refine LeO.ite ?_ ?_|refine LeO.bind ?_ (fun _=>?_)
theorem Ezv.calls (k:Nat) (a0:Int) (r1:Int) (r2:Int) (w:World) (h:Ezv.f k a0=some (r1,r2)) :
  Calls Try.prog 43 #[.int .i64 a0] w fun e w'=>e=.returned (.tuple #[.int .i64 r1,.int .i64 r2])∧Below w.heap.size w w':=by
 have HB:=aM (Below.refl w.heap.size w);have H:((Czz.f k (([a0]:List Int))).bind fun t105=>(if t105=true then(some (a0,0)) else(some (0,2))))=some (r1,r2):=h
 clear h;obtain⟨y102,hy102⟩:∃ y_:List Int,y_=(([a0]:List Int)):=⟨_,rfl⟩;replace H:((Czz.f k y102).bind fun t105=>(if t105=true then(some (a0,0)) else(some (0,2))))=some (r1,r2):=by first|(rw[hy102];with_reducible exact H)|(have H2_:=(Option.bind_some _ _).symm.trans H;rw[hy102];with_reducible exact H2_)|(have H2_:=(Option.bind_some _ _).symm.trans H;with_reducible exact H2_)|with_reducible exact H|(rw[hy102];exact H)|exact H
 have Ny102:=aM hy102;clear hy102;replace H:=bS H;obtain⟨t105,A20,H⟩:=H;(try dsimp only at H);have A2:=aM A20;clear A20;by_cases c3:t105=true
 ·subst c3;rw[if_pos rfl] at H;simp only[Option.some.injEq,Prod.mk.injEq] at H;obtain⟨rfl,rfl⟩:=H;go_enter Try.func43,Try.ntmps43
  go_wp2_with (first|((with_reducible refine gate_dst (N:=5) rfl ?_);refine Kd.R_lit (Kd.int .i64) _ 3 ?hg (N:=5) ?hd (xs:=([a0]:List Int)) (inner:=[.int .i64 a0]) (ok:=fun _=>True) (okp:=fun _=>True) ?hr ?hp (fun _ hk=>hk) trivial (Below.refl _ _) (Nat.le_refl _) (by simp) ?_;(case hd=>rfl);(case hg=>rfl);(case hr=>first|(go_simp;done)|(go_simp;rfl));(case hp=>exact(Reps.one (show Kd.M (Kd.int .i64) _ _ _ a0 [.int .i64 a0] from rfl) (Reps.none _ _)));intro v103 w4 ho5 hb hg_ hnew_;clear hg_ hnew_;(first|rw[← Ny102.out] at ho5|(simp only[Int.reduceToNat] at ho5;rw[← Ny102.out] at ho5));have HO104:=aM (Kd.R_lower ho5 (below_size pB));replace HB:=aM (below_step pB hb);clear hb ho5;obtain⟨Ao6,co6,eo6⟩:=Kd.R_slice HO104.out;subst eo6)|((with_reducible refine gate_callee (f:=42) rfl ?_);refine goesL_ (some 6) rfl rfl Try.func42 (by kernel_rfl) rfl #[.slice Ao6 y102.length co6] rfl mA ?_;(with_reducible refine(Czz.calls k _ _ y102 true _ ?side1 ?side2 A2.out).mono ?_);(case side1=>repeat(first|exact(Kd.R_reads' HO104.out).2.2|(with_reducible refine Kd.C_alloc ?_ _)|(with_reducible refine Kd.C_drewN ?_ _)|(with_reducible refine Kd.C_drew ?_)));(case side2=>exact(Kd.R_reads' HO104.out).2.1);rintro e w' ⟨rfl,⟨nd,rfl⟩⟩;refine⟨_,rfl,?_⟩))
  go_ret2
  exact⟨eW,pB⟩
 ·replace c3:=Bool.eq_false_iff.mpr c3;subst c3;rw[if_neg (show ¬ (false=true) by decide)] at H
  simp only[Option.some.injEq,Prod.mk.injEq] at H;obtain⟨rfl,rfl⟩:=H;go_enter Try.func43,Try.ntmps43
  go_wp2_with (first|((with_reducible refine gate_dst (N:=5) rfl ?_);refine Kd.R_lit (Kd.int .i64) _ 3 ?hg (N:=5) ?hd (xs:=([a0]:List Int)) (inner:=[.int .i64 a0]) (ok:=fun _=>True) (okp:=fun _=>True) ?hr ?hp (fun _ hk=>hk) trivial (Below.refl _ _) (Nat.le_refl _) (by simp) ?_;(case hd=>rfl);(case hg=>rfl);(case hr=>first|(go_simp;done)|(go_simp;rfl));(case hp=>exact(Reps.one (show Kd.M (Kd.int .i64) _ _ _ a0 [.int .i64 a0] from rfl) (Reps.none _ _)));intro v103 w7 ho8 hb hg_ hnew_;clear hg_ hnew_;(first|rw[← Ny102.out] at ho8|(simp only[Int.reduceToNat] at ho8;rw[← Ny102.out] at ho8));have HO104:=aM (Kd.R_lower ho8 (below_size pB));replace HB:=aM (below_step pB hb);clear hb ho8;obtain⟨Ao9,co9,eo9⟩:=Kd.R_slice HO104.out;subst eo9)|((with_reducible refine gate_callee (f:=42) rfl ?_);refine goesL_ (some 6) rfl rfl Try.func42 (by kernel_rfl) rfl #[.slice Ao9 y102.length co9] rfl mA ?_;(with_reducible refine(Czz.calls k _ _ y102 false _ ?side1 ?side2 A2.out).mono ?_);(case side1=>repeat(first|exact(Kd.R_reads' HO104.out).2.2|(with_reducible refine Kd.C_alloc ?_ _)|(with_reducible refine Kd.C_drewN ?_ _)|(with_reducible refine Kd.C_drew ?_)));(case side2=>exact(Kd.R_reads' HO104.out).2.1);rintro e w' ⟨rfl,⟨nd,rfl⟩⟩;refine⟨_,rfl,?_⟩))
  go_ret2
  exact⟨eW,pB⟩

def Dzw.l0:Nat→Int→Int→List Int→Int→Int→Option (Int × Int)
 | 0,_,_,_,_,_=>none
 | k+1,x4,x5,x14,x15,x16=>if x16 < x15 then(if 0≤x16 then(if x16 < (x14.length:Int) then(Dzw.l0 k (wrap64 (x4+(wrap64 (Int.tdiv (rd x14 x16) 33554432)))) (wrap64 (x5+(Int.tmod (rd x14 x16) 33554432))) x14 x15 (wrap64 (x16+1))) else(none)) else(none)) else(if(wrap64 (x4+(wrap64 (Int.tdiv x5 33554432)))) > 33554433 then(some (0,2)) else(if(wrap64 (x4+(wrap64 (Int.tdiv x5 33554432)))) < (-33554433) then(some (0,2)) else((Ezv.f k (wrap64 ((wrap64 ((wrap64 (x4+(wrap64 (Int.tdiv x5 33554432)))) * 33554432))+(Int.tmod x5 33554432)))).bind fun bt108=>(some (bt108.1,bt108.2)))))
def Dzw.f (k:Nat) (l0:List Int):Option (Int × Int):=if(l0.length:Int) > 65536 then(some (0,8)) else((Czz.f k l0).bind fun t106=>(if t106=true then(Dzw.l0 k 0 0 l0 (l0.length:Int) 0) else(some (0,1))))
theorem Dzw.mono_l:∀ k,(∀ y0 y1 y2 y3 y4,LeO (Dzw.l0 k y0 y1 y2 y3 y4) (Dzw.l0 (k+1) y0 y1 y2 y3 y4))
 | 0=>fun _ _ _ _ _ r h=>by simp [Dzw.l0] at h
 | k+1=>by
  have ih0:=Dzw.mono_l k
  ·intro y0 y1 y2 y3 y4;unfold Dzw.l0;with_reducible repeat' first|exact ih0 _ _ _ _ _|exact Czz.mono _ _|exact Ezv.mono _ _|exact LeO.refl _|exact LeO.none _|refine LeO.ite ?_ ?_|refine LeO.bind ?_ (fun _=>?_)
theorem Dzw.mono:∀ a0 k,LeO (Dzw.f k a0) (Dzw.f (k+1) a0):=by
 intro a0 k;have ih0:=Dzw.mono_l k;unfold Dzw.f;with_reducible repeat' first|exact ih0 _ _ _ _ _|exact Czz.mono _ _|exact Ezv.mono _ _|exact LeO.refl _|exact LeO.none _|refine LeO.ite ?_ ?_|refine LeO.bind ?_ (fun _=>?_)
theorem Dzw.calls (k:Nat) (A0:Option Addr) (c0:Nat) (l0:List Int) (r1:Int) (r2:Int) (w:World) (hr0:Kd.C (Kd.int .i64) w A0 l0.length l0) (hc0:l0.length≤c0) (h:Dzw.f k l0=some (r1,r2)) :
  Calls Try.prog 31 #[.slice A0 l0.length c0] w fun e w'=>e=.returned (.tuple #[.int .i64 r1,.int .i64 r2])∧Below w.heap.size w w':=by
 have HR0:=aM hr0;have HC0:=aM hc0;clear hr0 hc0;have HB:=aM (Below.refl w.heap.size w);have H:(if(l0.length:Int) > 65536 then(some (0,8)) else((Czz.f k l0).bind fun t106=>(if t106=true then(Dzw.l0 k 0 0 l0 (l0.length:Int) 0) else(some (0,1)))))=some (r1,r2):=h
 clear h;by_cases c2:(l0.length:Int) > 65536
 ·rw[if_pos c2] at H;have c2b0:decide (65536 < (l0.length:Int))=true:=dE c2;have c2b1:decide (65536 < l0.length)=true:=dE (by omega)
  clear c2;simp only[Option.some.injEq,Prod.mk.injEq] at H;obtain⟨rfl,rfl⟩:=H;go_enter Try.func31,Try.ntmps31
  go_wp2
  go_ret2
  exact⟨eW,pB⟩
 ·rw[if_neg c2] at H;have c2b0:decide (65536 < (l0.length:Int))=false:=decide_eq_false c2;have c2b1:decide (65536 < l0.length)=false:=decide_eq_false (by omega)
  clear c2;replace H:=bS H;obtain⟨t106,A30,H⟩:=H;(try dsimp only at H);have A3:=aM A30;clear A30;by_cases c4:t106=true
  ·subst c4;rw[if_pos rfl] at H;have H':=aM H;clear H;go_enter Try.func31,Try.ntmps31
   go_wp2_with (first|((with_reducible refine gate_callee (f:=42) rfl ?_);refine goesL_ (some 12) rfl rfl Try.func42 (by kernel_rfl) rfl #[.slice A0 l0.length c0] rfl mA ?_;(with_reducible refine(Czz.calls k _ _ l0 true _ ?side1 ?side2 A3.out).mono ?_);(case side1=>exact cX HR0.out);(case side2=>exact HC0.out);rintro e w' ⟨rfl,⟨nd,rfl⟩⟩;refine⟨_,rfl,?_⟩))
   try simp only[Act.put,sA,sZ,sC]
   go_loopg [4,5,16] k (fun kq v4 v5 v16 w'=>∃ (x4_1:Int) (x5_1:Int) (x16_1:Int),v4=.int .i64 x4_1∧v5=.int .i64 x5_1∧v16=.int .i64 x16_1∧Aside0 (Dzw.l0 kq x4_1 x5_1 l0 (l0.length:Int) x16_1=some (r1,r2))∧Aside0 (kq≤k)∧Aside0 (Below w.heap.size w w'))
   case atStart=>exact⟨(0),(0),(0),sD,sD,sD,H',⟨Nat.le_refl _⟩,⟨pB⟩⟩
   case round =>
    clear H';try clear c2
    try clear c2b0
    try clear c2b1
    try clear p2
    try clear c3
    try clear c4
    obtain⟨x4_1,x5_1,x16_1,rfl,rfl,rfl,HA,HK1,HB⟩:=hrel;cases gk with
    | zero=>exact absurd HA.out (by simp [Dzw.l0])
    | succ k1 =>
     have H:=HA.out;clear HA;simp only[Dzw.l0] at H;by_cases c5:x16_1 < (l0.length:Int)
     ·rw[if_pos c5] at H;have c5b0:decide (x16_1 < (l0.length:Int))=true:=dE c5;clear c5;by_cases c6:0≤x16_1
      ·rw[if_pos c6] at H;have c6b0:decide (0≤x16_1)=true:=dE c6;clear c6;by_cases c7:x16_1 < (l0.length:Int)
       ·rw[if_pos c7] at H;have c7b0:decide (x16_1 < (l0.length:Int))=true:=dE c7;clear c7;have H':=aM H;clear H;have p107:0≤(x16_1:Int):=oE aS
        have q107:x16_1 < (l0.length:Int):=oE aS
        obtain⟨ad107,e107,hx107_0⟩:=Kd.at_int HR0.out x16_1 p107 q107;cases e107
        replace hx107_0:=(HB.out.cell (World.block_lt_of_cell? w _ hx107_0)).trans hx107_0;replace p107:=eq_true p107;replace q107:=eq_true q107;go_wp2
        go_roundg k1
        case measure=>have:=HK1.out;omega
        case rel=>exact⟨(wrap64 (x4_1+(wrap64 (Int.tdiv (rd l0 x16_1) 33554432)))),(wrap64 (x5_1+(Int.tmod (rd l0 x16_1) 33554432))),(wrap64 (x16_1+1)),sD,sD,sD,H',⟨by have:=HK1.out;omega⟩,⟨pB⟩⟩
       ·rw[if_neg c7] at H;exact absurd H (by simp)
      ·rw[if_neg c6] at H;exact absurd H (by simp)
     ·rw[if_neg c5] at H;have c5b0:decide (x16_1 < (l0.length:Int))=false:=decide_eq_false c5;clear c5;by_cases c8:(wrap64 (x4_1+(wrap64 (Int.tdiv x5_1 33554432)))) > 33554433
      ·rw[if_pos c8] at H;have c8b0:decide (33554433 < (wrap64 (x4_1+(wrap64 (Int.tdiv x5_1 33554432)))))=true:=dE c8;have c8b0w:decide (33554433 < (IntKind.i64.wrap (x4_1+(IntKind.i64.wrap (Int.tdiv x5_1 33554432)))))=true:=by have h_:=c8b0;first|exact h_|(simp only[i64_w];exact h_)
       clear c8;simp only[Option.some.injEq,Prod.mk.injEq] at H;obtain⟨rfl,rfl⟩:=H;go_wp2
       go_ret2
       exact⟨eW,pB⟩
      ·rw[if_neg c8] at H;have c8b0:decide (33554433 < (wrap64 (x4_1+(wrap64 (Int.tdiv x5_1 33554432)))))=false:=decide_eq_false c8;have c8b0w:decide (33554433 < (IntKind.i64.wrap (x4_1+(IntKind.i64.wrap (Int.tdiv x5_1 33554432)))))=false:=by have h_:=c8b0;first|exact h_|(simp only[i64_w];exact h_)
       clear c8;by_cases c9:(wrap64 (x4_1+(wrap64 (Int.tdiv x5_1 33554432)))) < (-33554433)
       ·rw[if_pos c9] at H;have c9b0:decide ((wrap64 (x4_1+(wrap64 (Int.tdiv x5_1 33554432)))) < (-33554433))=true:=dE c9;have c9b0w:decide ((IntKind.i64.wrap (x4_1+(IntKind.i64.wrap (Int.tdiv x5_1 33554432)))) < (-33554433))=true:=by have h_:=c9b0;first|exact h_|(simp only[i64_w];exact h_)
        clear c9;simp only[Option.some.injEq,Prod.mk.injEq] at H;obtain⟨rfl,rfl⟩:=H;go_wp2
        go_ret2
        exact⟨eW,pB⟩
       ·rw[if_neg c9] at H;have c9b0:decide ((wrap64 (x4_1+(wrap64 (Int.tdiv x5_1 33554432)))) < (-33554433))=false:=decide_eq_false c9;have c9b0w:decide ((IntKind.i64.wrap (x4_1+(IntKind.i64.wrap (Int.tdiv x5_1 33554432)))) < (-33554433))=false:=by have h_:=c9b0;first|exact h_|(simp only[i64_w];exact h_)
        clear c9;replace H:=bS H;obtain⟨⟨t108,t109⟩,A100,H⟩:=H;replace H:(some (t108,t109))=some (r1,r2):=H;have A10:=aM A100;clear A100;simp only[Option.some.injEq,Prod.mk.injEq] at H;obtain⟨rfl,rfl⟩:=H;go_wp2_with (first|((with_reducible refine gate_callee (f:=43) rfl ?_);refine goesL_ (some 45) rfl rfl Try.func43 (by kernel_rfl) rfl #[.int .i64 (wrap64 ((wrap64 ((wrap64 (x4_1+(wrap64 (Int.tdiv x5_1 33554432)))) * 33554432))+(Int.tmod x5_1 33554432)))] rfl mA ?_;(with_reducible refine(Ezv.calls k1 (wrap64 ((wrap64 ((wrap64 (x4_1+(wrap64 (Int.tdiv x5_1 33554432)))) * 33554432))+(Int.tmod x5_1 33554432))) t108 t109 _ A10.out).mono ?_);rintro e w11 ⟨rfl,hb⟩;refine⟨_,rfl,?_⟩;replace HB:=aM (below_step pB hb);(try clear hb);(try clear hb2);(try clear hk);(try clear hi)))
        go_ret2
        exact⟨eW,pB⟩
  ·replace c4:=Bool.eq_false_iff.mpr c4;subst c4;rw[if_neg (show ¬ (false=true) by decide)] at H
   simp only[Option.some.injEq,Prod.mk.injEq] at H;obtain⟨rfl,rfl⟩:=H;go_enter Try.func31,Try.ntmps31
   go_wp2_with (first|((with_reducible refine gate_callee (f:=42) rfl ?_);refine goesL_ (some 12) rfl rfl Try.func42 (by kernel_rfl) rfl #[.slice A0 l0.length c0] rfl mA ?_;(with_reducible refine(Czz.calls k _ _ l0 false _ ?side1 ?side2 A3.out).mono ?_);(case side1=>exact cX HR0.out);(case side2=>exact HC0.out);rintro e w' ⟨rfl,⟨nd,rfl⟩⟩;refine⟨_,rfl,?_⟩))
   go_ret2
   exact⟨eW,pB⟩

def Ezb.f (a0:Int):Option (Bool):=if a0 < 0 then(some true) else(some (decide (a0 > 1125899906842624)))
theorem Ezb.calls (a0:Int) (r:Bool) (w:World) (h:Ezb.f a0=some r) :
  Calls Try.prog 38 #[.int .i64 a0] w fun e w'=>e=.returned (.bool r)∧Drawn0 w w':=by
 have H:(if a0 < 0 then(some true) else(some (decide (a0 > 1125899906842624))))=some r:=h
 clear h;by_cases c2:a0 < 0
 ·rw[if_pos c2] at H;have c2b0:decide (a0 < 0)=true:=dE c2;clear c2;obtain rfl:=Option.some.inj H;go_enter Try.func38,Try.ntmps38
  go_wp2
  go_ret
  exact⟨by first|rfl|(simp;done)|(simp [*];done),by repeat(first|exact Drawn0.refl _|apply Drawn0.step)⟩
 ·rw[if_neg c2] at H;have c2b0:decide (a0 < 0)=false:=decide_eq_false c2;clear c2;obtain rfl:=Option.some.inj H;go_enter Try.func38,Try.ntmps38
  go_wp2
  go_ret
  exact⟨by first|rfl|(simp;done)|(simp [*];done),by repeat(first|exact Drawn0.refl _|apply Drawn0.step)⟩

end Go.Proofs.Ytloihkecfommbaa.Print
