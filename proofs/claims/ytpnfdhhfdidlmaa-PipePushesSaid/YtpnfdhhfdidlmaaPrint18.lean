import Derived.Test.YtpnfdhhfdidlmaaPrint0
import Derived.Test.YtpnfdhhfdidlmaaPrint17
namespace Go.Proofs.Ytpnfdhhfdidlmaa.Print
open Go.RowKit Go.Proofs.YtpnfdhhfdidlmaaW.PrintWords Go.Proofs.YtpnfdhhfdidlmaaW.PrintLast Go.Proofs.YtpnfdhhfdidlmaaW.PrintMore
attribute [local go_sem] max2_int min2_int max_two min_two max_three min_three max_four min_four
set_option linter.unusedVariables false
set_option maxRecDepth 100000
set_option maxHeartbeats 8000000
set_option linter.unusedSimpArgs false

mutual
def Bzx.j0:Nat→List Int→Int→Bool→Option (Int)
 | 0,_,_,_=>none
 | k+1,x0,x2,x19=>if x19=true then(some 17) else(Bzx.l0 k x0 x2 0)
def Bzx.l0:Nat→List Int→Int→Int→Option (Int)
 | 0,_,_,_=>none
 | k+1,x0,x2,x7=>if x7 < (x0.length:Int) then(if 0≤x7 then(if(rd x0 x7) < 0 then(some 1) else(if(rd x0 x7) > x2 then(some 1) else(Bzx.l0 k x0 x2 (wrap64 (x7+1))))) else(none)) else(some 0)
end
def Bzx.f (k:Nat) (l0:List Int) (a1:Int) (a2:Int):Option (Int):=if a1 < 1 then(Bzx.j0 k l0 a2 true) else(if a1 > 8 then(Bzx.j0 k l0 a2 true) else(Bzx.j0 k l0 a2 ((l0.length:Int) != a1)))
theorem Bzx.mono_l:∀ k,(∀ y0 y1 y2,LeO (Bzx.j0 k y0 y1 y2) (Bzx.j0 (k+1) y0 y1 y2))∧(∀ y0 y1 y2,LeO (Bzx.l0 k y0 y1 y2) (Bzx.l0 (k+1) y0 y1 y2))
 | 0=>⟨fun _ _ _ r h=>by simp [Bzx.j0] at h,fun _ _ _ r h=>by simp [Bzx.l0] at h⟩
 | k+1=>by
  obtain⟨ih0,ih1⟩:=Bzx.mono_l k;refine⟨?_,?_⟩
  ·intro y0 y1 y2;unfold Bzx.j0;with_reducible repeat' first|exact ih0 _ _ _|exact ih1 _ _ _|exact LeO.refl _|exact LeO.none _|refine LeO.ite ?_ ?_|refine LeO.bind ?_ (fun _=>?_)
  ·intro y0 y1 y2;unfold Bzx.l0;with_reducible repeat' first|exact ih0 _ _ _|exact ih1 _ _ _|exact LeO.refl _|exact LeO.none _|refine LeO.ite ?_ ?_|refine LeO.bind ?_ (fun _=>?_)
theorem Bzx.mono:∀ a0 a1 a2 k,LeO (Bzx.f k a0 a1 a2) (Bzx.f (k+1) a0 a1 a2):=by
 intro a0 a1 a2 k;obtain⟨ih0,ih1⟩:=Bzx.mono_l k;unfold Bzx.f;with_reducible repeat' first|exact ih0 _ _ _|exact ih1 _ _ _|exact LeO.refl _|exact LeO.none _|refine LeO.ite ?_ ?_|refine LeO.bind ?_ (fun _=>?_)
theorem Bzx.calls (k:Nat) (A0:Option Addr) (c0:Nat) (l0:List Int) (a1:Int) (a2:Int) (r:Int) (w:World) (hr0:Kd.C (Kd.int .i64) w A0 l0.length l0) (hc0:l0.length≤c0) (h:Bzx.f k l0 a1 a2=some r) :
  Calls Try.prog 37 #[.slice A0 l0.length c0,.int .i64 a1,.int .i64 a2] w fun e w'=>e=.returned (.int .i64 r)∧Drawn0 w w':=by
 have HR0:=aM hr0;have HC0:=aM hc0;clear hr0 hc0;have H:(if a1 < 1 then(Bzx.j0 k l0 a2 true) else(if a1 > 8 then(Bzx.j0 k l0 a2 true) else(Bzx.j0 k l0 a2 ((l0.length:Int) != a1))))=some r:=h
 clear h;have HC4:=aM H;clear H;go_enter Try.func37,Try.ntmps37
 go_upto_region 1 with (fail)
 go_cut [19] (fun v19 wc=>∃ (kq:Nat) (x19_3:Bool),v19=.bool x19_3∧Aside0 (Bzx.j0 kq l0 a2 x19_3=some r)∧Aside0 (kq≤k)∧Drawn0 w wc)
 case first =>
  have H:=HC4.out;clear HC4;by_cases c5:a1 < 1
  ·rw[if_pos c5] at H;have c5b0:decide (a1 < 1)=true:=dE c5;clear c5;(first|rw[c5b0]|(simp only[i64_w,i32_w];rw[c5b0])|skip)
   have H':=aM H;clear H;go_wp2
   go_meet
   case rel=>exact⟨_,(true),sD,H',⟨by first|omega|exact Nat.le_refl _⟩,by repeat(first|exact Drawn0.refl _|apply Drawn0.step)⟩
  ·rw[if_neg c5] at H;have c5b0:decide (a1 < 1)=false:=decide_eq_false c5;clear c5;(first|rw[c5b0]|(simp only[i64_w,i32_w];rw[c5b0])|skip)
   by_cases c6:a1 > 8
   ·rw[if_pos c6] at H;have c6b0:decide (8 < a1)=true:=dE c6;clear c6;have H':=aM H;clear H;go_wp2
    go_meet
    case rel=>exact⟨_,(true),sD,H',⟨by first|omega|exact Nat.le_refl _⟩,by repeat(first|exact Drawn0.refl _|apply Drawn0.step)⟩
   ·rw[if_neg c6] at H;have c6b0:decide (8 < a1)=false:=decide_eq_false c6;clear c6;have H':=aM H;clear H;go_wp2
    go_meet
    case rel=>exact⟨_,(((l0.length:Int) != a1)),sD,H',⟨by first|omega|exact Nat.le_refl _⟩,by repeat(first|exact Drawn0.refl _|apply Drawn0.step)⟩
 case rest =>
  clear HC4;try clear p2
  try clear c3
  try clear c5
  try clear c5b0
  try clear c6
  try clear c6b0
  obtain⟨kq,x19_3,rfl,HA,HJ3,⟨mc3,rfl⟩⟩:=hcut;cases kq with
  | zero=>exact absurd HA.out (by simp [Bzx.j0])
  | succ kj3 =>
   have H:=HA.out;clear HA;simp only[Bzx.j0] at H;by_cases c7:x19_3=true
   ·subst c7;rw[if_pos rfl] at H;obtain rfl:=Option.some.inj H;go_wp2
    go_ret
    exact⟨by first|rfl|(simp;done)|(simp [*];done),by repeat(first|exact Drawn0.refl _|apply Drawn0.step)⟩
   ·replace c7:=Bool.eq_false_iff.mpr c7;subst c7;rw[if_neg (show ¬ (false=true) by decide)] at H
    have H':=aM H;clear H;go_wp2
    go_loopg [7] kj3 (fun kq v7 w'=>∃ (x7_2:Int),v7=.int .i64 x7_2∧Aside0 (Bzx.l0 kq l0 a2 x7_2=some r)∧Aside0 (kq≤kj3)∧Drawn0 w w')
    case atStart=>exact⟨(0),sD,H',⟨Nat.le_refl _⟩,by repeat(first|exact Drawn0.refl _|apply Drawn0.step)⟩
    case round =>
     clear H';try clear p2
     try clear c3
     try clear c5
     try clear c5b0
     try clear c6
     try clear c6b0
     try clear c7
     try clear p2
     obtain⟨x7_2,rfl,HA,HK2,⟨m2,rfl⟩⟩:=hrel;cases gk with
     | zero=>exact absurd HA.out (by simp [Bzx.l0])
     | succ k2 =>
      have H:=HA.out;clear HA;simp only[Bzx.l0] at H;by_cases c8:x7_2 < (l0.length:Int)
      ·rw[if_pos c8] at H;have c8b0:decide (x7_2 < (l0.length:Int))=true:=dE c8;clear c8;by_cases c9:0≤x7_2
       ·rw[if_pos c9] at H;have c9b0:decide (0≤x7_2)=true:=dE c9;clear c9;by_cases c10:(rd l0 x7_2) < 0
        ·rw[if_pos c10] at H;have c10b0:decide ((rd l0 x7_2) < 0)=true:=dE c10;clear c10;obtain rfl:=Option.some.inj H;have p381:0≤(x7_2:Int):=oE aS
         have q381:x7_2 < (l0.length:Int):=oE aS
         obtain⟨ad381,e381,hx381_0⟩:=Kd.at_int HR0.out x7_2 p381 q381;cases e381
         replace p381:=eq_true p381;replace q381:=eq_true q381;go_wp2
         go_ret
         exact⟨by first|rfl|(simp;done)|(simp [*];done),by repeat(first|exact Drawn0.refl _|apply Drawn0.step)⟩
        ·rw[if_neg c10] at H;have c10b0:decide ((rd l0 x7_2) < 0)=false:=decide_eq_false c10;clear c10;by_cases c11:(rd l0 x7_2) > a2
         ·rw[if_pos c11] at H;have c11b0:decide (a2 < (rd l0 x7_2))=true:=dE c11;clear c11;obtain rfl:=Option.some.inj H;have p381:0≤(x7_2:Int):=oE aS
          have q381:x7_2 < (l0.length:Int):=oE aS
          obtain⟨ad381,e381,hx381_0⟩:=Kd.at_int HR0.out x7_2 p381 q381;cases e381
          replace p381:=eq_true p381;replace q381:=eq_true q381;have p382:0≤(x7_2:Int):=oE aS
          have q382:x7_2 < (l0.length:Int):=oE aS
          obtain⟨ad382,e382,hx382_0⟩:=Kd.at_int HR0.out x7_2 p382 q382;obtain rfl:ad381=ad382:=(by injection e382)
          replace p382:=eq_true p382;replace q382:=eq_true q382;go_wp2
          go_ret
          exact⟨by first|rfl|(simp;done)|(simp [*];done),by repeat(first|exact Drawn0.refl _|apply Drawn0.step)⟩
         ·rw[if_neg c11] at H;have c11b0:decide (a2 < (rd l0 x7_2))=false:=decide_eq_false c11;clear c11;have H':=aM H;clear H;have p381:0≤(x7_2:Int):=oE aS
          have q381:x7_2 < (l0.length:Int):=oE aS
          obtain⟨ad381,e381,hx381_0⟩:=Kd.at_int HR0.out x7_2 p381 q381;cases e381
          replace p381:=eq_true p381;replace q381:=eq_true q381;have p382:0≤(x7_2:Int):=oE aS
          have q382:x7_2 < (l0.length:Int):=oE aS
          obtain⟨ad382,e382,hx382_0⟩:=Kd.at_int HR0.out x7_2 p382 q382;obtain rfl:ad381=ad382:=(by injection e382)
          replace p382:=eq_true p382;replace q382:=eq_true q382;go_wp2
          go_roundg k2
          case measure=>have:=HJ3.out;have:=HK2.out;omega
          case rel=>exact⟨(wrap64 (x7_2+1)),sD,H',⟨by have:=HJ3.out;have:=HK2.out;omega⟩,by repeat(first|exact Drawn0.refl _|apply Drawn0.step)⟩
       ·rw[if_neg c9] at H;exact absurd H (by simp)
      ·rw[if_neg c8] at H;have c8b0:decide (x7_2 < (l0.length:Int))=false:=decide_eq_false c8;clear c8;obtain rfl:=Option.some.inj H;go_wp2
       go_ret
       exact⟨by first|rfl|(simp;done)|(simp [*];done),by repeat(first|exact Drawn0.refl _|apply Drawn0.step)⟩

def Czv.f (k:Nat) (l0:List Int) (a1:Int):Option (Int):=(Bzx.f k l0 a1 1099511627776).bind fun t383=>(some t383)
theorem Czv.mono:∀ a0 a1 k,LeO (Czv.f k a0 a1) (Czv.f (k+1) a0 a1):=by
 intro a0 a1 k;unfold Czv.f;with_reducible repeat' first|exact Bzx.mono _ _ _ _|exact LeO.refl _|exact LeO.none _|refine LeO.ite ?_ ?_|refine LeO.bind ?_ (fun _=>?_)
theorem Czv.calls (k:Nat) (A0:Option Addr) (c0:Nat) (l0:List Int) (a1:Int) (r:Int) (w:World) (hr0:Kd.C (Kd.int .i64) w A0 l0.length l0) (hc0:l0.length≤c0) (h:Czv.f k l0 a1=some r) :
  Calls Try.prog 28 #[.slice A0 l0.length c0,.int .i64 a1] w fun e w'=>e=.returned (.int .i64 r)∧Drawn0 w w':=by
 have HR0:=aM hr0;have HC0:=aM hc0;clear hr0 hc0;have H:((Bzx.f k l0 a1 1099511627776).bind fun t383=>(some t383))=some r:=h
 clear h;replace H:=bS H;obtain⟨t383,A30,H⟩:=H;replace H:(some t383)=some r:=H;have A3:=aM A30;clear A30;obtain rfl:=Option.some.inj H;go_enter Try.func28,Try.ntmps28
 go_wp2_with (first|((with_reducible refine gate_callee (f:=37) rfl ?_);refine goesL_ (some 7) rfl rfl Try.func37 (by kernel_rfl) rfl #[.slice A0 l0.length c0,.int .i64 a1,.int .i64 1099511627776] rfl mA ?_;(with_reducible refine(Bzx.calls k _ _ l0 a1 1099511627776 t383 _ ?side1 ?side2 A3.out).mono ?_);(case side1=>exact cX HR0.out);(case side2=>exact HC0.out);rintro e w' ⟨rfl,⟨nd,rfl⟩⟩;refine⟨_,rfl,?_⟩))
 go_ret
 exact⟨by first|rfl|(simp;done)|(simp [*];done),by repeat(first|exact Drawn0.refl _|apply Drawn0.step)⟩

def Czw.l0:Nat→Int→Int→Int→List (List Int)→Option (Int)
 | 0,_,_,_,_=>none
 | k+1,x3,x4,x385000,x385001=>if x4 < (x385001.length:Int) then(if 0≤x4 then((Azp.f k (rd_L1 x385001 x4)).bind fun t386=>(Czw.l0 k (wrap64 (x3+t386)) (wrap64 (x4+1)) x385000 x385001)) else(none)) else(some x3)
def Czw.f (k:Nat) (a0_0:Int) (l0_1:List (List Int)):Option (Int):=Czw.l0 k 0 0 a0_0 l0_1
theorem Czw.mono_l:∀ k,(∀ y0 y1 y2 y3,LeO (Czw.l0 k y0 y1 y2 y3) (Czw.l0 (k+1) y0 y1 y2 y3))
 | 0=>fun _ _ _ _ r h=>by simp [Czw.l0] at h
 | k+1=>by
  have ih0:=Czw.mono_l k
  ·intro y0 y1 y2 y3;unfold Czw.l0;with_reducible repeat' first|exact ih0 _ _ _ _|exact Azp.mono _ _|exact LeO.refl _|exact LeO.none _|refine LeO.ite ?_ ?_|refine LeO.bind ?_ (fun _=>?_)
theorem Czw.mono:∀ a0 a1 k,LeO (Czw.f k a0 a1) (Czw.f (k+1) a0 a1):=by
 intro a0 a1 k;have ih0:=Czw.mono_l k;unfold Czw.f;with_reducible repeat' first|exact ih0 _ _ _ _|exact Azp.mono _ _|exact LeO.refl _|exact LeO.none _|refine LeO.ite ?_ ?_|refine LeO.bind ?_ (fun _=>?_)
theorem Czw.calls (k:Nat) (a0_0:Int) (A0_1:Option Addr) (c0_1:Nat) (l0_1:List (List Int)) (r:Int) (w:World) (hr0_1:Kd.C (Kd.slice 3 (Kd.int .i64)) w A0_1 l0_1.length l0_1) (hc0_1:l0_1.length≤c0_1) (h:Czw.f k a0_0 l0_1=some r) :
  Calls Try.prog 29 #[.agg #[.int .i64 a0_0,.slice A0_1 l0_1.length c0_1]] w fun e w'=>e=.returned (.int .i64 r)∧Below w.heap.size w w':=by
 have hu24:=Try.underlying24;have HR0_1:=aM hr0_1;have HC0_1:=aM hc0_1;clear hr0_1 hc0_1;have HB:=aM (Below.refl w.heap.size w);have H:(Czw.l0 k 0 0 a0_0 l0_1)=some r:=h;clear h;have H':=aM H;clear H;go_enter Try.func29,Try.ntmps29
 go_wp2_with (first|((with_reducible refine gate_dst (N:=1) rfl ?_);refine box_event ?hg (N:=1) ?hd (cs:=#[.int .i64 a0_0,.slice A0_1 l0_1.length c0_1]) (t:=24) ?hr ?_;(case hd=>rfl);(case hg=>rfl);(case hr=>first|(go_simp;done)|(go_simp;rfl));intro gb384 hg w2 hbox hb;have BK384:=aM (hbox);have GW384:=aM (gW hg:w.heap.size≤gb384);have GE384:=aM (gW hg:w.heap.size≤gb384);replace HB:=aM (below_step pB hb);clear hb hbox hg))
 go_loopg [3,4] k (fun kq v3 v4 w'=>∃ (x3_1:Int) (x4_1:Int),v3=.int .i64 x3_1∧v4=.int .i64 x4_1∧Aside0 (Czw.l0 kq x3_1 x4_1 a0_0 l0_1=some r)∧Aside0 (kq≤k)∧Aside0 (w'.heap[gb384]?=some (.cells #[.int .i64 a0_0,(.slice A0_1 l0_1.length c0_1)] 24 (0,0)))∧Aside0 (Below w.heap.size w w'))
 case atStart=>exact⟨(0),(0),sD,sD,H',⟨Nat.le_refl _⟩,⟨by(with_reducible repeat(first|refine blk_drewN ?_ _|refine blk_drew ?_|refine blk_alloc ?_ _));exact BK384.out⟩,⟨pB⟩⟩
 case round =>
  clear H';try clear c2
  try clear p2
  obtain⟨x3_1,x4_1,rfl,rfl,HA,HK1,BK384,HB⟩:=hrel;cases gk with
  | zero=>exact absurd HA.out (by simp [Czw.l0])
  | succ k1 =>
   have H:=HA.out;clear HA;simp only[Czw.l0] at H;by_cases c3:x4_1 < (l0_1.length:Int)
   ·rw[if_pos c3] at H;have c3b0:decide (x4_1 < (l0_1.length:Int))=true:=dE c3;clear c3;by_cases c4:0≤x4_1
    ·rw[if_pos c4] at H;have c4b0:decide (0≤x4_1)=true:=dE c4;clear c4;replace H:=bS H;obtain⟨t386,A50,H⟩:=H;(try dsimp only at H);have A5:=aM A50;clear A50;have H':=aM H;clear H;obtain⟨hcz6_0,hcz6_1,hfz6_0,hfz6_1⟩:=bk2 BK384;have p385:0≤(x4_1:Int):=oE aS
     have q385:x4_1 < (l0_1.length:Int):=oE aS
     obtain⟨ad385,A385_0,c385_0,e385,hx385_0,hl385_0,hi385_0⟩:=at_L1 HR0_1.out x4_1 p385 q385;cases e385
     replace hx385_0:=(HB.out.cell (World.block_lt_of_cell? w _ hx385_0)).trans hx385_0;have HR385_0:=aM hi385_0;have HC385_0:=aM hl385_0;clear hi385_0 hl385_0;replace p385:=eq_true p385;replace q385:=eq_true q385;go_wp2_with (first|((with_reducible refine gate_callee (f:=21) rfl ?_);refine goesL_ (some 18) rfl rfl Try.func21 (by kernel_rfl) rfl #[.slice A385_0 (rd_L1 l0_1 x4_1).length c385_0] rfl mA ?_;(with_reducible refine(Azp.calls k1 _ _ (rd_L1 l0_1 x4_1) t386 _ ?side1 ?side2 A5.out).mono ?_);(case side1=>exact cX (Kd.C_below HR385_0.out HB.out));(case side2=>exact HC385_0.out);rintro e w' ⟨rfl,⟨nd,rfl⟩⟩;refine⟨_,rfl,?_⟩))
     go_roundg k1
     case measure=>have:=HK1.out;omega
     case rel=>exact⟨(wrap64 (x3_1+t386)),(wrap64 (x4_1+1)),sD,sD,H',⟨by have:=HK1.out;omega⟩,⟨by(with_reducible repeat(first|refine blk_drewN ?_ _|refine blk_drew ?_|refine blk_alloc ?_ _));exact BK384.out⟩,⟨pB⟩⟩
    ·rw[if_neg c4] at H;exact absurd H (by simp)
   ·rw[if_neg c3] at H;have c3b0:decide (x4_1 < (l0_1.length:Int))=false:=decide_eq_false c3;clear c3;obtain rfl:=Option.some.inj H;obtain⟨hcz7_0,hcz7_1,hfz7_0,hfz7_1⟩:=bk2 BK384;go_wp2
    go_ret
    exact⟨eW,pB⟩

end Go.Proofs.Ytpnfdhhfdidlmaa.Print
