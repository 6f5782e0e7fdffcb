import Derived.Test.YtokkiljkgejnhaaPrint0
import Derived.Test.YtokkiljkgejnhaaPrint10
import Derived.Test.YtokkiljkgejnhaaPrint37
import Derived.Test.YtokkiljkgejnhaaPrint38
namespace Go.Proofs.Ytokkiljkgejnhaa.Print
open Go.RowKit Go.Proofs.YtokkiljkgejnhaaW.PrintWords Go.Proofs.YtokkiljkgejnhaaW.PrintLast Go.Proofs.YtokkiljkgejnhaaW.PrintMore
attribute [local go_sem] max2_int min2_int max_two min_two max_three min_three max_four min_four
set_option linter.unusedVariables false
set_option maxRecDepth 100000
set_option maxHeartbeats 8000000
set_option linter.unusedSimpArgs false

def Bzz.l0:Nat→List Int→Int→Int→Int→Int→Int→Int→Option (Int × Int × Int)
 | 0,_,_,_,_,_,_,_=>none
 | k+1,x0,x1,x8,x9,x10,x11,x12=>if x12 < (x0.length:Int) then(if 0≤x12 then(if(rd x0 x12)≤x1 then(if(rd x0 x12)≥x1 then(Bzz.l0 k x0 x1 (mx x8 0) (mx x9 0) 0 0 (wrap64 (x12+1))) else(Bzz.l0 k x0 x1 (mx x8 0) (mx x9 (wrap64 (x11+1))) 0 (wrap64 (x11+1)) (wrap64 (x12+1)))) else(if(rd x0 x12)≥x1 then(Bzz.l0 k x0 x1 (mx x8 (wrap64 (x10+1))) (mx x9 0) (wrap64 (x10+1)) 0 (wrap64 (x12+1))) else(Bzz.l0 k x0 x1 (mx x8 (wrap64 (x10+1))) (mx x9 (wrap64 (x11+1))) (wrap64 (x10+1)) (wrap64 (x11+1)) (wrap64 (x12+1))))) else(none)) else(some (x8,x9,0))
def Bzz.f (k:Nat) (l0:List Int) (a1:Int):Option (Int × Int × Int):=(Azj.f k l0).bind fun t726=>(if t726=0 then(Bzz.l0 k l0 a1 0 0 0 0 0) else(some (0,0,t726)))
theorem Bzz.mono_l:∀ k,(∀ y0 y1 y2 y3 y4 y5 y6,LeO (Bzz.l0 k y0 y1 y2 y3 y4 y5 y6) (Bzz.l0 (k+1) y0 y1 y2 y3 y4 y5 y6))
 | 0=>fun _ _ _ _ _ _ _ r h=>by simp [Bzz.l0] at h
 | k+1=>by
  have ih0:=Bzz.mono_l k
  ·intro y0 y1 y2 y3 y4 y5 y6;unfold Bzz.l0;with_reducible repeat' first|exact ih0 _ _ _ _ _ _ _|exact Azj.mono _ _|exact LeO.refl _|exact LeO.none _|refine LeO.ite ?_ ?_|refine LeO.bind ?_ (fun _=>?_)
theorem Bzz.mono:∀ a0 a1 k,LeO (Bzz.f k a0 a1) (Bzz.f (k+1) a0 a1):=by
 intro a0 a1 k;have ih0:=Bzz.mono_l k;unfold Bzz.f;with_reducible repeat' first|exact ih0 _ _ _ _ _ _ _|exact Azj.mono _ _|exact LeO.refl _|exact LeO.none _|refine LeO.ite ?_ ?_|refine LeO.bind ?_ (fun _=>?_)
theorem Bzz.calls (k:Nat) (A0:Option Addr) (c0:Nat) (l0:List Int) (a1:Int) (r1:Int) (r2:Int) (r3:Int) (w:World) (hr0:Kd.C (Kd.int .i64) w A0 l0.length l0) (hc0:l0.length≤c0) (h:Bzz.f k l0 a1=some (r1,r2,r3)) :
  Calls Try.prog 14 #[.slice A0 l0.length c0,.int .i64 a1] w fun e w'=>e=.returned (.tuple #[.int .i64 r1,.int .i64 r2,.int .i64 r3])∧Below w.heap.size w w':=by
 have HR0:=aM hr0;have HC0:=aM hc0;clear hr0 hc0;have HB:=aM (Below.refl w.heap.size w);have H:((Azj.f k l0).bind fun t726=>(if t726=0 then(Bzz.l0 k l0 a1 0 0 0 0 0) else(some (0,0,t726))))=some (r1,r2,r3):=h
 clear h;replace H:=bS H;obtain⟨t726,A30,H⟩:=H;(try dsimp only at H);have A3:=aM A30;clear A30;by_cases c4:t726=0
 ·rw[if_pos c4] at H;have c4b0:(t726 == 0)=true:=beq_iff_eq.mpr c4;have c4b1:(t726 != 0)=false:=bne_eq_false_iff_eq.mpr c4;clear c4;have H':=aM H;clear H;go_enter Try.func14,Try.ntmps14
  go_wp2_with (first|((with_reducible refine gate_callee (f:=33) rfl ?_);refine goesL_ (some 14) rfl rfl Try.func33 (by kernel_rfl) rfl #[.slice A0 l0.length c0] rfl mA ?_;(with_reducible refine(Azj.calls k _ _ l0 t726 _ ?side1 ?side2 A3.out).mono ?_);(case side1=>exact cX HR0.out);(case side2=>exact HC0.out);rintro e w' ⟨rfl,⟨nd,rfl⟩⟩;refine⟨_,rfl,?_⟩))
  try simp only[Act.put,sA,sZ,sC]
  go_loopg [8,9,10,11,12] k (fun kq v8 v9 v10 v11 v12 w'=>∃ (x8_1:Int) (x9_1:Int) (x10_1:Int) (x11_1:Int) (x12_1:Int),v8=.int .i64 x8_1∧v9=.int .i64 x9_1∧v10=.int .i64 x10_1∧v11=.int .i64 x11_1∧v12=.int .i64 x12_1∧Aside0 (Bzz.l0 kq l0 a1 x8_1 x9_1 x10_1 x11_1 x12_1=some (r1,r2,r3))∧Aside0 (kq≤k)∧Aside0 (Below w.heap.size w w'))
  case atStart=>exact⟨(0),(0),(0),(0),(0),sD,sD,sD,sD,sD,H',⟨Nat.le_refl _⟩,⟨pB⟩⟩
  case round =>
   clear H';try clear c1
   try clear p2
   try clear c3
   try clear c4
   try clear c4b0
   try clear c4b1
   obtain⟨x8_1,x9_1,x10_1,x11_1,x12_1,rfl,rfl,rfl,rfl,rfl,HA,HK1,HB⟩:=hrel;cases gk with
   | zero=>exact absurd HA.out (by simp [Bzz.l0])
   | succ k1 =>
    have H:=HA.out;clear HA;simp only[Bzz.l0] at H;by_cases c5:x12_1 < (l0.length:Int)
    ·rw[if_pos c5] at H;have c5b0:decide (x12_1 < (l0.length:Int))=true:=dE c5;clear c5;by_cases c6:0≤x12_1
     ·rw[if_pos c6] at H;have c6b0:decide (0≤x12_1)=true:=dE c6;clear c6;by_cases c7:(rd l0 x12_1)≤a1
      ·rw[if_pos c7] at H;have c7b0:decide ((rd l0 x12_1)≤a1)=true:=dE c7;clear c7;by_cases c8:(rd l0 x12_1)≥a1
       ·rw[if_pos c8] at H;have c8b0:decide (a1≤(rd l0 x12_1))=true:=dE c8;clear c8;obtain⟨ji9,hji9⟩:∃ j_:Int,(mx x8_1 0)=j_:=⟨_,rfl⟩;replace H:(Bzz.l0 k1 l0 a1 ji9 (mx x9_1 0) 0 0 (wrap64 (x12_1+1)))=some (r1,r2,r3):=by first|(rw[hji9] at H;exact H)|(simp only[hji9] at H ⊢;exact H)
        have hji9_:(if x8_1 < 0 then 0 else x8_1)=ji9:=hji9
        obtain⟨ji10,hji10⟩:∃ j_:Int,(mx x9_1 0)=j_:=⟨_,rfl⟩;replace H:(Bzz.l0 k1 l0 a1 ji9 ji10 0 0 (wrap64 (x12_1+1)))=some (r1,r2,r3):=by first|(rw[hji10] at H;exact H)|(simp only[hji10] at H ⊢;exact H)
        have hji10_:(if x9_1 < 0 then 0 else x9_1)=ji10:=hji10
        have H':=aM H;clear H;have p727:0≤(x12_1:Int):=oE aS
        have q727:x12_1 < (l0.length:Int):=oE aS
        obtain⟨ad727,e727,hx727_0⟩:=Kd.at_int HR0.out x12_1 p727 q727;cases e727
        replace hx727_0:=(HB.out.cell (World.block_lt_of_cell? w _ hx727_0)).trans hx727_0;replace p727:=eq_true p727;replace q727:=eq_true q727;have p728:0≤(x12_1:Int):=oE aS
        have q728:x12_1 < (l0.length:Int):=oE aS
        obtain⟨ad728,e728,hx728_0⟩:=Kd.at_int HR0.out x12_1 p728 q728;obtain rfl:ad727=ad728:=(by injection e728)
        replace hx728_0:=(HB.out.cell (World.block_lt_of_cell? w _ hx728_0)).trans hx728_0;replace p728:=eq_true p728;replace q728:=eq_true q728;go_wp2
        go_roundg k1
        case measure=>have:=HK1.out;omega
        case rel=>exact⟨(ji9),(ji10),(0),(0),(wrap64 (x12_1+1)),(by first|rfl|(simp;done)|(simp only[← hji9] <;> (first|rfl|simp))|(simp [*];done)),(by first|rfl|(simp;done)|(simp only[← hji10] <;> (first|rfl|simp))|(simp [*];done)),sD,sD,sD,H',⟨by have:=HK1.out;omega⟩,⟨pB⟩⟩
       ·rw[if_neg c8] at H;have c8b0:decide (a1≤(rd l0 x12_1))=false:=decide_eq_false c8;clear c8;obtain⟨ji11,hji11⟩:∃ j_:Int,(mx x8_1 0)=j_:=⟨_,rfl⟩;replace H:(Bzz.l0 k1 l0 a1 ji11 (mx x9_1 (wrap64 (x11_1+1))) 0 (wrap64 (x11_1+1)) (wrap64 (x12_1+1)))=some (r1,r2,r3):=by first|(rw[hji11] at H;exact H)|(simp only[hji11] at H ⊢;exact H)
        have hji11_:(if x8_1 < 0 then 0 else x8_1)=ji11:=hji11
        obtain⟨ji12,hji12⟩:∃ j_:Int,(mx x9_1 (wrap64 (x11_1+1)))=j_:=⟨_,rfl⟩;replace H:(Bzz.l0 k1 l0 a1 ji11 ji12 0 (wrap64 (x11_1+1)) (wrap64 (x12_1+1)))=some (r1,r2,r3):=by first|(rw[hji12] at H;exact H)|(simp only[hji12] at H ⊢;exact H)
        have hji12_:(if x9_1 < (wrap64 (x11_1+1)) then(wrap64 (x11_1+1)) else x9_1)=ji12:=hji12
        have H':=aM H;clear H;have p727:0≤(x12_1:Int):=oE aS
        have q727:x12_1 < (l0.length:Int):=oE aS
        obtain⟨ad727,e727,hx727_0⟩:=Kd.at_int HR0.out x12_1 p727 q727;cases e727
        replace hx727_0:=(HB.out.cell (World.block_lt_of_cell? w _ hx727_0)).trans hx727_0;replace p727:=eq_true p727;replace q727:=eq_true q727;have p728:0≤(x12_1:Int):=oE aS
        have q728:x12_1 < (l0.length:Int):=oE aS
        obtain⟨ad728,e728,hx728_0⟩:=Kd.at_int HR0.out x12_1 p728 q728;obtain rfl:ad727=ad728:=(by injection e728)
        replace hx728_0:=(HB.out.cell (World.block_lt_of_cell? w _ hx728_0)).trans hx728_0;replace p728:=eq_true p728;replace q728:=eq_true q728;go_wp2
        go_roundg k1
        case measure=>have:=HK1.out;omega
        case rel=>exact⟨(ji11),(ji12),(0),(wrap64 (x11_1+1)),(wrap64 (x12_1+1)),(by first|rfl|(simp;done)|(simp only[← hji11] <;> (first|rfl|simp))|(simp [*];done)),(by first|rfl|(simp;done)|(simp only[← hji12] <;> (first|rfl|simp))|(simp [*];done)),sD,sD,sD,H',⟨by have:=HK1.out;omega⟩,⟨pB⟩⟩
      ·rw[if_neg c7] at H;have c7b0:decide ((rd l0 x12_1)≤a1)=false:=decide_eq_false c7;clear c7;by_cases c13:(rd l0 x12_1)≥a1
       ·rw[if_pos c13] at H;have c13b0:decide (a1≤(rd l0 x12_1))=true:=dE c13;clear c13;obtain⟨ji14,hji14⟩:∃ j_:Int,(mx x8_1 (wrap64 (x10_1+1)))=j_:=⟨_,rfl⟩;replace H:(Bzz.l0 k1 l0 a1 ji14 (mx x9_1 0) (wrap64 (x10_1+1)) 0 (wrap64 (x12_1+1)))=some (r1,r2,r3):=by first|(rw[hji14] at H;exact H)|(simp only[hji14] at H ⊢;exact H)
        have hji14_:(if x8_1 < (wrap64 (x10_1+1)) then(wrap64 (x10_1+1)) else x8_1)=ji14:=hji14
        obtain⟨ji15,hji15⟩:∃ j_:Int,(mx x9_1 0)=j_:=⟨_,rfl⟩;replace H:(Bzz.l0 k1 l0 a1 ji14 ji15 (wrap64 (x10_1+1)) 0 (wrap64 (x12_1+1)))=some (r1,r2,r3):=by first|(rw[hji15] at H;exact H)|(simp only[hji15] at H ⊢;exact H)
        have hji15_:(if x9_1 < 0 then 0 else x9_1)=ji15:=hji15
        have H':=aM H;clear H;have p727:0≤(x12_1:Int):=oE aS
        have q727:x12_1 < (l0.length:Int):=oE aS
        obtain⟨ad727,e727,hx727_0⟩:=Kd.at_int HR0.out x12_1 p727 q727;cases e727
        replace hx727_0:=(HB.out.cell (World.block_lt_of_cell? w _ hx727_0)).trans hx727_0;replace p727:=eq_true p727;replace q727:=eq_true q727;have p729:0≤(x12_1:Int):=oE aS
        have q729:x12_1 < (l0.length:Int):=oE aS
        obtain⟨ad729,e729,hx729_0⟩:=Kd.at_int HR0.out x12_1 p729 q729;obtain rfl:ad727=ad729:=(by injection e729)
        replace hx729_0:=(HB.out.cell (World.block_lt_of_cell? w _ hx729_0)).trans hx729_0;replace p729:=eq_true p729;replace q729:=eq_true q729;go_wp2
        go_roundg k1
        case measure=>have:=HK1.out;omega
        case rel=>exact⟨(ji14),(ji15),(wrap64 (x10_1+1)),(0),(wrap64 (x12_1+1)),(by first|rfl|(simp;done)|(simp only[← hji14] <;> (first|rfl|simp))|(simp [*];done)),(by first|rfl|(simp;done)|(simp only[← hji15] <;> (first|rfl|simp))|(simp [*];done)),sD,sD,sD,H',⟨by have:=HK1.out;omega⟩,⟨pB⟩⟩
       ·rw[if_neg c13] at H;have c13b0:decide (a1≤(rd l0 x12_1))=false:=decide_eq_false c13;clear c13;obtain⟨ji16,hji16⟩:∃ j_:Int,(mx x8_1 (wrap64 (x10_1+1)))=j_:=⟨_,rfl⟩;replace H:(Bzz.l0 k1 l0 a1 ji16 (mx x9_1 (wrap64 (x11_1+1))) (wrap64 (x10_1+1)) (wrap64 (x11_1+1)) (wrap64 (x12_1+1)))=some (r1,r2,r3):=by first|(rw[hji16] at H;exact H)|(simp only[hji16] at H ⊢;exact H)
        have hji16_:(if x8_1 < (wrap64 (x10_1+1)) then(wrap64 (x10_1+1)) else x8_1)=ji16:=hji16
        obtain⟨ji17,hji17⟩:∃ j_:Int,(mx x9_1 (wrap64 (x11_1+1)))=j_:=⟨_,rfl⟩;replace H:(Bzz.l0 k1 l0 a1 ji16 ji17 (wrap64 (x10_1+1)) (wrap64 (x11_1+1)) (wrap64 (x12_1+1)))=some (r1,r2,r3):=by first|(rw[hji17] at H;exact H)|(simp only[hji17] at H ⊢;exact H)
        have hji17_:(if x9_1 < (wrap64 (x11_1+1)) then(wrap64 (x11_1+1)) else x9_1)=ji17:=hji17
        have H':=aM H;clear H;have p727:0≤(x12_1:Int):=oE aS
        have q727:x12_1 < (l0.length:Int):=oE aS
        obtain⟨ad727,e727,hx727_0⟩:=Kd.at_int HR0.out x12_1 p727 q727;cases e727
        replace hx727_0:=(HB.out.cell (World.block_lt_of_cell? w _ hx727_0)).trans hx727_0;replace p727:=eq_true p727;replace q727:=eq_true q727;have p729:0≤(x12_1:Int):=oE aS
        have q729:x12_1 < (l0.length:Int):=oE aS
        obtain⟨ad729,e729,hx729_0⟩:=Kd.at_int HR0.out x12_1 p729 q729;obtain rfl:ad727=ad729:=(by injection e729)
        replace hx729_0:=(HB.out.cell (World.block_lt_of_cell? w _ hx729_0)).trans hx729_0;replace p729:=eq_true p729;replace q729:=eq_true q729;go_wp2
        go_roundg k1
        case measure=>have:=HK1.out;omega
        case rel=>exact⟨(ji16),(ji17),(wrap64 (x10_1+1)),(wrap64 (x11_1+1)),(wrap64 (x12_1+1)),(by first|rfl|(simp;done)|(simp only[← hji16] <;> (first|rfl|simp))|(simp [*];done)),(by first|rfl|(simp;done)|(simp only[← hji17] <;> (first|rfl|simp))|(simp [*];done)),sD,sD,sD,H',⟨by have:=HK1.out;omega⟩,⟨pB⟩⟩
     ·rw[if_neg c6] at H;exact absurd H (by simp)
    ·rw[if_neg c5] at H;have c5b0:decide (x12_1 < (l0.length:Int))=false:=decide_eq_false c5;clear c5;simp only[Option.some.injEq,Prod.mk.injEq] at H;obtain⟨rfl,rfl,rfl⟩:=H;go_wp2
     go_ret3
     exact⟨eW,pB⟩
 ·rw[if_neg c4] at H;have c4b0:(t726 == 0)=false:=beq_eq_false_iff_ne.mpr c4;have c4b1:(t726 != 0)=true:=bne_iff_ne.mpr c4;simp only[Option.some.injEq,Prod.mk.injEq] at H;obtain⟨rfl,rfl,rfl⟩:=H;go_enter Try.func14,Try.ntmps14
  go_wp2_with (first|((with_reducible refine gate_callee (f:=33) rfl ?_);refine goesL_ (some 14) rfl rfl Try.func33 (by kernel_rfl) rfl #[.slice A0 l0.length c0] rfl mA ?_;(with_reducible refine(Azj.calls k _ _ l0 t726 _ ?side1 ?side2 A3.out).mono ?_);(case side1=>exact cX HR0.out);(case side2=>exact HC0.out);rintro e w' ⟨rfl,⟨nd,rfl⟩⟩;refine⟨_,rfl,?_⟩))
  go_ret3
  exact⟨eW,pB⟩

def papermilllaw60_StatsCounts.f (k:Nat) (l0:List Int) (a1:Int) (a2:Int):Option (Bool):=if(l0.length:Int) > 520 then((Azz.f k).bind fun t730=>(some t730)) else((Azb.f k l0 a1).bind fun bt731=>((Azw.f k l0 a1).bind fun bt733=>((Czz.f k l0 a2).bind fun bt735=>((Bzz.f k l0 a2).bind fun bt738=>(if bt731.1=bt733.1 then(if bt731.2=bt733.2 then(if bt735.1=bt738.1 then(if bt735.2.1=bt738.2.1 then(if bt735.2.2=bt738.2.2 then((Azz.f k).bind fun t741=>(some t741)) else(none)) else(none)) else(none)) else(none)) else(none))))))
theorem papermilllaw60_StatsCounts.mono:∀ a0 a1 a2 k,LeO (papermilllaw60_StatsCounts.f k a0 a1 a2) (papermilllaw60_StatsCounts.f (k+1) a0 a1 a2):=by
 intro a0 a1 a2 k;unfold papermilllaw60_StatsCounts.f;with_reducible repeat' first|exact Azz.mono _|exact Azw.mono _ _ _|exact Bzz.mono _ _ _|exact Azb.mono _ _ _|exact Czz.mono _ _ _|exact LeO.refl _|exact LeO.none _|refine LeO.ite ?_ ?_|refine LeO.bind ?_ (fun _=>?_)
theorem papermilllaw60_StatsCounts.calls (k:Nat) (A0:Option Addr) (c0:Nat) (l0:List Int) (a1:Int) (a2:Int) (r:Bool) (w:World) (hr0:Kd.C (Kd.int .i64) w A0 l0.length l0) (hc0:l0.length≤c0) (h:papermilllaw60_StatsCounts.f k l0 a1 a2=some r) :
  Calls Try.prog 3 #[.slice A0 l0.length c0,.int .i64 a1,.int .i64 a2] w fun e w'=>e=.returned (.bool r)∧Below w.heap.size w w':=by
 have HR0:=aM hr0;have HC0:=aM hc0;clear hr0 hc0;have HB:=aM (Below.refl w.heap.size w);have H:(if(l0.length:Int) > 520 then((Azz.f k).bind fun t730=>(some t730)) else((Azb.f k l0 a1).bind fun bt731=>((Azw.f k l0 a1).bind fun bt733=>((Czz.f k l0 a2).bind fun bt735=>((Bzz.f k l0 a2).bind fun bt738=>(if bt731.1=bt733.1 then(if bt731.2=bt733.2 then(if bt735.1=bt738.1 then(if bt735.2.1=bt738.2.1 then(if bt735.2.2=bt738.2.2 then((Azz.f k).bind fun t741=>(some t741)) else(none)) else(none)) else(none)) else(none)) else(none)))))))=some r:=h
 clear h;by_cases c4:(l0.length:Int) > 520
 ·rw[if_pos c4] at H;have c4b0:decide (520 < (l0.length:Int))=true:=dE c4;have c4b1:decide (520 < l0.length)=true:=dE (by omega)
  clear c4;replace H:=bS H;obtain⟨t730,A50,H⟩:=H;replace H:(some t730)=some r:=H;have A5:=aM A50;clear A50;obtain rfl:=Option.some.inj H;go_enter Try.func3,Try.ntmps3
  go_wp2_with (first|((with_reducible refine gate_callee (f:=10) rfl ?_);refine goesL_ (some 20) rfl rfl Try.func10 (by kernel_rfl) rfl #[] rfl mA ?_;(with_reducible refine(Azz.calls k  t730 _ A5.out).mono ?_);rintro e w6 ⟨rfl,hb⟩;refine⟨_,rfl,?_⟩;replace HB:=aM (below_step pB hb);(try clear hb);(try clear hb2);(try clear hk);(try clear hi)))
  go_ret
  exact⟨eW,pB⟩
 ·rw[if_neg c4] at H;have c4b0:decide (520 < (l0.length:Int))=false:=decide_eq_false c4;have c4b1:decide (520 < l0.length)=false:=decide_eq_false (by omega)
  clear c4;replace H:=bS H;obtain⟨⟨t731,t732⟩,A70,H⟩:=H;(try dsimp only at H);have A7:=aM A70;clear A70;replace H:=bS H;obtain⟨⟨t733,t734⟩,A80,H⟩:=H;(try dsimp only at H);have A8:=aM A80;clear A80;replace H:=bS H;obtain⟨⟨t735,t736,t737⟩,A90,H⟩:=H;(try dsimp only at H);have A9:=aM A90;clear A90;replace H:=bS H;obtain⟨⟨t738,t739,t740⟩,A100,H⟩:=H;(try dsimp only at H);have A10:=aM A100;clear A100;by_cases c11:t731=t733
  ·rw[if_pos c11] at H;have c11b0:(t731 == t733)=true:=beq_iff_eq.mpr c11;have c11b1:(t731 != t733)=false:=bne_eq_false_iff_eq.mpr c11;clear c11;by_cases c12:t732=t734
   ·rw[if_pos c12] at H;have c12b0:(t732 == t734)=true:=beq_iff_eq.mpr c12;have c12b1:(t732 != t734)=false:=bne_eq_false_iff_eq.mpr c12;clear c12;by_cases c13:t735=t738
    ·rw[if_pos c13] at H;have c13b0:(t735 == t738)=true:=beq_iff_eq.mpr c13;have c13b1:(t735 != t738)=false:=bne_eq_false_iff_eq.mpr c13;clear c13;by_cases c14:t736=t739
     ·rw[if_pos c14] at H;have c14b0:(t736 == t739)=true:=beq_iff_eq.mpr c14;have c14b1:(t736 != t739)=false:=bne_eq_false_iff_eq.mpr c14;clear c14;by_cases c15:t737=t740
      ·rw[if_pos c15] at H;have c15b0:(t737 == t740)=true:=beq_iff_eq.mpr c15;have c15b1:(t737 != t740)=false:=bne_eq_false_iff_eq.mpr c15;clear c15;replace H:=bS H;obtain⟨t741,A160,H⟩:=H;replace H:(some t741)=some r:=H;have A16:=aM A160;clear A160;obtain rfl:=Option.some.inj H;go_enter Try.func3,Try.ntmps3
       go_wp2_with (first|((with_reducible refine gate_callee (f:=11) rfl ?_);refine goesL_ (some 24) rfl rfl Try.func11 (by kernel_rfl) rfl #[.slice A0 l0.length c0,.int .i64 a1] rfl mA ?_;(with_reducible refine(Azb.calls k _ _ l0 a1 t731 t732 _ ?side1 ?side2 A7.out).mono ?_);(case side1=>exact cX HR0.out);(case side2=>exact HC0.out);rintro e w17 ⟨rfl,hb⟩;refine⟨_,rfl,?_⟩;replace HB:=aM (below_step pB hb);(try clear hb);(try clear hb2);(try clear hk);(try clear hi))|((with_reducible refine gate_callee (f:=12) rfl ?_);refine goesL_ (some 30) rfl rfl Try.func12 (by kernel_rfl) rfl #[.slice A0 l0.length c0,.int .i64 a1] rfl mA ?_;(with_reducible refine(Azw.calls k _ _ l0 a1 t733 t734 _ ?side1 ?side2 A8.out).mono ?_);(case side1=>exact cX (Kd.C_below HR0.out HB.out));(case side2=>exact HC0.out);rintro e w' ⟨rfl,⟨nd,rfl⟩⟩;refine⟨_,rfl,?_⟩)|((with_reducible refine gate_callee (f:=13) rfl ?_);refine goesL_ (some 36) rfl rfl Try.func13 (by kernel_rfl) rfl #[.slice A0 l0.length c0,.int .i64 a2] rfl mA ?_;(with_reducible refine(Czz.calls k _ _ l0 a2 t735 t736 t737 _ ?side1 ?side2 A9.out).mono ?_);(case side1=>repeat(first|exact(Kd.C_below HR0.out pB)|(with_reducible refine Kd.C_alloc ?_ _)|(with_reducible refine Kd.C_drewN ?_ _)|(with_reducible refine Kd.C_drew ?_)));(case side2=>exact HC0.out);rintro e w18 ⟨rfl,hb⟩;refine⟨_,rfl,?_⟩;replace HB:=aM (below_step pB hb);(try clear hb);(try clear hb2);(try clear hk);(try clear hi))|((with_reducible refine gate_callee (f:=14) rfl ?_);refine goesL_ (some 43) rfl rfl Try.func14 (by kernel_rfl) rfl #[.slice A0 l0.length c0,.int .i64 a2] rfl mA ?_;(with_reducible refine(Bzz.calls k _ _ l0 a2 t738 t739 t740 _ ?side1 ?side2 A10.out).mono ?_);(case side1=>exact cX (Kd.C_below HR0.out HB.out));(case side2=>exact HC0.out);rintro e w19 ⟨rfl,hb⟩;refine⟨_,rfl,?_⟩;replace HB:=aM (below_step pB hb);(try clear hb);(try clear hb2);(try clear hk);(try clear hi))|(go_at_call 10;(with_reducible refine(Azz.calls k  t741 _ A16.out).mono ?_);rintro e w20 ⟨rfl,hb⟩;replace HB:=aM (below_step pB hb);(try clear hb);(try clear hb2);(try clear hk);(try clear hi)))
       go_ret
       exact⟨eW,pB⟩
      ·rw[if_neg c15] at H;exact absurd H (by simp)
     ·rw[if_neg c14] at H;exact absurd H (by simp)
    ·rw[if_neg c13] at H;exact absurd H (by simp)
   ·rw[if_neg c12] at H;exact absurd H (by simp)
  ·rw[if_neg c11] at H;exact absurd H (by simp)

/-- THE ONE PURE STATEMENT of papermilllaw60_StatsCounts: yours. -/
def papermilllaw60_StatsCounts.Pure:Prop:=∀ (l0:List Int) (a1:Int) (a2:Int),l0.length≤maxLen→l0.length * 8≤140737488351232→(∀ x ∈ l0,(Lit.int .i64 x).wf=true)→(Lit.int .i64 a1).wf=true→(Lit.int .i64 a2).wf=true→∃ k,papermilllaw60_StatsCounts.f k l0 a1 a2=some true
theorem papermilllaw60_StatsCounts.walk (P:papermilllaw60_StatsCounts.Pure) (a0:Option Addr) (len0 cap0:Nat) (z0:List Int) (a1:Int) (a2:Int) (w:World) (w0:(a0=none∧len0=0∧cap0=0∧z0=[])∨∃ x,a0=some x∧len0≤cap0∧cap0≤maxLen∧z0.length=cap0∧(∀ i,i < z0.length→w.cell? (x.add i)=some (.int .i64 (z0.getD i 0)))∧∀ n ∈ z0,(Lit.int .i64 n).wf=true) (y0:len0 * 8≤140737488351232) (w1:(Lit.int .i64 a1).wf=true) (w2:(Lit.int .i64 a2).wf=true) :
  Calls Try.prog 3 #[.slice a0 len0 cap0,.int .i64 a1,.int .i64 a2] w fun e w'=>e=.returned (.bool true)∧Below w.heap.size w w':=by
 obtain⟨l0,rfl,hr0,hm0,hw0,hc0⟩:=ReadsInt.ofRowC w0;obtain⟨k,h⟩:=P l0 a1 a2 hm0 y0 hw0 w1 w2;refine(papermilllaw60_StatsCounts.calls k _ _ l0 a1 a2 true w (Kd.C_of_reads (d:=(0:Int)) (h1:=fun _=>rfl) hr0) hc0 h).mono ?_
 rintro e w' ⟨rfl,hd⟩;exact⟨rfl,hd⟩

end Go.Proofs.Ytokkiljkgejnhaa.Print
