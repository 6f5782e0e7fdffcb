import Derived.Test.YtpnfdhhfdidlmaaPrint0
import Derived.Test.YtpnfdhhfdidlmaaPrint17
import Derived.Test.YtpnfdhhfdidlmaaPrint18
import Derived.Test.YtpnfdhhfdidlmaaPrint19
import Derived.Test.YtpnfdhhfdidlmaaPrint22
namespace Go.Proofs.Ytpnfdhhfdidlmaa.Print
open Go.RowKit Go.Proofs.YtpnfdhhfdidlmaaW.PrintWords Go.Proofs.YtpnfdhhfdidlmaaW.PrintLast Go.Proofs.YtpnfdhhfdidlmaaW.PrintMore
attribute [local go_sem] max2_int min2_int max_two min_two max_three min_three max_four min_four
set_option linter.unusedVariables false
set_option maxRecDepth 100000
set_option linter.unusedSimpArgs false

mutual
def Azw.l0:Nat→List Int→Int→Int→List Int→Int→Int→List (List Int)→Int→List (List Int)→Option (Int × (List (List Int)) × List Int × Int)
 | 0,_,_,_,_,_,_,_,_,_=>none
 | k+1,x1,x8,x10,x11,x13,x432000,x432001,x441000,x441001=>if x13 < (x432001.length:Int) then(if 0≤x8 then(if(x8:Int).toNat≤35184372088832 then(if 0≤x13 then((Azp.f k (rd_L1 x432001 x13)).bind fun t445=>(if t445≤x10 then(Azw.l1 k x1 x8 x10 x11 x13 (rd_L1 x432001 x13) (List.replicate (x8:Int).toNat 0) 0 x432000 x432001 x441000 x441001) else(if x10 > 0 then((Azm.f k x10 (rd_L1 x432001 x13)).bind fun t463=>(Azw.l52 k x1 x8 x10 x11 x13 t463 (List.replicate (x8:Int).toNat 0) 0 x432000 x432001 x441000 x441001)) else(Azw.l53 k x1 x8 x10 x11 x13 (List.replicate (x8:Int).toNat 0) (List.replicate (x8:Int).toNat 0) 0 x432000 x432001 x441000 x441001)))) else(none)) else(none)) else(none)) else((Azp.f k x1).bind fun t496=>(if t496 > 0 then((some (([]:List Int):List Int)).bind fun y497=>(if y497.length+x1.length < 17592186044416 then(if x441001.length < 5864062014805 then((some (x441001 ++ [(y497 ++ x1)]:List (List Int))).bind fun y503=>(if(y503.length:Int) > 256 then(some (0,([]:List (List Int)),([]:List Int),8)) else(some (x441000,y503,x11,0)))) else(none)) else(none))) else(if(x441001.length:Int) > 256 then(some (0,([]:List (List Int)),([]:List Int),8)) else(some (x441000,x441001,x11,0)))))
def Azw.l1:Nat→List Int→Int→Int→List Int→Int→List Int→List Int→Int→Int→List (List Int)→Int→List (List Int)→Option (Int × (List (List Int)) × List Int × Int)
 | 0,_,_,_,_,_,_,_,_,_,_,_,_=>none
 | k+1,x1,x8,x10,x11,x13,x14,x16,x17,x432000,x432001,x441000,x441001=>if x17 < x8 then(if 0≤x17 then(if x17 < (x11.length:Int) then(if x17 < (x14.length:Int) then(if 0≤x13 then(if x13 < (x432001.length:Int) then(if x17 < ((rd_L1 x432001 x13).length:Int) then(if x17 < (x16.length:Int) then(Azw.l1 k x1 x8 x10 (x11.set (x17:Int).toNat (wrap64 ((rd x11 x17)+(rd x14 x17)))) x13 x14 (x16.set (x17:Int).toNat (wrap64 ((rd (rd_L1 x432001 x13) x17) - (rd x14 x17)))) (wrap64 (x17+1)) x432000 x432001 x441000 x441001) else(none)) else(none)) else(none)) else(none)) else(none)) else(none)) else(none)) else((Azp.f k x14).bind fun t457=>((Azp.f k x16).bind fun t458=>(if t458 > 0 then(if x441001.length < 5864062014805 then(Azw.l0 k x1 x8 (wrap64 (x10 - t457)) x11 (wrap64 (x13+1)) x432000 x432001 x441000 (x441001 ++ [x16])) else(none)) else(Azw.l0 k x1 x8 (wrap64 (x10 - t457)) x11 (wrap64 (x13+1)) x432000 x432001 x441000 x441001))))
def Azw.l52:Nat→List Int→Int→Int→List Int→Int→List Int→List Int→Int→Int→List (List Int)→Int→List (List Int)→Option (Int × (List (List Int)) × List Int × Int)
 | 0,_,_,_,_,_,_,_,_,_,_,_,_=>none
 | k+1,x1,x8,x10,x11,x13,x14,x16,x17,x432000,x432001,x441000,x441001=>if x17 < x8 then(if 0≤x17 then(if x17 < (x11.length:Int) then(if x17 < (x14.length:Int) then(if 0≤x13 then(if x13 < (x432001.length:Int) then(if x17 < ((rd_L1 x432001 x13).length:Int) then(if x17 < (x16.length:Int) then(Azw.l52 k x1 x8 x10 (x11.set (x17:Int).toNat (wrap64 ((rd x11 x17)+(rd x14 x17)))) x13 x14 (x16.set (x17:Int).toNat (wrap64 ((rd (rd_L1 x432001 x13) x17) - (rd x14 x17)))) (wrap64 (x17+1)) x432000 x432001 x441000 x441001) else(none)) else(none)) else(none)) else(none)) else(none)) else(none)) else(none)) else((Azp.f k x14).bind fun t476=>((Azp.f k x16).bind fun t477=>(if t477 > 0 then(if x441001.length < 5864062014805 then(Azw.l0 k x1 x8 (wrap64 (x10 - t476)) x11 (wrap64 (x13+1)) x432000 x432001 x441000 (x441001 ++ [x16])) else(none)) else(Azw.l0 k x1 x8 (wrap64 (x10 - t476)) x11 (wrap64 (x13+1)) x432000 x432001 x441000 x441001))))
def Azw.l53:Nat→List Int→Int→Int→List Int→Int→List Int→List Int→Int→Int→List (List Int)→Int→List (List Int)→Option (Int × (List (List Int)) × List Int × Int)
 | 0,_,_,_,_,_,_,_,_,_,_,_,_=>none
 | k+1,x1,x8,x10,x11,x13,x14,x16,x17,x432000,x432001,x441000,x441001=>if x17 < x8 then(if 0≤x17 then(if x17 < (x11.length:Int) then(if x17 < (x14.length:Int) then(if 0≤x13 then(if x13 < (x432001.length:Int) then(if x17 < ((rd_L1 x432001 x13).length:Int) then(if x17 < (x16.length:Int) then(Azw.l53 k x1 x8 x10 (x11.set (x17:Int).toNat (wrap64 ((rd x11 x17)+(rd x14 x17)))) x13 x14 (x16.set (x17:Int).toNat (wrap64 ((rd (rd_L1 x432001 x13) x17) - (rd x14 x17)))) (wrap64 (x17+1)) x432000 x432001 x441000 x441001) else(none)) else(none)) else(none)) else(none)) else(none)) else(none)) else(none)) else((Azp.f k x14).bind fun t491=>((Azp.f k x16).bind fun t492=>(if t492 > 0 then(if x441001.length < 5864062014805 then(Azw.l0 k x1 x8 (wrap64 (x10 - t491)) x11 (wrap64 (x13+1)) x432000 x432001 x441000 (x441001 ++ [x16])) else(none)) else(Azw.l0 k x1 x8 (wrap64 (x10 - t491)) x11 (wrap64 (x13+1)) x432000 x432001 x441000 x441001))))
end
def Azw.f (k:Nat) (a0_0:Int) (l0_1:List (List Int)) (l1:List Int):Option (Int × (List (List Int)) × List Int × Int):=(Azf.f k a0_0 l0_1).bind fun t433=>(if t433=0 then(if 0 < (l0_1.length:Int) then((Czv.f k l1 ((rd_L1 l0_1 0).length:Int)).bind fun t435=>(if t435=0 then((Azp.f k l1).bind fun t436=>(if t436 > a0_0 then(some (0,([]:List (List Int)),([]:List Int),8)) else(if 0≤((rd_L1 l0_1 0).length:Int) then(if(((rd_L1 l0_1 0).length:Int):Int).toNat≤35184372088832 then(Azw.l0 k l1 ((rd_L1 l0_1 0).length:Int) t436 (List.replicate (((rd_L1 l0_1 0).length:Int):Int).toNat 0) 0 a0_0 l0_1 a0_0 ([]:List (List Int))) else(none)) else(none)))) else(some (0,([]:List (List Int)),([]:List Int),t435)))) else(none)) else(some (0,([]:List (List Int)),([]:List Int),t433)))
theorem Azw.mono_l:∀ k,(∀ y0 y1 y2 y3 y4 y5 y6 y7 y8,LeO (Azw.l0 k y0 y1 y2 y3 y4 y5 y6 y7 y8) (Azw.l0 (k+1) y0 y1 y2 y3 y4 y5 y6 y7 y8))∧(∀ y0 y1 y2 y3 y4 y5 y6 y7 y8 y9 y10 y11,LeO (Azw.l1 k y0 y1 y2 y3 y4 y5 y6 y7 y8 y9 y10 y11) (Azw.l1 (k+1) y0 y1 y2 y3 y4 y5 y6 y7 y8 y9 y10 y11))∧(∀ y0 y1 y2 y3 y4 y5 y6 y7 y8 y9 y10 y11,LeO (Azw.l52 k y0 y1 y2 y3 y4 y5 y6 y7 y8 y9 y10 y11) (Azw.l52 (k+1) y0 y1 y2 y3 y4 y5 y6 y7 y8 y9 y10 y11))∧(∀ y0 y1 y2 y3 y4 y5 y6 y7 y8 y9 y10 y11,LeO (Azw.l53 k y0 y1 y2 y3 y4 y5 y6 y7 y8 y9 y10 y11) (Azw.l53 (k+1) y0 y1 y2 y3 y4 y5 y6 y7 y8 y9 y10 y11))
 | 0=>⟨fun _ _ _ _ _ _ _ _ _ r h=>by simp [Azw.l0] at h,fun _ _ _ _ _ _ _ _ _ _ _ _ r h=>by simp [Azw.l1] at h,fun _ _ _ _ _ _ _ _ _ _ _ _ r h=>by simp [Azw.l52] at h,fun _ _ _ _ _ _ _ _ _ _ _ _ r h=>by simp [Azw.l53] at h⟩
 | k+1=>by
  obtain⟨ih0,ih1,ih2,ih3⟩:=Azw.mono_l k;refine⟨?_,?_,?_,?_⟩
  ·intro y0 y1 y2 y3 y4 y5 y6 y7 y8;unfold Azw.l0;with_reducible repeat' first|exact ih0 _ _ _ _ _ _ _ _ _|exact ih1 _ _ _ _ _ _ _ _ _ _ _ _|exact ih2 _ _ _ _ _ _ _ _ _ _ _ _|exact ih3 _ _ _ _ _ _ _ _ _ _ _ _|exact Czv.mono _ _ _|exact Azm.mono _ _ _|exact Azp.mono _ _|exact Azf.mono _ _ _|exact LeO.refl _|exact LeO.none _|refine LeO.ite ?_ ?_|refine LeO.bind ?_ (fun _=>?_)
  ·intro y0 y1 y2 y3 y4 y5 y6 y7 y8 y9 y10 y11;unfold Azw.l1;with_reducible repeat' first|exact ih0 _ _ _ _ _ _ _ _ _|exact ih1 _ _ _ _ _ _ _ _ _ _ _ _|exact ih2 _ _ _ _ _ _ _ _ _ _ _ _|exact ih3 _ _ _ _ _ _ _ _ _ _ _ _|exact Czv.mono _ _ _|exact Azm.mono _ _ _|exact Azp.mono _ _|exact Azf.mono _ _ _|exact LeO.refl _|exact LeO.none _|refine LeO.ite ?_ ?_|refine LeO.bind ?_ (fun _=>?_)
  ·intro y0 y1 y2 y3 y4 y5 y6 y7 y8 y9 y10 y11;unfold Azw.l52;with_reducible repeat' first|exact ih0 _ _ _ _ _ _ _ _ _|exact ih1 _ _ _ _ _ _ _ _ _ _ _ _|exact ih2 _ _ _ _ _ _ _ _ _ _ _ _|exact ih3 _ _ _ _ _ _ _ _ _ _ _ _|exact Czv.mono _ _ _|exact Azm.mono _ _ _|exact Azp.mono _ _|exact Azf.mono _ _ _|exact LeO.refl _|exact LeO.none _|refine LeO.ite ?_ ?_|refine LeO.bind ?_ (fun _=>?_)
  ·intro y0 y1 y2 y3 y4 y5 y6 y7 y8 y9 y10 y11;unfold Azw.l53;with_reducible repeat' first|exact ih0 _ _ _ _ _ _ _ _ _|exact ih1 _ _ _ _ _ _ _ _ _ _ _ _|exact ih2 _ _ _ _ _ _ _ _ _ _ _ _|exact ih3 _ _ _ _ _ _ _ _ _ _ _ _|exact Czv.mono _ _ _|exact Azm.mono _ _ _|exact Azp.mono _ _|exact Azf.mono _ _ _|exact LeO.refl _|exact LeO.none _|refine LeO.ite ?_ ?_|refine LeO.bind ?_ (fun _=>?_)
theorem Azw.mono:∀ a0 a1 a2 k,LeO (Azw.f k a0 a1 a2) (Azw.f (k+1) a0 a1 a2):=by
 intro a0 a1 a2 k;obtain⟨ih0,ih1,ih2,ih3⟩:=Azw.mono_l k;unfold Azw.f;with_reducible repeat' first|exact ih0 _ _ _ _ _ _ _ _ _|exact ih1 _ _ _ _ _ _ _ _ _ _ _ _|exact ih2 _ _ _ _ _ _ _ _ _ _ _ _|exact ih3 _ _ _ _ _ _ _ _ _ _ _ _|exact Czv.mono _ _ _|exact Azm.mono _ _ _|exact Azp.mono _ _|exact Azf.mono _ _ _|exact LeO.refl _|exact LeO.none _|refine LeO.ite ?_ ?_|refine LeO.bind ?_ (fun _=>?_)
def Azw.T26:Bool × List (List Nat × List Nat):=(true,[([],[]),([],[]),([],[]),([],[]),([2,3],[2,3]),([4],[4]),([],[]),([],[]),([6,7],[6,7]),([8],[8]),([5,9],[5,9]),([0,1,0,1,2,3,4,5,6,7,8,9,10],[0,1]),([11,10,0,1,2,3,4,5,6,7,8,9,10],[10,11])])
def Azw.B26:List Nat:=[0,0,0,0,12,28,0,0,192,448,1020,2047,4095]
theorem Azw.tab26:rtab .any (opsOf Try.f19 26)=Azw.T26:=by kernel_rfl
theorem Azw.bits26:waitsOk Azw.T26.2 Azw.B26=true:=by kernel_rfl
def Azw.T27:Bool × List (List Nat × List Nat):=(true,[([],[]),([],[]),([],[]),([2],[2]),([],[]),([3,4],[3,4]),([5],[5]),([],[]),([6,7],[6,7]),([8],[8]),([],[]),([],[]),([10,11],[10,11]),([12],[12]),([9,13],[9,13]),([0,1,0,1,2,3,4,5,6,7,8,9,10,11,12,13,14],[0,1]),([15,14,0,1,2,3,4,5,6,7,8,9,10,11,12,13,14],[14,15])])
def Azw.B27:List Nat:=[0,0,0,4,0,28,60,0,252,508,0,0,3072,7168,16380,32767,65535]
theorem Azw.tab27:rtab .any (opsOf Try.f19 27)=Azw.T27:=by kernel_rfl
theorem Azw.bits27:waitsOk Azw.T27.2 Azw.B27=true:=by kernel_rfl
def Azw.T32:Bool × List (List Nat × List Nat):=(true,[([],[]),([0],[0]),([],[]),([],[]),([2,3],[2,3]),([4],[4]),([1,5,4],[1,5]),([0,1,2,3,4,5,6],[]),([7,6,6,0,1,2,3,4,5,6],[6,7])])
def Azw.B32:List Nat:=[0,1,0,0,12,28,63,127,255]
theorem Azw.tab32:rtab .any (opsOf Try.f19 32)=Azw.T32:=by kernel_rfl
theorem Azw.bits32:waitsOk Azw.T32.2 Azw.B32=true:=by kernel_rfl
set_option maxHeartbeats 64000000 in
theorem Azw.calls (k:Nat) (a0_0:Int) (A0_1:Option Addr) (c0_1:Nat) (l0_1:List (List Int)) (A1:Option Addr) (c1:Nat) (l1:List Int) (r1:Int) (r2:List (List Int)) (r3:List Int) (r4:Int) (w:World) (hr0_1:Kd.C (Kd.slice 3 (Kd.int .i64)) w A0_1 l0_1.length l0_1) (hc0_1:l0_1.length≤c0_1) (hr1:Kd.C (Kd.int .i64) w A1 l1.length l1) (hc1:l1.length≤c1) (h:Azw.f k a0_0 l0_1 l1=some (r1,r2,r3,r4)) :
  Calls Try.prog 19 #[.agg #[.int .i64 a0_0,.slice A0_1 l0_1.length c0_1],.slice A1 l1.length c1] w fun e w'=>∃ v1_ v2_:Value,e=.returned (.tuple #[.agg #[.int .i64 r1,v1_],v2_,.int .i64 r4])∧Kd.S (Kd.slice 3 (Kd.int .i64)) 29 w' w.heap.size (fun k_=>some k_≠(v2_:Value).ownBlock) v1_ r2∧Kd.R (Kd.int .i64) 3 w' w.heap.size (fun _=>True) v2_ r3∧Below w.heap.size w w':=by
 have hu24:=Try.underlying24;have HR0_1:=aM hr0_1;have HC0_1:=aM hc0_1;clear hr0_1 hc0_1;have HR1:=aM hr1;have HC1:=aM hc1;clear hr1 hc1;have HB:=aM (Below.refl w.heap.size w);have H:((Azf.f k a0_0 l0_1).bind fun t433=>(if t433=0 then(if 0 < (l0_1.length:Int) then((Czv.f k l1 ((rd_L1 l0_1 0).length:Int)).bind fun t435=>(if t435=0 then((Azp.f k l1).bind fun t436=>(if t436 > a0_0 then(some (0,([]:List (List Int)),([]:List Int),8)) else(if 0≤((rd_L1 l0_1 0).length:Int) then(if(((rd_L1 l0_1 0).length:Int):Int).toNat≤35184372088832 then(Azw.l0 k l1 ((rd_L1 l0_1 0).length:Int) t436 (List.replicate (((rd_L1 l0_1 0).length:Int):Int).toNat 0) 0 a0_0 l0_1 a0_0 ([]:List (List Int))) else(none)) else(none)))) else(some (0,([]:List (List Int)),([]:List Int),t435)))) else(none)) else(some (0,([]:List (List Int)),([]:List Int),t433))))=some (r1,r2,r3,r4):=h
 clear h;replace H:=bS H;obtain⟨t433,A30,H⟩:=H;try dsimp only at H
 have A3:=aM A30;clear A30;by_cases c4:t433=0
 ·rw[if_pos c4] at H;have c4b0:(t433 == 0)=true:=beq_iff_eq.mpr c4;have c4b1:(t433 != 0)=false:=bne_eq_false_iff_eq.mpr c4;clear c4;by_cases c5:0 < (l0_1.length:Int)
  ·rw[if_pos c5] at H;have c5b0:decide (0 < (l0_1.length:Int))=true:=dE c5;have c5b1:decide (0 < l0_1.length)=true:=dE (by omega)
   clear c5;replace H:=bS H;obtain⟨t435,A60,H⟩:=H;try dsimp only at H
   have A6:=aM A60;clear A60;by_cases c7:t435=0
   ·rw[if_pos c7] at H;have c7b0:(t435 == 0)=true:=beq_iff_eq.mpr c7;have c7b1:(t435 != 0)=false:=bne_eq_false_iff_eq.mpr c7;clear c7;replace H:=bS H;obtain⟨t436,A80,H⟩:=H;try dsimp only at H
    have A8:=aM A80;clear A80;by_cases c9:t436 > a0_0
    ·rw[if_pos c9] at H;have c9b0:decide (a0_0 < t436)=true:=dE c9;clear c9;simp only[Option.some.injEq,Prod.mk.injEq] at H;obtain⟨rfl,rfl,rfl,rfl⟩:=H;go_enter Try.func19,Try.ntmps19
     go_wp2_with (first|((with_reducible refine gate_dst (N:=2) rfl ?_);refine box_event ?hg (N:=2) ?hd (cs:=#[.int .i64 a0_0,.slice A0_1 l0_1.length c0_1]) (t:=24) ?hr ?_;(case hd=>rfl);(case hg=>rfl);(case hr=>first|(go_simp;done)|(go_simp;rfl));intro gb431 hg w10 hbox hb;have BK431:=aM (hbox);have GW431:=aM (gW hg:w.heap.size≤gb431);have GE431:=aM (gW hg:w.heap.size≤gb431);replace HB:=aM (below_step pB hb);clear hb hbox hg)|((with_reducible refine gate_dst (N:=4) rfl ?_);refine box_event ?hg (N:=4) ?hd (cs:=#[.int .i64 0,.slice none 0 0]) (t:=24) ?hr ?_;(case hd=>rfl);(case hg=>rfl);(case hr=>first|(go_simp;done)|(go_simp;rfl));intro gb432 hg w11 hbox hb;have BK432:=aM (hbox);have GW432:=aM (gW hg:w.heap.size≤gb432);have GE432:=aM (gW hg:w.heap.size≤gb432);have NB431_432:=aM (nL hg BK431:gb431≠gb432);have NB432_431:=aM (nG hg BK431:gb432≠gb431);replace BK431:=aM (kB BK431 hb);replace HB:=aM (below_step pB hb);clear hb hbox hg;have hnb12:=NB431_432.out;have hnc12:=NB432_431.out;obtain⟨hcz13_0,hcz13_1,hfz13_0,hfz13_1⟩:=bk2 BK431)|((with_reducible refine gate_callee (f:=14) rfl ?_);refine goesL_ (some 19) rfl rfl Try.func14 (by kernel_rfl) rfl #[.agg #[.int .i64 a0_0,.slice A0_1 l0_1.length c0_1]] rfl mA ?_;(with_reducible refine(Azf.calls k a0_0 _ _ l0_1 t433 _ ?side1 ?side2 A3.out).mono ?_);(case side1=>exact cX (Kd.C_below HR0_1.out HB.out));(case side2=>exact HC0_1.out);rintro e w14 ⟨rfl,hb⟩;refine⟨_,rfl,?_⟩;replace BK431:=aM (kB BK431 hb);replace BK432:=aM (kB BK432 hb);replace HB:=aM (below_step pB hb);(try clear hb);(try clear hb2);(try clear hk);(try clear hi);obtain⟨hcz15_0,hcz15_1,hfz15_0,hfz15_1⟩:=bk2 BK431;have p434:0≤(0:Int):=(by omega);have q434:0 < (l0_1.length:Int):=oE aS;obtain⟨ad434,A434_0,c434_0,e434,hx434_0,hl434_0,hi434_0⟩:=at_L1 HR0_1.out 0 p434 q434;cases e434;have qi434:(0 < l0_1.length)=True:=eq_true (by omega);(try rw[show((0:Int)).toNat=0 from rfl] at hx434_0);(try rw[Addr.add_zero'] at hx434_0);replace hx434_0:=(HB.out.cell (World.block_lt_of_cell? w _ hx434_0)).trans hx434_0;have HR434_0:=aM hi434_0;have HC434_0:=aM hl434_0;clear hi434_0 hl434_0;replace p434:=eq_true p434;replace q434:=eq_true q434)|((with_reducible refine gate_callee (f:=28) rfl ?_);refine goesL_ (some 31) rfl rfl Try.func28 (by kernel_rfl) rfl #[.slice A1 l1.length c1,.int .i64 ((rd_L1 l0_1 0).length:Int)] rfl mA ?_;(with_reducible refine(Czv.calls k _ _ l1 ((rd_L1 l0_1 0).length:Int) t435 _ ?side1 ?side2 A6.out).mono ?_);(case side1=>exact cX (Kd.C_below HR1.out HB.out));(case side2=>exact HC1.out);rintro e w' ⟨rfl,⟨nd,rfl⟩⟩;refine⟨_,rfl,?_⟩;(try(rw[drewN_self w14];generalize hq_:World.drewN w14 _=w14;have n0_:Aside0 (w14.heap[gb431]?=some (.cells #[.int .i64 a0_0,.slice (some ad434) l0_1.length c0_1] 24 (0,0))):=⟨by rw[← hq_];exact(kW BK431)⟩;have n1_:Aside0 (w14.heap[gb432]?=some (.cells #[.int .i64 0,.slice none 0 0] 24 (0,0))):=⟨by rw[← hq_];exact(kW BK432)⟩;have n2_:Aside0 (Below w.heap.size w w14):=⟨by rw[← hq_];exact pB⟩;clear BK431 BK432 HB hq_;have BK431:=n0_;have BK432:=n1_;have HB:=n2_;clear n0_ n1_ n2_;have hcqgb431_0:w14.cell? ⟨gb431,0,none⟩=some (.int .i64 a0_0):=(blk_cell BK431.out 0).trans rfl;have hfqgb431_0:=blk_frozen BK431.out 0;have hcqgb431_1:w14.cell? ⟨gb431,1,none⟩=some (.slice (some ad434) l0_1.length c0_1):=(blk_cell BK431.out 1).trans rfl;have hfqgb431_1:=blk_frozen BK431.out 1;have hcqgb432_0:w14.cell? ⟨gb432,0,none⟩=some (.int .i64 0):=(blk_cell BK432.out 0).trans rfl;have hfqgb432_0:=blk_frozen BK432.out 0;have hcqgb432_1:w14.cell? ⟨gb432,1,none⟩=some (.slice none 0 0):=(blk_cell BK432.out 1).trans rfl;have hfqgb432_1:=blk_frozen BK432.out 1)))|((with_reducible refine gate_callee (f:=21) rfl ?_);refine goesL_ (some 37) rfl rfl Try.func21 (by kernel_rfl) rfl #[.slice A1 l1.length c1] rfl mA ?_;(with_reducible refine(Azp.calls k _ _ l1 t436 _ ?side1 ?side2 A8.out).mono ?_);(case side1=>exact cX (Kd.C_below HR1.out HB.out));(case side2=>exact HC1.out);rintro e w' ⟨rfl,⟨nd,rfl⟩⟩;refine⟨_,rfl,?_⟩;(try(rw[drewN_self w14];generalize hq_:World.drewN w14 _=w14;have n0_:Aside0 (w14.heap[gb431]?=some (.cells #[.int .i64 a0_0,.slice (some ad434) l0_1.length c0_1] 24 (0,0))):=⟨by rw[← hq_];exact(kW BK431)⟩;have n1_:Aside0 (w14.heap[gb432]?=some (.cells #[.int .i64 0,.slice none 0 0] 24 (0,0))):=⟨by rw[← hq_];exact(kW BK432)⟩;have n2_:Aside0 (Below w.heap.size w w14):=⟨by rw[← hq_];exact pB⟩;clear BK431 BK432 HB hq_;have BK431:=n0_;have BK432:=n1_;have HB:=n2_;clear n0_ n1_ n2_;have hcqgb431_0:w14.cell? ⟨gb431,0,none⟩=some (.int .i64 a0_0):=(blk_cell BK431.out 0).trans rfl;have hfqgb431_0:=blk_frozen BK431.out 0;have hcqgb431_1:w14.cell? ⟨gb431,1,none⟩=some (.slice (some ad434) l0_1.length c0_1):=(blk_cell BK431.out 1).trans rfl;have hfqgb431_1:=blk_frozen BK431.out 1;have hcqgb432_0:w14.cell? ⟨gb432,0,none⟩=some (.int .i64 0):=(blk_cell BK432.out 0).trans rfl;have hfqgb432_0:=blk_frozen BK432.out 0;have hcqgb432_1:w14.cell? ⟨gb432,1,none⟩=some (.slice none 0 0):=(blk_cell BK432.out 1).trans rfl;have hfqgb432_1:=blk_frozen BK432.out 1));obtain⟨hcz16_0,hcz16_1,hfz16_0,hfz16_1⟩:=bk2 BK432))
     refine bodyPost_ret (results_ctt rfl _ _ gb432 24 #[.int .i64 0,.slice none 0 0] (0,0) _ rfl (by refine bD ?_;refine blk_put (cs:=#[.int .i64 0,.slice none 0 0]) ?_ 1 _ rfl;refine bD ?_;refine blk_put (cs:=#[.int .i64 0,.slice none 0 0]) ?_ 0 _ rfl;(with_reducible repeat(first|refine blk_drewN ?_ _|refine blk_drew ?_|refine blk_alloc ?_ _));exact BK432.out) Try.underlying24 rfl (by kernel_rfl)) rfl ?_
     exact⟨_,_,eW,by first|exact Kd.S_nil _ _ _ _ _|exact Kd.N_nil _ _ _ _ _|exact Kd.V_nil _ _ _ _ _|exact Kd.Q_nil _ _ _ _ _|exact Kd.R_nil _ _ _ _ _,by first|exact Kd.R_nil _ _ _ _ _|exact Kd.N_nil _ _ _ _ _|exact Kd.V_nil _ _ _ _ _|exact Kd.Q_nil _ _ _ _ _|exact Kd.S_nil _ _ _ _ _,pB⟩
    ·rw[if_neg c9] at H;have c9b0:decide (a0_0 < t436)=false:=decide_eq_false c9;clear c9;by_cases c17:0≤((rd_L1 l0_1 0).length:Int)
     ·rw[if_pos c17] at H;have c17b0:=eq_true c17;have c17b1:decide (0≤((rd_L1 l0_1 0).length:Int))=true:=dE c17;clear c17;by_cases c18:(((rd_L1 l0_1 0).length:Int):Int).toNat≤35184372088832
      ·rw[if_pos c18] at H;have c18b0:=eq_true c18;have c18b1:decide ((((rd_L1 l0_1 0).length:Int):Int).toNat≤35184372088832)=true:=dE c18;clear c18;obtain⟨y437,hy437⟩:∃ y_:List Int,y_=(List.replicate (((rd_L1 l0_1 0).length:Int):Int).toNat 0):=⟨_,rfl⟩;replace H:(Azw.l0 k l1 ((rd_L1 l0_1 0).length:Int) t436 y437 0 a0_0 l0_1 a0_0 ([]:List (List Int)))=some (r1,r2,r3,r4):=by first|(rw[hy437];with_reducible exact H)|(have H2_:=(Option.bind_some _ _).symm.trans H;rw[hy437];with_reducible exact H2_)|(have H2_:=(Option.bind_some _ _).symm.trans H;with_reducible exact H2_)|with_reducible exact H|(rw[hy437];exact H)|exact H
       have Ny437:=aM hy437;clear hy437;have H':=aM H;clear H;go_enter Try.func19,Try.ntmps19
       go_wp2_with (first|((with_reducible refine gate_dst (N:=2) rfl ?_);refine box_event ?hg (N:=2) ?hd (cs:=#[.int .i64 a0_0,.slice A0_1 l0_1.length c0_1]) (t:=24) ?hr ?_;(case hd=>rfl);(case hg=>rfl);(case hr=>first|(go_simp;done)|(go_simp;rfl));intro gb431 hg w19 hbox hb;have BK431:=aM (hbox);have GW431:=aM (gW hg:w.heap.size≤gb431);have GE431:=aM (gW hg:w.heap.size≤gb431);replace HB:=aM (below_step pB hb);clear hb hbox hg)|((with_reducible refine gate_dst (N:=4) rfl ?_);refine box_event ?hg (N:=4) ?hd (cs:=#[.int .i64 0,.slice none 0 0]) (t:=24) ?hr ?_;(case hd=>rfl);(case hg=>rfl);(case hr=>first|(go_simp;done)|(go_simp;rfl));intro gb432 hg w20 hbox hb;have BK432:=aM (hbox);have GW432:=aM (gW hg:w.heap.size≤gb432);have GE432:=aM (gW hg:w.heap.size≤gb432);have NB431_432:=aM (nL hg BK431:gb431≠gb432);have NB432_431:=aM (nG hg BK431:gb432≠gb431);replace BK431:=aM (kB BK431 hb);replace HB:=aM (below_step pB hb);clear hb hbox hg;have hnb21:=NB431_432.out;have hnc21:=NB432_431.out;obtain⟨hcz22_0,hcz22_1,hfz22_0,hfz22_1⟩:=bk2 BK431)|((with_reducible refine gate_callee (f:=14) rfl ?_);refine goesL_ (some 19) rfl rfl Try.func14 (by kernel_rfl) rfl #[.agg #[.int .i64 a0_0,.slice A0_1 l0_1.length c0_1]] rfl mA ?_;(with_reducible refine(Azf.calls k a0_0 _ _ l0_1 t433 _ ?side1 ?side2 A3.out).mono ?_);(case side1=>exact cX (Kd.C_below HR0_1.out HB.out));(case side2=>exact HC0_1.out);rintro e w23 ⟨rfl,hb⟩;refine⟨_,rfl,?_⟩;replace BK431:=aM (kB BK431 hb);replace BK432:=aM (kB BK432 hb);replace HB:=aM (below_step pB hb);(try clear hb);(try clear hb2);(try clear hk);(try clear hi);obtain⟨hcz24_0,hcz24_1,hfz24_0,hfz24_1⟩:=bk2 BK431;have p434:0≤(0:Int):=(by omega);have q434:0 < (l0_1.length:Int):=oE aS;obtain⟨ad434,A434_0,c434_0,e434,hx434_0,hl434_0,hi434_0⟩:=at_L1 HR0_1.out 0 p434 q434;cases e434;have qi434:(0 < l0_1.length)=True:=eq_true (by omega);(try rw[show((0:Int)).toNat=0 from rfl] at hx434_0);(try rw[Addr.add_zero'] at hx434_0);replace hx434_0:=(HB.out.cell (World.block_lt_of_cell? w _ hx434_0)).trans hx434_0;have HR434_0:=aM hi434_0;have HC434_0:=aM hl434_0;clear hi434_0 hl434_0;replace p434:=eq_true p434;replace q434:=eq_true q434)|((with_reducible refine gate_callee (f:=28) rfl ?_);refine goesL_ (some 31) rfl rfl Try.func28 (by kernel_rfl) rfl #[.slice A1 l1.length c1,.int .i64 ((rd_L1 l0_1 0).length:Int)] rfl mA ?_;(with_reducible refine(Czv.calls k _ _ l1 ((rd_L1 l0_1 0).length:Int) t435 _ ?side1 ?side2 A6.out).mono ?_);(case side1=>exact cX (Kd.C_below HR1.out HB.out));(case side2=>exact HC1.out);rintro e w' ⟨rfl,⟨nd,rfl⟩⟩;refine⟨_,rfl,?_⟩;(try(rw[drewN_self w23];generalize hq_:World.drewN w23 _=w23;have n0_:Aside0 (w23.heap[gb431]?=some (.cells #[.int .i64 a0_0,.slice (some ad434) l0_1.length c0_1] 24 (0,0))):=⟨by rw[← hq_];exact(kW BK431)⟩;have n1_:Aside0 (w23.heap[gb432]?=some (.cells #[.int .i64 0,.slice none 0 0] 24 (0,0))):=⟨by rw[← hq_];exact(kW BK432)⟩;have n2_:Aside0 (Below w.heap.size w w23):=⟨by rw[← hq_];exact pB⟩;clear BK431 BK432 HB hq_;have BK431:=n0_;have BK432:=n1_;have HB:=n2_;clear n0_ n1_ n2_;have hcqgb431_0:w23.cell? ⟨gb431,0,none⟩=some (.int .i64 a0_0):=(blk_cell BK431.out 0).trans rfl;have hfqgb431_0:=blk_frozen BK431.out 0;have hcqgb431_1:w23.cell? ⟨gb431,1,none⟩=some (.slice (some ad434) l0_1.length c0_1):=(blk_cell BK431.out 1).trans rfl;have hfqgb431_1:=blk_frozen BK431.out 1;have hcqgb432_0:w23.cell? ⟨gb432,0,none⟩=some (.int .i64 0):=(blk_cell BK432.out 0).trans rfl;have hfqgb432_0:=blk_frozen BK432.out 0;have hcqgb432_1:w23.cell? ⟨gb432,1,none⟩=some (.slice none 0 0):=(blk_cell BK432.out 1).trans rfl;have hfqgb432_1:=blk_frozen BK432.out 1)))|((with_reducible refine gate_callee (f:=21) rfl ?_);refine goesL_ (some 37) rfl rfl Try.func21 (by kernel_rfl) rfl #[.slice A1 l1.length c1] rfl mA ?_;(with_reducible refine(Azp.calls k _ _ l1 t436 _ ?side1 ?side2 A8.out).mono ?_);(case side1=>exact cX (Kd.C_below HR1.out HB.out));(case side2=>exact HC1.out);rintro e w' ⟨rfl,⟨nd,rfl⟩⟩;refine⟨_,rfl,?_⟩;(try(rw[drewN_self w23];generalize hq_:World.drewN w23 _=w23;have n0_:Aside0 (w23.heap[gb431]?=some (.cells #[.int .i64 a0_0,.slice (some ad434) l0_1.length c0_1] 24 (0,0))):=⟨by rw[← hq_];exact(kW BK431)⟩;have n1_:Aside0 (w23.heap[gb432]?=some (.cells #[.int .i64 0,.slice none 0 0] 24 (0,0))):=⟨by rw[← hq_];exact(kW BK432)⟩;have n2_:Aside0 (Below w.heap.size w w23):=⟨by rw[← hq_];exact pB⟩;clear BK431 BK432 HB hq_;have BK431:=n0_;have BK432:=n1_;have HB:=n2_;clear n0_ n1_ n2_;have hcqgb431_0:w23.cell? ⟨gb431,0,none⟩=some (.int .i64 a0_0):=(blk_cell BK431.out 0).trans rfl;have hfqgb431_0:=blk_frozen BK431.out 0;have hcqgb431_1:w23.cell? ⟨gb431,1,none⟩=some (.slice (some ad434) l0_1.length c0_1):=(blk_cell BK431.out 1).trans rfl;have hfqgb431_1:=blk_frozen BK431.out 1;have hcqgb432_0:w23.cell? ⟨gb432,0,none⟩=some (.int .i64 0):=(blk_cell BK432.out 0).trans rfl;have hfqgb432_0:=blk_frozen BK432.out 0;have hcqgb432_1:w23.cell? ⟨gb432,1,none⟩=some (.slice none 0 0):=(blk_cell BK432.out 1).trans rfl;have hfqgb432_1:=blk_frozen BK432.out 1)))|((with_reducible refine gate_dst (N:=44) rfl ?_);refine Kd.R_make (Kd.int .i64) _ 3 rfl (N:=44) rfl 29 _ _ rfl ((rd_L1 l0_1 0).length:Int) rfl rfl Try.underlying29 (.int .i64 0) 8 info3 rfl (by decide) (by omega) 0 (ok:=fun _=>True) (okp:=fun _=>True) rfl (fun _ hk=>hk) trivial (oE aS) (Nat.le_trans (Nat.mul_le_mul_right _ (oE aS:((rd_L1 l0_1 0).length:Int).toNat≤35184372088832)) (by omega)) (Below.refl _ _) (Nat.le_refl _) ?_;intro v438 w25 ho26 hb hg_ hnew_;clear hg_ hnew_;(first|rw[← Ny437.out] at ho26|(simp only[Int.reduceToNat] at ho26;rw[← Ny437.out] at ho26));have HO439:=aM (Kd.R_lower ho26 (below_size pB));replace BK431:=aM (kB BK431 hb);replace BK432:=aM (kB BK432 hb);replace HB:=aM (below_step pB hb);clear hb ho26;obtain⟨hcz27_0,hcz27_1,hfz27_0,hfz27_1⟩:=bk2 BK431)|((with_reducible refine gate_dst (N:=12) rfl ?_);refine box_event ?hg (N:=12) ?hd (cs:=#[.int .i64 0,.slice none 0 0]) (t:=24) ?hr ?_;(case hd=>rfl);(case hg=>rfl);(case hr=>first|(go_simp;done)|(go_simp;rfl));intro gb440 hg w28 hbox hb;have BK440:=aM (hbox);have GW440:=aM (gW hg:w.heap.size≤gb440);have GE440:=aM (gW hg:w.heap.size≤gb440);have NB431_440:=aM (nL hg BK431:gb431≠gb440);have NB440_431:=aM (nG hg BK431:gb440≠gb431);have NB432_440:=aM (nL hg BK432:gb432≠gb440);have NB440_432:=aM (nG hg BK432:gb440≠gb432);replace HO439:=aM (Kd.R_below (rX HO439.out) hb);replace BK431:=aM (kB BK431 hb);replace BK432:=aM (kB BK432 hb);replace HB:=aM (below_step pB hb);clear hb hbox hg;have hnb29:=NB440_431.out;have hnc29:=NB431_440.out;have hnb30:=NB440_432.out;have hnc30:=NB432_440.out;obtain⟨hcz31_0,hcz31_1,hfz31_0,hfz31_1⟩:=bk2 BK440))
       go_loopg [10,13] k (fun kq v10 v13 w'=>∃ (x10_1:Int) (x11_1:List Int) (x13_1:Int) (x441001_1:List (List Int)) (u441001:Value),v10=.int .i64 x10_1∧v13=.int .i64 x13_1∧Aside0 (Azw.l0 kq l1 ((rd_L1 l0_1 0).length:Int) x10_1 x11_1 x13_1 a0_0 l0_1 a0_0 x441001_1=some (r1,r2,r3,r4))∧Aside0 (kq≤k)∧Aside0 (Kd.R (Kd.int .i64) 3 w' w.heap.size (fun _=>True) v438 x11_1)∧Aside0 (Kd.S (Kd.slice 3 (Kd.int .i64)) 29 w' w.heap.size (fun k_=>some k_≠(v438:Value).ownBlock) u441001 x441001_1)∧Aside0 (w'.heap[gb431]?=some (.cells #[.int .i64 a0_0,(.slice (some ad434) l0_1.length c0_1)] 24 (0,0)))∧Aside0 (w'.heap[gb432]?=some (.cells #[.int .i64 0,(.slice none 0 0)] 24 (0,0)))∧Aside0 (w'.heap[gb440]?=some (.cells #[.int .i64 a0_0,u441001] 24 (0,0)))∧Aside0 (Below w.heap.size w w'))
       case atStart=>exact⟨(t436),(y437),(0),(([]:List (List Int))),(.slice none 0 0),sD,sD,H',⟨Nat.le_refl _⟩,⟨by(with_reducible repeat(first|apply Kd.R_alloc|apply Kd.R_drewN|apply Kd.R_drew));exact Kd.R_mono (Kd.R_far (p:=⟨gb440,1,none⟩) (Kd.R_far (p:=⟨gb440,0,none⟩) (Kd.R_types HO439.out BK440.out (by decide)) (fun _ hk=>hk.2) (.int .i64 a0_0)) (fun _ hk=>hk.2) (.slice none 0 0)) (fun _ hk=>trivial)⟩,⟨by first|exact Kd.S_nil _ _ _ _ _|exact Kd.N_nil _ _ _ _ _|exact Kd.V_nil _ _ _ _ _|exact Kd.Q_nil _ _ _ _ _|exact Kd.R_nil _ _ _ _ _⟩,⟨by refine bD ?_;refine blk_far ?_ NB431_440.out _;refine bD ?_;refine blk_far ?_ NB431_440.out _;(with_reducible repeat(first|refine blk_drewN ?_ _|refine blk_drew ?_|refine blk_alloc ?_ _));exact BK431.out⟩,⟨by refine bD ?_;refine blk_far ?_ NB432_440.out _;refine bD ?_;refine blk_far ?_ NB432_440.out _;(with_reducible repeat(first|refine blk_drewN ?_ _|refine blk_drew ?_|refine blk_alloc ?_ _));exact BK432.out⟩,⟨by refine bD ?_;refine blk_put (cs:=#[.int .i64 a0_0,.slice none 0 0]) ?_ 1 _ rfl;refine bD ?_;refine blk_put (cs:=#[.int .i64 0,.slice none 0 0]) ?_ 0 _ rfl;(with_reducible repeat(first|refine blk_drewN ?_ _|refine blk_drew ?_|refine blk_alloc ?_ _));exact BK440.out⟩,⟨pB⟩⟩
       case round =>
        clear H';try clear c1
        try clear c2
        try clear p2
        try clear c3
        try clear c4
        try clear c4b0
        try clear c4b1
        try clear p4
        try clear q4
        try clear hx4
        try clear qi4
        try clear c5
        try clear c5b0
        try clear c5b1
        try clear c7
        try clear c7b0
        try clear c7b1
        try clear c9
        try clear c9b0
        try clear c12
        try clear c14
        try clear c17
        try clear c17b0
        try clear c17b1
        try clear c18
        try clear c18b0
        try clear c18b1
        try clear c19
        try clear c21
        try clear c28
        try clear c29
        try clear c30
        try clear hcz13_0
        try clear hcz13_1
        try clear hcz15_0
        try clear hcz15_1
        try clear hcz16_0
        try clear hcz16_1
        try clear hcz22_0
        try clear hcz22_1
        try clear hcz24_0
        try clear hcz24_1
        try clear hcz27_0
        try clear hcz27_1
        try clear hcz31_0
        try clear hcz31_1
        try clear hfz13_0
        try clear hfz13_1
        try clear hfz15_0
        try clear hfz15_1
        try clear hfz16_0
        try clear hfz16_1
        try clear hfz22_0
        try clear hfz22_1
        try clear hfz24_0
        try clear hfz24_1
        try clear hfz27_0
        try clear hfz27_1
        try clear hfz31_0
        try clear hfz31_1
        try clear hx434_0
        try clear p434
        try clear q434
        obtain⟨x10_1,x11_1,x13_1,x441001_1,u441001,rfl,rfl,HA,HK1,HO_11,HO_441001,BK431,BK432,BK440,HB⟩:=hrel;cases gk with
        | zero=>exact absurd HA.out (by simp [Azw.l0])
        | succ k1 =>
         have H:=HA.out;clear HA;simp only[Azw.l0] at H;by_cases c32:x13_1 < (l0_1.length:Int)
         ·rw[if_pos c32] at H;have c32b0:decide (x13_1 < (l0_1.length:Int))=true:=dE c32;clear c32;by_cases c33:0≤((rd_L1 l0_1 0).length:Int)
          ·rw[if_pos c33] at H;have c33b0:=eq_true c33;have c33b1:decide (0≤((rd_L1 l0_1 0).length:Int))=true:=dE c33;clear c33;by_cases c34:(((rd_L1 l0_1 0).length:Int):Int).toNat≤35184372088832
           ·rw[if_pos c34] at H;have c34b0:=eq_true c34;have c34b1:decide ((((rd_L1 l0_1 0).length:Int):Int).toNat≤35184372088832)=true:=dE c34;clear c34;obtain⟨y441,hy441⟩:∃ y_:List Int,y_=(List.replicate (((rd_L1 l0_1 0).length:Int):Int).toNat 0):=⟨_,rfl⟩;replace H:(if 0≤x13_1 then((Azp.f k1 (rd_L1 l0_1 x13_1)).bind fun t445=>(if t445≤x10_1 then(Azw.l1 k1 l1 ((rd_L1 l0_1 0).length:Int) x10_1 x11_1 x13_1 (rd_L1 l0_1 x13_1) (List.replicate (((rd_L1 l0_1 0).length:Int):Int).toNat 0) 0 a0_0 l0_1 a0_0 x441001_1) else(if x10_1 > 0 then((Azm.f k1 x10_1 (rd_L1 l0_1 x13_1)).bind fun t463=>(Azw.l52 k1 l1 ((rd_L1 l0_1 0).length:Int) x10_1 x11_1 x13_1 t463 (List.replicate (((rd_L1 l0_1 0).length:Int):Int).toNat 0) 0 a0_0 l0_1 a0_0 x441001_1)) else(Azw.l53 k1 l1 ((rd_L1 l0_1 0).length:Int) x10_1 x11_1 x13_1 y441 (List.replicate (((rd_L1 l0_1 0).length:Int):Int).toNat 0) 0 a0_0 l0_1 a0_0 x441001_1)))) else(none))=some (r1,r2,r3,r4):=by first|(rw[hy441];with_reducible exact H)|(have H2_:=(Option.bind_some _ _).symm.trans H;rw[hy441];with_reducible exact H2_)|(have H2_:=(Option.bind_some _ _).symm.trans H;with_reducible exact H2_)|with_reducible exact H|(rw[hy441];exact H)|exact H
            have Ny441:=aM hy441;clear hy441;by_cases c35:0≤x13_1
            ·rw[if_pos c35] at H;have c35b0:decide (0≤x13_1)=true:=dE c35;clear c35;replace H:=bS H;obtain⟨t445,A360,H⟩:=H;try dsimp only at H
             have A36:=aM A360;clear A360;by_cases c37:t445≤x10_1
             ·rw[if_pos c37] at H;have c37b0:decide (t445≤x10_1)=true:=dE c37;clear c37;obtain⟨y447,hy447⟩:∃ y_:List Int,y_=(List.replicate (((rd_L1 l0_1 0).length:Int):Int).toNat 0):=⟨_,rfl⟩;replace H:(Azw.l1 k1 l1 ((rd_L1 l0_1 0).length:Int) x10_1 x11_1 x13_1 (rd_L1 l0_1 x13_1) y447 0 a0_0 l0_1 a0_0 x441001_1)=some (r1,r2,r3,r4):=by first|(rw[hy447];with_reducible exact H)|(have H2_:=(Option.bind_some _ _).symm.trans H;rw[hy447];with_reducible exact H2_)|(have H2_:=(Option.bind_some _ _).symm.trans H;with_reducible exact H2_)|with_reducible exact H|(rw[hy447];exact H)|exact H
              have Ny447:=aM hy447;clear hy447;have H':=aM H;clear H;have hnb38:=NB431_432.out;have hnc38:=NB432_431.out;have hnb39:=NB431_440.out;have hnc39:=NB440_431.out;obtain⟨hcz40_0,hcz40_1,hfz40_0,hfz40_1⟩:=bk2 BK431;go_wp2_with (first|((with_reducible refine gate_dst (N:=56) rfl ?_);refine Kd.R_make (Kd.int .i64) _ 3 rfl (N:=56) rfl 29 _ _ rfl ((rd_L1 l0_1 0).length:Int) rfl rfl Try.underlying29 (.int .i64 0) 8 info3 rfl (by decide) (by omega) 0 (ok:=fun _=>True) (okp:=fun _=>True) rfl (fun _ hk=>hk) trivial (oE aS) (Nat.le_trans (Nat.mul_le_mul_right _ (oE aS:((rd_L1 l0_1 0).length:Int).toNat≤35184372088832)) (by omega)) (Below.refl _ _) (Nat.le_refl _) ?_;intro v442 w41 ho42 hb hg_ hnew_;clear hg_ hnew_;(first|rw[← Ny441.out] at ho42|(simp only[Int.reduceToNat] at ho42;rw[← Ny441.out] at ho42));have HO443:=aM (Kd.R_lower (Kd.R_new' ho42 (Kd.R_lt (rX HO_11.out))) (below_size pB));replace HO_11:=aM (Kd.R_elder' (rX HO_11.out) (Kd.R_base ho42) hb);replace HO_441001:=aM (Kd.S_elder' (by(with_reducible repeat(first|apply Kd.S_alloc|apply Kd.S_drewN|apply Kd.S_drew));exact HO_441001.out) (Kd.R_base ho42) hb);replace BK431:=aM (kB BK431 hb);replace BK432:=aM (kB BK432 hb);replace BK440:=aM (kB BK440 hb);replace HB:=aM (below_step pB hb);clear hb ho42;obtain⟨hcz43_0,hcz43_1,hfz43_0,hfz43_1⟩:=bk2 BK431;have p444:0≤(x13_1:Int):=oE aS;have q444:x13_1 < (l0_1.length:Int):=oE aS;obtain⟨ad444,A444_0,c444_0,e444,hx444_0,hl444_0,hi444_0⟩:=at_L1 HR0_1.out x13_1 p444 q444;obtain rfl:ad434=ad444:=(by injection e444);replace hx444_0:=(HB.out.cell (World.block_lt_of_cell? w _ hx444_0)).trans hx444_0;have HR444_0:=aM hi444_0;have HC444_0:=aM hl444_0;clear hi444_0 hl444_0;replace p444:=eq_true p444;replace q444:=eq_true q444)|((with_reducible refine gate_callee (f:=21) rfl ?_);refine goesL_ (some 62) rfl rfl Try.func21 (by kernel_rfl) rfl #[.slice A444_0 (rd_L1 l0_1 x13_1).length c444_0] rfl mA ?_;(with_reducible refine(Azp.calls k1 _ _ (rd_L1 l0_1 x13_1) t445 _ ?side1 ?side2 A36.out).mono ?_);(case side1=>exact cX (Kd.C_below HR444_0.out HB.out));(case side2=>exact HC444_0.out);rintro e w' ⟨rfl,⟨nd,rfl⟩⟩;refine⟨_,rfl,?_⟩;have p446:0≤(x13_1:Int):=oE aS;have q446:x13_1 < (l0_1.length:Int):=oE aS;obtain⟨ad446,A446_0,c446_0,e446,hx446_0,hl446_0,hi446_0⟩:=at_L1 HR0_1.out x13_1 p446 q446;obtain rfl:ad434=ad446:=(by injection e446);replace hx446_0:=(HB.out.cell (World.block_lt_of_cell? w _ hx446_0)).trans hx446_0;have HR446_0:=aM hi446_0;have HC446_0:=aM hl446_0;clear hi446_0 hl446_0;replace p446:=eq_true p446;replace q446:=eq_true q446;have ea_:=Option.some.inj (hx444_0.symm.trans hx446_0);injection ea_ with ea_ en_ ec_;subst ea_;subst ec_;clear en_)|((with_reducible refine gate_dst (N:=81) rfl ?_);refine Kd.R_make (Kd.int .i64) _ 3 rfl (N:=81) rfl 29 _ _ rfl ((rd_L1 l0_1 0).length:Int) rfl rfl Try.underlying29 (.int .i64 0) 8 info3 rfl (by decide) (by omega) 0 (ok:=fun _=>True) (okp:=fun _=>True) rfl (fun _ hk=>hk) trivial (oE aS) (Nat.le_trans (Nat.mul_le_mul_right _ (oE aS:((rd_L1 l0_1 0).length:Int).toNat≤35184372088832)) (by omega)) (Below.refl _ _) (Nat.le_refl _) ?_;intro v448 w44 ho45 hb hg_ hnew_;clear hg_ hnew_;(first|rw[← Ny447.out] at ho45|(simp only[Int.reduceToNat] at ho45;rw[← Ny447.out] at ho45));have HO449:=aM (Kd.R_lower (Kd.R_new' (Kd.R_new' ho45 (Kd.R_lt (rX HO_11.out))) (Kd.R_lt (rX HO443.out))) (below_size pB));replace HO_11:=aM (Kd.R_elder' (rX HO_11.out) (Kd.R_base ho45) hb);replace HO_441001:=aM (Kd.S_elder' (by(with_reducible repeat(first|apply Kd.S_alloc|apply Kd.S_drewN|apply Kd.S_drew));exact HO_441001.out) (Kd.R_base ho45) hb);replace HO443:=aM (Kd.R_elder' (rX HO443.out) (Kd.R_base ho45) hb);replace BK431:=aM (kB BK431 hb);replace BK432:=aM (kB BK432 hb);replace BK440:=aM (kB BK440 hb);replace HB:=aM (below_step pB hb);clear hb ho45))
              go_loopg [17] k1 (fun kq v17 w'=>∃ (x11_2:List Int) (x16_2:List Int) (x17_2:Int),v17=.int .i64 x17_2∧Aside0 (Azw.l1 kq l1 ((rd_L1 l0_1 0).length:Int) x10_1 x11_2 x13_1 (rd_L1 l0_1 x13_1) x16_2 x17_2 a0_0 l0_1 a0_0 x441001_1=some (r1,r2,r3,r4))∧Aside0 (kq≤k1)∧Aside0 (Kd.R (Kd.int .i64) 3 w' w.heap.size (fun k_=>some k_≠(v448:Value).ownBlock) v438 x11_2)∧Aside0 (Kd.R (Kd.int .i64) 3 w' w.heap.size (fun k_=>some k_≠(v438:Value).ownBlock) v448 x16_2)∧Aside0 (Kd.S (Kd.slice 3 (Kd.int .i64)) 29 w' w.heap.size (fun k_=>some k_≠(v438:Value).ownBlock∧some k_≠(v448:Value).ownBlock) u441001 x441001_1)∧Aside0 (w'.heap[gb431]?=some (.cells #[.int .i64 a0_0,(.slice (some ad434) l0_1.length c0_1)] 24 (0,0)))∧Aside0 (w'.heap[gb432]?=some (.cells #[.int .i64 0,(.slice none 0 0)] 24 (0,0)))∧Aside0 (w'.heap[gb440]?=some (.cells #[.int .i64 a0_0,u441001] 24 (0,0)))∧Aside0 (Below w.heap.size w w'))
              case atStart=>exact⟨(x11_1),(y447),(0),sD,H',⟨Nat.le_refl _⟩,⟨by(with_reducible repeat(first|apply Kd.R_alloc|apply Kd.R_drewN|apply Kd.R_drew));exact Kd.R_mono HO_11.out (fun _ hk=>hk.2)⟩,⟨by(with_reducible repeat(first|apply Kd.R_alloc|apply Kd.R_drewN|apply Kd.R_drew));exact Kd.R_mono HO449.out (fun _ hk=>hk.1.2)⟩,⟨by(with_reducible repeat(first|apply Kd.S_alloc|apply Kd.S_drewN|apply Kd.S_drew));exact Kd.S_mono HO_441001.out (fun _ hk=>⟨hk.1.1,hk.2⟩)⟩,⟨by(with_reducible repeat(first|refine blk_drewN ?_ _|refine blk_drew ?_|refine blk_alloc ?_ _));exact BK431.out⟩,⟨by(with_reducible repeat(first|refine blk_drewN ?_ _|refine blk_drew ?_|refine blk_alloc ?_ _));exact BK432.out⟩,⟨by(with_reducible repeat(first|refine blk_drewN ?_ _|refine blk_drew ?_|refine blk_alloc ?_ _));exact BK440.out⟩,⟨pB⟩⟩
              case round =>
               clear H';try clear c1
               try clear c2
               try clear p2
               try clear c3
               try clear c4
               try clear c4b0
               try clear c4b1
               try clear p4
               try clear q4
               try clear hx4
               try clear qi4
               try clear c5
               try clear c5b0
               try clear c5b1
               try clear c7
               try clear c7b0
               try clear c7b1
               try clear c9
               try clear c9b0
               try clear c12
               try clear c14
               try clear c17
               try clear c17b0
               try clear c17b1
               try clear c18
               try clear c18b0
               try clear c18b1
               try clear c19
               try clear c21
               try clear c28
               try clear c29
               try clear c30
               try clear c32
               try clear c32b0
               try clear c33
               try clear c33b0
               try clear c33b1
               try clear c34
               try clear c34b0
               try clear c34b1
               try clear c35
               try clear c35b0
               try clear c37
               try clear c37b0
               try clear c38
               try clear c39
               try clear c43
               try clear p43
               try clear q43
               try clear hx43
               try clear qi43
               try clear c44
               try clear p44
               try clear q44
               try clear hx44
               try clear hcz13_0
               try clear hcz13_1
               try clear hcz15_0
               try clear hcz15_1
               try clear hcz16_0
               try clear hcz16_1
               try clear hcz22_0
               try clear hcz22_1
               try clear hcz24_0
               try clear hcz24_1
               try clear hcz27_0
               try clear hcz27_1
               try clear hcz31_0
               try clear hcz31_1
               try clear hcz40_0
               try clear hcz40_1
               try clear hcz43_0
               try clear hcz43_1
               try clear hfz13_0
               try clear hfz13_1
               try clear hfz15_0
               try clear hfz15_1
               try clear hfz16_0
               try clear hfz16_1
               try clear hfz22_0
               try clear hfz22_1
               try clear hfz24_0
               try clear hfz24_1
               try clear hfz27_0
               try clear hfz27_1
               try clear hfz31_0
               try clear hfz31_1
               try clear hfz40_0
               try clear hfz40_1
               try clear hfz43_0
               try clear hfz43_1
               try clear hx434_0
               try clear hx444_0
               try clear hx446_0
               try clear p2
               try clear p4
               try clear p434
               try clear p444
               try clear p446
               try clear q4
               try clear q434
               try clear q444
               try clear q446
               obtain⟨x11_2,x16_2,x17_2,rfl,HA,HK2,HO_11,HO_16,HO_441001,BK431,BK432,BK440,HB⟩:=hrel;cases gk with
               | zero=>exact absurd HA.out (by simp [Azw.l1])
               | succ k2 =>
                have H:=HA.out;clear HA;simp only[Azw.l1] at H;by_cases c46:x17_2 < ((rd_L1 l0_1 0).length:Int)
                ·rw[if_pos c46] at H;have c46b0:decide (x17_2 < ((rd_L1 l0_1 0).length:Int))=true:=dE c46;clear c46;by_cases c47:0≤x17_2
                 ·rw[if_pos c47] at H;have c47b0:decide (0≤x17_2)=true:=dE c47;clear c47;by_cases c48:x17_2 < (x11_2.length:Int)
                  ·rw[if_pos c48] at H;have c48b0:decide (x17_2 < (x11_2.length:Int))=true:=dE c48;clear c48;by_cases c49:x17_2 < ((rd_L1 l0_1 x13_1).length:Int)
                   ·rw[if_pos c49] at H;have c49b0:decide (x17_2 < ((rd_L1 l0_1 x13_1).length:Int))=true:=dE c49;clear c49;obtain⟨y452,hy452⟩:∃ y_:List Int,y_=(x11_2.set (x17_2:Int).toNat (wrap64 ((rd x11_2 x17_2)+(rd (rd_L1 l0_1 x13_1) x17_2)))):=⟨_,rfl⟩;replace H:(if 0≤x13_1 then(if x13_1 < (l0_1.length:Int) then(if x17_2 < ((rd_L1 l0_1 x13_1).length:Int) then(if x17_2 < (x16_2.length:Int) then(Azw.l1 k2 l1 ((rd_L1 l0_1 0).length:Int) x10_1 y452 x13_1 (rd_L1 l0_1 x13_1) (x16_2.set (x17_2:Int).toNat (wrap64 ((rd (rd_L1 l0_1 x13_1) x17_2) - (rd (rd_L1 l0_1 x13_1) x17_2)))) (wrap64 (x17_2+1)) a0_0 l0_1 a0_0 x441001_1) else(none)) else(none)) else(none)) else(none))=some (r1,r2,r3,r4):=by first|(rw[hy452];with_reducible exact H)|(have H2_:=(Option.bind_some _ _).symm.trans H;rw[hy452];with_reducible exact H2_)|(have H2_:=(Option.bind_some _ _).symm.trans H;with_reducible exact H2_)|with_reducible exact H|(rw[hy452];exact H)|exact H
                    have Ny452:=aM hy452;clear hy452;by_cases c51:0≤x13_1
                    ·rw[if_pos c51] at H;have c51b0:decide (0≤x13_1)=true:=dE c51;clear c51;by_cases c52:x13_1 < (l0_1.length:Int)
                     ·rw[if_pos c52] at H;have c52b0:decide (x13_1 < (l0_1.length:Int))=true:=dE c52;clear c52;by_cases c53:x17_2 < ((rd_L1 l0_1 x13_1).length:Int)
                      ·rw[if_pos c53] at H;have c53b0:decide (x17_2 < ((rd_L1 l0_1 x13_1).length:Int))=true:=dE c53;clear c53;by_cases c54:x17_2 < (x16_2.length:Int)
                       ·rw[if_pos c54] at H;have c54b0:decide (x17_2 < (x16_2.length:Int))=true:=dE c54;clear c54;obtain⟨y456,hy456⟩:∃ y_:List Int,y_=(x16_2.set (x17_2:Int).toNat (wrap64 ((rd (rd_L1 l0_1 x13_1) x17_2) - (rd (rd_L1 l0_1 x13_1) x17_2)))):=⟨_,rfl⟩;replace H:(Azw.l1 k2 l1 ((rd_L1 l0_1 0).length:Int) x10_1 y452 x13_1 (rd_L1 l0_1 x13_1) y456 (wrap64 (x17_2+1)) a0_0 l0_1 a0_0 x441001_1)=some (r1,r2,r3,r4):=by first|(rw[hy456];with_reducible exact H)|(have H2_:=(Option.bind_some _ _).symm.trans H;rw[hy456];with_reducible exact H2_)|(have H2_:=(Option.bind_some _ _).symm.trans H;with_reducible exact H2_)|with_reducible exact H|(rw[hy456];exact H)|exact H
                        have Ny456:=aM hy456;clear hy456;have H':=aM H;clear H;try go_wp2
                        have n0_:=aM (Kd.R_drew HO_11.out);have n1_:=aM (Kd.R_drew HO_16.out);have n2_:=aM (Kd.S_drew HO_441001.out);have n3_:=aM (blk_drew BK431.out);have n4_:=aM (blk_drew BK432.out);have n5_:=aM (blk_drew BK440.out);have n6_:=aM (below_drew1 HB.out);clear HO_11;clear HO_16;clear HO_441001;clear BK431;clear BK432;clear BK440;clear HB;have HO_11:=n0_;have HO_16:=n1_;have HO_441001:=n2_;have BK431:=n3_;have BK432:=n4_;have BK440:=n5_;have HB:=n6_;clear n0_ n1_ n2_ n3_ n4_ n5_ n6_;obtain⟨Ao57,co57,eo57⟩:=Kd.R_slice HO_11.out;(first|subst eo57|(injection eo57 with f1_ f2_ f3_;have f4_:=f1_.symm;have f5_:=f3_.symm;clear f1_ f2_ f3_;subst f4_;subst f5_))
                        have p450:0≤(x17_2:Int):=oE aS
                        have q450:x17_2 < (x11_2.length:Int):=oE aS
                        obtain⟨ad450,e450,hx450_0⟩:=Kd.at_int (Kd.R_reads' HO_11.out).2.2 x17_2 p450 q450;cases e450
                        replace p450:=eq_true p450;replace q450:=eq_true q450;have p451:0≤(x17_2:Int):=oE aS
                        have q451:x17_2 < ((rd_L1 l0_1 x13_1).length:Int):=oE aS
                        obtain⟨ad451,e451,hx451_0⟩:=Kd.at_int HR446_0.out x17_2 p451 q451;have hw451_0:=hx451_0;cases e451
                        replace hx451_0:=(HB.out.cell (World.block_lt_of_cell? w _ hx451_0)).trans hx451_0;replace p451:=eq_true p451;replace q451:=eq_true q451;have p50:0≤(x17_2:Int):=oE aS
                        have q50:(x17_2:Int) < ((x11_2.length:Int):Int):=oE aS
                        obtain⟨go50,co50,eo50,gb50,gl50,cl50,HG50⟩:=Kd.R_form HO_11.out (by omega)
                        (first|cases eo50|(injection eo50 with ea_ en_ ec_;(first|subst ea_|(injection ea_ with ea_;subst ea_));subst ec_;clear en_))
                        have GB50:=aM gb50;have GG50:=aM HG50;clear gb50 gl50 HG50;(first|simp only[add_plain] at hx450_0|skip)
                        obtain⟨hx50_0,hf50_0⟩:=Kd.R_celln 0 HO_11.out (x17_2:Int) p50 q50;replace p50:=eq_true p50;replace q50:=eq_true q50;have HP58:=Kd.R_putn HO_11.out (x17_2:Int) (wrap64 ((rd x11_2 x17_2)+(rd (rd_L1 l0_1 x13_1) x17_2)));rw[← Ny452.out] at HP58;have HQ58:=aM HP58;clear HP58;refine start_ (n:=13) (S:=fun w'=>w'.cell? ⟨go50,(x17_2).toNat,none⟩=some (.int .i64 (rd x11_2 x17_2))∧w'.cell? (ad451.add (x17_2).toNat)=some (.int .i64 (rd (rd_L1 l0_1 x13_1) x17_2))) (ds:=[12]) #[false,false,false,false,false,false,false,false,false,false,false,false,false] (by kernel_rfl) rfl rfl ⟨hx450_0,((HB.out.cell (World.block_lt_of_cell? w _ hw451_0)).trans hw451_0)⟩ (fun hHeld=>?_);refine with_tabW Azw.tab26 Azw.bits26 (fun HT_ HW_=>?_)
                        generalize wr.drew=w56 at HO_11 HO_16 HO_441001 BK431 BK432 BK440 HB GG50 HQ58 hf50_0 hx450_0 hx451_0 hx50_0 hHeld ⊢;refine pU (i:=0) (N:=some 87) HT_ #[true,false,false,false,false,false,false,false,false,false,false,false,false] ?_;refine pU (i:=1) (N:=some 88) HT_ #[true,true,false,false,false,false,false,false,false,false,false,false,false] ?_;refine pU (i:=2) (N:=some 89) HT_ #[true,true,true,false,false,false,false,false,false,false,false,false,false] ?_;refine pU (i:=3) (N:=some 90) HT_ #[true,true,true,true,false,false,false,false,false,false,false,false,false] ?_;refine pU (i:=4) (N:=some 91) HT_ #[true,true,true,true,true,false,false,false,false,false,false,false,false] ?_;refine pU (i:=6) (N:=some 93) HT_ #[true,true,true,true,true,false,true,false,false,false,false,false,false] ?_;refine pU (i:=7) (N:=some 94) HT_ #[true,true,true,true,true,false,true,true,false,false,false,false,false] ?_;refine pU (i:=8) (N:=some 95) HT_ #[true,true,true,true,true,false,true,true,true,false,false,false,false] ?_;refine take_ (i:=5) (N:=some 92) (v:=?_) (a':=?_) #[true,true,true,true,true,true,true,true,true,false,false,false,false] rfl rfl (take_ofW HT_.out HW_.out (by kernel_rfl)) (fun _ _ _ h=>h) (Or.inl ⟨by rfl,?_⟩) hHeld ?_ ?_
                        rotate_left
                        ·rintro w' ⟨s0,s1⟩;go_simp
                         with_reducible rfl
                        rotate_left
                        ·simp only[Act.put,sA,sZ,sC,i64_w,i32_w];rfl
                        refine take_ (i:=9) (N:=some 96) (v:=?_) (a':=?_) #[true,true,true,true,true,true,true,true,true,true,false,false,false] rfl rfl (take_ofW HT_.out HW_.out (by kernel_rfl)) (fun _ _ _ h=>h) (Or.inl ⟨by rfl,?_⟩) hHeld ?_ ?_
                        rotate_left
                        ·rintro w' ⟨s0,s1⟩;go_simp
                         with_reducible rfl
                        rotate_left
                        ·simp only[Act.put,sA,sZ,sC,i64_w,i32_w];rfl
                        refine pU (i:=10) (N:=some 97) HT_ #[true,true,true,true,true,true,true,true,true,true,true,false,false] ?_;refine pU (i:=11) (N:=some 98) HT_ #[true,true,true,true,true,true,true,true,true,true,true,true,false] ?_;refine last_ (i:=12) (N:=none) #[true,true,true,true,true,true,true,true,true,true,true,true,true] rfl rfl (one_of HT_.out (by kernel_rfl)) (by decide) (fun K hK=>?_)
                        refine skip_ (w1:=?_) (by rfl) rfl ?_ ?_
                        rotate_left
                        ·go_simp
                         rfl
                        refine hK.out _ _ ?_;clear hK K;refine done_ (done_of HT_.out (by kernel_rfl)) ?_
                        try go_wp2
                        have n0_:Aside0 (Kd.R (Kd.int .i64) 3 (w56.setCell ⟨go50,(x17_2:Int).toNat,none⟩ (.int .i64 (wrap64 ((rd x11_2 x17_2)+(rd (rd_L1 l0_1 x13_1) x17_2))))) w.heap.size (fun k_=>some k_≠(v448:Value).ownBlock) (.slice (some ⟨go50,0,none⟩) x11_2.length co57) y452):=⟨rX HQ58.out⟩
                        have n1_:Aside0 (Kd.R (Kd.int .i64) 3 (w56.setCell ⟨go50,(x17_2:Int).toNat,none⟩ (.int .i64 (wrap64 ((rd x11_2 x17_2)+(rd (rd_L1 l0_1 x13_1) x17_2))))) w.heap.size (fun k_=>some k_≠(.slice (some ⟨go50,0,none⟩) x11_2.length co57:Value).ownBlock) v448 x16_2):=⟨by(with_reducible repeat(first|apply Kd.R_alloc|apply Kd.R_drewN|apply Kd.R_drew));exact Kd.R_mono (Kd.R_far (p:=⟨go50,(x17_2:Int).toNat,none⟩) (Kd.R_mono HO_16.out (fun k_ hk=>(⟨hk,fun e_=>hk (by rw[e_];rfl)⟩:_∧k_≠go50))) (fun _ hk=>hk.2) (.int .i64 (wrap64 ((rd x11_2 x17_2)+(rd (rd_L1 l0_1 x13_1) x17_2))))) (fun _ hk=>hk.1)⟩
                        have n2_:Aside0 (Kd.S (Kd.slice 3 (Kd.int .i64)) 29 (w56.setCell ⟨go50,(x17_2:Int).toNat,none⟩ (.int .i64 (wrap64 ((rd x11_2 x17_2)+(rd (rd_L1 l0_1 x13_1) x17_2))))) w.heap.size (fun k_=>some k_≠(.slice (some ⟨go50,0,none⟩) x11_2.length co57:Value).ownBlock∧some k_≠(v448:Value).ownBlock) u441001 x441001_1):=⟨by(with_reducible repeat(first|apply Kd.S_alloc|apply Kd.S_drewN|apply Kd.S_drew));exact Kd.S_mono (Kd.S_far (p:=⟨go50,(x17_2:Int).toNat,none⟩) (Kd.S_mono HO_441001.out (fun k_ hk=>(⟨hk,fun e_=>hk.1 (by rw[e_];rfl)⟩:_∧k_≠go50))) (fun _ hk=>hk.2) (.int .i64 (wrap64 ((rd x11_2 x17_2)+(rd (rd_L1 l0_1 x13_1) x17_2))))) (fun _ hk=>⟨hk.1.1,hk.1.2⟩)⟩
                        have n3_:Aside0 ((w56.setCell ⟨go50,(x17_2:Int).toNat,none⟩ (.int .i64 (wrap64 ((rd x11_2 x17_2)+(rd (rd_L1 l0_1 x13_1) x17_2))))).heap[gb431]?=some (.cells #[.int .i64 a0_0,.slice (some ad434) l0_1.length c0_1] 24 (0,0))):=⟨by refine bD ?_;refine blk_far ?_ (by have h_:=Kd.R_ne HO_11.out BK431.out (by decide);intro e_;exact h_ (by rw[e_];rfl)) _;(with_reducible repeat(first|refine blk_drewN ?_ _|refine blk_drew ?_|refine blk_alloc ?_ _));exact BK431.out⟩
                        have n4_:Aside0 ((w56.setCell ⟨go50,(x17_2:Int).toNat,none⟩ (.int .i64 (wrap64 ((rd x11_2 x17_2)+(rd (rd_L1 l0_1 x13_1) x17_2))))).heap[gb432]?=some (.cells #[.int .i64 0,.slice none 0 0] 24 (0,0))):=⟨by refine bD ?_;refine blk_far ?_ (by have h_:=Kd.R_ne HO_11.out BK432.out (by decide);intro e_;exact h_ (by rw[e_];rfl)) _;(with_reducible repeat(first|refine blk_drewN ?_ _|refine blk_drew ?_|refine blk_alloc ?_ _));exact BK432.out⟩
                        have n5_:Aside0 ((w56.setCell ⟨go50,(x17_2:Int).toNat,none⟩ (.int .i64 (wrap64 ((rd x11_2 x17_2)+(rd (rd_L1 l0_1 x13_1) x17_2))))).heap[gb440]?=some (.cells #[.int .i64 a0_0,u441001] 24 (0,0))):=⟨by refine bD ?_;refine blk_far ?_ (by have h_:=Kd.R_ne HO_11.out BK440.out (by decide);intro e_;exact h_ (by rw[e_];rfl)) _;(with_reducible repeat(first|refine blk_drewN ?_ _|refine blk_drew ?_|refine blk_alloc ?_ _));exact BK440.out⟩
                        have n6_:Aside0 (Below w.heap.size w (w56.setCell ⟨go50,(x17_2:Int).toNat,none⟩ (.int .i64 (wrap64 ((rd x11_2 x17_2)+(rd (rd_L1 l0_1 x13_1) x17_2)))))):=⟨pB⟩;(try clear HO_11)
                        (try clear HO_16)
                        (try clear HO_441001)
                        (try clear BK431)
                        (try clear BK432)
                        (try clear BK440)
                        (try clear HB)
                        generalize (w56.setCell ⟨go50,(x17_2:Int).toNat,none⟩ (.int .i64 (wrap64 ((rd x11_2 x17_2)+(rd (rd_L1 l0_1 x13_1) x17_2)))))=w59 at n0_ n1_ n2_ n3_ n4_ n5_ n6_ ⊢;have HO_11:=n0_;have HO_16:=n1_;have HO_441001:=n2_;have BK431:=n3_;have BK432:=n4_;have BK440:=n5_;have HB:=n6_;clear n0_ n1_ n2_ n3_ n4_ n5_ n6_;have n0_:=aM (Kd.R_drew HO_11.out);have n1_:=aM (Kd.R_drew HO_16.out);have n2_:=aM (Kd.S_drew HO_441001.out);have n3_:=aM (blk_drew BK431.out);have n4_:=aM (blk_drew BK432.out);have n5_:=aM (blk_drew BK440.out);have n6_:=aM (below_drew1 HB.out);clear HO_11;clear HO_16;clear HO_441001;clear BK431;clear BK432;clear BK440;clear HB;have HO_11:=n0_;have HO_16:=n1_;have HO_441001:=n2_;have BK431:=n3_;have BK432:=n4_;have BK440:=n5_;have HB:=n6_;clear n0_ n1_ n2_ n3_ n4_ n5_ n6_;have p453:0≤(x13_1:Int):=oE aS
                        have q453:x13_1 < (l0_1.length:Int):=oE aS
                        obtain⟨ad453,A453_0,c453_0,e453,hx453_0,hl453_0,hi453_0⟩:=at_L1 HR0_1.out x13_1 p453 q453;have hw453_0:=hx453_0;obtain rfl:ad434=ad453:=(by injection e453)
                        replace hx453_0:=(HB.out.cell (World.block_lt_of_cell? w _ hx453_0)).trans hx453_0;have HR453_0:=aM hi453_0;have HC453_0:=aM hl453_0;clear hi453_0 hl453_0;replace p453:=eq_true p453;replace q453:=eq_true q453;have p454:0≤(x17_2:Int):=oE aS
                        have q454:x17_2 < ((rd_L1 l0_1 x13_1).length:Int):=oE aS
                        obtain⟨ad454,e454,hx454_0⟩:=Kd.at_int HR453_0.out x17_2 p454 q454;have hw454_0:=hx454_0;cases e454
                        replace hx454_0:=(HB.out.cell (World.block_lt_of_cell? w _ hx454_0)).trans hx454_0;replace p454:=eq_true p454;replace q454:=eq_true q454;have p455:0≤(x17_2:Int):=oE aS
                        have q455:x17_2 < ((rd_L1 l0_1 x13_1).length:Int):=oE aS
                        obtain⟨ad455,e455,hx455_0⟩:=Kd.at_int HR446_0.out x17_2 p455 q455;have hw455_0:=hx455_0;obtain rfl:ad451=ad455:=(by injection e455)
                        replace hx455_0:=(HB.out.cell (World.block_lt_of_cell? w _ hx455_0)).trans hx455_0;replace p455:=eq_true p455;replace q455:=eq_true q455;have p55:0≤(x17_2:Int):=oE aS
                        have q55:(x17_2:Int) < ((x16_2.length:Int):Int):=oE aS
                        obtain⟨go55,co55,eo55,gb55,gl55,cl55,HG55⟩:=Kd.R_form HO_16.out (by omega)
                        (first|cases eo55|(injection eo55 with ea_ en_ ec_;(first|subst ea_|(injection ea_ with ea_;subst ea_));subst ec_;clear en_))
                        have GB55:=aM gb55;have GG55:=aM HG55;clear gb55 gl55 HG55;obtain⟨hx55_0,hf55_0⟩:=Kd.R_celln 0 HO_16.out (x17_2:Int) p55 q55;replace p55:=eq_true p55;replace q55:=eq_true q55;have HP61:=Kd.R_putn HO_16.out (x17_2:Int) (wrap64 ((rd (rd_L1 l0_1 x13_1) x17_2) - (rd (rd_L1 l0_1 x13_1) x17_2)));rw[← Ny456.out] at HP61;have HQ61:=aM HP61;clear HP61;refine start_ (n:=17) (S:=fun w'=>w'.cell? ⟨gb431,0,none⟩=some (.int .i64 a0_0)∧w'.cell? ⟨gb431,1,none⟩=some (.slice (some ad434) l0_1.length c0_1)∧w'.cell? (ad434.add (x13_1).toNat)=some (.slice (some ad454) (rd_L1 l0_1 x13_1).length c453_0)∧w'.cell? (ad454.add (x17_2).toNat)=some (.int .i64 (rd (rd_L1 l0_1 x13_1) x17_2))∧w'.cell? (ad451.add (x17_2).toNat)=some (.int .i64 (rd (rd_L1 l0_1 x13_1) x17_2))) (ds:=[16]) #[false,false,false,false,false,false,false,false,false,false,false,false,false,false,false,false,false] (by kernel_rfl) rfl rfl ⟨(blk_cell BK431.out 0).trans rfl,(blk_cell BK431.out 1).trans rfl,((HB.out.cell (World.block_lt_of_cell? w _ hw453_0)).trans hw453_0),((HB.out.cell (World.block_lt_of_cell? w _ hw454_0)).trans hw454_0),((HB.out.cell (World.block_lt_of_cell? w _ hw455_0)).trans hw455_0)⟩ (fun hHeld=>?_);refine with_tabW Azw.tab27 Azw.bits27 (fun HT_ HW_=>?_)
                        generalize w59.drew=w60 at HO_11 HO_16 HO_441001 BK431 BK432 BK440 HB GG55 HQ58 HQ61 HR453_0 hf55_0 hx453_0 hx454_0 hx455_0 hx55_0 hHeld ⊢;refine pU (i:=0) (N:=some 99) HT_ #[true,false,false,false,false,false,false,false,false,false,false,false,false,false,false,false,false] ?_;refine pU (i:=1) (N:=some 100) HT_ #[true,true,false,false,false,false,false,false,false,false,false,false,false,false,false,false,false] ?_;refine pU (i:=2) (N:=some 101) HT_ #[true,true,true,false,false,false,false,false,false,false,false,false,false,false,false,false,false] ?_;refine pU (i:=4) (N:=some 103) HT_ #[true,true,true,false,true,false,false,false,false,false,false,false,false,false,false,false,false] ?_;refine pU (i:=7) (N:=some 106) HT_ #[true,true,true,false,true,false,false,true,false,false,false,false,false,false,false,false,false] ?_;refine pU (i:=10) (N:=some 109) HT_ #[true,true,true,false,true,false,false,true,false,false,true,false,false,false,false,false,false] ?_;refine pU (i:=11) (N:=some 110) HT_ #[true,true,true,false,true,false,false,true,false,false,true,true,false,false,false,false,false] ?_;refine pU (i:=12) (N:=some 111) HT_ #[true,true,true,false,true,false,false,true,false,false,true,true,true,false,false,false,false] ?_;refine take_ (i:=3) (N:=some 102) (v:=?_) (a':=?_) #[true,true,true,true,true,false,false,true,false,false,true,true,true,false,false,false,false] rfl rfl (take_ofW HT_.out HW_.out (by kernel_rfl)) (fun _ _ _ h=>h) (Or.inl ⟨by rfl,?_⟩) hHeld ?_ ?_
                        rotate_left
                        ·rintro w' ⟨s0,s1,s2,s3,s4⟩;go_simp
                         with_reducible rfl
                        rotate_left
                        ·simp only[Act.put,sA,sZ,sC,i64_w,i32_w];rfl
                        refine pU (i:=5) (N:=some 104) HT_ #[true,true,true,true,true,true,false,true,false,false,true,true,true,false,false,false,false] ?_;refine take_ (i:=6) (N:=some 105) (v:=?_) (a':=?_) #[true,true,true,true,true,true,true,true,false,false,true,true,true,false,false,false,false] rfl rfl (take_ofW HT_.out HW_.out (by kernel_rfl)) (fun _ _ _ h=>h) (Or.inl ⟨by rfl,?_⟩) hHeld ?_ ?_
                        rotate_left
                        ·rintro w' ⟨s0,s1,s2,s3,s4⟩;go_simp
                         with_reducible rfl
                        rotate_left
                        ·simp only[Act.put,sA,sZ,sC,i64_w,i32_w];rfl
                        refine pU (i:=8) (N:=some 107) HT_ #[true,true,true,true,true,true,true,true,true,false,true,true,true,false,false,false,false] ?_;refine take_ (i:=9) (N:=some 108) (v:=?_) (a':=?_) #[true,true,true,true,true,true,true,true,true,true,true,true,true,false,false,false,false] rfl rfl (take_ofW HT_.out HW_.out (by kernel_rfl)) (fun _ _ _ h=>h) (Or.inl ⟨by rfl,?_⟩) hHeld ?_ ?_
                        rotate_left
                        ·rintro w' ⟨s0,s1,s2,s3,s4⟩;go_simp
                         with_reducible rfl
                        rotate_left
                        ·simp only[Act.put,sA,sZ,sC,i64_w,i32_w];rfl
                        refine take_ (i:=13) (N:=some 112) (v:=?_) (a':=?_) #[true,true,true,true,true,true,true,true,true,true,true,true,true,true,false,false,false] rfl rfl (take_ofW HT_.out HW_.out (by kernel_rfl)) (fun _ _ _ h=>h) (Or.inl ⟨by rfl,?_⟩) hHeld ?_ ?_
                        rotate_left
                        ·rintro w' ⟨s0,s1,s2,s3,s4⟩;go_simp
                         with_reducible rfl
                        rotate_left
                        ·simp only[Act.put,sA,sZ,sC,i64_w,i32_w];rfl
                        refine pU (i:=14) (N:=some 113) HT_ #[true,true,true,true,true,true,true,true,true,true,true,true,true,true,true,false,false] ?_;refine pU (i:=15) (N:=some 114) HT_ #[true,true,true,true,true,true,true,true,true,true,true,true,true,true,true,true,false] ?_;refine last_ (i:=16) (N:=none) #[true,true,true,true,true,true,true,true,true,true,true,true,true,true,true,true,true] rfl rfl (one_of HT_.out (by kernel_rfl)) (by decide) (fun K hK=>?_)
                        refine skip_ (w1:=?_) (by rfl) rfl ?_ ?_
                        rotate_left
                        ·go_simp
                         rfl
                        refine hK.out _ _ ?_;clear hK K;refine done_ (done_of HT_.out (by kernel_rfl)) ?_
                        try go_wp2
                        go_roundg k2
                        case measure=>have:=HK1.out;have:=HK2.out;omega
                        case rel=>rw[Int.sub_self] at HQ61;exact⟨(y452),(y456),(wrap64 (x17_2+1)),sD,H',⟨by have:=HK1.out;have:=HK2.out;omega⟩,⟨by(with_reducible repeat(first|apply Kd.R_alloc|apply Kd.R_drewN|apply Kd.R_drew));exact Kd.R_mono (Kd.R_far (p:=⟨go55,(x17_2:Int).toNat,none⟩) (Kd.R_mono HO_11.out (fun k_ hk=>(⟨hk,fun e_=>hk (by rw[e_];rfl)⟩:_∧k_≠go55))) (fun _ hk=>hk.2) (.int .i64 (wrap64 0))) (fun _ hk=>hk.1)⟩,⟨rX HQ61.out⟩,⟨by(with_reducible repeat(first|apply Kd.S_alloc|apply Kd.S_drewN|apply Kd.S_drew));exact Kd.S_mono (Kd.S_far (p:=⟨go55,(x17_2:Int).toNat,none⟩) (Kd.S_mono HO_441001.out (fun k_ hk=>(⟨hk,fun e_=>hk.2 (by rw[e_];rfl)⟩:_∧k_≠go55))) (fun _ hk=>hk.2) (.int .i64 (wrap64 0))) (fun _ hk=>⟨hk.1.1,hk.1.2⟩)⟩,⟨by refine bD ?_;refine blk_far ?_ (by have h_:=Kd.R_ne HO_16.out BK431.out (by decide);intro e_;exact h_ (by rw[e_];rfl)) _;(with_reducible repeat(first|refine blk_drewN ?_ _|refine blk_drew ?_|refine blk_alloc ?_ _));exact BK431.out⟩,⟨by refine bD ?_;refine blk_far ?_ (by have h_:=Kd.R_ne HO_16.out BK432.out (by decide);intro e_;exact h_ (by rw[e_];rfl)) _;(with_reducible repeat(first|refine blk_drewN ?_ _|refine blk_drew ?_|refine blk_alloc ?_ _));exact BK432.out⟩,⟨by refine bD ?_;refine blk_far ?_ (by have h_:=Kd.R_ne HO_16.out BK440.out (by decide);intro e_;exact h_ (by rw[e_];rfl)) _;(with_reducible repeat(first|refine blk_drewN ?_ _|refine blk_drew ?_|refine blk_alloc ?_ _));exact BK440.out⟩,⟨pB⟩⟩
                       ·rw[if_neg c54] at H;exact absurd H (by simp)
                      ·rw[if_neg c53] at H;exact absurd H (by simp)
                     ·rw[if_neg c52] at H;exact absurd H (by simp)
                    ·rw[if_neg c51] at H;exact absurd H (by simp)
                   ·rw[if_neg c49] at H;exact absurd H (by simp)
                  ·rw[if_neg c48] at H;exact absurd H (by simp)
                 ·rw[if_neg c47] at H;exact absurd H (by simp)
                ·rw[if_neg c46] at H;have c46b0:decide (x17_2 < ((rd_L1 l0_1 0).length:Int))=false:=decide_eq_false c46;clear c46;replace H:=bS H;obtain⟨t457,A620,H⟩:=H;try dsimp only at H
                 have A62:=aM A620;clear A620;replace H:=bS H;obtain⟨t458,A630,H⟩:=H;try dsimp only at H
                 have A63:=aM A630;clear A630;by_cases c64:t458 > 0
                 ·rw[if_pos c64] at H;have c64b0:decide (0 < t458)=true:=dE c64;clear c64;by_cases c65:x441001_1.length < 5864062014805
                  ·rw[if_pos c65] at H;have LMc65:=aM c65;clear c65;obtain⟨y459,hy459⟩:∃ y_:List (List Int),y_=(x441001_1 ++ [x16_2]):=⟨_,rfl⟩;replace H:(Azw.l0 k2 l1 ((rd_L1 l0_1 0).length:Int) (wrap64 (x10_1 - t457)) x11_2 (wrap64 (x13_1+1)) a0_0 l0_1 a0_0 y459)=some (r1,r2,r3,r4):=by first|(rw[hy459];with_reducible exact H)|(have H2_:=(Option.bind_some _ _).symm.trans H;rw[hy459];with_reducible exact H2_)|(have H2_:=(Option.bind_some _ _).symm.trans H;with_reducible exact H2_)|with_reducible exact H|(rw[hy459];exact H)|exact H
                   have Ny459:=aM hy459;clear hy459;have H':=aM H;clear H;go_wp2_with (first|((with_reducible refine gate_callee (f:=21) rfl ?_);refine goesL_ (some 117) rfl rfl Try.func21 (by kernel_rfl) rfl #[.slice A444_0 (rd_L1 l0_1 x13_1).length c444_0] rfl mA ?_;(with_reducible refine(Azp.calls k2 _ _ (rd_L1 l0_1 x13_1) t457 _ ?side1 ?side2 A62.out).mono ?_);(case side1=>exact cX (Kd.C_below HR446_0.out HB.out));(case side2=>exact HC446_0.out);rintro e w' ⟨rfl,⟨nd,rfl⟩⟩;refine⟨_,rfl,?_⟩;(try(rw[drewN_self wr];generalize hq_:World.drewN wr _=wr;have n0_:Aside0 (Kd.R (Kd.int .i64) 3 wr w.heap.size (fun k_=>some k_≠(v448:Value).ownBlock) v438 x11_2):=⟨by rw[← hq_];exact(rX HO_11.out)⟩;have n1_:Aside0 (Kd.R (Kd.int .i64) 3 wr w.heap.size (fun k_=>some k_≠(v438:Value).ownBlock) v448 x16_2):=⟨by rw[← hq_];exact(rX HO_16.out)⟩;have n2_:Aside0 (Kd.S (Kd.slice 3 (Kd.int .i64)) 29 wr w.heap.size (fun k_=>some k_≠(v438:Value).ownBlock∧some k_≠(v448:Value).ownBlock) u441001 x441001_1):=⟨by rw[← hq_];exact(by(with_reducible repeat(first|apply Kd.S_alloc|apply Kd.S_drewN|apply Kd.S_drew));exact HO_441001.out)⟩;have n3_:Aside0 (wr.heap[gb431]?=some (.cells #[.int .i64 a0_0,.slice (some ad434) l0_1.length c0_1] 24 (0,0))):=⟨by rw[← hq_];exact(kW BK431)⟩;have n4_:Aside0 (wr.heap[gb432]?=some (.cells #[.int .i64 0,.slice none 0 0] 24 (0,0))):=⟨by rw[← hq_];exact(kW BK432)⟩;have n5_:Aside0 (wr.heap[gb440]?=some (.cells #[.int .i64 a0_0,u441001] 24 (0,0))):=⟨by rw[← hq_];exact(kW BK440)⟩;have n6_:Aside0 (Below w.heap.size w wr):=⟨by rw[← hq_];exact pB⟩;clear HO_11 HO_16 HO_441001 BK431 BK432 BK440 HB hq_;have HO_11:=n0_;have HO_16:=n1_;have HO_441001:=n2_;have BK431:=n3_;have BK432:=n4_;have BK440:=n5_;have HB:=n6_;clear n0_ n1_ n2_ n3_ n4_ n5_ n6_;have hcqgb431_0:wr.cell? ⟨gb431,0,none⟩=some (.int .i64 a0_0):=(blk_cell BK431.out 0).trans rfl;have hfqgb431_0:=blk_frozen BK431.out 0;have hcqgb431_1:wr.cell? ⟨gb431,1,none⟩=some (.slice (some ad434) l0_1.length c0_1):=(blk_cell BK431.out 1).trans rfl;have hfqgb431_1:=blk_frozen BK431.out 1;have hcqgb432_0:wr.cell? ⟨gb432,0,none⟩=some (.int .i64 0):=(blk_cell BK432.out 0).trans rfl;have hfqgb432_0:=blk_frozen BK432.out 0;have hcqgb432_1:wr.cell? ⟨gb432,1,none⟩=some (.slice none 0 0):=(blk_cell BK432.out 1).trans rfl;have hfqgb432_1:=blk_frozen BK432.out 1;have hcqgb440_0:wr.cell? ⟨gb440,0,none⟩=some (.int .i64 a0_0):=(blk_cell BK440.out 0).trans rfl;have hfqgb440_0:=blk_frozen BK440.out 0;have hcqgb440_1:wr.cell? ⟨gb440,1,none⟩=some (u441001):=(blk_cell BK440.out 1).trans rfl;have hfqgb440_1:=blk_frozen BK440.out 1));obtain⟨Ao66,co66,eo66⟩:=Kd.R_slice HO_16.out;subst eo66)|((with_reducible refine gate_callee (f:=21) rfl ?_);refine goesL_ (some 120) rfl rfl Try.func21 (by kernel_rfl) rfl #[.slice Ao66 x16_2.length co66] rfl mA ?_;(with_reducible refine(Azp.calls k2 _ _ x16_2 t458 _ ?side1 ?side2 A63.out).mono ?_);(case side1=>repeat(first|exact(Kd.R_reads' HO_16.out).2.2|(with_reducible refine Kd.C_alloc ?_ _)|(with_reducible refine Kd.C_drewN ?_ _)|(with_reducible refine Kd.C_drew ?_)));(case side2=>exact(Kd.R_reads' HO_16.out).2.1);rintro e w' ⟨rfl,⟨nd,rfl⟩⟩;refine⟨_,rfl,?_⟩;(try(rw[drewN_self wr];generalize hq_:World.drewN wr _=wr;have n0_:Aside0 (Kd.R (Kd.int .i64) 3 wr w.heap.size (fun k_=>some k_≠(.slice Ao66 x16_2.length co66:Value).ownBlock) v438 x11_2):=⟨by rw[← hq_];exact(rX HO_11.out)⟩;have n1_:Aside0 (Kd.R (Kd.int .i64) 3 wr w.heap.size (fun k_=>some k_≠(v438:Value).ownBlock) (.slice Ao66 x16_2.length co66) x16_2):=⟨by rw[← hq_];exact(rX HO_16.out)⟩;have n2_:Aside0 (Kd.S (Kd.slice 3 (Kd.int .i64)) 29 wr w.heap.size (fun k_=>some k_≠(v438:Value).ownBlock∧some k_≠(.slice Ao66 x16_2.length co66:Value).ownBlock) u441001 x441001_1):=⟨by rw[← hq_];exact(by(with_reducible repeat(first|apply Kd.S_alloc|apply Kd.S_drewN|apply Kd.S_drew));exact HO_441001.out)⟩;have n3_:Aside0 (wr.heap[gb431]?=some (.cells #[.int .i64 a0_0,.slice (some ad434) l0_1.length c0_1] 24 (0,0))):=⟨by rw[← hq_];exact(kW BK431)⟩;have n4_:Aside0 (wr.heap[gb432]?=some (.cells #[.int .i64 0,.slice none 0 0] 24 (0,0))):=⟨by rw[← hq_];exact(kW BK432)⟩;have n5_:Aside0 (wr.heap[gb440]?=some (.cells #[.int .i64 a0_0,u441001] 24 (0,0))):=⟨by rw[← hq_];exact(kW BK440)⟩;have n6_:Aside0 (Below w.heap.size w wr):=⟨by rw[← hq_];exact pB⟩;clear HO_11 HO_16 HO_441001 BK431 BK432 BK440 HB hq_;have HO_11:=n0_;have HO_16:=n1_;have HO_441001:=n2_;have BK431:=n3_;have BK432:=n4_;have BK440:=n5_;have HB:=n6_;clear n0_ n1_ n2_ n3_ n4_ n5_ n6_;have hcqgb431_0:wr.cell? ⟨gb431,0,none⟩=some (.int .i64 a0_0):=(blk_cell BK431.out 0).trans rfl;have hfqgb431_0:=blk_frozen BK431.out 0;have hcqgb431_1:wr.cell? ⟨gb431,1,none⟩=some (.slice (some ad434) l0_1.length c0_1):=(blk_cell BK431.out 1).trans rfl;have hfqgb431_1:=blk_frozen BK431.out 1;have hcqgb432_0:wr.cell? ⟨gb432,0,none⟩=some (.int .i64 0):=(blk_cell BK432.out 0).trans rfl;have hfqgb432_0:=blk_frozen BK432.out 0;have hcqgb432_1:wr.cell? ⟨gb432,1,none⟩=some (.slice none 0 0):=(blk_cell BK432.out 1).trans rfl;have hfqgb432_1:=blk_frozen BK432.out 1;have hcqgb440_0:wr.cell? ⟨gb440,0,none⟩=some (.int .i64 a0_0):=(blk_cell BK440.out 0).trans rfl;have hfqgb440_0:=blk_frozen BK440.out 0;have hcqgb440_1:wr.cell? ⟨gb440,1,none⟩=some (u441001):=(blk_cell BK440.out 1).trans rfl;have hfqgb440_1:=blk_frozen BK440.out 1));have hnb67:=NB440_431.out;have hnc67:=NB431_440.out;have hnb68:=NB440_432.out;have hnc68:=NB432_440.out;obtain⟨hcz69_0,hcz69_1,hfz69_0,hfz69_1⟩:=bk2 BK440)|((with_reducible refine gate_builtin (b:=.append) (xs:=#[.tmp 123,.tmp 125]) rfl ?_);at_builtin;refine Kd.S_append (Kd.slice 3 (Kd.int .i64)) (w0:=w) w.heap.size rfl (.tmp 123) (.tmp 125) 22 29 (.slice none 0 0) 24 rfl Try.underlying22 info29 rfl (by decide) (by omega) u441001 x441001_1 x16_2 [.slice Ao66 x16_2.length co66] (fun k_=>some k_≠(v438:Value).ownBlock) (fun k_=>some k_=(.slice Ao66 x16_2.length co66:Value).ownBlock) rfl rfl ?aP (fun k_ hk_=>((Kd.R_mono (ok':=fun k_=>((fun k_=>some k_≠(v438:Value).ownBlock)) k_∧some k_≠(u441001:Value).ownBlock) (Kd.R_apart' (HO_16.out) (Kd.S_typed HO_441001.out) (by decide)) (fun k_ hk=>⟨hk.1,hk.2⟩))).1 k_ hk_.symm) ?aF ?aO ?aB ?aS ?aL ?_;(case aP=>exact Kd.M_row (Kd.R_mono (Kd.R_tight rfl (Kd.R_mono (ok':=fun k_=>((fun k_=>some k_≠(v438:Value).ownBlock)) k_∧some k_≠(u441001:Value).ownBlock) (Kd.R_apart' (HO_16.out) (Kd.S_typed HO_441001.out) (by decide)) (fun k_ hk=>⟨hk.1,hk.2⟩))) (fun _ h_=>h_)));(case aB=>exact pB);(case aF=>exact(fun k_ hk=>Kd.fresh' (Kd.R_lt (rX HO_11.out)) k_ hk));(case aO=>exact(by(with_reducible repeat(first|apply Kd.S_alloc|apply Kd.S_drewN|apply Kd.S_drew));exact Kd.S_mono HO_441001.out (fun k_ hk=>⟨hk.1,fun e_=>hk.2 e_⟩)));(case aS=>exact(below_size pB));(case aL=>have:=LMc65.out;omega);intro v460 w70 ho hb hg hat;rw[← Ny459.out] at ho;have HO461:=aM (ho);replace HO_11:=aM (Kd.R_over' (rX HO_11.out) (Kd.S_typed (by(with_reducible repeat(first|apply Kd.S_alloc|apply Kd.S_drewN|apply Kd.S_drew));exact HO_441001.out)) (by decide) hg);replace BK431:=aM (blk_grown (g:=gb431) (o:=.cells #[.int .i64 a0_0,.slice (some ad434) l0_1.length c0_1] 24 (0,0)) (kW BK431) hg (Kd.S_ne HO_441001.out BK431.out (by decide)));replace BK432:=aM (blk_grown (g:=gb432) (o:=.cells #[.int .i64 0,.slice none 0 0] 24 (0,0)) (kW BK432) hg (Kd.S_ne HO_441001.out BK432.out (by decide)));replace BK440:=aM (blk_grown (g:=gb440) (o:=.cells #[.int .i64 a0_0,u441001] 24 (0,0)) (kW BK440) hg (Kd.S_ne HO_441001.out BK440.out (by decide)));replace HB:=aM (hb);clear HO_16;clear HO_441001;clear ho hb hg hat;obtain⟨Ao71,co71,eo71⟩:=Kd.S_slice HO461.out;subst eo71;obtain⟨hcz72_0,hcz72_1,hfz72_0,hfz72_1⟩:=bk2 BK440))
                   go_roundg k2
                   case measure=>have:=HK1.out;have:=HK2.out;omega
                   case rel=>exact⟨(wrap64 (x10_1 - t457)),(x11_2),(wrap64 (x13_1+1)),(y459),(.slice Ao71 y459.length co71),sD,sD,H',⟨by have:=HK1.out;have:=HK2.out;omega⟩,⟨by(with_reducible repeat(first|apply Kd.R_alloc|apply Kd.R_drewN|apply Kd.R_drew));exact Kd.R_mono (Kd.R_far (p:=⟨gb440,1,none⟩) (Kd.R_types HO_11.out BK440.out (by decide)) (fun _ hk=>hk.2) (.slice Ao71 y459.length co71)) (fun _ hk=>trivial)⟩,⟨by(with_reducible repeat(first|apply Kd.S_alloc|apply Kd.S_drewN|apply Kd.S_drew));exact Kd.S_mono (Kd.S_far (p:=⟨gb440,1,none⟩) (Kd.S_types HO461.out BK440.out (by decide)) (fun _ hk=>hk.2) (.slice Ao71 y459.length co71)) (fun _ hk=>hk.1)⟩,⟨by refine bD ?_;refine blk_far ?_ NB431_440.out _;(with_reducible repeat(first|refine blk_drewN ?_ _|refine blk_drew ?_|refine blk_alloc ?_ _));exact BK431.out⟩,⟨by refine bD ?_;refine blk_far ?_ NB432_440.out _;(with_reducible repeat(first|refine blk_drewN ?_ _|refine blk_drew ?_|refine blk_alloc ?_ _));exact BK432.out⟩,⟨by refine bD ?_;refine blk_put (cs:=#[.int .i64 a0_0,u441001]) ?_ 1 _ rfl;(with_reducible repeat(first|refine blk_drewN ?_ _|refine blk_drew ?_|refine blk_alloc ?_ _));exact BK440.out⟩,⟨pB⟩⟩
                  ·rw[if_neg c65] at H;exact absurd H (by simp)
                 ·rw[if_neg c64] at H;have c64b0:decide (0 < t458)=false:=decide_eq_false c64;clear c64;have H':=aM H;clear H;go_wp2_with (first|((with_reducible refine gate_callee (f:=21) rfl ?_);refine goesL_ (some 117) rfl rfl Try.func21 (by kernel_rfl) rfl #[.slice A444_0 (rd_L1 l0_1 x13_1).length c444_0] rfl mA ?_;(with_reducible refine(Azp.calls k2 _ _ (rd_L1 l0_1 x13_1) t457 _ ?side1 ?side2 A62.out).mono ?_);(case side1=>exact cX (Kd.C_below HR446_0.out HB.out));(case side2=>exact HC446_0.out);rintro e w' ⟨rfl,⟨nd,rfl⟩⟩;refine⟨_,rfl,?_⟩;obtain⟨Ao73,co73,eo73⟩:=Kd.R_slice HO_16.out;subst eo73)|((with_reducible refine gate_callee (f:=21) rfl ?_);refine goesL_ (some 120) rfl rfl Try.func21 (by kernel_rfl) rfl #[.slice Ao73 x16_2.length co73] rfl mA ?_;(with_reducible refine(Azp.calls k2 _ _ x16_2 t458 _ ?side1 ?side2 A63.out).mono ?_);(case side1=>repeat(first|exact(Kd.R_reads' HO_16.out).2.2|(with_reducible refine Kd.C_alloc ?_ _)|(with_reducible refine Kd.C_drewN ?_ _)|(with_reducible refine Kd.C_drew ?_)));(case side2=>exact(Kd.R_reads' HO_16.out).2.1);rintro e w' ⟨rfl,⟨nd,rfl⟩⟩;refine⟨_,rfl,?_⟩))
                  go_roundg k2
                  case measure=>have:=HK1.out;have:=HK2.out;omega
                  case rel=>exact⟨(wrap64 (x10_1 - t457)),(x11_2),(wrap64 (x13_1+1)),(x441001_1),(u441001),sD,sD,H',⟨by have:=HK1.out;have:=HK2.out;omega⟩,⟨by(with_reducible repeat(first|apply Kd.R_alloc|apply Kd.R_drewN|apply Kd.R_drew));exact Kd.R_mono HO_11.out (fun _ hk=>trivial)⟩,⟨by(with_reducible repeat(first|apply Kd.S_alloc|apply Kd.S_drewN|apply Kd.S_drew));exact Kd.S_mono HO_441001.out (fun _ hk=>hk.1)⟩,⟨by(with_reducible repeat(first|refine blk_drewN ?_ _|refine blk_drew ?_|refine blk_alloc ?_ _));exact BK431.out⟩,⟨by(with_reducible repeat(first|refine blk_drewN ?_ _|refine blk_drew ?_|refine blk_alloc ?_ _));exact BK432.out⟩,⟨by(with_reducible repeat(first|refine blk_drewN ?_ _|refine blk_drew ?_|refine blk_alloc ?_ _));exact BK440.out⟩,⟨pB⟩⟩
             ·rw[if_neg c37] at H;have c37b0:decide (t445≤x10_1)=false:=decide_eq_false c37;clear c37;by_cases c74:x10_1 > 0
              ·rw[if_pos c74] at H;have c74b0:decide (0 < x10_1)=true:=dE c74;clear c74;replace H:=bS H;obtain⟨t463,A750,H⟩:=H;try dsimp only at H
               have A75:=aM A750;clear A750;obtain⟨y466,hy466⟩:∃ y_:List Int,y_=(List.replicate (((rd_L1 l0_1 0).length:Int):Int).toNat 0):=⟨_,rfl⟩;replace H:(Azw.l52 k1 l1 ((rd_L1 l0_1 0).length:Int) x10_1 x11_1 x13_1 t463 y466 0 a0_0 l0_1 a0_0 x441001_1)=some (r1,r2,r3,r4):=by first|(rw[hy466];with_reducible exact H)|(have H2_:=(Option.bind_some _ _).symm.trans H;rw[hy466];with_reducible exact H2_)|(have H2_:=(Option.bind_some _ _).symm.trans H;with_reducible exact H2_)|with_reducible exact H|(rw[hy466];exact H)|exact H
               have Ny466:=aM hy466;clear hy466;have H':=aM H;clear H;have hnb76:=NB431_432.out;have hnc76:=NB432_431.out;have hnb77:=NB431_440.out;have hnc77:=NB440_431.out;obtain⟨hcz78_0,hcz78_1,hfz78_0,hfz78_1⟩:=bk2 BK431;go_wp2_with (first|((with_reducible refine gate_dst (N:=56) rfl ?_);refine Kd.R_make (Kd.int .i64) _ 3 rfl (N:=56) rfl 29 _ _ rfl ((rd_L1 l0_1 0).length:Int) rfl rfl Try.underlying29 (.int .i64 0) 8 info3 rfl (by decide) (by omega) 0 (ok:=fun _=>True) (okp:=fun _=>True) rfl (fun _ hk=>hk) trivial (oE aS) (Nat.le_trans (Nat.mul_le_mul_right _ (oE aS:((rd_L1 l0_1 0).length:Int).toNat≤35184372088832)) (by omega)) (Below.refl _ _) (Nat.le_refl _) ?_;intro v442 w79 ho80 hb hg_ hnew_;clear hg_ hnew_;(first|rw[← Ny441.out] at ho80|(simp only[Int.reduceToNat] at ho80;rw[← Ny441.out] at ho80));have HO443:=aM (Kd.R_lower (Kd.R_new' ho80 (Kd.R_lt (rX HO_11.out))) (below_size pB));replace HO_11:=aM (Kd.R_elder' (rX HO_11.out) (Kd.R_base ho80) hb);replace HO_441001:=aM (Kd.S_elder' (by(with_reducible repeat(first|apply Kd.S_alloc|apply Kd.S_drewN|apply Kd.S_drew));exact HO_441001.out) (Kd.R_base ho80) hb);replace BK431:=aM (kB BK431 hb);replace BK432:=aM (kB BK432 hb);replace BK440:=aM (kB BK440 hb);replace HB:=aM (below_step pB hb);clear hb ho80;obtain⟨hcz81_0,hcz81_1,hfz81_0,hfz81_1⟩:=bk2 BK431;have p444:0≤(x13_1:Int):=oE aS;have q444:x13_1 < (l0_1.length:Int):=oE aS;obtain⟨ad444,A444_0,c444_0,e444,hx444_0,hl444_0,hi444_0⟩:=at_L1 HR0_1.out x13_1 p444 q444;obtain rfl:ad434=ad444:=(by injection e444);replace hx444_0:=(HB.out.cell (World.block_lt_of_cell? w _ hx444_0)).trans hx444_0;have HR444_0:=aM hi444_0;have HC444_0:=aM hl444_0;clear hi444_0 hl444_0;replace p444:=eq_true p444;replace q444:=eq_true q444)|((with_reducible refine gate_callee (f:=21) rfl ?_);refine goesL_ (some 62) rfl rfl Try.func21 (by kernel_rfl) rfl #[.slice A444_0 (rd_L1 l0_1 x13_1).length c444_0] rfl mA ?_;(with_reducible refine(Azp.calls k1 _ _ (rd_L1 l0_1 x13_1) t445 _ ?side1 ?side2 A36.out).mono ?_);(case side1=>exact cX (Kd.C_below HR444_0.out HB.out));(case side2=>exact HC444_0.out);rintro e w' ⟨rfl,⟨nd,rfl⟩⟩;refine⟨_,rfl,?_⟩;have p462:0≤(x13_1:Int):=oE aS;have q462:x13_1 < (l0_1.length:Int):=oE aS;obtain⟨ad462,A462_0,c462_0,e462,hx462_0,hl462_0,hi462_0⟩:=at_L1 HR0_1.out x13_1 p462 q462;obtain rfl:ad434=ad462:=(by injection e462);replace hx462_0:=(HB.out.cell (World.block_lt_of_cell? w _ hx462_0)).trans hx462_0;have HR462_0:=aM hi462_0;have HC462_0:=aM hl462_0;clear hi462_0 hl462_0;replace p462:=eq_true p462;replace q462:=eq_true q462;have ea_:=Option.some.inj (hx444_0.symm.trans hx462_0);injection ea_ with ea_ en_ ec_;subst ea_;subst ec_;clear en_)|((with_reducible refine gate_callee (f:=34) rfl ?_);refine goesL_ (some 79) rfl rfl Try.func34 (by kernel_rfl) rfl #[.int .i64 x10_1,.slice A444_0 (rd_L1 l0_1 x13_1).length c444_0] rfl mA ?_;(with_reducible refine(Azm.calls k1 x10_1 _ _ (rd_L1 l0_1 x13_1) t463 _ ?side1 ?side2 A75.out).mono ?_);(case side1=>repeat(first|exact(Kd.C_below HR462_0.out pB)|(with_reducible refine Kd.C_alloc ?_ _)|(with_reducible refine Kd.C_drewN ?_ _)|(with_reducible refine Kd.C_drew ?_)));(case side2=>exact HC462_0.out);rintro e w82 ⟨v464,rfl,ho0,hb⟩;refine⟨_,rfl,?_⟩;have HO465:=aM (Kd.R_lower (Kd.R_new' (Kd.R_new' ho0 (Kd.R_lt (rX HO_11.out))) (Kd.R_lt (rX HO443.out))) (below_size pB));replace HO_11:=aM (Kd.R_elder' (rX HO_11.out) (Kd.R_base ho0) hb);replace HO_441001:=aM (Kd.S_elder' (by(with_reducible repeat(first|apply Kd.S_alloc|apply Kd.S_drewN|apply Kd.S_drew));exact HO_441001.out) (Kd.R_base ho0) hb);replace HO443:=aM (Kd.R_elder' (rX HO443.out) (Kd.R_base ho0) hb);replace BK431:=aM (kB BK431 hb);replace BK432:=aM (kB BK432 hb);replace BK440:=aM (kB BK440 hb);replace HB:=aM (below_step pB hb);(try clear hb);(try clear hb2);(try clear hk);(try clear hi);(try clear ho0))|((with_reducible refine gate_dst (N:=81) rfl ?_);refine Kd.R_make (Kd.int .i64) _ 3 rfl (N:=81) rfl 29 _ _ rfl ((rd_L1 l0_1 0).length:Int) rfl rfl Try.underlying29 (.int .i64 0) 8 info3 rfl (by decide) (by omega) 0 (ok:=fun _=>True) (okp:=fun _=>True) rfl (fun _ hk=>hk) trivial (oE aS) (Nat.le_trans (Nat.mul_le_mul_right _ (oE aS:((rd_L1 l0_1 0).length:Int).toNat≤35184372088832)) (by omega)) (Below.refl _ _) (Nat.le_refl _) ?_;intro v467 w83 ho84 hb hg_ hnew_;clear hg_ hnew_;(first|rw[← Ny466.out] at ho84|(simp only[Int.reduceToNat] at ho84;rw[← Ny466.out] at ho84));have HO468:=aM (Kd.R_lower (Kd.R_new' (Kd.R_new' (Kd.R_new' ho84 (Kd.R_lt (rX HO_11.out))) (Kd.R_lt (rX HO443.out))) (Kd.R_lt (rX HO465.out))) (below_size pB));replace HO_11:=aM (Kd.R_elder' (rX HO_11.out) (Kd.R_base ho84) hb);replace HO_441001:=aM (Kd.S_elder' (by(with_reducible repeat(first|apply Kd.S_alloc|apply Kd.S_drewN|apply Kd.S_drew));exact HO_441001.out) (Kd.R_base ho84) hb);replace HO443:=aM (Kd.R_elder' (rX HO443.out) (Kd.R_base ho84) hb);replace HO465:=aM (Kd.R_elder' (rX HO465.out) (Kd.R_base ho84) hb);replace BK431:=aM (kB BK431 hb);replace BK432:=aM (kB BK432 hb);replace BK440:=aM (kB BK440 hb);replace HB:=aM (below_step pB hb);clear hb ho84))
               go_loopg [17] k1 (fun kq v17 w'=>∃ (x11_2:List Int) (x16_2:List Int) (x17_2:Int),v17=.int .i64 x17_2∧Aside0 (Azw.l52 kq l1 ((rd_L1 l0_1 0).length:Int) x10_1 x11_2 x13_1 t463 x16_2 x17_2 a0_0 l0_1 a0_0 x441001_1=some (r1,r2,r3,r4))∧Aside0 (kq≤k1)∧Aside0 (Kd.R (Kd.int .i64) 3 w' w.heap.size (fun k_=>some k_≠(v464:Value).ownBlock∧some k_≠(v467:Value).ownBlock) v438 x11_2)∧Aside0 (Kd.R (Kd.int .i64) 3 w' w.heap.size (fun k_=>some k_≠(v438:Value).ownBlock∧some k_≠(v467:Value).ownBlock) v464 t463)∧Aside0 (Kd.R (Kd.int .i64) 3 w' w.heap.size (fun k_=>some k_≠(v438:Value).ownBlock∧some k_≠(v464:Value).ownBlock) v467 x16_2)∧Aside0 (Kd.S (Kd.slice 3 (Kd.int .i64)) 29 w' w.heap.size (fun k_=>some k_≠(v438:Value).ownBlock∧some k_≠(v464:Value).ownBlock∧some k_≠(v467:Value).ownBlock) u441001 x441001_1)∧Aside0 (w'.heap[gb431]?=some (.cells #[.int .i64 a0_0,(.slice (some ad434) l0_1.length c0_1)] 24 (0,0)))∧Aside0 (w'.heap[gb432]?=some (.cells #[.int .i64 0,(.slice none 0 0)] 24 (0,0)))∧Aside0 (w'.heap[gb440]?=some (.cells #[.int .i64 a0_0,u441001] 24 (0,0)))∧Aside0 (Below w.heap.size w w'))
               case atStart=>exact⟨(x11_1),(y466),(0),sD,H',⟨Nat.le_refl _⟩,⟨by(with_reducible repeat(first|apply Kd.R_alloc|apply Kd.R_drewN|apply Kd.R_drew));exact Kd.R_mono HO_11.out (fun _ hk=>⟨hk.1.2,hk.2⟩)⟩,⟨by(with_reducible repeat(first|apply Kd.R_alloc|apply Kd.R_drewN|apply Kd.R_drew));exact Kd.R_mono HO465.out (fun _ hk=>⟨hk.1.1.2,hk.2⟩)⟩,⟨by(with_reducible repeat(first|apply Kd.R_alloc|apply Kd.R_drewN|apply Kd.R_drew));exact Kd.R_mono HO468.out (fun _ hk=>⟨hk.1.1.2,hk.2⟩)⟩,⟨by(with_reducible repeat(first|apply Kd.S_alloc|apply Kd.S_drewN|apply Kd.S_drew));exact Kd.S_mono HO_441001.out (fun _ hk=>⟨hk.1.1.1,⟨hk.1.2,hk.2⟩⟩)⟩,⟨by(with_reducible repeat(first|refine blk_drewN ?_ _|refine blk_drew ?_|refine blk_alloc ?_ _));exact BK431.out⟩,⟨by(with_reducible repeat(first|refine blk_drewN ?_ _|refine blk_drew ?_|refine blk_alloc ?_ _));exact BK432.out⟩,⟨by(with_reducible repeat(first|refine blk_drewN ?_ _|refine blk_drew ?_|refine blk_alloc ?_ _));exact BK440.out⟩,⟨pB⟩⟩
               case round =>
                clear H';try clear c2
                try clear p2
                try clear c3
                try clear c4
                try clear p4
                try clear q4
                try clear hx4
                try clear qi4
                try clear c5
                try clear p5
                try clear q5
                try clear hx5
                try clear hf5
                try clear c6
                try clear p6
                try clear c7
                try clear c21
                try clear c28
                try clear c29
                try clear c30
                try clear c32
                try clear c32b0
                try clear c33
                try clear c33b0
                try clear c33b1
                try clear c34
                try clear c34b0
                try clear c34b1
                try clear c35
                try clear c35b0
                try clear c37
                try clear c37b0
                try clear c38
                try clear c39
                try clear c43
                try clear p43
                try clear q43
                try clear hx43
                try clear qi43
                try clear c44
                try clear p44
                try clear q44
                try clear hx44
                try clear c45
                try clear p45
                try clear q45
                try clear hx45
                try clear c46
                try clear c46b0
                try clear p46
                try clear q46
                try clear hx46
                try clear c47
                try clear c47b0
                try clear c48
                try clear c48b0
                try clear c49
                try clear c49b0
                try clear p50
                try clear q50
                try clear hx50
                try clear hf50
                try clear c51
                try clear c51b0
                try clear c52
                try clear c52b0
                try clear c53
                try clear c53b0
                try clear c54
                try clear c54b0
                try clear p55
                try clear q55
                try clear hx55
                try clear hf55
                try clear c64
                try clear c64b0
                try clear p64
                try clear c65
                try clear c67
                try clear c68
                try clear c74
                try clear c74b0
                try clear c76
                try clear c77
                try clear hcz13_0
                try clear hcz13_1
                try clear hcz15_0
                try clear hcz15_1
                try clear hcz16_0
                try clear hcz16_1
                try clear hcz22_0
                try clear hcz22_1
                try clear hcz24_0
                try clear hcz24_1
                try clear hcz27_0
                try clear hcz27_1
                try clear hcz31_0
                try clear hcz31_1
                try clear hcz40_0
                try clear hcz40_1
                try clear hcz43_0
                try clear hcz43_1
                try clear hcz69_0
                try clear hcz69_1
                try clear hcz72_0
                try clear hcz72_1
                try clear hcz78_0
                try clear hcz78_1
                try clear hcz81_0
                try clear hcz81_1
                try clear hfz13_0
                try clear hfz13_1
                try clear hfz15_0
                try clear hfz15_1
                try clear hfz16_0
                try clear hfz16_1
                try clear hfz22_0
                try clear hfz22_1
                try clear hfz24_0
                try clear hfz24_1
                try clear hfz27_0
                try clear hfz27_1
                try clear hfz31_0
                try clear hfz31_1
                try clear hfz40_0
                try clear hfz40_1
                try clear hfz43_0
                try clear hfz43_1
                try clear hfz69_0
                try clear hfz69_1
                try clear hfz72_0
                try clear hfz72_1
                try clear hfz78_0
                try clear hfz78_1
                try clear hfz81_0
                try clear hfz81_1
                try clear hx434_0
                try clear hx444_0
                try clear hx446_0
                try clear hx450_0
                try clear hx451_0
                try clear hx453_0
                try clear hx454_0
                try clear hx455_0
                try clear hx462_0
                try clear hx50_0
                try clear hx55_0
                try clear p2
                try clear p4
                try clear p43
                try clear p434
                try clear p44
                try clear p444
                try clear p446
                try clear p450
                try clear p451
                try clear p453
                try clear p454
                try clear p455
                try clear p462
                try clear p50
                try clear p55
                try clear q4
                try clear q43
                try clear q434
                try clear q44
                try clear q444
                try clear q446
                try clear q450
                try clear q451
                try clear q453
                try clear q454
                try clear q455
                try clear q462
                try clear q50
                try clear q55
                obtain⟨x11_2,x16_2,x17_2,rfl,HA,HK2,HO_11,HO_14,HO_16,HO_441001,BK431,BK432,BK440,HB⟩:=hrel;cases gk with
                | zero=>exact absurd HA.out (by simp [Azw.l52])
                | succ k2 =>
                 have H:=HA.out;clear HA;simp only[Azw.l52] at H;by_cases c85:x17_2 < ((rd_L1 l0_1 0).length:Int)
                 ·rw[if_pos c85] at H;have c85b0:decide (x17_2 < ((rd_L1 l0_1 0).length:Int))=true:=dE c85;clear c85;by_cases c86:0≤x17_2
                  ·rw[if_pos c86] at H;have c86b0:decide (0≤x17_2)=true:=dE c86;clear c86;by_cases c87:x17_2 < (x11_2.length:Int)
                   ·rw[if_pos c87] at H;have c87b0:decide (x17_2 < (x11_2.length:Int))=true:=dE c87;clear c87;by_cases c88:x17_2 < (t463.length:Int)
                    ·rw[if_pos c88] at H;have c88b0:decide (x17_2 < (t463.length:Int))=true:=dE c88;clear c88;obtain⟨y471,hy471⟩:∃ y_:List Int,y_=(x11_2.set (x17_2:Int).toNat (wrap64 ((rd x11_2 x17_2)+(rd t463 x17_2)))):=⟨_,rfl⟩;replace H:(if 0≤x13_1 then(if x13_1 < (l0_1.length:Int) then(if x17_2 < ((rd_L1 l0_1 x13_1).length:Int) then(if x17_2 < (x16_2.length:Int) then(Azw.l52 k2 l1 ((rd_L1 l0_1 0).length:Int) x10_1 y471 x13_1 t463 (x16_2.set (x17_2:Int).toNat (wrap64 ((rd (rd_L1 l0_1 x13_1) x17_2) - (rd t463 x17_2)))) (wrap64 (x17_2+1)) a0_0 l0_1 a0_0 x441001_1) else(none)) else(none)) else(none)) else(none))=some (r1,r2,r3,r4):=by first|(rw[hy471];with_reducible exact H)|(have H2_:=(Option.bind_some _ _).symm.trans H;rw[hy471];with_reducible exact H2_)|(have H2_:=(Option.bind_some _ _).symm.trans H;with_reducible exact H2_)|with_reducible exact H|(rw[hy471];exact H)|exact H
                     have Ny471:=aM hy471;clear hy471;by_cases c90:0≤x13_1
                     ·rw[if_pos c90] at H;have c90b0:decide (0≤x13_1)=true:=dE c90;clear c90;by_cases c91:x13_1 < (l0_1.length:Int)
                      ·rw[if_pos c91] at H;have c91b0:decide (x13_1 < (l0_1.length:Int))=true:=dE c91;clear c91;by_cases c92:x17_2 < ((rd_L1 l0_1 x13_1).length:Int)
                       ·rw[if_pos c92] at H;have c92b0:decide (x17_2 < ((rd_L1 l0_1 x13_1).length:Int))=true:=dE c92;clear c92;by_cases c93:x17_2 < (x16_2.length:Int)
                        ·rw[if_pos c93] at H;have c93b0:decide (x17_2 < (x16_2.length:Int))=true:=dE c93;clear c93;obtain⟨y475,hy475⟩:∃ y_:List Int,y_=(x16_2.set (x17_2:Int).toNat (wrap64 ((rd (rd_L1 l0_1 x13_1) x17_2) - (rd t463 x17_2)))):=⟨_,rfl⟩;replace H:(Azw.l52 k2 l1 ((rd_L1 l0_1 0).length:Int) x10_1 y471 x13_1 t463 y475 (wrap64 (x17_2+1)) a0_0 l0_1 a0_0 x441001_1)=some (r1,r2,r3,r4):=by first|(rw[hy475];with_reducible exact H)|(have H2_:=(Option.bind_some _ _).symm.trans H;rw[hy475];with_reducible exact H2_)|(have H2_:=(Option.bind_some _ _).symm.trans H;with_reducible exact H2_)|with_reducible exact H|(rw[hy475];exact H)|exact H
                         have Ny475:=aM hy475;clear hy475;have H':=aM H;clear H;try go_wp2
                         have n0_:=aM (Kd.R_drew HO_11.out);have n1_:=aM (Kd.R_drew HO_14.out);have n2_:=aM (Kd.R_drew HO_16.out);have n3_:=aM (Kd.S_drew HO_441001.out);have n4_:=aM (blk_drew BK431.out);have n5_:=aM (blk_drew BK432.out);have n6_:=aM (blk_drew BK440.out);have n7_:=aM (below_drew1 HB.out);clear HO_11;clear HO_14;clear HO_16;clear HO_441001;clear BK431;clear BK432;clear BK440;clear HB;have HO_11:=n0_;have HO_14:=n1_;have HO_16:=n2_;have HO_441001:=n3_;have BK431:=n4_;have BK432:=n5_;have BK440:=n6_;have HB:=n7_;clear n0_ n1_ n2_ n3_ n4_ n5_ n6_ n7_;obtain⟨Ao96,co96,eo96⟩:=Kd.R_slice HO_11.out;(first|subst eo96|(injection eo96 with f1_ f2_ f3_;have f4_:=f1_.symm;have f5_:=f3_.symm;clear f1_ f2_ f3_;subst f4_;subst f5_))
                         have p469:0≤(x17_2:Int):=oE aS
                         have q469:x17_2 < (x11_2.length:Int):=oE aS
                         obtain⟨ad469,e469,hx469_0⟩:=Kd.at_int (Kd.R_reads' HO_11.out).2.2 x17_2 p469 q469;cases e469
                         replace p469:=eq_true p469;replace q469:=eq_true q469;obtain⟨Ao97,co97,eo97⟩:=Kd.R_slice HO_14.out;(first|subst eo97|(injection eo97 with f1_ f2_ f3_;have f4_:=f1_.symm;have f5_:=f3_.symm;clear f1_ f2_ f3_;subst f4_;subst f5_))
                         have p470:0≤(x17_2:Int):=oE aS
                         have q470:x17_2 < (t463.length:Int):=oE aS
                         obtain⟨ad470,e470,hx470_0⟩:=Kd.at_int (Kd.R_reads' HO_14.out).2.2 x17_2 p470 q470;cases e470
                         replace p470:=eq_true p470;replace q470:=eq_true q470;have p89:0≤(x17_2:Int):=oE aS
                         have q89:(x17_2:Int) < ((x11_2.length:Int):Int):=oE aS
                         obtain⟨go89,co89,eo89,gb89,gl89,cl89,HG89⟩:=Kd.R_form HO_11.out (by omega)
                         (first|cases eo89|(injection eo89 with ea_ en_ ec_;(first|subst ea_|(injection ea_ with ea_;subst ea_));subst ec_;clear en_))
                         have GB89:=aM gb89;have GG89:=aM HG89;clear gb89 gl89 HG89;(first|simp only[add_plain] at hx469_0|skip)
                         obtain⟨hx89_0,hf89_0⟩:=Kd.R_celln 0 HO_11.out (x17_2:Int) p89 q89;replace p89:=eq_true p89;replace q89:=eq_true q89;have HP98:=Kd.R_putn HO_11.out (x17_2:Int) (wrap64 ((rd x11_2 x17_2)+(rd t463 x17_2)));rw[← Ny471.out] at HP98;have HQ98:=aM HP98;clear HP98;refine start_ (n:=13) (S:=fun w'=>w'.cell? ⟨go89,(x17_2).toNat,none⟩=some (.int .i64 (rd x11_2 x17_2))∧w'.cell? (ad470.add (x17_2).toNat)=some (.int .i64 (rd t463 x17_2))) (ds:=[12]) #[false,false,false,false,false,false,false,false,false,false,false,false,false] (by kernel_rfl) rfl rfl ⟨hx469_0,hx470_0⟩ (fun hHeld=>?_);refine with_tabW Azw.tab26 Azw.bits26 (fun HT_ HW_=>?_)
                         generalize wr.drew=w95 at HO_11 HO_14 HO_16 HO_441001 BK431 BK432 BK440 HB GG89 HQ98 hf89_0 hx469_0 hx470_0 hx89_0 hHeld ⊢;refine pU (i:=0) (N:=some 87) HT_ #[true,false,false,false,false,false,false,false,false,false,false,false,false] ?_;refine pU (i:=1) (N:=some 88) HT_ #[true,true,false,false,false,false,false,false,false,false,false,false,false] ?_;refine pU (i:=2) (N:=some 89) HT_ #[true,true,true,false,false,false,false,false,false,false,false,false,false] ?_;refine pU (i:=3) (N:=some 90) HT_ #[true,true,true,true,false,false,false,false,false,false,false,false,false] ?_;refine pU (i:=4) (N:=some 91) HT_ #[true,true,true,true,true,false,false,false,false,false,false,false,false] ?_;refine pU (i:=6) (N:=some 93) HT_ #[true,true,true,true,true,false,true,false,false,false,false,false,false] ?_;refine pU (i:=7) (N:=some 94) HT_ #[true,true,true,true,true,false,true,true,false,false,false,false,false] ?_;refine pU (i:=8) (N:=some 95) HT_ #[true,true,true,true,true,false,true,true,true,false,false,false,false] ?_;refine take_ (i:=5) (N:=some 92) (v:=?_) (a':=?_) #[true,true,true,true,true,true,true,true,true,false,false,false,false] rfl rfl (take_ofW HT_.out HW_.out (by kernel_rfl)) (fun _ _ _ h=>h) (Or.inl ⟨by rfl,?_⟩) hHeld ?_ ?_
                         rotate_left
                         ·rintro w' ⟨s0,s1⟩;go_simp
                          with_reducible rfl
                         rotate_left
                         ·simp only[Act.put,sA,sZ,sC,i64_w,i32_w];rfl
                         refine take_ (i:=9) (N:=some 96) (v:=?_) (a':=?_) #[true,true,true,true,true,true,true,true,true,true,false,false,false] rfl rfl (take_ofW HT_.out HW_.out (by kernel_rfl)) (fun _ _ _ h=>h) (Or.inl ⟨by rfl,?_⟩) hHeld ?_ ?_
                         rotate_left
                         ·rintro w' ⟨s0,s1⟩;go_simp
                          with_reducible rfl
                         rotate_left
                         ·simp only[Act.put,sA,sZ,sC,i64_w,i32_w];rfl
                         refine pU (i:=10) (N:=some 97) HT_ #[true,true,true,true,true,true,true,true,true,true,true,false,false] ?_;refine pU (i:=11) (N:=some 98) HT_ #[true,true,true,true,true,true,true,true,true,true,true,true,false] ?_;refine last_ (i:=12) (N:=none) #[true,true,true,true,true,true,true,true,true,true,true,true,true] rfl rfl (one_of HT_.out (by kernel_rfl)) (by decide) (fun K hK=>?_)
                         refine skip_ (w1:=?_) (by rfl) rfl ?_ ?_
                         rotate_left
                         ·go_simp
                          rfl
                         refine hK.out _ _ ?_;clear hK K;refine done_ (done_of HT_.out (by kernel_rfl)) ?_
                         try go_wp2
                         have n0_:Aside0 (Kd.R (Kd.int .i64) 3 (w95.setCell ⟨go89,(x17_2:Int).toNat,none⟩ (.int .i64 (wrap64 ((rd x11_2 x17_2)+(rd t463 x17_2))))) w.heap.size (fun k_=>some k_≠(.slice (some ad470) t463.length co97:Value).ownBlock∧some k_≠(v467:Value).ownBlock) (.slice (some ⟨go89,0,none⟩) x11_2.length co96) y471):=⟨rX HQ98.out⟩
                         have n1_:Aside0 (Kd.R (Kd.int .i64) 3 (w95.setCell ⟨go89,(x17_2:Int).toNat,none⟩ (.int .i64 (wrap64 ((rd x11_2 x17_2)+(rd t463 x17_2))))) w.heap.size (fun k_=>some k_≠(.slice (some ⟨go89,0,none⟩) x11_2.length co96:Value).ownBlock∧some k_≠(v467:Value).ownBlock) (.slice (some ad470) t463.length co97) t463):=⟨by(with_reducible repeat(first|apply Kd.R_alloc|apply Kd.R_drewN|apply Kd.R_drew));exact Kd.R_mono (Kd.R_far (p:=⟨go89,(x17_2:Int).toNat,none⟩) (Kd.R_mono HO_14.out (fun k_ hk=>(⟨hk,fun e_=>hk.1 (by rw[e_];rfl)⟩:_∧k_≠go89))) (fun _ hk=>hk.2) (.int .i64 (wrap64 ((rd x11_2 x17_2)+(rd t463 x17_2))))) (fun _ hk=>⟨hk.1.1,hk.1.2⟩)⟩
                         have n2_:Aside0 (Kd.R (Kd.int .i64) 3 (w95.setCell ⟨go89,(x17_2:Int).toNat,none⟩ (.int .i64 (wrap64 ((rd x11_2 x17_2)+(rd t463 x17_2))))) w.heap.size (fun k_=>some k_≠(.slice (some ⟨go89,0,none⟩) x11_2.length co96:Value).ownBlock∧some k_≠(.slice (some ad470) t463.length co97:Value).ownBlock) v467 x16_2):=⟨by(with_reducible repeat(first|apply Kd.R_alloc|apply Kd.R_drewN|apply Kd.R_drew));exact Kd.R_mono (Kd.R_far (p:=⟨go89,(x17_2:Int).toNat,none⟩) (Kd.R_mono HO_16.out (fun k_ hk=>(⟨hk,fun e_=>hk.1 (by rw[e_];rfl)⟩:_∧k_≠go89))) (fun _ hk=>hk.2) (.int .i64 (wrap64 ((rd x11_2 x17_2)+(rd t463 x17_2))))) (fun _ hk=>⟨hk.1.1,hk.1.2⟩)⟩
                         have n3_:Aside0 (Kd.S (Kd.slice 3 (Kd.int .i64)) 29 (w95.setCell ⟨go89,(x17_2:Int).toNat,none⟩ (.int .i64 (wrap64 ((rd x11_2 x17_2)+(rd t463 x17_2))))) w.heap.size (fun k_=>some k_≠(.slice (some ⟨go89,0,none⟩) x11_2.length co96:Value).ownBlock∧some k_≠(.slice (some ad470) t463.length co97:Value).ownBlock∧some k_≠(v467:Value).ownBlock) u441001 x441001_1):=⟨by(with_reducible repeat(first|apply Kd.S_alloc|apply Kd.S_drewN|apply Kd.S_drew));exact Kd.S_mono (Kd.S_far (p:=⟨go89,(x17_2:Int).toNat,none⟩) (Kd.S_mono HO_441001.out (fun k_ hk=>(⟨hk,fun e_=>hk.1 (by rw[e_];rfl)⟩:_∧k_≠go89))) (fun _ hk=>hk.2) (.int .i64 (wrap64 ((rd x11_2 x17_2)+(rd t463 x17_2))))) (fun _ hk=>⟨hk.1.1,⟨hk.1.2.1,hk.1.2.2⟩⟩)⟩
                         have n4_:Aside0 ((w95.setCell ⟨go89,(x17_2:Int).toNat,none⟩ (.int .i64 (wrap64 ((rd x11_2 x17_2)+(rd t463 x17_2))))).heap[gb431]?=some (.cells #[.int .i64 a0_0,.slice (some ad434) l0_1.length c0_1] 24 (0,0))):=⟨by refine bD ?_;refine blk_far ?_ (by have h_:=Kd.R_ne HO_11.out BK431.out (by decide);intro e_;exact h_ (by rw[e_];rfl)) _;(with_reducible repeat(first|refine blk_drewN ?_ _|refine blk_drew ?_|refine blk_alloc ?_ _));exact BK431.out⟩
                         have n5_:Aside0 ((w95.setCell ⟨go89,(x17_2:Int).toNat,none⟩ (.int .i64 (wrap64 ((rd x11_2 x17_2)+(rd t463 x17_2))))).heap[gb432]?=some (.cells #[.int .i64 0,.slice none 0 0] 24 (0,0))):=⟨by refine bD ?_;refine blk_far ?_ (by have h_:=Kd.R_ne HO_11.out BK432.out (by decide);intro e_;exact h_ (by rw[e_];rfl)) _;(with_reducible repeat(first|refine blk_drewN ?_ _|refine blk_drew ?_|refine blk_alloc ?_ _));exact BK432.out⟩
                         have n6_:Aside0 ((w95.setCell ⟨go89,(x17_2:Int).toNat,none⟩ (.int .i64 (wrap64 ((rd x11_2 x17_2)+(rd t463 x17_2))))).heap[gb440]?=some (.cells #[.int .i64 a0_0,u441001] 24 (0,0))):=⟨by refine bD ?_;refine blk_far ?_ (by have h_:=Kd.R_ne HO_11.out BK440.out (by decide);intro e_;exact h_ (by rw[e_];rfl)) _;(with_reducible repeat(first|refine blk_drewN ?_ _|refine blk_drew ?_|refine blk_alloc ?_ _));exact BK440.out⟩
                         have n7_:Aside0 (Below w.heap.size w (w95.setCell ⟨go89,(x17_2:Int).toNat,none⟩ (.int .i64 (wrap64 ((rd x11_2 x17_2)+(rd t463 x17_2)))))):=⟨pB⟩;(try clear HO_11)
                         (try clear HO_14)
                         (try clear HO_16)
                         (try clear HO_441001)
                         (try clear BK431)
                         (try clear BK432)
                         (try clear BK440)
                         (try clear HB)
                         generalize (w95.setCell ⟨go89,(x17_2:Int).toNat,none⟩ (.int .i64 (wrap64 ((rd x11_2 x17_2)+(rd t463 x17_2)))))=w99 at n0_ n1_ n2_ n3_ n4_ n5_ n6_ n7_ ⊢;have HO_11:=n0_;have HO_14:=n1_;have HO_16:=n2_;have HO_441001:=n3_;have BK431:=n4_;have BK432:=n5_;have BK440:=n6_;have HB:=n7_;clear n0_ n1_ n2_ n3_ n4_ n5_ n6_ n7_;have n0_:=aM (Kd.R_drew HO_11.out);have n1_:=aM (Kd.R_drew HO_14.out);have n2_:=aM (Kd.R_drew HO_16.out);have n3_:=aM (Kd.S_drew HO_441001.out);have n4_:=aM (blk_drew BK431.out);have n5_:=aM (blk_drew BK432.out);have n6_:=aM (blk_drew BK440.out);have n7_:=aM (below_drew1 HB.out);clear HO_11;clear HO_14;clear HO_16;clear HO_441001;clear BK431;clear BK432;clear BK440;clear HB;have HO_11:=n0_;have HO_14:=n1_;have HO_16:=n2_;have HO_441001:=n3_;have BK431:=n4_;have BK432:=n5_;have BK440:=n6_;have HB:=n7_;clear n0_ n1_ n2_ n3_ n4_ n5_ n6_ n7_;have p472:0≤(x13_1:Int):=oE aS
                         have q472:x13_1 < (l0_1.length:Int):=oE aS
                         obtain⟨ad472,A472_0,c472_0,e472,hx472_0,hl472_0,hi472_0⟩:=at_L1 HR0_1.out x13_1 p472 q472;have hw472_0:=hx472_0;obtain rfl:ad434=ad472:=(by injection e472)
                         replace hx472_0:=(HB.out.cell (World.block_lt_of_cell? w _ hx472_0)).trans hx472_0;have HR472_0:=aM hi472_0;have HC472_0:=aM hl472_0;clear hi472_0 hl472_0;replace p472:=eq_true p472;replace q472:=eq_true q472;have p473:0≤(x17_2:Int):=oE aS
                         have q473:x17_2 < ((rd_L1 l0_1 x13_1).length:Int):=oE aS
                         obtain⟨ad473,e473,hx473_0⟩:=Kd.at_int HR472_0.out x17_2 p473 q473;have hw473_0:=hx473_0;cases e473
                         replace hx473_0:=(HB.out.cell (World.block_lt_of_cell? w _ hx473_0)).trans hx473_0;replace p473:=eq_true p473;replace q473:=eq_true q473;have p474:0≤(x17_2:Int):=oE aS
                         have q474:x17_2 < (t463.length:Int):=oE aS
                         obtain⟨ad474,e474,hx474_0⟩:=Kd.at_int (Kd.R_reads' HO_14.out).2.2 x17_2 p474 q474;obtain rfl:ad470=ad474:=(by injection e474)
                         replace p474:=eq_true p474;replace q474:=eq_true q474;have p94:0≤(x17_2:Int):=oE aS
                         have q94:(x17_2:Int) < ((x16_2.length:Int):Int):=oE aS
                         obtain⟨go94,co94,eo94,gb94,gl94,cl94,HG94⟩:=Kd.R_form HO_16.out (by omega)
                         (first|cases eo94|(injection eo94 with ea_ en_ ec_;(first|subst ea_|(injection ea_ with ea_;subst ea_));subst ec_;clear en_))
                         have GB94:=aM gb94;have GG94:=aM HG94;clear gb94 gl94 HG94;obtain⟨hx94_0,hf94_0⟩:=Kd.R_celln 0 HO_16.out (x17_2:Int) p94 q94;replace p94:=eq_true p94;replace q94:=eq_true q94;have HP101:=Kd.R_putn HO_16.out (x17_2:Int) (wrap64 ((rd (rd_L1 l0_1 x13_1) x17_2) - (rd t463 x17_2)));rw[← Ny475.out] at HP101;have HQ101:=aM HP101;clear HP101;refine start_ (n:=17) (S:=fun w'=>w'.cell? ⟨gb431,0,none⟩=some (.int .i64 a0_0)∧w'.cell? ⟨gb431,1,none⟩=some (.slice (some ad434) l0_1.length c0_1)∧w'.cell? (ad434.add (x13_1).toNat)=some (.slice (some ad473) (rd_L1 l0_1 x13_1).length c472_0)∧w'.cell? (ad473.add (x17_2).toNat)=some (.int .i64 (rd (rd_L1 l0_1 x13_1) x17_2))∧w'.cell? (ad470.add (x17_2).toNat)=some (.int .i64 (rd t463 x17_2))) (ds:=[16]) #[false,false,false,false,false,false,false,false,false,false,false,false,false,false,false,false,false] (by kernel_rfl) rfl rfl ⟨(blk_cell BK431.out 0).trans rfl,(blk_cell BK431.out 1).trans rfl,((HB.out.cell (World.block_lt_of_cell? w _ hw472_0)).trans hw472_0),((HB.out.cell (World.block_lt_of_cell? w _ hw473_0)).trans hw473_0),hx474_0⟩ (fun hHeld=>?_);refine with_tabW Azw.tab27 Azw.bits27 (fun HT_ HW_=>?_)
                         generalize w99.drew=w100 at HO_11 HO_14 HO_16 HO_441001 BK431 BK432 BK440 HB GG94 HQ101 HQ98 HR472_0 hf94_0 hx472_0 hx473_0 hx474_0 hx94_0 hHeld ⊢;refine pU (i:=0) (N:=some 99) HT_ #[true,false,false,false,false,false,false,false,false,false,false,false,false,false,false,false,false] ?_;refine pU (i:=1) (N:=some 100) HT_ #[true,true,false,false,false,false,false,false,false,false,false,false,false,false,false,false,false] ?_;refine pU (i:=2) (N:=some 101) HT_ #[true,true,true,false,false,false,false,false,false,false,false,false,false,false,false,false,false] ?_;refine pU (i:=4) (N:=some 103) HT_ #[true,true,true,false,true,false,false,false,false,false,false,false,false,false,false,false,false] ?_;refine pU (i:=7) (N:=some 106) HT_ #[true,true,true,false,true,false,false,true,false,false,false,false,false,false,false,false,false] ?_;refine pU (i:=10) (N:=some 109) HT_ #[true,true,true,false,true,false,false,true,false,false,true,false,false,false,false,false,false] ?_;refine pU (i:=11) (N:=some 110) HT_ #[true,true,true,false,true,false,false,true,false,false,true,true,false,false,false,false,false] ?_;refine pU (i:=12) (N:=some 111) HT_ #[true,true,true,false,true,false,false,true,false,false,true,true,true,false,false,false,false] ?_;refine take_ (i:=3) (N:=some 102) (v:=?_) (a':=?_) #[true,true,true,true,true,false,false,true,false,false,true,true,true,false,false,false,false] rfl rfl (take_ofW HT_.out HW_.out (by kernel_rfl)) (fun _ _ _ h=>h) (Or.inl ⟨by rfl,?_⟩) hHeld ?_ ?_
                         rotate_left
                         ·rintro w' ⟨s0,s1,s2,s3,s4⟩;go_simp
                          with_reducible rfl
                         rotate_left
                         ·simp only[Act.put,sA,sZ,sC,i64_w,i32_w];rfl
                         refine pU (i:=5) (N:=some 104) HT_ #[true,true,true,true,true,true,false,true,false,false,true,true,true,false,false,false,false] ?_;refine take_ (i:=6) (N:=some 105) (v:=?_) (a':=?_) #[true,true,true,true,true,true,true,true,false,false,true,true,true,false,false,false,false] rfl rfl (take_ofW HT_.out HW_.out (by kernel_rfl)) (fun _ _ _ h=>h) (Or.inl ⟨by rfl,?_⟩) hHeld ?_ ?_
                         rotate_left
                         ·rintro w' ⟨s0,s1,s2,s3,s4⟩;go_simp
                          with_reducible rfl
                         rotate_left
                         ·simp only[Act.put,sA,sZ,sC,i64_w,i32_w];rfl
                         refine pU (i:=8) (N:=some 107) HT_ #[true,true,true,true,true,true,true,true,true,false,true,true,true,false,false,false,false] ?_;refine take_ (i:=9) (N:=some 108) (v:=?_) (a':=?_) #[true,true,true,true,true,true,true,true,true,true,true,true,true,false,false,false,false] rfl rfl (take_ofW HT_.out HW_.out (by kernel_rfl)) (fun _ _ _ h=>h) (Or.inl ⟨by rfl,?_⟩) hHeld ?_ ?_
                         rotate_left
                         ·rintro w' ⟨s0,s1,s2,s3,s4⟩;go_simp
                          with_reducible rfl
                         rotate_left
                         ·simp only[Act.put,sA,sZ,sC,i64_w,i32_w];rfl
                         refine take_ (i:=13) (N:=some 112) (v:=?_) (a':=?_) #[true,true,true,true,true,true,true,true,true,true,true,true,true,true,false,false,false] rfl rfl (take_ofW HT_.out HW_.out (by kernel_rfl)) (fun _ _ _ h=>h) (Or.inl ⟨by rfl,?_⟩) hHeld ?_ ?_
                         rotate_left
                         ·rintro w' ⟨s0,s1,s2,s3,s4⟩;go_simp
                          with_reducible rfl
                         rotate_left
                         ·simp only[Act.put,sA,sZ,sC,i64_w,i32_w];rfl
                         refine pU (i:=14) (N:=some 113) HT_ #[true,true,true,true,true,true,true,true,true,true,true,true,true,true,true,false,false] ?_;refine pU (i:=15) (N:=some 114) HT_ #[true,true,true,true,true,true,true,true,true,true,true,true,true,true,true,true,false] ?_;refine last_ (i:=16) (N:=none) #[true,true,true,true,true,true,true,true,true,true,true,true,true,true,true,true,true] rfl rfl (one_of HT_.out (by kernel_rfl)) (by decide) (fun K hK=>?_)
                         refine skip_ (w1:=?_) (by rfl) rfl ?_ ?_
                         rotate_left
                         ·go_simp
                          rfl
                         refine hK.out _ _ ?_;clear hK K;refine done_ (done_of HT_.out (by kernel_rfl)) ?_
                         try go_wp2
                         go_roundg k2
                         case measure=>have:=HK1.out;have:=HK2.out;omega
                         case rel=>exact⟨(y471),(y475),(wrap64 (x17_2+1)),sD,H',⟨by have:=HK1.out;have:=HK2.out;omega⟩,⟨by(with_reducible repeat(first|apply Kd.R_alloc|apply Kd.R_drewN|apply Kd.R_drew));exact Kd.R_mono (Kd.R_far (p:=⟨go94,(x17_2:Int).toNat,none⟩) (Kd.R_mono HO_11.out (fun k_ hk=>(⟨hk,fun e_=>hk.2 (by rw[e_];rfl)⟩:_∧k_≠go94))) (fun _ hk=>hk.2) (.int .i64 (wrap64 ((rd (rd_L1 l0_1 x13_1) x17_2) - (rd t463 x17_2))))) (fun _ hk=>⟨hk.1.1,hk.1.2⟩)⟩,⟨by(with_reducible repeat(first|apply Kd.R_alloc|apply Kd.R_drewN|apply Kd.R_drew));exact Kd.R_mono (Kd.R_far (p:=⟨go94,(x17_2:Int).toNat,none⟩) (Kd.R_mono HO_14.out (fun k_ hk=>(⟨hk,fun e_=>hk.2 (by rw[e_];rfl)⟩:_∧k_≠go94))) (fun _ hk=>hk.2) (.int .i64 (wrap64 ((rd (rd_L1 l0_1 x13_1) x17_2) - (rd t463 x17_2))))) (fun _ hk=>⟨hk.1.1,hk.1.2⟩)⟩,⟨rX HQ101.out⟩,⟨by(with_reducible repeat(first|apply Kd.S_alloc|apply Kd.S_drewN|apply Kd.S_drew));exact Kd.S_mono (Kd.S_far (p:=⟨go94,(x17_2:Int).toNat,none⟩) (Kd.S_mono HO_441001.out (fun k_ hk=>(⟨hk,fun e_=>hk.2.2 (by rw[e_];rfl)⟩:_∧k_≠go94))) (fun _ hk=>hk.2) (.int .i64 (wrap64 ((rd (rd_L1 l0_1 x13_1) x17_2) - (rd t463 x17_2))))) (fun _ hk=>⟨hk.1.1,⟨hk.1.2.1,hk.1.2.2⟩⟩)⟩,⟨by refine bD ?_;refine blk_far ?_ (by have h_:=Kd.R_ne HO_16.out BK431.out (by decide);intro e_;exact h_ (by rw[e_];rfl)) _;(with_reducible repeat(first|refine blk_drewN ?_ _|refine blk_drew ?_|refine blk_alloc ?_ _));exact BK431.out⟩,⟨by refine bD ?_;refine blk_far ?_ (by have h_:=Kd.R_ne HO_16.out BK432.out (by decide);intro e_;exact h_ (by rw[e_];rfl)) _;(with_reducible repeat(first|refine blk_drewN ?_ _|refine blk_drew ?_|refine blk_alloc ?_ _));exact BK432.out⟩,⟨by refine bD ?_;refine blk_far ?_ (by have h_:=Kd.R_ne HO_16.out BK440.out (by decide);intro e_;exact h_ (by rw[e_];rfl)) _;(with_reducible repeat(first|refine blk_drewN ?_ _|refine blk_drew ?_|refine blk_alloc ?_ _));exact BK440.out⟩,⟨pB⟩⟩
                        ·rw[if_neg c93] at H;exact absurd H (by simp)
                       ·rw[if_neg c92] at H;exact absurd H (by simp)
                      ·rw[if_neg c91] at H;exact absurd H (by simp)
                     ·rw[if_neg c90] at H;exact absurd H (by simp)
                    ·rw[if_neg c88] at H;exact absurd H (by simp)
                   ·rw[if_neg c87] at H;exact absurd H (by simp)
                  ·rw[if_neg c86] at H;exact absurd H (by simp)
                 ·rw[if_neg c85] at H;have c85b0:decide (x17_2 < ((rd_L1 l0_1 0).length:Int))=false:=decide_eq_false c85;clear c85;replace H:=bS H;obtain⟨t476,A1020,H⟩:=H;try dsimp only at H
                  have A102:=aM A1020;clear A1020;replace H:=bS H;obtain⟨t477,A1030,H⟩:=H;try dsimp only at H
                  have A103:=aM A1030;clear A1030;by_cases c104:t477 > 0
                  ·rw[if_pos c104] at H;have c104b0:decide (0 < t477)=true:=dE c104;clear c104;by_cases c105:x441001_1.length < 5864062014805
                   ·rw[if_pos c105] at H;have LMc105:=aM c105;clear c105;obtain⟨y478,hy478⟩:∃ y_:List (List Int),y_=(x441001_1 ++ [x16_2]):=⟨_,rfl⟩;replace H:(Azw.l0 k2 l1 ((rd_L1 l0_1 0).length:Int) (wrap64 (x10_1 - t476)) x11_2 (wrap64 (x13_1+1)) a0_0 l0_1 a0_0 y478)=some (r1,r2,r3,r4):=by first|(rw[hy478];with_reducible exact H)|(have H2_:=(Option.bind_some _ _).symm.trans H;rw[hy478];with_reducible exact H2_)|(have H2_:=(Option.bind_some _ _).symm.trans H;with_reducible exact H2_)|with_reducible exact H|(rw[hy478];exact H)|exact H
                    have Ny478:=aM hy478;clear hy478;have H':=aM H;clear H;obtain⟨Ao106,co106,eo106⟩:=Kd.R_slice HO_14.out;subst eo106;go_wp2_with (first|((with_reducible refine gate_callee (f:=21) rfl ?_);refine goesL_ (some 117) rfl rfl Try.func21 (by kernel_rfl) rfl #[.slice Ao106 t463.length co106] rfl mA ?_;(with_reducible refine(Azp.calls k2 _ _ t463 t476 _ ?side1 ?side2 A102.out).mono ?_);(case side1=>repeat(first|exact(Kd.R_reads' HO_14.out).2.2|(with_reducible refine Kd.C_alloc ?_ _)|(with_reducible refine Kd.C_drewN ?_ _)|(with_reducible refine Kd.C_drew ?_)));(case side2=>exact(Kd.R_reads' HO_14.out).2.1);rintro e w' ⟨rfl,⟨nd,rfl⟩⟩;refine⟨_,rfl,?_⟩;(try(rw[drewN_self wr];generalize hq_:World.drewN wr _=wr;have n0_:Aside0 (Kd.R (Kd.int .i64) 3 wr w.heap.size (fun k_=>some k_≠(.slice Ao106 t463.length co106:Value).ownBlock∧some k_≠(v467:Value).ownBlock) v438 x11_2):=⟨by rw[← hq_];exact(rX HO_11.out)⟩;have n1_:Aside0 (Kd.R (Kd.int .i64) 3 wr w.heap.size (fun k_=>some k_≠(v438:Value).ownBlock∧some k_≠(v467:Value).ownBlock) (.slice Ao106 t463.length co106) t463):=⟨by rw[← hq_];exact(rX HO_14.out)⟩;have n2_:Aside0 (Kd.R (Kd.int .i64) 3 wr w.heap.size (fun k_=>some k_≠(v438:Value).ownBlock∧some k_≠(.slice Ao106 t463.length co106:Value).ownBlock) v467 x16_2):=⟨by rw[← hq_];exact(rX HO_16.out)⟩;have n3_:Aside0 (Kd.S (Kd.slice 3 (Kd.int .i64)) 29 wr w.heap.size (fun k_=>some k_≠(v438:Value).ownBlock∧some k_≠(.slice Ao106 t463.length co106:Value).ownBlock∧some k_≠(v467:Value).ownBlock) u441001 x441001_1):=⟨by rw[← hq_];exact(by(with_reducible repeat(first|apply Kd.S_alloc|apply Kd.S_drewN|apply Kd.S_drew));exact HO_441001.out)⟩;have n4_:Aside0 (wr.heap[gb431]?=some (.cells #[.int .i64 a0_0,.slice (some ad434) l0_1.length c0_1] 24 (0,0))):=⟨by rw[← hq_];exact(kW BK431)⟩;have n5_:Aside0 (wr.heap[gb432]?=some (.cells #[.int .i64 0,.slice none 0 0] 24 (0,0))):=⟨by rw[← hq_];exact(kW BK432)⟩;have n6_:Aside0 (wr.heap[gb440]?=some (.cells #[.int .i64 a0_0,u441001] 24 (0,0))):=⟨by rw[← hq_];exact(kW BK440)⟩;have n7_:Aside0 (Below w.heap.size w wr):=⟨by rw[← hq_];exact pB⟩;clear HO_11 HO_14 HO_16 HO_441001 BK431 BK432 BK440 HB hq_;have HO_11:=n0_;have HO_14:=n1_;have HO_16:=n2_;have HO_441001:=n3_;have BK431:=n4_;have BK432:=n5_;have BK440:=n6_;have HB:=n7_;clear n0_ n1_ n2_ n3_ n4_ n5_ n6_ n7_;have hcqgb431_0:wr.cell? ⟨gb431,0,none⟩=some (.int .i64 a0_0):=(blk_cell BK431.out 0).trans rfl;have hfqgb431_0:=blk_frozen BK431.out 0;have hcqgb431_1:wr.cell? ⟨gb431,1,none⟩=some (.slice (some ad434) l0_1.length c0_1):=(blk_cell BK431.out 1).trans rfl;have hfqgb431_1:=blk_frozen BK431.out 1;have hcqgb432_0:wr.cell? ⟨gb432,0,none⟩=some (.int .i64 0):=(blk_cell BK432.out 0).trans rfl;have hfqgb432_0:=blk_frozen BK432.out 0;have hcqgb432_1:wr.cell? ⟨gb432,1,none⟩=some (.slice none 0 0):=(blk_cell BK432.out 1).trans rfl;have hfqgb432_1:=blk_frozen BK432.out 1;have hcqgb440_0:wr.cell? ⟨gb440,0,none⟩=some (.int .i64 a0_0):=(blk_cell BK440.out 0).trans rfl;have hfqgb440_0:=blk_frozen BK440.out 0;have hcqgb440_1:wr.cell? ⟨gb440,1,none⟩=some (u441001):=(blk_cell BK440.out 1).trans rfl;have hfqgb440_1:=blk_frozen BK440.out 1));obtain⟨Ao107,co107,eo107⟩:=Kd.R_slice HO_16.out;subst eo107)|((with_reducible refine gate_callee (f:=21) rfl ?_);refine goesL_ (some 120) rfl rfl Try.func21 (by kernel_rfl) rfl #[.slice Ao107 x16_2.length co107] rfl mA ?_;(with_reducible refine(Azp.calls k2 _ _ x16_2 t477 _ ?side1 ?side2 A103.out).mono ?_);(case side1=>repeat(first|exact(Kd.R_reads' HO_16.out).2.2|(with_reducible refine Kd.C_alloc ?_ _)|(with_reducible refine Kd.C_drewN ?_ _)|(with_reducible refine Kd.C_drew ?_)));(case side2=>exact(Kd.R_reads' HO_16.out).2.1);rintro e w' ⟨rfl,⟨nd,rfl⟩⟩;refine⟨_,rfl,?_⟩;(try(rw[drewN_self wr];generalize hq_:World.drewN wr _=wr;have n0_:Aside0 (Kd.R (Kd.int .i64) 3 wr w.heap.size (fun k_=>some k_≠(.slice Ao106 t463.length co106:Value).ownBlock∧some k_≠(.slice Ao107 x16_2.length co107:Value).ownBlock) v438 x11_2):=⟨by rw[← hq_];exact(rX HO_11.out)⟩;have n1_:Aside0 (Kd.R (Kd.int .i64) 3 wr w.heap.size (fun k_=>some k_≠(v438:Value).ownBlock∧some k_≠(.slice Ao107 x16_2.length co107:Value).ownBlock) (.slice Ao106 t463.length co106) t463):=⟨by rw[← hq_];exact(rX HO_14.out)⟩;have n2_:Aside0 (Kd.R (Kd.int .i64) 3 wr w.heap.size (fun k_=>some k_≠(v438:Value).ownBlock∧some k_≠(.slice Ao106 t463.length co106:Value).ownBlock) (.slice Ao107 x16_2.length co107) x16_2):=⟨by rw[← hq_];exact(rX HO_16.out)⟩;have n3_:Aside0 (Kd.S (Kd.slice 3 (Kd.int .i64)) 29 wr w.heap.size (fun k_=>some k_≠(v438:Value).ownBlock∧some k_≠(.slice Ao106 t463.length co106:Value).ownBlock∧some k_≠(.slice Ao107 x16_2.length co107:Value).ownBlock) u441001 x441001_1):=⟨by rw[← hq_];exact(by(with_reducible repeat(first|apply Kd.S_alloc|apply Kd.S_drewN|apply Kd.S_drew));exact HO_441001.out)⟩;have n4_:Aside0 (wr.heap[gb431]?=some (.cells #[.int .i64 a0_0,.slice (some ad434) l0_1.length c0_1] 24 (0,0))):=⟨by rw[← hq_];exact(kW BK431)⟩;have n5_:Aside0 (wr.heap[gb432]?=some (.cells #[.int .i64 0,.slice none 0 0] 24 (0,0))):=⟨by rw[← hq_];exact(kW BK432)⟩;have n6_:Aside0 (wr.heap[gb440]?=some (.cells #[.int .i64 a0_0,u441001] 24 (0,0))):=⟨by rw[← hq_];exact(kW BK440)⟩;have n7_:Aside0 (Below w.heap.size w wr):=⟨by rw[← hq_];exact pB⟩;clear HO_11 HO_14 HO_16 HO_441001 BK431 BK432 BK440 HB hq_;have HO_11:=n0_;have HO_14:=n1_;have HO_16:=n2_;have HO_441001:=n3_;have BK431:=n4_;have BK432:=n5_;have BK440:=n6_;have HB:=n7_;clear n0_ n1_ n2_ n3_ n4_ n5_ n6_ n7_;have hcqgb431_0:wr.cell? ⟨gb431,0,none⟩=some (.int .i64 a0_0):=(blk_cell BK431.out 0).trans rfl;have hfqgb431_0:=blk_frozen BK431.out 0;have hcqgb431_1:wr.cell? ⟨gb431,1,none⟩=some (.slice (some ad434) l0_1.length c0_1):=(blk_cell BK431.out 1).trans rfl;have hfqgb431_1:=blk_frozen BK431.out 1;have hcqgb432_0:wr.cell? ⟨gb432,0,none⟩=some (.int .i64 0):=(blk_cell BK432.out 0).trans rfl;have hfqgb432_0:=blk_frozen BK432.out 0;have hcqgb432_1:wr.cell? ⟨gb432,1,none⟩=some (.slice none 0 0):=(blk_cell BK432.out 1).trans rfl;have hfqgb432_1:=blk_frozen BK432.out 1;have hcqgb440_0:wr.cell? ⟨gb440,0,none⟩=some (.int .i64 a0_0):=(blk_cell BK440.out 0).trans rfl;have hfqgb440_0:=blk_frozen BK440.out 0;have hcqgb440_1:wr.cell? ⟨gb440,1,none⟩=some (u441001):=(blk_cell BK440.out 1).trans rfl;have hfqgb440_1:=blk_frozen BK440.out 1));have hnb108:=NB440_431.out;have hnc108:=NB431_440.out;have hnb109:=NB440_432.out;have hnc109:=NB432_440.out;obtain⟨hcz110_0,hcz110_1,hfz110_0,hfz110_1⟩:=bk2 BK440)|((with_reducible refine gate_builtin (b:=.append) (xs:=#[.tmp 123,.tmp 125]) rfl ?_);at_builtin;refine Kd.S_append (Kd.slice 3 (Kd.int .i64)) (w0:=w) w.heap.size rfl (.tmp 123) (.tmp 125) 22 29 (.slice none 0 0) 24 rfl Try.underlying22 info29 rfl (by decide) (by omega) u441001 x441001_1 x16_2 [.slice Ao107 x16_2.length co107] (fun k_=>some k_≠(v438:Value).ownBlock∧some k_≠(.slice Ao106 t463.length co106:Value).ownBlock) (fun k_=>some k_=(.slice Ao107 x16_2.length co107:Value).ownBlock) rfl rfl ?aP (fun k_ hk_=>((Kd.R_mono (ok':=fun k_=>((fun k_=>some k_≠(v438:Value).ownBlock∧some k_≠(.slice Ao106 t463.length co106:Value).ownBlock)) k_∧some k_≠(u441001:Value).ownBlock) (Kd.R_apart' (HO_16.out) (Kd.S_typed HO_441001.out) (by decide)) (fun k_ hk=>⟨⟨hk.1.1,hk.1.2⟩,hk.2⟩))).1 k_ hk_.symm) ?aF ?aO ?aB ?aS ?aL ?_;(case aP=>exact Kd.M_row (Kd.R_mono (Kd.R_tight rfl (Kd.R_mono (ok':=fun k_=>((fun k_=>some k_≠(v438:Value).ownBlock∧some k_≠(.slice Ao106 t463.length co106:Value).ownBlock)) k_∧some k_≠(u441001:Value).ownBlock) (Kd.R_apart' (HO_16.out) (Kd.S_typed HO_441001.out) (by decide)) (fun k_ hk=>⟨⟨hk.1.1,hk.1.2⟩,hk.2⟩))) (fun _ h_=>h_)));(case aB=>exact pB);(case aF=>exact(fun k_ hk=>⟨Kd.fresh' (Kd.R_lt (rX HO_11.out)) k_ hk,Kd.fresh' (Kd.R_lt (rX HO_14.out)) k_ hk⟩));(case aO=>exact(by(with_reducible repeat(first|apply Kd.S_alloc|apply Kd.S_drewN|apply Kd.S_drew));exact Kd.S_mono HO_441001.out (fun k_ hk=>⟨⟨hk.1,hk.2.1⟩,fun e_=>hk.2.2 e_⟩)));(case aS=>exact(below_size pB));(case aL=>have:=LMc105.out;omega);intro v479 w111 ho hb hg hat;rw[← Ny478.out] at ho;have HO480:=aM (ho);replace HO_11:=aM (Kd.R_over' (rX HO_11.out) (Kd.S_typed (by(with_reducible repeat(first|apply Kd.S_alloc|apply Kd.S_drewN|apply Kd.S_drew));exact HO_441001.out)) (by decide) hg);replace HO_14:=aM (Kd.R_over' (rX HO_14.out) (Kd.S_typed (by(with_reducible repeat(first|apply Kd.S_alloc|apply Kd.S_drewN|apply Kd.S_drew));exact HO_441001.out)) (by decide) hg);replace BK431:=aM (blk_grown (g:=gb431) (o:=.cells #[.int .i64 a0_0,.slice (some ad434) l0_1.length c0_1] 24 (0,0)) (kW BK431) hg (Kd.S_ne HO_441001.out BK431.out (by decide)));replace BK432:=aM (blk_grown (g:=gb432) (o:=.cells #[.int .i64 0,.slice none 0 0] 24 (0,0)) (kW BK432) hg (Kd.S_ne HO_441001.out BK432.out (by decide)));replace BK440:=aM (blk_grown (g:=gb440) (o:=.cells #[.int .i64 a0_0,u441001] 24 (0,0)) (kW BK440) hg (Kd.S_ne HO_441001.out BK440.out (by decide)));replace HB:=aM (hb);clear HO_16;clear HO_441001;clear ho hb hg hat;obtain⟨Ao112,co112,eo112⟩:=Kd.S_slice HO480.out;subst eo112;obtain⟨hcz113_0,hcz113_1,hfz113_0,hfz113_1⟩:=bk2 BK440))
                    go_roundg k2
                    case measure=>have:=HK1.out;have:=HK2.out;omega
                    case rel=>exact⟨(wrap64 (x10_1 - t476)),(x11_2),(wrap64 (x13_1+1)),(y478),(.slice Ao112 y478.length co112),sD,sD,H',⟨by have:=HK1.out;have:=HK2.out;omega⟩,⟨by(with_reducible repeat(first|apply Kd.R_alloc|apply Kd.R_drewN|apply Kd.R_drew));exact Kd.R_mono (Kd.R_far (p:=⟨gb440,1,none⟩) (Kd.R_types HO_11.out BK440.out (by decide)) (fun _ hk=>hk.2) (.slice Ao112 y478.length co112)) (fun _ hk=>trivial)⟩,⟨by(with_reducible repeat(first|apply Kd.S_alloc|apply Kd.S_drewN|apply Kd.S_drew));exact Kd.S_mono (Kd.S_far (p:=⟨gb440,1,none⟩) (Kd.S_types HO480.out BK440.out (by decide)) (fun _ hk=>hk.2) (.slice Ao112 y478.length co112)) (fun _ hk=>hk.1.1)⟩,⟨by refine bD ?_;refine blk_far ?_ NB431_440.out _;(with_reducible repeat(first|refine blk_drewN ?_ _|refine blk_drew ?_|refine blk_alloc ?_ _));exact BK431.out⟩,⟨by refine bD ?_;refine blk_far ?_ NB432_440.out _;(with_reducible repeat(first|refine blk_drewN ?_ _|refine blk_drew ?_|refine blk_alloc ?_ _));exact BK432.out⟩,⟨by refine bD ?_;refine blk_put (cs:=#[.int .i64 a0_0,u441001]) ?_ 1 _ rfl;(with_reducible repeat(first|refine blk_drewN ?_ _|refine blk_drew ?_|refine blk_alloc ?_ _));exact BK440.out⟩,⟨pB⟩⟩
                   ·rw[if_neg c105] at H;exact absurd H (by simp)
                  ·rw[if_neg c104] at H;have c104b0:decide (0 < t477)=false:=decide_eq_false c104;clear c104;have H':=aM H;clear H;obtain⟨Ao114,co114,eo114⟩:=Kd.R_slice HO_14.out;subst eo114;go_wp2_with (first|((with_reducible refine gate_callee (f:=21) rfl ?_);refine goesL_ (some 117) rfl rfl Try.func21 (by kernel_rfl) rfl #[.slice Ao114 t463.length co114] rfl mA ?_;(with_reducible refine(Azp.calls k2 _ _ t463 t476 _ ?side1 ?side2 A102.out).mono ?_);(case side1=>repeat(first|exact(Kd.R_reads' HO_14.out).2.2|(with_reducible refine Kd.C_alloc ?_ _)|(with_reducible refine Kd.C_drewN ?_ _)|(with_reducible refine Kd.C_drew ?_)));(case side2=>exact(Kd.R_reads' HO_14.out).2.1);rintro e w' ⟨rfl,⟨nd,rfl⟩⟩;refine⟨_,rfl,?_⟩;obtain⟨Ao115,co115,eo115⟩:=Kd.R_slice HO_16.out;subst eo115)|((with_reducible refine gate_callee (f:=21) rfl ?_);refine goesL_ (some 120) rfl rfl Try.func21 (by kernel_rfl) rfl #[.slice Ao115 x16_2.length co115] rfl mA ?_;(with_reducible refine(Azp.calls k2 _ _ x16_2 t477 _ ?side1 ?side2 A103.out).mono ?_);(case side1=>repeat(first|exact(Kd.R_reads' HO_16.out).2.2|(with_reducible refine Kd.C_alloc ?_ _)|(with_reducible refine Kd.C_drewN ?_ _)|(with_reducible refine Kd.C_drew ?_)));(case side2=>exact(Kd.R_reads' HO_16.out).2.1);rintro e w' ⟨rfl,⟨nd,rfl⟩⟩;refine⟨_,rfl,?_⟩))
                   go_roundg k2
                   case measure=>have:=HK1.out;have:=HK2.out;omega
                   case rel=>exact⟨(wrap64 (x10_1 - t476)),(x11_2),(wrap64 (x13_1+1)),(x441001_1),(u441001),sD,sD,H',⟨by have:=HK1.out;have:=HK2.out;omega⟩,⟨by(with_reducible repeat(first|apply Kd.R_alloc|apply Kd.R_drewN|apply Kd.R_drew));exact Kd.R_mono HO_11.out (fun _ hk=>trivial)⟩,⟨by(with_reducible repeat(first|apply Kd.S_alloc|apply Kd.S_drewN|apply Kd.S_drew));exact Kd.S_mono HO_441001.out (fun _ hk=>hk.1)⟩,⟨by(with_reducible repeat(first|refine blk_drewN ?_ _|refine blk_drew ?_|refine blk_alloc ?_ _));exact BK431.out⟩,⟨by(with_reducible repeat(first|refine blk_drewN ?_ _|refine blk_drew ?_|refine blk_alloc ?_ _));exact BK432.out⟩,⟨by(with_reducible repeat(first|refine blk_drewN ?_ _|refine blk_drew ?_|refine blk_alloc ?_ _));exact BK440.out⟩,⟨pB⟩⟩
              ·rw[if_neg c74] at H;have c74b0:decide (0 < x10_1)=false:=decide_eq_false c74;clear c74;obtain⟨y481,hy481⟩:∃ y_:List Int,y_=(List.replicate (((rd_L1 l0_1 0).length:Int):Int).toNat 0):=⟨_,rfl⟩;replace H:(Azw.l53 k1 l1 ((rd_L1 l0_1 0).length:Int) x10_1 x11_1 x13_1 y441 y481 0 a0_0 l0_1 a0_0 x441001_1)=some (r1,r2,r3,r4):=by first|(rw[hy481];with_reducible exact H)|(have H2_:=(Option.bind_some _ _).symm.trans H;rw[hy481];with_reducible exact H2_)|(have H2_:=(Option.bind_some _ _).symm.trans H;with_reducible exact H2_)|with_reducible exact H|(rw[hy481];exact H)|exact H
               have Ny481:=aM hy481;clear hy481;have H':=aM H;clear H;have hnb116:=NB431_432.out;have hnc116:=NB432_431.out;have hnb117:=NB431_440.out;have hnc117:=NB440_431.out;obtain⟨hcz118_0,hcz118_1,hfz118_0,hfz118_1⟩:=bk2 BK431;go_wp2_with (first|((with_reducible refine gate_dst (N:=56) rfl ?_);refine Kd.R_make (Kd.int .i64) _ 3 rfl (N:=56) rfl 29 _ _ rfl ((rd_L1 l0_1 0).length:Int) rfl rfl Try.underlying29 (.int .i64 0) 8 info3 rfl (by decide) (by omega) 0 (ok:=fun _=>True) (okp:=fun _=>True) rfl (fun _ hk=>hk) trivial (oE aS) (Nat.le_trans (Nat.mul_le_mul_right _ (oE aS:((rd_L1 l0_1 0).length:Int).toNat≤35184372088832)) (by omega)) (Below.refl _ _) (Nat.le_refl _) ?_;intro v442 w119 ho120 hb hg_ hnew_;clear hg_ hnew_;(first|rw[← Ny441.out] at ho120|(simp only[Int.reduceToNat] at ho120;rw[← Ny441.out] at ho120));have HO443:=aM (Kd.R_lower (Kd.R_new' ho120 (Kd.R_lt (rX HO_11.out))) (below_size pB));replace HO_11:=aM (Kd.R_elder' (rX HO_11.out) (Kd.R_base ho120) hb);replace HO_441001:=aM (Kd.S_elder' (by(with_reducible repeat(first|apply Kd.S_alloc|apply Kd.S_drewN|apply Kd.S_drew));exact HO_441001.out) (Kd.R_base ho120) hb);replace BK431:=aM (kB BK431 hb);replace BK432:=aM (kB BK432 hb);replace BK440:=aM (kB BK440 hb);replace HB:=aM (below_step pB hb);clear hb ho120;obtain⟨hcz121_0,hcz121_1,hfz121_0,hfz121_1⟩:=bk2 BK431;have p444:0≤(x13_1:Int):=oE aS;have q444:x13_1 < (l0_1.length:Int):=oE aS;obtain⟨ad444,A444_0,c444_0,e444,hx444_0,hl444_0,hi444_0⟩:=at_L1 HR0_1.out x13_1 p444 q444;obtain rfl:ad434=ad444:=(by injection e444);replace hx444_0:=(HB.out.cell (World.block_lt_of_cell? w _ hx444_0)).trans hx444_0;have HR444_0:=aM hi444_0;have HC444_0:=aM hl444_0;clear hi444_0 hl444_0;replace p444:=eq_true p444;replace q444:=eq_true q444)|((with_reducible refine gate_callee (f:=21) rfl ?_);refine goesL_ (some 62) rfl rfl Try.func21 (by kernel_rfl) rfl #[.slice A444_0 (rd_L1 l0_1 x13_1).length c444_0] rfl mA ?_;(with_reducible refine(Azp.calls k1 _ _ (rd_L1 l0_1 x13_1) t445 _ ?side1 ?side2 A36.out).mono ?_);(case side1=>exact cX (Kd.C_below HR444_0.out HB.out));(case side2=>exact HC444_0.out);rintro e w' ⟨rfl,⟨nd,rfl⟩⟩;refine⟨_,rfl,?_⟩)|((with_reducible refine gate_dst (N:=81) rfl ?_);refine Kd.R_make (Kd.int .i64) _ 3 rfl (N:=81) rfl 29 _ _ rfl ((rd_L1 l0_1 0).length:Int) rfl rfl Try.underlying29 (.int .i64 0) 8 info3 rfl (by decide) (by omega) 0 (ok:=fun _=>True) (okp:=fun _=>True) rfl (fun _ hk=>hk) trivial (oE aS) (Nat.le_trans (Nat.mul_le_mul_right _ (oE aS:((rd_L1 l0_1 0).length:Int).toNat≤35184372088832)) (by omega)) (Below.refl _ _) (Nat.le_refl _) ?_;intro v482 w122 ho123 hb hg_ hnew_;clear hg_ hnew_;(first|rw[← Ny481.out] at ho123|(simp only[Int.reduceToNat] at ho123;rw[← Ny481.out] at ho123));have HO483:=aM (Kd.R_lower (Kd.R_new' (Kd.R_new' ho123 (Kd.R_lt (rX HO_11.out))) (Kd.R_lt (rX HO443.out))) (below_size pB));replace HO_11:=aM (Kd.R_elder' (rX HO_11.out) (Kd.R_base ho123) hb);replace HO_441001:=aM (Kd.S_elder' (by(with_reducible repeat(first|apply Kd.S_alloc|apply Kd.S_drewN|apply Kd.S_drew));exact HO_441001.out) (Kd.R_base ho123) hb);replace HO443:=aM (Kd.R_elder' (rX HO443.out) (Kd.R_base ho123) hb);replace BK431:=aM (kB BK431 hb);replace BK432:=aM (kB BK432 hb);replace BK440:=aM (kB BK440 hb);replace HB:=aM (below_step pB hb);clear hb ho123))
               go_loopg [17] k1 (fun kq v17 w'=>∃ (x11_2:List Int) (x16_2:List Int) (x17_2:Int),v17=.int .i64 x17_2∧Aside0 (Azw.l53 kq l1 ((rd_L1 l0_1 0).length:Int) x10_1 x11_2 x13_1 y441 x16_2 x17_2 a0_0 l0_1 a0_0 x441001_1=some (r1,r2,r3,r4))∧Aside0 (kq≤k1)∧Aside0 (Kd.R (Kd.int .i64) 3 w' w.heap.size (fun k_=>some k_≠(v442:Value).ownBlock∧some k_≠(v482:Value).ownBlock) v438 x11_2)∧Aside0 (Kd.R (Kd.int .i64) 3 w' w.heap.size (fun k_=>some k_≠(v438:Value).ownBlock∧some k_≠(v482:Value).ownBlock) v442 y441)∧Aside0 (Kd.R (Kd.int .i64) 3 w' w.heap.size (fun k_=>some k_≠(v438:Value).ownBlock∧some k_≠(v442:Value).ownBlock) v482 x16_2)∧Aside0 (Kd.S (Kd.slice 3 (Kd.int .i64)) 29 w' w.heap.size (fun k_=>some k_≠(v438:Value).ownBlock∧some k_≠(v442:Value).ownBlock∧some k_≠(v482:Value).ownBlock) u441001 x441001_1)∧Aside0 (w'.heap[gb431]?=some (.cells #[.int .i64 a0_0,(.slice (some ad434) l0_1.length c0_1)] 24 (0,0)))∧Aside0 (w'.heap[gb432]?=some (.cells #[.int .i64 0,(.slice none 0 0)] 24 (0,0)))∧Aside0 (w'.heap[gb440]?=some (.cells #[.int .i64 a0_0,u441001] 24 (0,0)))∧Aside0 (Below w.heap.size w w'))
               case atStart=>exact⟨(x11_1),(y481),(0),sD,H',⟨Nat.le_refl _⟩,⟨by(with_reducible repeat(first|apply Kd.R_alloc|apply Kd.R_drewN|apply Kd.R_drew));exact Kd.R_mono HO_11.out (fun _ hk=>⟨hk.1.2,hk.2⟩)⟩,⟨by(with_reducible repeat(first|apply Kd.R_alloc|apply Kd.R_drewN|apply Kd.R_drew));exact Kd.R_mono HO443.out (fun _ hk=>⟨hk.1.2,hk.2⟩)⟩,⟨by(with_reducible repeat(first|apply Kd.R_alloc|apply Kd.R_drewN|apply Kd.R_drew));exact Kd.R_mono HO483.out (fun _ hk=>⟨hk.1.2,hk.2⟩)⟩,⟨by(with_reducible repeat(first|apply Kd.S_alloc|apply Kd.S_drewN|apply Kd.S_drew));exact Kd.S_mono HO_441001.out (fun _ hk=>⟨hk.1.1,⟨hk.1.2,hk.2⟩⟩)⟩,⟨by(with_reducible repeat(first|refine blk_drewN ?_ _|refine blk_drew ?_|refine blk_alloc ?_ _));exact BK431.out⟩,⟨by(with_reducible repeat(first|refine blk_drewN ?_ _|refine blk_drew ?_|refine blk_alloc ?_ _));exact BK432.out⟩,⟨by(with_reducible repeat(first|refine blk_drewN ?_ _|refine blk_drew ?_|refine blk_alloc ?_ _));exact BK440.out⟩,⟨pB⟩⟩
               case round =>
                clear H';try clear c1
                try clear c2
                try clear p2
                try clear c4
                try clear p4
                try clear q4
                try clear hx4
                try clear p5
                try clear q5
                try clear hx5
                try clear p6
                try clear c7
                try clear c8
                try clear p8
                try clear q8
                try clear hx8
                try clear hf8
                try clear c9
                try clear p9
                try clear q9
                try clear hx9
                try clear hf9
                try clear c10
                try clear c11
                try clear c21
                try clear p43
                try clear q43
                try clear hx43
                try clear c44
                try clear p44
                try clear q44
                try clear hx44
                try clear p45
                try clear q45
                try clear hx45
                try clear p46
                try clear q46
                try clear hx46
                try clear c47
                try clear p47
                try clear q47
                try clear hx47
                try clear p50
                try clear q50
                try clear hx50
                try clear p55
                try clear q55
                try clear hx55
                try clear p64
                try clear c74
                try clear c74b0
                try clear c85
                try clear c85b0
                try clear c86
                try clear c86b0
                try clear c87
                try clear c87b0
                try clear c88
                try clear c88b0
                try clear p89
                try clear q89
                try clear hx89
                try clear hf89
                try clear c90
                try clear c90b0
                try clear c91
                try clear c91b0
                try clear c92
                try clear c92b0
                try clear c93
                try clear c93b0
                try clear p94
                try clear q94
                try clear hx94
                try clear hf94
                try clear c104
                try clear c104b0
                try clear c105
                try clear c108
                try clear c109
                try clear c116
                try clear c117
                try clear hcz110_0
                try clear hcz110_1
                try clear hcz113_0
                try clear hcz113_1
                try clear hcz118_0
                try clear hcz118_1
                try clear hcz121_0
                try clear hcz121_1
                try clear hcz69_1
                try clear hcz72_0
                try clear hcz72_1
                try clear hcz78_0
                try clear hcz78_1
                try clear hcz81_0
                try clear hcz81_1
                try clear hfz110_0
                try clear hfz110_1
                try clear hfz113_0
                try clear hfz113_1
                try clear hfz118_0
                try clear hfz118_1
                try clear hfz121_0
                try clear hfz121_1
                try clear hfz13_0
                try clear hfz13_1
                try clear hfz15_0
                try clear hfz15_1
                try clear hfz16_0
                try clear hfz16_1
                try clear hfz22_0
                try clear hfz22_1
                try clear hfz24_0
                try clear hfz24_1
                try clear hfz27_0
                try clear hfz27_1
                try clear hfz31_0
                try clear hfz31_1
                try clear hfz40_0
                try clear hfz40_1
                try clear hfz43_0
                try clear hfz43_1
                try clear hfz69_0
                try clear hfz69_1
                try clear hfz72_0
                try clear hfz72_1
                try clear hfz78_0
                try clear hfz78_1
                try clear hfz81_0
                try clear hfz81_1
                try clear hx434_0
                try clear hx444_0
                try clear hx446_0
                try clear hx450_0
                try clear hx451_0
                try clear hx453_0
                try clear hx454_0
                try clear hx455_0
                try clear hx462_0
                try clear hx469_0
                try clear hx470_0
                try clear hx472_0
                try clear hx473_0
                try clear hx474_0
                try clear hx50_0
                try clear hx55_0
                try clear hx89_0
                try clear hx94_0
                try clear p2
                try clear p4
                try clear p43
                try clear p434
                try clear p44
                try clear p444
                try clear p446
                try clear p450
                try clear p451
                try clear p453
                try clear p454
                try clear p455
                try clear p462
                try clear p469
                try clear p470
                try clear p472
                try clear p473
                try clear p474
                try clear p50
                try clear p55
                try clear p89
                try clear p94
                try clear q4
                try clear q43
                try clear q434
                try clear q44
                try clear q444
                try clear q446
                try clear q450
                try clear q451
                try clear q453
                try clear q454
                try clear q455
                try clear q462
                try clear q469
                try clear q470
                try clear q472
                try clear q473
                try clear q474
                try clear q50
                try clear q55
                try clear q89
                try clear q94
                obtain⟨x11_2,x16_2,x17_2,rfl,HA,HK2,HO_11,HO_14,HO_16,HO_441001,BK431,BK432,BK440,HB⟩:=hrel;cases gk with
                | zero=>exact absurd HA.out (by simp [Azw.l53])
                | succ k2 =>
                 have H:=HA.out;clear HA;simp only[Azw.l53] at H;by_cases c124:x17_2 < ((rd_L1 l0_1 0).length:Int)
                 ·rw[if_pos c124] at H;have c124b0:decide (x17_2 < ((rd_L1 l0_1 0).length:Int))=true:=dE c124;clear c124;by_cases c125:0≤x17_2
                  ·rw[if_pos c125] at H;have c125b0:decide (0≤x17_2)=true:=dE c125;clear c125;by_cases c126:x17_2 < (x11_2.length:Int)
                   ·rw[if_pos c126] at H;have c126b0:decide (x17_2 < (x11_2.length:Int))=true:=dE c126;clear c126;by_cases c127:x17_2 < (y441.length:Int)
                    ·rw[if_pos c127] at H;have c127b0:decide (x17_2 < (y441.length:Int))=true:=dE c127;clear c127;obtain⟨y486,hy486⟩:∃ y_:List Int,y_=(x11_2.set (x17_2:Int).toNat (wrap64 ((rd x11_2 x17_2)+(rd y441 x17_2)))):=⟨_,rfl⟩;replace H:(if 0≤x13_1 then(if x13_1 < (l0_1.length:Int) then(if x17_2 < ((rd_L1 l0_1 x13_1).length:Int) then(if x17_2 < (x16_2.length:Int) then(Azw.l53 k2 l1 ((rd_L1 l0_1 0).length:Int) x10_1 y486 x13_1 y441 (x16_2.set (x17_2:Int).toNat (wrap64 ((rd (rd_L1 l0_1 x13_1) x17_2) - (rd y441 x17_2)))) (wrap64 (x17_2+1)) a0_0 l0_1 a0_0 x441001_1) else(none)) else(none)) else(none)) else(none))=some (r1,r2,r3,r4):=by first|(rw[hy486];with_reducible exact H)|(have H2_:=(Option.bind_some _ _).symm.trans H;rw[hy486];with_reducible exact H2_)|(have H2_:=(Option.bind_some _ _).symm.trans H;with_reducible exact H2_)|with_reducible exact H|(rw[hy486];exact H)|exact H
                     have Ny486:=aM hy486;clear hy486;by_cases c129:0≤x13_1
                     ·rw[if_pos c129] at H;have c129b0:decide (0≤x13_1)=true:=dE c129;clear c129;by_cases c130:x13_1 < (l0_1.length:Int)
                      ·rw[if_pos c130] at H;have c130b0:decide (x13_1 < (l0_1.length:Int))=true:=dE c130;clear c130;by_cases c131:x17_2 < ((rd_L1 l0_1 x13_1).length:Int)
                       ·rw[if_pos c131] at H;have c131b0:decide (x17_2 < ((rd_L1 l0_1 x13_1).length:Int))=true:=dE c131;clear c131;by_cases c132:x17_2 < (x16_2.length:Int)
                        ·rw[if_pos c132] at H;have c132b0:decide (x17_2 < (x16_2.length:Int))=true:=dE c132;clear c132;obtain⟨y490,hy490⟩:∃ y_:List Int,y_=(x16_2.set (x17_2:Int).toNat (wrap64 ((rd (rd_L1 l0_1 x13_1) x17_2) - (rd y441 x17_2)))):=⟨_,rfl⟩;replace H:(Azw.l53 k2 l1 ((rd_L1 l0_1 0).length:Int) x10_1 y486 x13_1 y441 y490 (wrap64 (x17_2+1)) a0_0 l0_1 a0_0 x441001_1)=some (r1,r2,r3,r4):=by first|(rw[hy490];with_reducible exact H)|(have H2_:=(Option.bind_some _ _).symm.trans H;rw[hy490];with_reducible exact H2_)|(have H2_:=(Option.bind_some _ _).symm.trans H;with_reducible exact H2_)|with_reducible exact H|(rw[hy490];exact H)|exact H
                         have Ny490:=aM hy490;clear hy490;have H':=aM H;clear H;try go_wp2
                         have n0_:=aM (Kd.R_drew HO_11.out);have n1_:=aM (Kd.R_drew HO_14.out);have n2_:=aM (Kd.R_drew HO_16.out);have n3_:=aM (Kd.S_drew HO_441001.out);have n4_:=aM (blk_drew BK431.out);have n5_:=aM (blk_drew BK432.out);have n6_:=aM (blk_drew BK440.out);have n7_:=aM (below_drew1 HB.out);clear HO_11;clear HO_14;clear HO_16;clear HO_441001;clear BK431;clear BK432;clear BK440;clear HB;have HO_11:=n0_;have HO_14:=n1_;have HO_16:=n2_;have HO_441001:=n3_;have BK431:=n4_;have BK432:=n5_;have BK440:=n6_;have HB:=n7_;clear n0_ n1_ n2_ n3_ n4_ n5_ n6_ n7_;obtain⟨Ao135,co135,eo135⟩:=Kd.R_slice HO_11.out;(first|subst eo135|(injection eo135 with f1_ f2_ f3_;have f4_:=f1_.symm;have f5_:=f3_.symm;clear f1_ f2_ f3_;subst f4_;subst f5_))
                         have p484:0≤(x17_2:Int):=oE aS
                         have q484:x17_2 < (x11_2.length:Int):=oE aS
                         obtain⟨ad484,e484,hx484_0⟩:=Kd.at_int (Kd.R_reads' HO_11.out).2.2 x17_2 p484 q484;cases e484
                         replace p484:=eq_true p484;replace q484:=eq_true q484;obtain⟨Ao136,co136,eo136⟩:=Kd.R_slice HO_14.out;(first|subst eo136|(injection eo136 with f1_ f2_ f3_;have f4_:=f1_.symm;have f5_:=f3_.symm;clear f1_ f2_ f3_;subst f4_;subst f5_))
                         have p485:0≤(x17_2:Int):=oE aS
                         have q485:x17_2 < (y441.length:Int):=oE aS
                         obtain⟨ad485,e485,hx485_0⟩:=Kd.at_int (Kd.R_reads' HO_14.out).2.2 x17_2 p485 q485;cases e485
                         replace p485:=eq_true p485;replace q485:=eq_true q485;have p128:0≤(x17_2:Int):=oE aS
                         have q128:(x17_2:Int) < ((x11_2.length:Int):Int):=oE aS
                         obtain⟨go128,co128,eo128,gb128,gl128,cl128,HG128⟩:=Kd.R_form HO_11.out (by omega)
                         (first|cases eo128|(injection eo128 with ea_ en_ ec_;(first|subst ea_|(injection ea_ with ea_;subst ea_));subst ec_;clear en_))
                         have GB128:=aM gb128;have GG128:=aM HG128;clear gb128 gl128 HG128;(first|simp only[add_plain] at hx484_0|skip)
                         obtain⟨hx128_0,hf128_0⟩:=Kd.R_celln 0 HO_11.out (x17_2:Int) p128 q128;replace p128:=eq_true p128;replace q128:=eq_true q128;have HP137:=Kd.R_putn HO_11.out (x17_2:Int) (wrap64 ((rd x11_2 x17_2)+(rd y441 x17_2)));rw[← Ny486.out] at HP137;have HQ137:=aM HP137;clear HP137;refine start_ (n:=13) (S:=fun w'=>w'.cell? ⟨go128,(x17_2).toNat,none⟩=some (.int .i64 (rd x11_2 x17_2))∧w'.cell? (ad485.add (x17_2).toNat)=some (.int .i64 (rd y441 x17_2))) (ds:=[12]) #[false,false,false,false,false,false,false,false,false,false,false,false,false] (by kernel_rfl) rfl rfl ⟨hx484_0,hx485_0⟩ (fun hHeld=>?_);refine with_tabW Azw.tab26 Azw.bits26 (fun HT_ HW_=>?_)
                         generalize wr.drew=w134 at HO_11 HO_14 HO_16 HO_441001 BK431 BK432 BK440 HB GG128 HQ137 hf128_0 hx128_0 hx484_0 hx485_0 hHeld ⊢;refine pU (i:=0) (N:=some 87) HT_ #[true,false,false,false,false,false,false,false,false,false,false,false,false] ?_;refine pU (i:=1) (N:=some 88) HT_ #[true,true,false,false,false,false,false,false,false,false,false,false,false] ?_;refine pU (i:=2) (N:=some 89) HT_ #[true,true,true,false,false,false,false,false,false,false,false,false,false] ?_;refine pU (i:=3) (N:=some 90) HT_ #[true,true,true,true,false,false,false,false,false,false,false,false,false] ?_;refine pU (i:=4) (N:=some 91) HT_ #[true,true,true,true,true,false,false,false,false,false,false,false,false] ?_;refine pU (i:=6) (N:=some 93) HT_ #[true,true,true,true,true,false,true,false,false,false,false,false,false] ?_;refine pU (i:=7) (N:=some 94) HT_ #[true,true,true,true,true,false,true,true,false,false,false,false,false] ?_;refine pU (i:=8) (N:=some 95) HT_ #[true,true,true,true,true,false,true,true,true,false,false,false,false] ?_;refine take_ (i:=5) (N:=some 92) (v:=?_) (a':=?_) #[true,true,true,true,true,true,true,true,true,false,false,false,false] rfl rfl (take_ofW HT_.out HW_.out (by kernel_rfl)) (fun _ _ _ h=>h) (Or.inl ⟨by rfl,?_⟩) hHeld ?_ ?_
                         rotate_left
                         ·rintro w' ⟨s0,s1⟩;go_simp
                          with_reducible rfl
                         rotate_left
                         ·simp only[Act.put,sA,sZ,sC,i64_w,i32_w];rfl
                         refine take_ (i:=9) (N:=some 96) (v:=?_) (a':=?_) #[true,true,true,true,true,true,true,true,true,true,false,false,false] rfl rfl (take_ofW HT_.out HW_.out (by kernel_rfl)) (fun _ _ _ h=>h) (Or.inl ⟨by rfl,?_⟩) hHeld ?_ ?_
                         rotate_left
                         ·rintro w' ⟨s0,s1⟩;go_simp
                          with_reducible rfl
                         rotate_left
                         ·simp only[Act.put,sA,sZ,sC,i64_w,i32_w];rfl
                         refine pU (i:=10) (N:=some 97) HT_ #[true,true,true,true,true,true,true,true,true,true,true,false,false] ?_;refine pU (i:=11) (N:=some 98) HT_ #[true,true,true,true,true,true,true,true,true,true,true,true,false] ?_;refine last_ (i:=12) (N:=none) #[true,true,true,true,true,true,true,true,true,true,true,true,true] rfl rfl (one_of HT_.out (by kernel_rfl)) (by decide) (fun K hK=>?_)
                         refine skip_ (w1:=?_) (by rfl) rfl ?_ ?_
                         rotate_left
                         ·go_simp
                          rfl
                         refine hK.out _ _ ?_;clear hK K;refine done_ (done_of HT_.out (by kernel_rfl)) ?_
                         try go_wp2
                         have n0_:Aside0 (Kd.R (Kd.int .i64) 3 (w134.setCell ⟨go128,(x17_2:Int).toNat,none⟩ (.int .i64 (wrap64 ((rd x11_2 x17_2)+(rd y441 x17_2))))) w.heap.size (fun k_=>some k_≠(.slice (some ad485) y441.length co136:Value).ownBlock∧some k_≠(v482:Value).ownBlock) (.slice (some ⟨go128,0,none⟩) x11_2.length co135) y486):=⟨rX HQ137.out⟩
                         have n1_:Aside0 (Kd.R (Kd.int .i64) 3 (w134.setCell ⟨go128,(x17_2:Int).toNat,none⟩ (.int .i64 (wrap64 ((rd x11_2 x17_2)+(rd y441 x17_2))))) w.heap.size (fun k_=>some k_≠(.slice (some ⟨go128,0,none⟩) x11_2.length co135:Value).ownBlock∧some k_≠(v482:Value).ownBlock) (.slice (some ad485) y441.length co136) y441):=⟨by(with_reducible repeat(first|apply Kd.R_alloc|apply Kd.R_drewN|apply Kd.R_drew));exact Kd.R_mono (Kd.R_far (p:=⟨go128,(x17_2:Int).toNat,none⟩) (Kd.R_mono HO_14.out (fun k_ hk=>(⟨hk,fun e_=>hk.1 (by rw[e_];rfl)⟩:_∧k_≠go128))) (fun _ hk=>hk.2) (.int .i64 (wrap64 ((rd x11_2 x17_2)+(rd y441 x17_2))))) (fun _ hk=>⟨hk.1.1,hk.1.2⟩)⟩
                         have n2_:Aside0 (Kd.R (Kd.int .i64) 3 (w134.setCell ⟨go128,(x17_2:Int).toNat,none⟩ (.int .i64 (wrap64 ((rd x11_2 x17_2)+(rd y441 x17_2))))) w.heap.size (fun k_=>some k_≠(.slice (some ⟨go128,0,none⟩) x11_2.length co135:Value).ownBlock∧some k_≠(.slice (some ad485) y441.length co136:Value).ownBlock) v482 x16_2):=⟨by(with_reducible repeat(first|apply Kd.R_alloc|apply Kd.R_drewN|apply Kd.R_drew));exact Kd.R_mono (Kd.R_far (p:=⟨go128,(x17_2:Int).toNat,none⟩) (Kd.R_mono HO_16.out (fun k_ hk=>(⟨hk,fun e_=>hk.1 (by rw[e_];rfl)⟩:_∧k_≠go128))) (fun _ hk=>hk.2) (.int .i64 (wrap64 ((rd x11_2 x17_2)+(rd y441 x17_2))))) (fun _ hk=>⟨hk.1.1,hk.1.2⟩)⟩
                         have n3_:Aside0 (Kd.S (Kd.slice 3 (Kd.int .i64)) 29 (w134.setCell ⟨go128,(x17_2:Int).toNat,none⟩ (.int .i64 (wrap64 ((rd x11_2 x17_2)+(rd y441 x17_2))))) w.heap.size (fun k_=>some k_≠(.slice (some ⟨go128,0,none⟩) x11_2.length co135:Value).ownBlock∧some k_≠(.slice (some ad485) y441.length co136:Value).ownBlock∧some k_≠(v482:Value).ownBlock) u441001 x441001_1):=⟨by(with_reducible repeat(first|apply Kd.S_alloc|apply Kd.S_drewN|apply Kd.S_drew));exact Kd.S_mono (Kd.S_far (p:=⟨go128,(x17_2:Int).toNat,none⟩) (Kd.S_mono HO_441001.out (fun k_ hk=>(⟨hk,fun e_=>hk.1 (by rw[e_];rfl)⟩:_∧k_≠go128))) (fun _ hk=>hk.2) (.int .i64 (wrap64 ((rd x11_2 x17_2)+(rd y441 x17_2))))) (fun _ hk=>⟨hk.1.1,⟨hk.1.2.1,hk.1.2.2⟩⟩)⟩
                         have n4_:Aside0 ((w134.setCell ⟨go128,(x17_2:Int).toNat,none⟩ (.int .i64 (wrap64 ((rd x11_2 x17_2)+(rd y441 x17_2))))).heap[gb431]?=some (.cells #[.int .i64 a0_0,.slice (some ad434) l0_1.length c0_1] 24 (0,0))):=⟨by refine bD ?_;refine blk_far ?_ (by have h_:=Kd.R_ne HO_11.out BK431.out (by decide);intro e_;exact h_ (by rw[e_];rfl)) _;(with_reducible repeat(first|refine blk_drewN ?_ _|refine blk_drew ?_|refine blk_alloc ?_ _));exact BK431.out⟩
                         have n5_:Aside0 ((w134.setCell ⟨go128,(x17_2:Int).toNat,none⟩ (.int .i64 (wrap64 ((rd x11_2 x17_2)+(rd y441 x17_2))))).heap[gb432]?=some (.cells #[.int .i64 0,.slice none 0 0] 24 (0,0))):=⟨by refine bD ?_;refine blk_far ?_ (by have h_:=Kd.R_ne HO_11.out BK432.out (by decide);intro e_;exact h_ (by rw[e_];rfl)) _;(with_reducible repeat(first|refine blk_drewN ?_ _|refine blk_drew ?_|refine blk_alloc ?_ _));exact BK432.out⟩
                         have n6_:Aside0 ((w134.setCell ⟨go128,(x17_2:Int).toNat,none⟩ (.int .i64 (wrap64 ((rd x11_2 x17_2)+(rd y441 x17_2))))).heap[gb440]?=some (.cells #[.int .i64 a0_0,u441001] 24 (0,0))):=⟨by refine bD ?_;refine blk_far ?_ (by have h_:=Kd.R_ne HO_11.out BK440.out (by decide);intro e_;exact h_ (by rw[e_];rfl)) _;(with_reducible repeat(first|refine blk_drewN ?_ _|refine blk_drew ?_|refine blk_alloc ?_ _));exact BK440.out⟩
                         have n7_:Aside0 (Below w.heap.size w (w134.setCell ⟨go128,(x17_2:Int).toNat,none⟩ (.int .i64 (wrap64 ((rd x11_2 x17_2)+(rd y441 x17_2)))))):=⟨pB⟩;(try clear HO_11)
                         (try clear HO_14)
                         (try clear HO_16)
                         (try clear HO_441001)
                         (try clear BK431)
                         (try clear BK432)
                         (try clear BK440)
                         (try clear HB)
                         generalize (w134.setCell ⟨go128,(x17_2:Int).toNat,none⟩ (.int .i64 (wrap64 ((rd x11_2 x17_2)+(rd y441 x17_2)))))=w138 at n0_ n1_ n2_ n3_ n4_ n5_ n6_ n7_ ⊢;have HO_11:=n0_;have HO_14:=n1_;have HO_16:=n2_;have HO_441001:=n3_;have BK431:=n4_;have BK432:=n5_;have BK440:=n6_;have HB:=n7_;clear n0_ n1_ n2_ n3_ n4_ n5_ n6_ n7_;have n0_:=aM (Kd.R_drew HO_11.out);have n1_:=aM (Kd.R_drew HO_14.out);have n2_:=aM (Kd.R_drew HO_16.out);have n3_:=aM (Kd.S_drew HO_441001.out);have n4_:=aM (blk_drew BK431.out);have n5_:=aM (blk_drew BK432.out);have n6_:=aM (blk_drew BK440.out);have n7_:=aM (below_drew1 HB.out);clear HO_11;clear HO_14;clear HO_16;clear HO_441001;clear BK431;clear BK432;clear BK440;clear HB;have HO_11:=n0_;have HO_14:=n1_;have HO_16:=n2_;have HO_441001:=n3_;have BK431:=n4_;have BK432:=n5_;have BK440:=n6_;have HB:=n7_;clear n0_ n1_ n2_ n3_ n4_ n5_ n6_ n7_;have p487:0≤(x13_1:Int):=oE aS
                         have q487:x13_1 < (l0_1.length:Int):=oE aS
                         obtain⟨ad487,A487_0,c487_0,e487,hx487_0,hl487_0,hi487_0⟩:=at_L1 HR0_1.out x13_1 p487 q487;have hw487_0:=hx487_0;obtain rfl:ad434=ad487:=(by injection e487)
                         replace hx487_0:=(HB.out.cell (World.block_lt_of_cell? w _ hx487_0)).trans hx487_0;have HR487_0:=aM hi487_0;have HC487_0:=aM hl487_0;clear hi487_0 hl487_0;replace p487:=eq_true p487;replace q487:=eq_true q487;have p488:0≤(x17_2:Int):=oE aS
                         have q488:x17_2 < ((rd_L1 l0_1 x13_1).length:Int):=oE aS
                         obtain⟨ad488,e488,hx488_0⟩:=Kd.at_int HR487_0.out x17_2 p488 q488;have hw488_0:=hx488_0;cases e488
                         replace hx488_0:=(HB.out.cell (World.block_lt_of_cell? w _ hx488_0)).trans hx488_0;replace p488:=eq_true p488;replace q488:=eq_true q488;have p489:0≤(x17_2:Int):=oE aS
                         have q489:x17_2 < (y441.length:Int):=oE aS
                         obtain⟨ad489,e489,hx489_0⟩:=Kd.at_int (Kd.R_reads' HO_14.out).2.2 x17_2 p489 q489;obtain rfl:ad485=ad489:=(by injection e489)
                         replace p489:=eq_true p489;replace q489:=eq_true q489;have p133:0≤(x17_2:Int):=oE aS
                         have q133:(x17_2:Int) < ((x16_2.length:Int):Int):=oE aS
                         obtain⟨go133,co133,eo133,gb133,gl133,cl133,HG133⟩:=Kd.R_form HO_16.out (by omega)
                         (first|cases eo133|(injection eo133 with ea_ en_ ec_;(first|subst ea_|(injection ea_ with ea_;subst ea_));subst ec_;clear en_))
                         have GB133:=aM gb133;have GG133:=aM HG133;clear gb133 gl133 HG133;obtain⟨hx133_0,hf133_0⟩:=Kd.R_celln 0 HO_16.out (x17_2:Int) p133 q133;replace p133:=eq_true p133;replace q133:=eq_true q133;have HP140:=Kd.R_putn HO_16.out (x17_2:Int) (wrap64 ((rd (rd_L1 l0_1 x13_1) x17_2) - (rd y441 x17_2)));rw[← Ny490.out] at HP140;have HQ140:=aM HP140;clear HP140;refine start_ (n:=17) (S:=fun w'=>w'.cell? ⟨gb431,0,none⟩=some (.int .i64 a0_0)∧w'.cell? ⟨gb431,1,none⟩=some (.slice (some ad434) l0_1.length c0_1)∧w'.cell? (ad434.add (x13_1).toNat)=some (.slice (some ad488) (rd_L1 l0_1 x13_1).length c487_0)∧w'.cell? (ad488.add (x17_2).toNat)=some (.int .i64 (rd (rd_L1 l0_1 x13_1) x17_2))∧w'.cell? (ad485.add (x17_2).toNat)=some (.int .i64 (rd y441 x17_2))) (ds:=[16]) #[false,false,false,false,false,false,false,false,false,false,false,false,false,false,false,false,false] (by kernel_rfl) rfl rfl ⟨(blk_cell BK431.out 0).trans rfl,(blk_cell BK431.out 1).trans rfl,((HB.out.cell (World.block_lt_of_cell? w _ hw487_0)).trans hw487_0),((HB.out.cell (World.block_lt_of_cell? w _ hw488_0)).trans hw488_0),hx489_0⟩ (fun hHeld=>?_);refine with_tabW Azw.tab27 Azw.bits27 (fun HT_ HW_=>?_)
                         generalize w138.drew=w139 at HO_11 HO_14 HO_16 HO_441001 BK431 BK432 BK440 HB GG133 HQ137 HQ140 HR487_0 hf133_0 hx133_0 hx487_0 hx488_0 hx489_0 hHeld ⊢;refine pU (i:=0) (N:=some 99) HT_ #[true,false,false,false,false,false,false,false,false,false,false,false,false,false,false,false,false] ?_;refine pU (i:=1) (N:=some 100) HT_ #[true,true,false,false,false,false,false,false,false,false,false,false,false,false,false,false,false] ?_;refine pU (i:=2) (N:=some 101) HT_ #[true,true,true,false,false,false,false,false,false,false,false,false,false,false,false,false,false] ?_;refine pU (i:=4) (N:=some 103) HT_ #[true,true,true,false,true,false,false,false,false,false,false,false,false,false,false,false,false] ?_;refine pU (i:=7) (N:=some 106) HT_ #[true,true,true,false,true,false,false,true,false,false,false,false,false,false,false,false,false] ?_;refine pU (i:=10) (N:=some 109) HT_ #[true,true,true,false,true,false,false,true,false,false,true,false,false,false,false,false,false] ?_;refine pU (i:=11) (N:=some 110) HT_ #[true,true,true,false,true,false,false,true,false,false,true,true,false,false,false,false,false] ?_;refine pU (i:=12) (N:=some 111) HT_ #[true,true,true,false,true,false,false,true,false,false,true,true,true,false,false,false,false] ?_;refine take_ (i:=3) (N:=some 102) (v:=?_) (a':=?_) #[true,true,true,true,true,false,false,true,false,false,true,true,true,false,false,false,false] rfl rfl (take_ofW HT_.out HW_.out (by kernel_rfl)) (fun _ _ _ h=>h) (Or.inl ⟨by rfl,?_⟩) hHeld ?_ ?_
                         rotate_left
                         ·rintro w' ⟨s0,s1,s2,s3,s4⟩;go_simp
                          with_reducible rfl
                         rotate_left
                         ·simp only[Act.put,sA,sZ,sC,i64_w,i32_w];rfl
                         refine pU (i:=5) (N:=some 104) HT_ #[true,true,true,true,true,true,false,true,false,false,true,true,true,false,false,false,false] ?_;refine take_ (i:=6) (N:=some 105) (v:=?_) (a':=?_) #[true,true,true,true,true,true,true,true,false,false,true,true,true,false,false,false,false] rfl rfl (take_ofW HT_.out HW_.out (by kernel_rfl)) (fun _ _ _ h=>h) (Or.inl ⟨by rfl,?_⟩) hHeld ?_ ?_
                         rotate_left
                         ·rintro w' ⟨s0,s1,s2,s3,s4⟩;go_simp
                          with_reducible rfl
                         rotate_left
                         ·simp only[Act.put,sA,sZ,sC,i64_w,i32_w];rfl
                         refine pU (i:=8) (N:=some 107) HT_ #[true,true,true,true,true,true,true,true,true,false,true,true,true,false,false,false,false] ?_;refine take_ (i:=9) (N:=some 108) (v:=?_) (a':=?_) #[true,true,true,true,true,true,true,true,true,true,true,true,true,false,false,false,false] rfl rfl (take_ofW HT_.out HW_.out (by kernel_rfl)) (fun _ _ _ h=>h) (Or.inl ⟨by rfl,?_⟩) hHeld ?_ ?_
                         rotate_left
                         ·rintro w' ⟨s0,s1,s2,s3,s4⟩;go_simp
                          with_reducible rfl
                         rotate_left
                         ·simp only[Act.put,sA,sZ,sC,i64_w,i32_w];rfl
                         refine take_ (i:=13) (N:=some 112) (v:=?_) (a':=?_) #[true,true,true,true,true,true,true,true,true,true,true,true,true,true,false,false,false] rfl rfl (take_ofW HT_.out HW_.out (by kernel_rfl)) (fun _ _ _ h=>h) (Or.inl ⟨by rfl,?_⟩) hHeld ?_ ?_
                         rotate_left
                         ·rintro w' ⟨s0,s1,s2,s3,s4⟩;go_simp
                          with_reducible rfl
                         rotate_left
                         ·simp only[Act.put,sA,sZ,sC,i64_w,i32_w];rfl
                         refine pU (i:=14) (N:=some 113) HT_ #[true,true,true,true,true,true,true,true,true,true,true,true,true,true,true,false,false] ?_;refine pU (i:=15) (N:=some 114) HT_ #[true,true,true,true,true,true,true,true,true,true,true,true,true,true,true,true,false] ?_;refine last_ (i:=16) (N:=none) #[true,true,true,true,true,true,true,true,true,true,true,true,true,true,true,true,true] rfl rfl (one_of HT_.out (by kernel_rfl)) (by decide) (fun K hK=>?_)
                         refine skip_ (w1:=?_) (by rfl) rfl ?_ ?_
                         rotate_left
                         ·go_simp
                          rfl
                         refine hK.out _ _ ?_;clear hK K;refine done_ (done_of HT_.out (by kernel_rfl)) ?_
                         try go_wp2
                         go_roundg k2
                         case measure=>have:=HK1.out;have:=HK2.out;omega
                         case rel=>exact⟨(y486),(y490),(wrap64 (x17_2+1)),sD,H',⟨by have:=HK1.out;have:=HK2.out;omega⟩,⟨by(with_reducible repeat(first|apply Kd.R_alloc|apply Kd.R_drewN|apply Kd.R_drew));exact Kd.R_mono (Kd.R_far (p:=⟨go133,(x17_2:Int).toNat,none⟩) (Kd.R_mono HO_11.out (fun k_ hk=>(⟨hk,fun e_=>hk.2 (by rw[e_];rfl)⟩:_∧k_≠go133))) (fun _ hk=>hk.2) (.int .i64 (wrap64 ((rd (rd_L1 l0_1 x13_1) x17_2) - (rd y441 x17_2))))) (fun _ hk=>⟨hk.1.1,hk.1.2⟩)⟩,⟨by(with_reducible repeat(first|apply Kd.R_alloc|apply Kd.R_drewN|apply Kd.R_drew));exact Kd.R_mono (Kd.R_far (p:=⟨go133,(x17_2:Int).toNat,none⟩) (Kd.R_mono HO_14.out (fun k_ hk=>(⟨hk,fun e_=>hk.2 (by rw[e_];rfl)⟩:_∧k_≠go133))) (fun _ hk=>hk.2) (.int .i64 (wrap64 ((rd (rd_L1 l0_1 x13_1) x17_2) - (rd y441 x17_2))))) (fun _ hk=>⟨hk.1.1,hk.1.2⟩)⟩,⟨rX HQ140.out⟩,⟨by(with_reducible repeat(first|apply Kd.S_alloc|apply Kd.S_drewN|apply Kd.S_drew));exact Kd.S_mono (Kd.S_far (p:=⟨go133,(x17_2:Int).toNat,none⟩) (Kd.S_mono HO_441001.out (fun k_ hk=>(⟨hk,fun e_=>hk.2.2 (by rw[e_];rfl)⟩:_∧k_≠go133))) (fun _ hk=>hk.2) (.int .i64 (wrap64 ((rd (rd_L1 l0_1 x13_1) x17_2) - (rd y441 x17_2))))) (fun _ hk=>⟨hk.1.1,⟨hk.1.2.1,hk.1.2.2⟩⟩)⟩,⟨by refine bD ?_;refine blk_far ?_ (by have h_:=Kd.R_ne HO_16.out BK431.out (by decide);intro e_;exact h_ (by rw[e_];rfl)) _;(with_reducible repeat(first|refine blk_drewN ?_ _|refine blk_drew ?_|refine blk_alloc ?_ _));exact BK431.out⟩,⟨by refine bD ?_;refine blk_far ?_ (by have h_:=Kd.R_ne HO_16.out BK432.out (by decide);intro e_;exact h_ (by rw[e_];rfl)) _;(with_reducible repeat(first|refine blk_drewN ?_ _|refine blk_drew ?_|refine blk_alloc ?_ _));exact BK432.out⟩,⟨by refine bD ?_;refine blk_far ?_ (by have h_:=Kd.R_ne HO_16.out BK440.out (by decide);intro e_;exact h_ (by rw[e_];rfl)) _;(with_reducible repeat(first|refine blk_drewN ?_ _|refine blk_drew ?_|refine blk_alloc ?_ _));exact BK440.out⟩,⟨pB⟩⟩
                        ·rw[if_neg c132] at H;exact absurd H (by simp)
                       ·rw[if_neg c131] at H;exact absurd H (by simp)
                      ·rw[if_neg c130] at H;exact absurd H (by simp)
                     ·rw[if_neg c129] at H;exact absurd H (by simp)
                    ·rw[if_neg c127] at H;exact absurd H (by simp)
                   ·rw[if_neg c126] at H;exact absurd H (by simp)
                  ·rw[if_neg c125] at H;exact absurd H (by simp)
                 ·rw[if_neg c124] at H;have c124b0:decide (x17_2 < ((rd_L1 l0_1 0).length:Int))=false:=decide_eq_false c124;clear c124;replace H:=bS H;obtain⟨t491,A1410,H⟩:=H;try dsimp only at H
                  have A141:=aM A1410;clear A1410;replace H:=bS H;obtain⟨t492,A1420,H⟩:=H;try dsimp only at H
                  have A142:=aM A1420;clear A1420;by_cases c143:t492 > 0
                  ·rw[if_pos c143] at H;have c143b0:decide (0 < t492)=true:=dE c143;clear c143;by_cases c144:x441001_1.length < 5864062014805
                   ·rw[if_pos c144] at H;have LMc144:=aM c144;clear c144;obtain⟨y493,hy493⟩:∃ y_:List (List Int),y_=(x441001_1 ++ [x16_2]):=⟨_,rfl⟩;replace H:(Azw.l0 k2 l1 ((rd_L1 l0_1 0).length:Int) (wrap64 (x10_1 - t491)) x11_2 (wrap64 (x13_1+1)) a0_0 l0_1 a0_0 y493)=some (r1,r2,r3,r4):=by first|(rw[hy493];with_reducible exact H)|(have H2_:=(Option.bind_some _ _).symm.trans H;rw[hy493];with_reducible exact H2_)|(have H2_:=(Option.bind_some _ _).symm.trans H;with_reducible exact H2_)|with_reducible exact H|(rw[hy493];exact H)|exact H
                    have Ny493:=aM hy493;clear hy493;have H':=aM H;clear H;obtain⟨Ao145,co145,eo145⟩:=Kd.R_slice HO_14.out;subst eo145;go_wp2_with (first|((with_reducible refine gate_callee (f:=21) rfl ?_);refine goesL_ (some 117) rfl rfl Try.func21 (by kernel_rfl) rfl #[.slice Ao145 y441.length co145] rfl mA ?_;(with_reducible refine(Azp.calls k2 _ _ y441 t491 _ ?side1 ?side2 A141.out).mono ?_);(case side1=>repeat(first|exact(Kd.R_reads' HO_14.out).2.2|(with_reducible refine Kd.C_alloc ?_ _)|(with_reducible refine Kd.C_drewN ?_ _)|(with_reducible refine Kd.C_drew ?_)));(case side2=>exact(Kd.R_reads' HO_14.out).2.1);rintro e w' ⟨rfl,⟨nd,rfl⟩⟩;refine⟨_,rfl,?_⟩;(try(rw[drewN_self wr];generalize hq_:World.drewN wr _=wr;have n0_:Aside0 (Kd.R (Kd.int .i64) 3 wr w.heap.size (fun k_=>some k_≠(.slice Ao145 y441.length co145:Value).ownBlock∧some k_≠(v482:Value).ownBlock) v438 x11_2):=⟨by rw[← hq_];exact(rX HO_11.out)⟩;have n1_:Aside0 (Kd.R (Kd.int .i64) 3 wr w.heap.size (fun k_=>some k_≠(v438:Value).ownBlock∧some k_≠(v482:Value).ownBlock) (.slice Ao145 y441.length co145) y441):=⟨by rw[← hq_];exact(rX HO_14.out)⟩;have n2_:Aside0 (Kd.R (Kd.int .i64) 3 wr w.heap.size (fun k_=>some k_≠(v438:Value).ownBlock∧some k_≠(.slice Ao145 y441.length co145:Value).ownBlock) v482 x16_2):=⟨by rw[← hq_];exact(rX HO_16.out)⟩;have n3_:Aside0 (Kd.S (Kd.slice 3 (Kd.int .i64)) 29 wr w.heap.size (fun k_=>some k_≠(v438:Value).ownBlock∧some k_≠(.slice Ao145 y441.length co145:Value).ownBlock∧some k_≠(v482:Value).ownBlock) u441001 x441001_1):=⟨by rw[← hq_];exact(by(with_reducible repeat(first|apply Kd.S_alloc|apply Kd.S_drewN|apply Kd.S_drew));exact HO_441001.out)⟩;have n4_:Aside0 (wr.heap[gb431]?=some (.cells #[.int .i64 a0_0,.slice (some ad434) l0_1.length c0_1] 24 (0,0))):=⟨by rw[← hq_];exact(kW BK431)⟩;have n5_:Aside0 (wr.heap[gb432]?=some (.cells #[.int .i64 0,.slice none 0 0] 24 (0,0))):=⟨by rw[← hq_];exact(kW BK432)⟩;have n6_:Aside0 (wr.heap[gb440]?=some (.cells #[.int .i64 a0_0,u441001] 24 (0,0))):=⟨by rw[← hq_];exact(kW BK440)⟩;have n7_:Aside0 (Below w.heap.size w wr):=⟨by rw[← hq_];exact pB⟩;clear HO_11 HO_14 HO_16 HO_441001 BK431 BK432 BK440 HB hq_;have HO_11:=n0_;have HO_14:=n1_;have HO_16:=n2_;have HO_441001:=n3_;have BK431:=n4_;have BK432:=n5_;have BK440:=n6_;have HB:=n7_;clear n0_ n1_ n2_ n3_ n4_ n5_ n6_ n7_;have hcqgb431_0:wr.cell? ⟨gb431,0,none⟩=some (.int .i64 a0_0):=(blk_cell BK431.out 0).trans rfl;have hfqgb431_0:=blk_frozen BK431.out 0;have hcqgb431_1:wr.cell? ⟨gb431,1,none⟩=some (.slice (some ad434) l0_1.length c0_1):=(blk_cell BK431.out 1).trans rfl;have hfqgb431_1:=blk_frozen BK431.out 1;have hcqgb432_0:wr.cell? ⟨gb432,0,none⟩=some (.int .i64 0):=(blk_cell BK432.out 0).trans rfl;have hfqgb432_0:=blk_frozen BK432.out 0;have hcqgb432_1:wr.cell? ⟨gb432,1,none⟩=some (.slice none 0 0):=(blk_cell BK432.out 1).trans rfl;have hfqgb432_1:=blk_frozen BK432.out 1;have hcqgb440_0:wr.cell? ⟨gb440,0,none⟩=some (.int .i64 a0_0):=(blk_cell BK440.out 0).trans rfl;have hfqgb440_0:=blk_frozen BK440.out 0;have hcqgb440_1:wr.cell? ⟨gb440,1,none⟩=some (u441001):=(blk_cell BK440.out 1).trans rfl;have hfqgb440_1:=blk_frozen BK440.out 1));obtain⟨Ao146,co146,eo146⟩:=Kd.R_slice HO_16.out;subst eo146)|((with_reducible refine gate_callee (f:=21) rfl ?_);refine goesL_ (some 120) rfl rfl Try.func21 (by kernel_rfl) rfl #[.slice Ao146 x16_2.length co146] rfl mA ?_;(with_reducible refine(Azp.calls k2 _ _ x16_2 t492 _ ?side1 ?side2 A142.out).mono ?_);(case side1=>repeat(first|exact(Kd.R_reads' HO_16.out).2.2|(with_reducible refine Kd.C_alloc ?_ _)|(with_reducible refine Kd.C_drewN ?_ _)|(with_reducible refine Kd.C_drew ?_)));(case side2=>exact(Kd.R_reads' HO_16.out).2.1);rintro e w' ⟨rfl,⟨nd,rfl⟩⟩;refine⟨_,rfl,?_⟩;(try(rw[drewN_self wr];generalize hq_:World.drewN wr _=wr;have n0_:Aside0 (Kd.R (Kd.int .i64) 3 wr w.heap.size (fun k_=>some k_≠(.slice Ao145 y441.length co145:Value).ownBlock∧some k_≠(.slice Ao146 x16_2.length co146:Value).ownBlock) v438 x11_2):=⟨by rw[← hq_];exact(rX HO_11.out)⟩;have n1_:Aside0 (Kd.R (Kd.int .i64) 3 wr w.heap.size (fun k_=>some k_≠(v438:Value).ownBlock∧some k_≠(.slice Ao146 x16_2.length co146:Value).ownBlock) (.slice Ao145 y441.length co145) y441):=⟨by rw[← hq_];exact(rX HO_14.out)⟩;have n2_:Aside0 (Kd.R (Kd.int .i64) 3 wr w.heap.size (fun k_=>some k_≠(v438:Value).ownBlock∧some k_≠(.slice Ao145 y441.length co145:Value).ownBlock) (.slice Ao146 x16_2.length co146) x16_2):=⟨by rw[← hq_];exact(rX HO_16.out)⟩;have n3_:Aside0 (Kd.S (Kd.slice 3 (Kd.int .i64)) 29 wr w.heap.size (fun k_=>some k_≠(v438:Value).ownBlock∧some k_≠(.slice Ao145 y441.length co145:Value).ownBlock∧some k_≠(.slice Ao146 x16_2.length co146:Value).ownBlock) u441001 x441001_1):=⟨by rw[← hq_];exact(by(with_reducible repeat(first|apply Kd.S_alloc|apply Kd.S_drewN|apply Kd.S_drew));exact HO_441001.out)⟩;have n4_:Aside0 (wr.heap[gb431]?=some (.cells #[.int .i64 a0_0,.slice (some ad434) l0_1.length c0_1] 24 (0,0))):=⟨by rw[← hq_];exact(kW BK431)⟩;have n5_:Aside0 (wr.heap[gb432]?=some (.cells #[.int .i64 0,.slice none 0 0] 24 (0,0))):=⟨by rw[← hq_];exact(kW BK432)⟩;have n6_:Aside0 (wr.heap[gb440]?=some (.cells #[.int .i64 a0_0,u441001] 24 (0,0))):=⟨by rw[← hq_];exact(kW BK440)⟩;have n7_:Aside0 (Below w.heap.size w wr):=⟨by rw[← hq_];exact pB⟩;clear HO_11 HO_14 HO_16 HO_441001 BK431 BK432 BK440 HB hq_;have HO_11:=n0_;have HO_14:=n1_;have HO_16:=n2_;have HO_441001:=n3_;have BK431:=n4_;have BK432:=n5_;have BK440:=n6_;have HB:=n7_;clear n0_ n1_ n2_ n3_ n4_ n5_ n6_ n7_;have hcqgb431_0:wr.cell? ⟨gb431,0,none⟩=some (.int .i64 a0_0):=(blk_cell BK431.out 0).trans rfl;have hfqgb431_0:=blk_frozen BK431.out 0;have hcqgb431_1:wr.cell? ⟨gb431,1,none⟩=some (.slice (some ad434) l0_1.length c0_1):=(blk_cell BK431.out 1).trans rfl;have hfqgb431_1:=blk_frozen BK431.out 1;have hcqgb432_0:wr.cell? ⟨gb432,0,none⟩=some (.int .i64 0):=(blk_cell BK432.out 0).trans rfl;have hfqgb432_0:=blk_frozen BK432.out 0;have hcqgb432_1:wr.cell? ⟨gb432,1,none⟩=some (.slice none 0 0):=(blk_cell BK432.out 1).trans rfl;have hfqgb432_1:=blk_frozen BK432.out 1;have hcqgb440_0:wr.cell? ⟨gb440,0,none⟩=some (.int .i64 a0_0):=(blk_cell BK440.out 0).trans rfl;have hfqgb440_0:=blk_frozen BK440.out 0;have hcqgb440_1:wr.cell? ⟨gb440,1,none⟩=some (u441001):=(blk_cell BK440.out 1).trans rfl;have hfqgb440_1:=blk_frozen BK440.out 1));have hnb147:=NB440_431.out;have hnc147:=NB431_440.out;have hnb148:=NB440_432.out;have hnc148:=NB432_440.out;obtain⟨hcz149_0,hcz149_1,hfz149_0,hfz149_1⟩:=bk2 BK440)|((with_reducible refine gate_builtin (b:=.append) (xs:=#[.tmp 123,.tmp 125]) rfl ?_);at_builtin;refine Kd.S_append (Kd.slice 3 (Kd.int .i64)) (w0:=w) w.heap.size rfl (.tmp 123) (.tmp 125) 22 29 (.slice none 0 0) 24 rfl Try.underlying22 info29 rfl (by decide) (by omega) u441001 x441001_1 x16_2 [.slice Ao146 x16_2.length co146] (fun k_=>some k_≠(v438:Value).ownBlock∧some k_≠(.slice Ao145 y441.length co145:Value).ownBlock) (fun k_=>some k_=(.slice Ao146 x16_2.length co146:Value).ownBlock) rfl rfl ?aP (fun k_ hk_=>((Kd.R_mono (ok':=fun k_=>((fun k_=>some k_≠(v438:Value).ownBlock∧some k_≠(.slice Ao145 y441.length co145:Value).ownBlock)) k_∧some k_≠(u441001:Value).ownBlock) (Kd.R_apart' (HO_16.out) (Kd.S_typed HO_441001.out) (by decide)) (fun k_ hk=>⟨⟨hk.1.1,hk.1.2⟩,hk.2⟩))).1 k_ hk_.symm) ?aF ?aO ?aB ?aS ?aL ?_;(case aP=>exact Kd.M_row (Kd.R_mono (Kd.R_tight rfl (Kd.R_mono (ok':=fun k_=>((fun k_=>some k_≠(v438:Value).ownBlock∧some k_≠(.slice Ao145 y441.length co145:Value).ownBlock)) k_∧some k_≠(u441001:Value).ownBlock) (Kd.R_apart' (HO_16.out) (Kd.S_typed HO_441001.out) (by decide)) (fun k_ hk=>⟨⟨hk.1.1,hk.1.2⟩,hk.2⟩))) (fun _ h_=>h_)));(case aB=>exact pB);(case aF=>exact(fun k_ hk=>⟨Kd.fresh' (Kd.R_lt (rX HO_11.out)) k_ hk,Kd.fresh' (Kd.R_lt (rX HO_14.out)) k_ hk⟩));(case aO=>exact(by(with_reducible repeat(first|apply Kd.S_alloc|apply Kd.S_drewN|apply Kd.S_drew));exact Kd.S_mono HO_441001.out (fun k_ hk=>⟨⟨hk.1,hk.2.1⟩,fun e_=>hk.2.2 e_⟩)));(case aS=>exact(below_size pB));(case aL=>have:=LMc144.out;omega);intro v494 w150 ho hb hg hat;rw[← Ny493.out] at ho;have HO495:=aM (ho);replace HO_11:=aM (Kd.R_over' (rX HO_11.out) (Kd.S_typed (by(with_reducible repeat(first|apply Kd.S_alloc|apply Kd.S_drewN|apply Kd.S_drew));exact HO_441001.out)) (by decide) hg);replace HO_14:=aM (Kd.R_over' (rX HO_14.out) (Kd.S_typed (by(with_reducible repeat(first|apply Kd.S_alloc|apply Kd.S_drewN|apply Kd.S_drew));exact HO_441001.out)) (by decide) hg);replace BK431:=aM (blk_grown (g:=gb431) (o:=.cells #[.int .i64 a0_0,.slice (some ad434) l0_1.length c0_1] 24 (0,0)) (kW BK431) hg (Kd.S_ne HO_441001.out BK431.out (by decide)));replace BK432:=aM (blk_grown (g:=gb432) (o:=.cells #[.int .i64 0,.slice none 0 0] 24 (0,0)) (kW BK432) hg (Kd.S_ne HO_441001.out BK432.out (by decide)));replace BK440:=aM (blk_grown (g:=gb440) (o:=.cells #[.int .i64 a0_0,u441001] 24 (0,0)) (kW BK440) hg (Kd.S_ne HO_441001.out BK440.out (by decide)));replace HB:=aM (hb);clear HO_16;clear HO_441001;clear ho hb hg hat;obtain⟨Ao151,co151,eo151⟩:=Kd.S_slice HO495.out;subst eo151;obtain⟨hcz152_0,hcz152_1,hfz152_0,hfz152_1⟩:=bk2 BK440))
                    go_roundg k2
                    case measure=>have:=HK1.out;have:=HK2.out;omega
                    case rel=>exact⟨(wrap64 (x10_1 - t491)),(x11_2),(wrap64 (x13_1+1)),(y493),(.slice Ao151 y493.length co151),sD,sD,H',⟨by have:=HK1.out;have:=HK2.out;omega⟩,⟨by(with_reducible repeat(first|apply Kd.R_alloc|apply Kd.R_drewN|apply Kd.R_drew));exact Kd.R_mono (Kd.R_far (p:=⟨gb440,1,none⟩) (Kd.R_types HO_11.out BK440.out (by decide)) (fun _ hk=>hk.2) (.slice Ao151 y493.length co151)) (fun _ hk=>trivial)⟩,⟨by(with_reducible repeat(first|apply Kd.S_alloc|apply Kd.S_drewN|apply Kd.S_drew));exact Kd.S_mono (Kd.S_far (p:=⟨gb440,1,none⟩) (Kd.S_types HO495.out BK440.out (by decide)) (fun _ hk=>hk.2) (.slice Ao151 y493.length co151)) (fun _ hk=>hk.1.1)⟩,⟨by refine bD ?_;refine blk_far ?_ NB431_440.out _;(with_reducible repeat(first|refine blk_drewN ?_ _|refine blk_drew ?_|refine blk_alloc ?_ _));exact BK431.out⟩,⟨by refine bD ?_;refine blk_far ?_ NB432_440.out _;(with_reducible repeat(first|refine blk_drewN ?_ _|refine blk_drew ?_|refine blk_alloc ?_ _));exact BK432.out⟩,⟨by refine bD ?_;refine blk_put (cs:=#[.int .i64 a0_0,u441001]) ?_ 1 _ rfl;(with_reducible repeat(first|refine blk_drewN ?_ _|refine blk_drew ?_|refine blk_alloc ?_ _));exact BK440.out⟩,⟨pB⟩⟩
                   ·rw[if_neg c144] at H;exact absurd H (by simp)
                  ·rw[if_neg c143] at H;have c143b0:decide (0 < t492)=false:=decide_eq_false c143;clear c143;have H':=aM H;clear H;obtain⟨Ao153,co153,eo153⟩:=Kd.R_slice HO_14.out;subst eo153;go_wp2_with (first|((with_reducible refine gate_callee (f:=21) rfl ?_);refine goesL_ (some 117) rfl rfl Try.func21 (by kernel_rfl) rfl #[.slice Ao153 y441.length co153] rfl mA ?_;(with_reducible refine(Azp.calls k2 _ _ y441 t491 _ ?side1 ?side2 A141.out).mono ?_);(case side1=>repeat(first|exact(Kd.R_reads' HO_14.out).2.2|(with_reducible refine Kd.C_alloc ?_ _)|(with_reducible refine Kd.C_drewN ?_ _)|(with_reducible refine Kd.C_drew ?_)));(case side2=>exact(Kd.R_reads' HO_14.out).2.1);rintro e w' ⟨rfl,⟨nd,rfl⟩⟩;refine⟨_,rfl,?_⟩;obtain⟨Ao154,co154,eo154⟩:=Kd.R_slice HO_16.out;subst eo154)|((with_reducible refine gate_callee (f:=21) rfl ?_);refine goesL_ (some 120) rfl rfl Try.func21 (by kernel_rfl) rfl #[.slice Ao154 x16_2.length co154] rfl mA ?_;(with_reducible refine(Azp.calls k2 _ _ x16_2 t492 _ ?side1 ?side2 A142.out).mono ?_);(case side1=>repeat(first|exact(Kd.R_reads' HO_16.out).2.2|(with_reducible refine Kd.C_alloc ?_ _)|(with_reducible refine Kd.C_drewN ?_ _)|(with_reducible refine Kd.C_drew ?_)));(case side2=>exact(Kd.R_reads' HO_16.out).2.1);rintro e w' ⟨rfl,⟨nd,rfl⟩⟩;refine⟨_,rfl,?_⟩))
                   go_roundg k2
                   case measure=>have:=HK1.out;have:=HK2.out;omega
                   case rel=>exact⟨(wrap64 (x10_1 - t491)),(x11_2),(wrap64 (x13_1+1)),(x441001_1),(u441001),sD,sD,H',⟨by have:=HK1.out;have:=HK2.out;omega⟩,⟨by(with_reducible repeat(first|apply Kd.R_alloc|apply Kd.R_drewN|apply Kd.R_drew));exact Kd.R_mono HO_11.out (fun _ hk=>trivial)⟩,⟨by(with_reducible repeat(first|apply Kd.S_alloc|apply Kd.S_drewN|apply Kd.S_drew));exact Kd.S_mono HO_441001.out (fun _ hk=>hk.1)⟩,⟨by(with_reducible repeat(first|refine blk_drewN ?_ _|refine blk_drew ?_|refine blk_alloc ?_ _));exact BK431.out⟩,⟨by(with_reducible repeat(first|refine blk_drewN ?_ _|refine blk_drew ?_|refine blk_alloc ?_ _));exact BK432.out⟩,⟨by(with_reducible repeat(first|refine blk_drewN ?_ _|refine blk_drew ?_|refine blk_alloc ?_ _));exact BK440.out⟩,⟨pB⟩⟩
            ·rw[if_neg c35] at H;exact absurd H (by simp)
           ·rw[if_neg c34] at H;exact absurd H (by simp)
          ·rw[if_neg c33] at H;exact absurd H (by simp)
         ·rw[if_neg c32] at H;have c32b0:decide (x13_1 < (l0_1.length:Int))=false:=decide_eq_false c32;clear c32;replace H:=bS H;obtain⟨t496,A1550,H⟩:=H;try dsimp only at H
          have A155:=aM A1550;clear A1550;by_cases c156:t496 > 0
          ·rw[if_pos c156] at H;have c156b0:decide (0 < t496)=true:=dE c156;clear c156;obtain⟨y497,hy497⟩:∃ y_:List Int,y_=(([]:List Int)):=⟨_,rfl⟩;replace H:(if y497.length+l1.length < 17592186044416 then(if x441001_1.length < 5864062014805 then((some (x441001_1 ++ [(y497 ++ l1)]:List (List Int))).bind fun y503=>(if(y503.length:Int) > 256 then(some (0,([]:List (List Int)),([]:List Int),8)) else(some (a0_0,y503,x11_1,0)))) else(none)) else(none))=some (r1,r2,r3,r4):=by first|(rw[hy497];with_reducible exact H)|(have H2_:=(Option.bind_some _ _).symm.trans H;rw[hy497];with_reducible exact H2_)|(have H2_:=(Option.bind_some _ _).symm.trans H;with_reducible exact H2_)|with_reducible exact H|(rw[hy497];exact H)|exact H
           have Ny497:=aM hy497;clear hy497;by_cases c157:y497.length+l1.length < 17592186044416
           ·rw[if_pos c157] at H;have LMc157:=aM c157;clear c157;obtain⟨y500,hy500⟩:∃ y_:List Int,y_=(y497 ++ l1):=⟨_,rfl⟩;replace H:(if x441001_1.length < 5864062014805 then((some (x441001_1 ++ [y500]:List (List Int))).bind fun y503=>(if(y503.length:Int) > 256 then(some (0,([]:List (List Int)),([]:List Int),8)) else(some (a0_0,y503,x11_1,0)))) else(none))=some (r1,r2,r3,r4):=by first|(rw[hy500];with_reducible exact H)|(have H2_:=(Option.bind_some _ _).symm.trans H;rw[hy500];with_reducible exact H2_)|(have H2_:=(Option.bind_some _ _).symm.trans H;with_reducible exact H2_)|with_reducible exact H|(rw[hy500];exact H)|exact H
            have Ny500:=aM hy500;clear hy500;by_cases c158:x441001_1.length < 5864062014805
            ·rw[if_pos c158] at H;have LMc158:=aM c158;clear c158;obtain⟨y503,hy503⟩:∃ y_:List (List Int),y_=(x441001_1 ++ [y500]):=⟨_,rfl⟩;replace H:(if(y503.length:Int) > 256 then(some (0,([]:List (List Int)),([]:List Int),8)) else(some (a0_0,y503,x11_1,0)))=some (r1,r2,r3,r4):=by first|(rw[hy503];with_reducible exact H)|(have H2_:=(Option.bind_some _ _).symm.trans H;rw[hy503];with_reducible exact H2_)|(have H2_:=(Option.bind_some _ _).symm.trans H;with_reducible exact H2_)|with_reducible exact H|(rw[hy503];exact H)|exact H
             have Ny503:=aM hy503;clear hy503;by_cases c159:(y503.length:Int) > 256
             ·rw[if_pos c159] at H;have c159b0:decide (256 < (y503.length:Int))=true:=dE c159;have c159b1:decide (256 < y503.length)=true:=dE (by omega)
              clear c159;simp only[Option.some.injEq,Prod.mk.injEq] at H;obtain⟨rfl,rfl,rfl,rfl⟩:=H;have hnb160:=NB431_432.out;have hnc160:=NB432_431.out;have hnb161:=NB431_440.out;have hnc161:=NB440_431.out;obtain⟨hcz162_0,hcz162_1,hfz162_0,hfz162_1⟩:=bk2 BK431;try go_wp2_with (first|((with_reducible refine gate_callee (f:=21) rfl ?_);refine goesL_ (some 129) rfl rfl Try.func21 (by kernel_rfl) rfl #[.slice A1 l1.length c1] rfl mA ?_;(with_reducible refine(Azp.calls k1 _ _ l1 t496 _ ?side1 ?side2 A155.out).mono ?_);(case side1=>exact cX (Kd.C_below HR1.out HB.out));(case side2=>exact HC1.out);rintro e w' ⟨rfl,⟨nd,rfl⟩⟩;refine⟨_,rfl,?_⟩;(try(rw[drewN_self wr];generalize hq_:World.drewN wr _=wr;have n0_:Aside0 (Kd.R (Kd.int .i64) 3 wr w.heap.size (fun _=>True) v438 x11_1):=⟨by rw[← hq_];exact(rX HO_11.out)⟩;have n1_:Aside0 (Kd.S (Kd.slice 3 (Kd.int .i64)) 29 wr w.heap.size (fun k_=>some k_≠(v438:Value).ownBlock) u441001 x441001_1):=⟨by rw[← hq_];exact(by(with_reducible repeat(first|apply Kd.S_alloc|apply Kd.S_drewN|apply Kd.S_drew));exact HO_441001.out)⟩;have n2_:Aside0 (wr.heap[gb431]?=some (.cells #[.int .i64 a0_0,.slice (some ad434) l0_1.length c0_1] 24 (0,0))):=⟨by rw[← hq_];exact(kW BK431)⟩;have n3_:Aside0 (wr.heap[gb432]?=some (.cells #[.int .i64 0,.slice none 0 0] 24 (0,0))):=⟨by rw[← hq_];exact(kW BK432)⟩;have n4_:Aside0 (wr.heap[gb440]?=some (.cells #[.int .i64 a0_0,u441001] 24 (0,0))):=⟨by rw[← hq_];exact(kW BK440)⟩;have n5_:Aside0 (Below w.heap.size w wr):=⟨by rw[← hq_];exact pB⟩;clear HO_11 HO_441001 BK431 BK432 BK440 HB hq_;have HO_11:=n0_;have HO_441001:=n1_;have BK431:=n2_;have BK432:=n3_;have BK440:=n4_;have HB:=n5_;clear n0_ n1_ n2_ n3_ n4_ n5_;have hcqgb431_0:wr.cell? ⟨gb431,0,none⟩=some (.int .i64 a0_0):=(blk_cell BK431.out 0).trans rfl;have hfqgb431_0:=blk_frozen BK431.out 0;have hcqgb431_1:wr.cell? ⟨gb431,1,none⟩=some (.slice (some ad434) l0_1.length c0_1):=(blk_cell BK431.out 1).trans rfl;have hfqgb431_1:=blk_frozen BK431.out 1;have hcqgb432_0:wr.cell? ⟨gb432,0,none⟩=some (.int .i64 0):=(blk_cell BK432.out 0).trans rfl;have hfqgb432_0:=blk_frozen BK432.out 0;have hcqgb432_1:wr.cell? ⟨gb432,1,none⟩=some (.slice none 0 0):=(blk_cell BK432.out 1).trans rfl;have hfqgb432_1:=blk_frozen BK432.out 1;have hcqgb440_0:wr.cell? ⟨gb440,0,none⟩=some (.int .i64 a0_0):=(blk_cell BK440.out 0).trans rfl;have hfqgb440_0:=blk_frozen BK440.out 0;have hcqgb440_1:wr.cell? ⟨gb440,1,none⟩=some (u441001):=(blk_cell BK440.out 1).trans rfl;have hfqgb440_1:=blk_frozen BK440.out 1))))
              have n0_:=aM (Kd.R_drew HO_11.out);have n1_:=aM (Kd.S_drew HO_441001.out);have n2_:=aM (blk_drew BK431.out);have n3_:=aM (blk_drew BK432.out);have n4_:=aM (blk_drew BK440.out);have n5_:=aM (below_drew1 HB.out);clear HO_11;clear HO_441001;clear BK431;clear BK432;clear BK440;clear HB;have HO_11:=n0_;have HO_441001:=n1_;have BK431:=n2_;have BK432:=n3_;have BK440:=n4_;have HB:=n5_;clear n0_ n1_ n2_ n3_ n4_ n5_;refine start_ (n:=9) (S:=fun w'=>w'.cell? ⟨gb440,0,none⟩=some (.int .i64 a0_0)∧w'.cell? ⟨gb440,1,none⟩=some (u441001)) (ds:=[8]) #[false,false,false,false,false,false,false,false,false] (by kernel_rfl) rfl rfl ⟨(blk_cell BK440.out 0).trans rfl,(blk_cell BK440.out 1).trans rfl⟩ (fun hHeld=>?_);refine with_tabW Azw.tab32 Azw.bits32 (fun HT_ HW_=>?_)
              generalize wr.drew=w163 at HO_11 HO_441001 BK431 BK432 BK440 HB hHeld ⊢;refine pU (i:=0) (N:=some 131) HT_ #[true,false,false,false,false,false,false,false,false] ?_;refine pU (i:=3) (N:=some 134) HT_ #[true,false,false,true,false,false,false,false,false] ?_;refine take_ (i:=1) (N:=some 132) (v:=?_) (a':=?_) #[true,true,false,true,false,false,false,false,false] rfl rfl (take_ofW HT_.out HW_.out (by kernel_rfl)) (fun _ _ _ h=>h) (Or.inl ⟨by rfl,?_⟩) hHeld ?_ ?_
              rotate_left
              ·rintro w' ⟨s0,s1⟩;go_simp
               with_reducible rfl
              rotate_left
              ·simp only[Act.put,sA,sZ,sC,i64_w,i32_w];rfl
              refine one_ (i:=2) (N:=some 133) #[true,true,true,true,false,false,false,false,false] rfl rfl (one_of HT_.out (by kernel_rfl)) (by decide) (fun K hK=>?_)
              refine Kd.R_lit_step (Kd.int .i64) _ 3 ?hg (N:=133) ?hd (xs:=([]:List Int)) (inner:=[]) (ok:=fun _=>True) (okp:=fun _=>True) ?hr ?hp (fun _ hk=>hk) trivial (Below.refl _ _) (Nat.le_refl _) (by simp) ?_;(case hd=>rfl);(case hg=>rfl);(case hr=>first|(go_simp;done)|(go_simp;rfl));(case hp=>exact(Reps.none _ _))
              intro v498 w164 ho165 hb hg_ hnew_;clear hg_ hnew_;(first|rw[← Ny497.out] at ho165|(simp only[Int.reduceToNat] at ho165;rw[← Ny497.out] at ho165))
              have n0_:=aM (Kd.R_elder' (rX HO_11.out) (Kd.R_base ho165) hb);have n1_:=aM (Kd.S_elder' (by(with_reducible repeat(first|apply Kd.S_alloc|apply Kd.S_drewN|apply Kd.S_drew));exact HO_441001.out) (Kd.R_base ho165) hb)
              have n2_:=aM (Kd.R_lower (Kd.R_new' ho165 (Kd.R_lt (rX HO_11.out))) (below_size pB));have n3_:=aM (kB BK431 hb);have n4_:=aM (kB BK432 hb);have n5_:=aM (kB BK440 hb);have n6_:=aM (below_step pB hb);clear HO_11;clear HO_441001;clear BK431;clear BK432;clear BK440;clear HB;have HO_11:=n0_;have HO_441001:=n1_;have HO499:=n2_;have BK431:=n3_;have BK432:=n4_;have BK440:=n5_;have HB:=n6_;clear n0_ n1_ n2_ n3_ n4_ n5_ n6_;clear hb ho165;refine hK.out _ _ ⟨(blk_cell BK440.out 0).trans rfl,(blk_cell BK440.out 1).trans rfl⟩ (fun hHeld=>?_)
              clear hK K;refine norm_ (a':=?_) ?_ ?_;rotate_left
              ·show Act.put _ (some 133) _=_
               simp only[Act.put,sA,sZ,sC,i64_w,i32_w];rfl
              refine one_ (i:=4) (N:=some 135) #[true,true,true,true,true,false,false,false,false] rfl rfl (one_of HT_.out (by kernel_rfl)) (by decide) (fun K hK=>?_)
              refine Kd.R_append_rows_step (Kd.int .i64) (w0:=w) w.heap.size (by rfl) (.tmp 133) (.tmp 134) 29 3 (.int .i64 0) 8 rfl Try.underlying29 info3 rfl (by decide) (by omega) v498 y497 l1 _ _ _ (fun k_=>some k_≠(v438:Value).ownBlock) (fun _=>False) rfl rfl ?aO ?aR (fun _ _ h=>h) (fun _ h=>h.elim) ?aF ?aB ?aS ?aL ?_
              (case aR=>exact cX (Kd.C_below HR1.out HB.out))
              (case aB=>exact pB)
              (case aF=>exact(fun k_ hk=>Kd.fresh' (Kd.R_lt (rX HO_11.out)) k_ hk))
              (case aO=>exact(rX (Kd.R_mono HO499.out (fun _ hk=>hk.2))))
              (case aS=>exact(below_size pB))
              (case aL=>have:=LMc157.out;omega)
              intro v501 w166 ho hb hg hat;rw[← Ny500.out] at ho;have n0_:=aM (Kd.R_after (ok:=(fun _=>True)) (rX HO_11.out) hg hat)
              have n1_:=aM (Kd.S_after (ok:=(fun k_=>some k_≠(v438:Value).ownBlock)) (by(with_reducible repeat(first|apply Kd.S_alloc|apply Kd.S_drewN|apply Kd.S_drew));exact HO_441001.out) hg hat)
              have n2_:=aM (blk_grown (g:=gb431) (o:=.cells #[.int .i64 a0_0,.slice (some ad434) l0_1.length c0_1] 24 (0,0)) (kW BK431) hg (Kd.R_ne HO499.out BK431.out (by decide)))
              have n3_:=aM (blk_grown (g:=gb432) (o:=.cells #[.int .i64 0,.slice none 0 0] 24 (0,0)) (kW BK432) hg (Kd.R_ne HO499.out BK432.out (by decide)))
              have n4_:=aM (blk_grown (g:=gb440) (o:=.cells #[.int .i64 a0_0,u441001] 24 (0,0)) (kW BK440) hg (Kd.R_ne HO499.out BK440.out (by decide)))
              have n5_:=aM (hb);have n6_:=aM (ho);clear HO_11;clear HO_441001;clear BK431;clear BK432;clear BK440;clear HB;clear HO499;have HO_11:=n0_;have HO_441001:=n1_;have BK431:=n2_;have BK432:=n3_;have BK440:=n4_;have HB:=n5_;have HO502:=n6_;clear n0_ n1_ n2_ n3_ n4_ n5_ n6_;clear ho hb hg hat;obtain⟨Ao168,co168,eo168⟩:=Kd.R_slice HO502.out;(first|subst eo168|(injection eo168 with f1_ f2_ f3_;have f4_:=f1_.symm;have f5_:=f3_.symm;clear f1_ f2_ f3_;subst f4_;subst f5_))
              refine hK.out _ _ ⟨(blk_cell BK440.out 0).trans rfl,(blk_cell BK440.out 1).trans rfl⟩ (fun hHeld=>?_)
              clear hK K;refine norm_ (a':=?_) ?_ ?_;rotate_left
              ·show Act.put _ (some 135) _=_
               simp only[Act.put,sA,sZ,sC,i64_w,i32_w];rfl
              refine one_ (i:=5) (N:=some 136) #[true,true,true,true,true,true,false,false,false] rfl rfl (one_of HT_.out (by kernel_rfl)) (by decide) (fun K hK=>?_)
              refine value_ (w1:=?_) (v:=?_) (by rfl) rfl ?_ ?_
              rotate_left 2
              ·go_simp
               constructor
               ·rfl
               ·rfl
              refine hK.out _ _ ⟨(blk_cell (blk_alloc BK440.out _) 0).trans rfl,(blk_cell (blk_alloc BK440.out _) 1).trans rfl⟩ (fun hHeld=>?_)
              clear hK K;refine norm_ (a':=?_) ?_ ?_;rotate_left
              ·show Act.put _ (some 136) _=_
               simp only[Act.put,sA,sZ,sC,i64_w,i32_w];rfl
              refine one_ (i:=6) (N:=some 137) #[true,true,true,true,true,true,true,false,false] rfl rfl (one_of HT_.out (by kernel_rfl)) (by decide) (fun K hK=>?_)
              refine Kd.S_append_step (Kd.slice 3 (Kd.int .i64)) (w0:=w) w.heap.size (by rfl) (.tmp 132) (.tmp 136) 22 29 (.slice none 0 0) 24 rfl Try.underlying22 info29 rfl (by decide) (by omega) u441001 x441001_1 y500 [.slice Ao168 y500.length co168] (fun k_=>some k_≠(v438:Value).ownBlock) (fun k_=>some k_=(.slice Ao168 y500.length co168:Value).ownBlock) rfl rfl ?aP (fun k_ hk_=>((Kd.R_mono (ok':=fun k_=>((fun k_=>some k_≠(v438:Value).ownBlock)) k_∧some k_≠(u441001:Value).ownBlock) (Kd.R_apart' (HO502.out) (Kd.S_typed HO_441001.out) (by decide)) (fun k_ hk=>⟨hk.1,hk.2⟩))).1 k_ hk_.symm) ?aF ?aO ?aB ?aS ?aL ?_
              (case aP=>exact Kd.M_row (Kd.R_mono (Kd.R_tight rfl (Kd.R_mono (ok':=fun k_=>((fun k_=>some k_≠(v438:Value).ownBlock)) k_∧some k_≠(u441001:Value).ownBlock) (Kd.R_apart' (HO502.out) (Kd.S_typed HO_441001.out) (by decide)) (fun k_ hk=>⟨hk.1,hk.2⟩))) (fun _ h_=>h_)))
              (case aB=>exact pB)
              (case aF=>exact(fun k_ hk=>Kd.fresh' (Kd.R_lt (rX HO_11.out)) k_ hk))
              (case aO=>exact(by(with_reducible repeat(first|apply Kd.S_alloc|apply Kd.S_drewN|apply Kd.S_drew));exact Kd.S_mono HO_441001.out (fun k_ hk=>⟨hk.1,fun e_=>hk.2 e_⟩)))
              (case aS=>exact(below_size pB))
              (case aL=>have:=LMc158.out;omega)
              intro v504 w167 ho hb hg hat;rw[← Ny503.out] at ho;have n0_:=aM (Kd.R_over' (rX HO_11.out) (Kd.S_typed (by(with_reducible repeat(first|apply Kd.S_alloc|apply Kd.S_drewN|apply Kd.S_drew));exact HO_441001.out)) (by decide) hg)
              have n1_:=aM (blk_grown (g:=gb431) (o:=.cells #[.int .i64 a0_0,.slice (some ad434) l0_1.length c0_1] 24 (0,0)) (kW BK431) hg (Kd.S_ne HO_441001.out BK431.out (by decide)))
              have n2_:=aM (blk_grown (g:=gb432) (o:=.cells #[.int .i64 0,.slice none 0 0] 24 (0,0)) (kW BK432) hg (Kd.S_ne HO_441001.out BK432.out (by decide)))
              have n3_:=aM (blk_grown (g:=gb440) (o:=.cells #[.int .i64 a0_0,u441001] 24 (0,0)) (kW BK440) hg (Kd.S_ne HO_441001.out BK440.out (by decide)))
              have n4_:=aM (hb);have n5_:=aM (ho);clear HO_11;clear BK431;clear BK432;clear BK440;clear HB;clear HO_441001;clear HO502;have HO_11:=n0_;have BK431:=n1_;have BK432:=n2_;have BK440:=n3_;have HB:=n4_;have HO505:=n5_;clear n0_ n1_ n2_ n3_ n4_ n5_;clear ho hb hg hat;obtain⟨Ao169,co169,eo169⟩:=Kd.S_slice HO505.out;(first|subst eo169|(injection eo169 with f1_ f2_ f3_;have f4_:=f1_.symm;have f5_:=f3_.symm;clear f1_ f2_ f3_;subst f4_;subst f5_))
              refine hK.out _ _ ⟨(blk_cell BK440.out 0).trans rfl,(blk_cell BK440.out 1).trans rfl⟩ (fun hHeld=>?_)
              clear hK K;refine norm_ (a':=?_) ?_ ?_;rotate_left
              ·show Act.put _ (some 137) _=_
               simp only[Act.put,sA,sZ,sC,i64_w,i32_w];rfl
              refine pU (i:=7) (N:=some 138) HT_ #[true,true,true,true,true,true,true,true,false] ?_;refine last_ (i:=8) (N:=none) #[true,true,true,true,true,true,true,true,true] rfl rfl (one_of HT_.out (by kernel_rfl)) (by decide) (fun K hK=>?_)
              have hs170:w167.cell? ⟨gb440,1,none⟩=some (u441001):=(blk_cell BK440.out 1).trans rfl;have hfs170:=blk_frozen BK440.out 1;have hns170_0:=NB431_440.out;have hns170_1:=NB432_440.out;have hms170_0:=NB440_431.out;have hms170_1:=NB440_432.out;refine skip_ (w1:=?_) (by rfl) rfl ?_ ?_
              rotate_left
              ·go_simp
               rfl
              refine hK.out _ _ ?_;clear hK K;refine done_ (done_of HT_.out (by kernel_rfl)) ?_
              have hnb171:=NB440_432.out;have hnc171:=NB432_440.out;obtain⟨hcz172_0,hcz172_1,hfz172_0,hfz172_1⟩:=bk2 BK440;obtain⟨hcz173_0,hcz173_1,hfz173_0,hfz173_1⟩:=bk2 BK432;try go_wp2
              refine bodyPost_ret (results_ctt rfl _ _ gb432 24 #[.int .i64 0,.slice none 0 0] (0,0) _ rfl (by refine bD ?_;refine blk_put (cs:=#[.int .i64 0,.slice none 0 0]) ?_ 1 _ rfl;refine bD ?_;refine blk_put (cs:=#[.int .i64 0,.slice none 0 0]) ?_ 0 _ rfl;refine bD ?_;refine blk_far ?_ NB432_440.out _;(with_reducible repeat(first|refine blk_drewN ?_ _|refine blk_drew ?_|refine blk_alloc ?_ _));exact BK432.out) Try.underlying24 rfl (by kernel_rfl)) rfl ?_
              exact⟨_,_,eW,by first|exact Kd.S_nil _ _ _ _ _|exact Kd.N_nil _ _ _ _ _|exact Kd.V_nil _ _ _ _ _|exact Kd.Q_nil _ _ _ _ _|exact Kd.R_nil _ _ _ _ _,by first|exact Kd.R_nil _ _ _ _ _|exact Kd.N_nil _ _ _ _ _|exact Kd.V_nil _ _ _ _ _|exact Kd.Q_nil _ _ _ _ _|exact Kd.S_nil _ _ _ _ _,pB⟩
             ·rw[if_neg c159] at H;have c159b0:decide (256 < (y503.length:Int))=false:=decide_eq_false c159;have c159b1:decide (256 < y503.length)=false:=decide_eq_false (by omega)
              clear c159;simp only[Option.some.injEq,Prod.mk.injEq] at H;obtain⟨rfl,rfl,rfl,rfl⟩:=H;have hnb174:=NB431_432.out;have hnc174:=NB432_431.out;have hnb175:=NB431_440.out;have hnc175:=NB440_431.out;obtain⟨hcz176_0,hcz176_1,hfz176_0,hfz176_1⟩:=bk2 BK431;try go_wp2_with (first|((with_reducible refine gate_callee (f:=21) rfl ?_);refine goesL_ (some 129) rfl rfl Try.func21 (by kernel_rfl) rfl #[.slice A1 l1.length c1] rfl mA ?_;(with_reducible refine(Azp.calls k1 _ _ l1 t496 _ ?side1 ?side2 A155.out).mono ?_);(case side1=>exact cX (Kd.C_below HR1.out HB.out));(case side2=>exact HC1.out);rintro e w' ⟨rfl,⟨nd,rfl⟩⟩;refine⟨_,rfl,?_⟩;(try(rw[drewN_self wr];generalize hq_:World.drewN wr _=wr;have n0_:Aside0 (Kd.R (Kd.int .i64) 3 wr w.heap.size (fun _=>True) v438 x11_1):=⟨by rw[← hq_];exact(rX HO_11.out)⟩;have n1_:Aside0 (Kd.S (Kd.slice 3 (Kd.int .i64)) 29 wr w.heap.size (fun k_=>some k_≠(v438:Value).ownBlock) u441001 x441001_1):=⟨by rw[← hq_];exact(by(with_reducible repeat(first|apply Kd.S_alloc|apply Kd.S_drewN|apply Kd.S_drew));exact HO_441001.out)⟩;have n2_:Aside0 (wr.heap[gb431]?=some (.cells #[.int .i64 a0_0,.slice (some ad434) l0_1.length c0_1] 24 (0,0))):=⟨by rw[← hq_];exact(kW BK431)⟩;have n3_:Aside0 (wr.heap[gb432]?=some (.cells #[.int .i64 0,.slice none 0 0] 24 (0,0))):=⟨by rw[← hq_];exact(kW BK432)⟩;have n4_:Aside0 (wr.heap[gb440]?=some (.cells #[.int .i64 a0_0,u441001] 24 (0,0))):=⟨by rw[← hq_];exact(kW BK440)⟩;have n5_:Aside0 (Below w.heap.size w wr):=⟨by rw[← hq_];exact pB⟩;clear HO_11 HO_441001 BK431 BK432 BK440 HB hq_;have HO_11:=n0_;have HO_441001:=n1_;have BK431:=n2_;have BK432:=n3_;have BK440:=n4_;have HB:=n5_;clear n0_ n1_ n2_ n3_ n4_ n5_;have hcqgb431_0:wr.cell? ⟨gb431,0,none⟩=some (.int .i64 a0_0):=(blk_cell BK431.out 0).trans rfl;have hfqgb431_0:=blk_frozen BK431.out 0;have hcqgb431_1:wr.cell? ⟨gb431,1,none⟩=some (.slice (some ad434) l0_1.length c0_1):=(blk_cell BK431.out 1).trans rfl;have hfqgb431_1:=blk_frozen BK431.out 1;have hcqgb432_0:wr.cell? ⟨gb432,0,none⟩=some (.int .i64 0):=(blk_cell BK432.out 0).trans rfl;have hfqgb432_0:=blk_frozen BK432.out 0;have hcqgb432_1:wr.cell? ⟨gb432,1,none⟩=some (.slice none 0 0):=(blk_cell BK432.out 1).trans rfl;have hfqgb432_1:=blk_frozen BK432.out 1;have hcqgb440_0:wr.cell? ⟨gb440,0,none⟩=some (.int .i64 a0_0):=(blk_cell BK440.out 0).trans rfl;have hfqgb440_0:=blk_frozen BK440.out 0;have hcqgb440_1:wr.cell? ⟨gb440,1,none⟩=some (u441001):=(blk_cell BK440.out 1).trans rfl;have hfqgb440_1:=blk_frozen BK440.out 1))))
              have n0_:=aM (Kd.R_drew HO_11.out);have n1_:=aM (Kd.S_drew HO_441001.out);have n2_:=aM (blk_drew BK431.out);have n3_:=aM (blk_drew BK432.out);have n4_:=aM (blk_drew BK440.out);have n5_:=aM (below_drew1 HB.out);clear HO_11;clear HO_441001;clear BK431;clear BK432;clear BK440;clear HB;have HO_11:=n0_;have HO_441001:=n1_;have BK431:=n2_;have BK432:=n3_;have BK440:=n4_;have HB:=n5_;clear n0_ n1_ n2_ n3_ n4_ n5_;refine start_ (n:=9) (S:=fun w'=>w'.cell? ⟨gb440,0,none⟩=some (.int .i64 a0_0)∧w'.cell? ⟨gb440,1,none⟩=some (u441001)) (ds:=[8]) #[false,false,false,false,false,false,false,false,false] (by kernel_rfl) rfl rfl ⟨(blk_cell BK440.out 0).trans rfl,(blk_cell BK440.out 1).trans rfl⟩ (fun hHeld=>?_);refine with_tabW Azw.tab32 Azw.bits32 (fun HT_ HW_=>?_)
              generalize wr.drew=w177 at HO_11 HO_441001 BK431 BK432 BK440 HB hHeld ⊢;refine pU (i:=0) (N:=some 131) HT_ #[true,false,false,false,false,false,false,false,false] ?_;refine pU (i:=3) (N:=some 134) HT_ #[true,false,false,true,false,false,false,false,false] ?_;refine take_ (i:=1) (N:=some 132) (v:=?_) (a':=?_) #[true,true,false,true,false,false,false,false,false] rfl rfl (take_ofW HT_.out HW_.out (by kernel_rfl)) (fun _ _ _ h=>h) (Or.inl ⟨by rfl,?_⟩) hHeld ?_ ?_
              rotate_left
              ·rintro w' ⟨s0,s1⟩;go_simp
               with_reducible rfl
              rotate_left
              ·simp only[Act.put,sA,sZ,sC,i64_w,i32_w];rfl
              refine one_ (i:=2) (N:=some 133) #[true,true,true,true,false,false,false,false,false] rfl rfl (one_of HT_.out (by kernel_rfl)) (by decide) (fun K hK=>?_)
              refine Kd.R_lit_step (Kd.int .i64) _ 3 ?hg (N:=133) ?hd (xs:=([]:List Int)) (inner:=[]) (ok:=fun _=>True) (okp:=fun _=>True) ?hr ?hp (fun _ hk=>hk) trivial (Below.refl _ _) (Nat.le_refl _) (by simp) ?_;(case hd=>rfl);(case hg=>rfl);(case hr=>first|(go_simp;done)|(go_simp;rfl));(case hp=>exact(Reps.none _ _))
              intro v498 w178 ho179 hb hg_ hnew_;clear hg_ hnew_;(first|rw[← Ny497.out] at ho179|(simp only[Int.reduceToNat] at ho179;rw[← Ny497.out] at ho179))
              have n0_:=aM (Kd.R_elder' (rX HO_11.out) (Kd.R_base ho179) hb);have n1_:=aM (Kd.S_elder' (by(with_reducible repeat(first|apply Kd.S_alloc|apply Kd.S_drewN|apply Kd.S_drew));exact HO_441001.out) (Kd.R_base ho179) hb)
              have n2_:=aM (Kd.R_lower (Kd.R_new' ho179 (Kd.R_lt (rX HO_11.out))) (below_size pB));have n3_:=aM (kB BK431 hb);have n4_:=aM (kB BK432 hb);have n5_:=aM (kB BK440 hb);have n6_:=aM (below_step pB hb);clear HO_11;clear HO_441001;clear BK431;clear BK432;clear BK440;clear HB;have HO_11:=n0_;have HO_441001:=n1_;have HO499:=n2_;have BK431:=n3_;have BK432:=n4_;have BK440:=n5_;have HB:=n6_;clear n0_ n1_ n2_ n3_ n4_ n5_ n6_;clear hb ho179;refine hK.out _ _ ⟨(blk_cell BK440.out 0).trans rfl,(blk_cell BK440.out 1).trans rfl⟩ (fun hHeld=>?_)
              clear hK K;refine norm_ (a':=?_) ?_ ?_;rotate_left
              ·show Act.put _ (some 133) _=_
               simp only[Act.put,sA,sZ,sC,i64_w,i32_w];rfl
              refine one_ (i:=4) (N:=some 135) #[true,true,true,true,true,false,false,false,false] rfl rfl (one_of HT_.out (by kernel_rfl)) (by decide) (fun K hK=>?_)
              refine Kd.R_append_rows_step (Kd.int .i64) (w0:=w) w.heap.size (by rfl) (.tmp 133) (.tmp 134) 29 3 (.int .i64 0) 8 rfl Try.underlying29 info3 rfl (by decide) (by omega) v498 y497 l1 _ _ _ (fun k_=>some k_≠(v438:Value).ownBlock) (fun _=>False) rfl rfl ?aO ?aR (fun _ _ h=>h) (fun _ h=>h.elim) ?aF ?aB ?aS ?aL ?_
              (case aR=>exact cX (Kd.C_below HR1.out HB.out))
              (case aB=>exact pB)
              (case aF=>exact(fun k_ hk=>Kd.fresh' (Kd.R_lt (rX HO_11.out)) k_ hk))
              (case aO=>exact(rX (Kd.R_mono HO499.out (fun _ hk=>hk.2))))
              (case aS=>exact(below_size pB))
              (case aL=>have:=LMc157.out;omega)
              intro v501 w180 ho hb hg hat;rw[← Ny500.out] at ho;have n0_:=aM (Kd.R_after (ok:=(fun _=>True)) (rX HO_11.out) hg hat)
              have n1_:=aM (Kd.S_after (ok:=(fun k_=>some k_≠(v438:Value).ownBlock)) (by(with_reducible repeat(first|apply Kd.S_alloc|apply Kd.S_drewN|apply Kd.S_drew));exact HO_441001.out) hg hat)
              have n2_:=aM (blk_grown (g:=gb431) (o:=.cells #[.int .i64 a0_0,.slice (some ad434) l0_1.length c0_1] 24 (0,0)) (kW BK431) hg (Kd.R_ne HO499.out BK431.out (by decide)))
              have n3_:=aM (blk_grown (g:=gb432) (o:=.cells #[.int .i64 0,.slice none 0 0] 24 (0,0)) (kW BK432) hg (Kd.R_ne HO499.out BK432.out (by decide)))
              have n4_:=aM (blk_grown (g:=gb440) (o:=.cells #[.int .i64 a0_0,u441001] 24 (0,0)) (kW BK440) hg (Kd.R_ne HO499.out BK440.out (by decide)))
              have n5_:=aM (hb);have n6_:=aM (ho);clear HO_11;clear HO_441001;clear BK431;clear BK432;clear BK440;clear HB;clear HO499;have HO_11:=n0_;have HO_441001:=n1_;have BK431:=n2_;have BK432:=n3_;have BK440:=n4_;have HB:=n5_;have HO502:=n6_;clear n0_ n1_ n2_ n3_ n4_ n5_ n6_;clear ho hb hg hat;obtain⟨Ao182,co182,eo182⟩:=Kd.R_slice HO502.out;(first|subst eo182|(injection eo182 with f1_ f2_ f3_;have f4_:=f1_.symm;have f5_:=f3_.symm;clear f1_ f2_ f3_;subst f4_;subst f5_))
              refine hK.out _ _ ⟨(blk_cell BK440.out 0).trans rfl,(blk_cell BK440.out 1).trans rfl⟩ (fun hHeld=>?_)
              clear hK K;refine norm_ (a':=?_) ?_ ?_;rotate_left
              ·show Act.put _ (some 135) _=_
               simp only[Act.put,sA,sZ,sC,i64_w,i32_w];rfl
              refine one_ (i:=5) (N:=some 136) #[true,true,true,true,true,true,false,false,false] rfl rfl (one_of HT_.out (by kernel_rfl)) (by decide) (fun K hK=>?_)
              refine value_ (w1:=?_) (v:=?_) (by rfl) rfl ?_ ?_
              rotate_left 2
              ·go_simp
               constructor
               ·rfl
               ·rfl
              refine hK.out _ _ ⟨(blk_cell (blk_alloc BK440.out _) 0).trans rfl,(blk_cell (blk_alloc BK440.out _) 1).trans rfl⟩ (fun hHeld=>?_)
              clear hK K;refine norm_ (a':=?_) ?_ ?_;rotate_left
              ·show Act.put _ (some 136) _=_
               simp only[Act.put,sA,sZ,sC,i64_w,i32_w];rfl
              refine one_ (i:=6) (N:=some 137) #[true,true,true,true,true,true,true,false,false] rfl rfl (one_of HT_.out (by kernel_rfl)) (by decide) (fun K hK=>?_)
              refine Kd.S_append_step (Kd.slice 3 (Kd.int .i64)) (w0:=w) w.heap.size (by rfl) (.tmp 132) (.tmp 136) 22 29 (.slice none 0 0) 24 rfl Try.underlying22 info29 rfl (by decide) (by omega) u441001 x441001_1 y500 [.slice Ao182 y500.length co182] (fun k_=>some k_≠(v438:Value).ownBlock) (fun k_=>some k_=(.slice Ao182 y500.length co182:Value).ownBlock) rfl rfl ?aP (fun k_ hk_=>((Kd.R_mono (ok':=fun k_=>((fun k_=>some k_≠(v438:Value).ownBlock)) k_∧some k_≠(u441001:Value).ownBlock) (Kd.R_apart' (HO502.out) (Kd.S_typed HO_441001.out) (by decide)) (fun k_ hk=>⟨hk.1,hk.2⟩))).1 k_ hk_.symm) ?aF ?aO ?aB ?aS ?aL ?_
              (case aP=>exact Kd.M_row (Kd.R_mono (Kd.R_tight rfl (Kd.R_mono (ok':=fun k_=>((fun k_=>some k_≠(v438:Value).ownBlock)) k_∧some k_≠(u441001:Value).ownBlock) (Kd.R_apart' (HO502.out) (Kd.S_typed HO_441001.out) (by decide)) (fun k_ hk=>⟨hk.1,hk.2⟩))) (fun _ h_=>h_)))
              (case aB=>exact pB)
              (case aF=>exact(fun k_ hk=>Kd.fresh' (Kd.R_lt (rX HO_11.out)) k_ hk))
              (case aO=>exact(by(with_reducible repeat(first|apply Kd.S_alloc|apply Kd.S_drewN|apply Kd.S_drew));exact Kd.S_mono HO_441001.out (fun k_ hk=>⟨hk.1,fun e_=>hk.2 e_⟩)))
              (case aS=>exact(below_size pB))
              (case aL=>have:=LMc158.out;omega)
              intro v504 w181 ho hb hg hat;rw[← Ny503.out] at ho;have n0_:=aM (Kd.R_over' (rX HO_11.out) (Kd.S_typed (by(with_reducible repeat(first|apply Kd.S_alloc|apply Kd.S_drewN|apply Kd.S_drew));exact HO_441001.out)) (by decide) hg)
              have n1_:=aM (blk_grown (g:=gb431) (o:=.cells #[.int .i64 a0_0,.slice (some ad434) l0_1.length c0_1] 24 (0,0)) (kW BK431) hg (Kd.S_ne HO_441001.out BK431.out (by decide)))
              have n2_:=aM (blk_grown (g:=gb432) (o:=.cells #[.int .i64 0,.slice none 0 0] 24 (0,0)) (kW BK432) hg (Kd.S_ne HO_441001.out BK432.out (by decide)))
              have n3_:=aM (blk_grown (g:=gb440) (o:=.cells #[.int .i64 a0_0,u441001] 24 (0,0)) (kW BK440) hg (Kd.S_ne HO_441001.out BK440.out (by decide)))
              have n4_:=aM (hb);have n5_:=aM (ho);clear HO_11;clear BK431;clear BK432;clear BK440;clear HB;clear HO_441001;clear HO502;have HO_11:=n0_;have BK431:=n1_;have BK432:=n2_;have BK440:=n3_;have HB:=n4_;have HO505:=n5_;clear n0_ n1_ n2_ n3_ n4_ n5_;clear ho hb hg hat;obtain⟨Ao183,co183,eo183⟩:=Kd.S_slice HO505.out;(first|subst eo183|(injection eo183 with f1_ f2_ f3_;have f4_:=f1_.symm;have f5_:=f3_.symm;clear f1_ f2_ f3_;subst f4_;subst f5_))
              refine hK.out _ _ ⟨(blk_cell BK440.out 0).trans rfl,(blk_cell BK440.out 1).trans rfl⟩ (fun hHeld=>?_)
              clear hK K;refine norm_ (a':=?_) ?_ ?_;rotate_left
              ·show Act.put _ (some 137) _=_
               simp only[Act.put,sA,sZ,sC,i64_w,i32_w];rfl
              refine pU (i:=7) (N:=some 138) HT_ #[true,true,true,true,true,true,true,true,false] ?_;refine last_ (i:=8) (N:=none) #[true,true,true,true,true,true,true,true,true] rfl rfl (one_of HT_.out (by kernel_rfl)) (by decide) (fun K hK=>?_)
              have hs184:w181.cell? ⟨gb440,1,none⟩=some (u441001):=(blk_cell BK440.out 1).trans rfl;have hfs184:=blk_frozen BK440.out 1;have hns184_0:=NB431_440.out;have hns184_1:=NB432_440.out;have hms184_0:=NB440_431.out;have hms184_1:=NB440_432.out;refine skip_ (w1:=?_) (by rfl) rfl ?_ ?_
              rotate_left
              ·go_simp
               rfl
              refine hK.out _ _ ?_;clear hK K;refine done_ (done_of HT_.out (by kernel_rfl)) ?_
              have hnb185:=NB440_432.out;have hnc185:=NB432_440.out;obtain⟨hcz186_0,hcz186_1,hfz186_0,hfz186_1⟩:=bk2 BK440;obtain⟨hcz187_0,hcz187_1,hfz187_0,hfz187_1⟩:=bk2 BK432;try go_wp2
              refine bodyPost_ret (results_ctt rfl _ _ gb432 24 #[.int .i64 a0_0,.slice Ao183 y503.length co183] (0,0) _ rfl (by refine bD ?_;refine blk_put (cs:=#[.int .i64 a0_0,.slice none 0 0]) ?_ 1 _ rfl;refine bD ?_;refine blk_put (cs:=#[.int .i64 0,.slice none 0 0]) ?_ 0 _ rfl;refine bD ?_;refine blk_far ?_ NB432_440.out _;(with_reducible repeat(first|refine blk_drewN ?_ _|refine blk_drew ?_|refine blk_alloc ?_ _));exact BK432.out) Try.underlying24 rfl (by kernel_rfl)) rfl ?_
              exact⟨_,_,eW,by(with_reducible repeat(first|apply Kd.S_alloc|apply Kd.S_drewN|apply Kd.S_drew));exact Kd.S_mono (Kd.S_far (p:=⟨gb432,1,none⟩) (Kd.S_far (p:=⟨gb432,0,none⟩) (Kd.S_far (p:=⟨gb440,1,none⟩) (Kd.S_types (Kd.S_types HO505.out BK440.out (by decide)) BK432.out (by decide)) (fun _ hk=>hk.1.2) (.slice Ao183 y503.length co183)) (fun _ hk=>hk.2) (.int .i64 a0_0)) (fun _ hk=>hk.2) (.slice Ao183 y503.length co183)) (fun _ hk=>hk.1.1),by(with_reducible repeat(first|apply Kd.R_alloc|apply Kd.R_drewN|apply Kd.R_drew));exact Kd.R_mono (Kd.R_far (p:=⟨gb432,1,none⟩) (Kd.R_far (p:=⟨gb432,0,none⟩) (Kd.R_far (p:=⟨gb440,1,none⟩) (Kd.R_types (Kd.R_types HO_11.out BK440.out (by decide)) BK432.out (by decide)) (fun _ hk=>hk.1.2) (.slice Ao183 y503.length co183)) (fun _ hk=>hk.2) (.int .i64 a0_0)) (fun _ hk=>hk.2) (.slice Ao183 y503.length co183)) (fun _ hk=>trivial),pB⟩
            ·rw[if_neg c158] at H;exact absurd H (by simp)
           ·rw[if_neg c157] at H;exact absurd H (by simp)
          ·rw[if_neg c156] at H;have c156b0:decide (0 < t496)=false:=decide_eq_false c156;clear c156;by_cases c188:(x441001_1.length:Int) > 256
           ·rw[if_pos c188] at H;have c188b0:decide (256 < (x441001_1.length:Int))=true:=dE c188;have c188b1:decide (256 < x441001_1.length)=true:=dE (by omega)
            clear c188;simp only[Option.some.injEq,Prod.mk.injEq] at H;obtain⟨rfl,rfl,rfl,rfl⟩:=H;have hnb189:=NB431_432.out;have hnc189:=NB432_431.out;have hnb190:=NB431_440.out;have hnc190:=NB440_431.out;obtain⟨hcz191_0,hcz191_1,hfz191_0,hfz191_1⟩:=bk2 BK431;go_wp2_with (first|((with_reducible refine gate_callee (f:=21) rfl ?_);refine goesL_ (some 129) rfl rfl Try.func21 (by kernel_rfl) rfl #[.slice A1 l1.length c1] rfl mA ?_;(with_reducible refine(Azp.calls k1 _ _ l1 t496 _ ?side1 ?side2 A155.out).mono ?_);(case side1=>exact cX (Kd.C_below HR1.out HB.out));(case side2=>exact HC1.out);rintro e w' ⟨rfl,⟨nd,rfl⟩⟩;refine⟨_,rfl,?_⟩;(try(rw[drewN_self wr];generalize hq_:World.drewN wr _=wr;have n0_:Aside0 (Kd.R (Kd.int .i64) 3 wr w.heap.size (fun _=>True) v438 x11_1):=⟨by rw[← hq_];exact(rX HO_11.out)⟩;have n1_:Aside0 (Kd.S (Kd.slice 3 (Kd.int .i64)) 29 wr w.heap.size (fun k_=>some k_≠(v438:Value).ownBlock) u441001 x441001_1):=⟨by rw[← hq_];exact(by(with_reducible repeat(first|apply Kd.S_alloc|apply Kd.S_drewN|apply Kd.S_drew));exact HO_441001.out)⟩;have n2_:Aside0 (wr.heap[gb431]?=some (.cells #[.int .i64 a0_0,.slice (some ad434) l0_1.length c0_1] 24 (0,0))):=⟨by rw[← hq_];exact(kW BK431)⟩;have n3_:Aside0 (wr.heap[gb432]?=some (.cells #[.int .i64 0,.slice none 0 0] 24 (0,0))):=⟨by rw[← hq_];exact(kW BK432)⟩;have n4_:Aside0 (wr.heap[gb440]?=some (.cells #[.int .i64 a0_0,u441001] 24 (0,0))):=⟨by rw[← hq_];exact(kW BK440)⟩;have n5_:Aside0 (Below w.heap.size w wr):=⟨by rw[← hq_];exact pB⟩;clear HO_11 HO_441001 BK431 BK432 BK440 HB hq_;have HO_11:=n0_;have HO_441001:=n1_;have BK431:=n2_;have BK432:=n3_;have BK440:=n4_;have HB:=n5_;clear n0_ n1_ n2_ n3_ n4_ n5_;have hcqgb431_0:wr.cell? ⟨gb431,0,none⟩=some (.int .i64 a0_0):=(blk_cell BK431.out 0).trans rfl;have hfqgb431_0:=blk_frozen BK431.out 0;have hcqgb431_1:wr.cell? ⟨gb431,1,none⟩=some (.slice (some ad434) l0_1.length c0_1):=(blk_cell BK431.out 1).trans rfl;have hfqgb431_1:=blk_frozen BK431.out 1;have hcqgb432_0:wr.cell? ⟨gb432,0,none⟩=some (.int .i64 0):=(blk_cell BK432.out 0).trans rfl;have hfqgb432_0:=blk_frozen BK432.out 0;have hcqgb432_1:wr.cell? ⟨gb432,1,none⟩=some (.slice none 0 0):=(blk_cell BK432.out 1).trans rfl;have hfqgb432_1:=blk_frozen BK432.out 1;have hcqgb440_0:wr.cell? ⟨gb440,0,none⟩=some (.int .i64 a0_0):=(blk_cell BK440.out 0).trans rfl;have hfqgb440_0:=blk_frozen BK440.out 0;have hcqgb440_1:wr.cell? ⟨gb440,1,none⟩=some (u441001):=(blk_cell BK440.out 1).trans rfl;have hfqgb440_1:=blk_frozen BK440.out 1));have hnb192:=NB440_432.out;have hnc192:=NB432_440.out;obtain⟨hcz193_0,hcz193_1,hfz193_0,hfz193_1⟩:=bk2 BK440;obtain⟨Ao194,co194,eo194⟩:=Kd.S_slice HO_441001.out;subst eo194;obtain⟨hcz195_0,hcz195_1,hfz195_0,hfz195_1⟩:=bk2 BK432))
            refine bodyPost_ret (results_ctt rfl _ _ gb432 24 #[.int .i64 0,.slice none 0 0] (0,0) _ rfl (by refine bD ?_;refine blk_put (cs:=#[.int .i64 0,.slice none 0 0]) ?_ 1 _ rfl;refine bD ?_;refine blk_put (cs:=#[.int .i64 0,.slice none 0 0]) ?_ 0 _ rfl;(with_reducible repeat(first|refine blk_drewN ?_ _|refine blk_drew ?_|refine blk_alloc ?_ _));exact BK432.out) Try.underlying24 rfl (by kernel_rfl)) rfl ?_
            exact⟨_,_,eW,by first|exact Kd.S_nil _ _ _ _ _|exact Kd.N_nil _ _ _ _ _|exact Kd.V_nil _ _ _ _ _|exact Kd.Q_nil _ _ _ _ _|exact Kd.R_nil _ _ _ _ _,by first|exact Kd.R_nil _ _ _ _ _|exact Kd.N_nil _ _ _ _ _|exact Kd.V_nil _ _ _ _ _|exact Kd.Q_nil _ _ _ _ _|exact Kd.S_nil _ _ _ _ _,pB⟩
           ·rw[if_neg c188] at H;have c188b0:decide (256 < (x441001_1.length:Int))=false:=decide_eq_false c188;have c188b1:decide (256 < x441001_1.length)=false:=decide_eq_false (by omega)
            clear c188;simp only[Option.some.injEq,Prod.mk.injEq] at H;obtain⟨rfl,rfl,rfl,rfl⟩:=H;have hnb196:=NB431_432.out;have hnc196:=NB432_431.out;have hnb197:=NB431_440.out;have hnc197:=NB440_431.out;obtain⟨hcz198_0,hcz198_1,hfz198_0,hfz198_1⟩:=bk2 BK431;go_wp2_with (first|((with_reducible refine gate_callee (f:=21) rfl ?_);refine goesL_ (some 129) rfl rfl Try.func21 (by kernel_rfl) rfl #[.slice A1 l1.length c1] rfl mA ?_;(with_reducible refine(Azp.calls k1 _ _ l1 t496 _ ?side1 ?side2 A155.out).mono ?_);(case side1=>exact cX (Kd.C_below HR1.out HB.out));(case side2=>exact HC1.out);rintro e w' ⟨rfl,⟨nd,rfl⟩⟩;refine⟨_,rfl,?_⟩;(try(rw[drewN_self wr];generalize hq_:World.drewN wr _=wr;have n0_:Aside0 (Kd.R (Kd.int .i64) 3 wr w.heap.size (fun _=>True) v438 x11_1):=⟨by rw[← hq_];exact(rX HO_11.out)⟩;have n1_:Aside0 (Kd.S (Kd.slice 3 (Kd.int .i64)) 29 wr w.heap.size (fun k_=>some k_≠(v438:Value).ownBlock) u441001 x441001_1):=⟨by rw[← hq_];exact(by(with_reducible repeat(first|apply Kd.S_alloc|apply Kd.S_drewN|apply Kd.S_drew));exact HO_441001.out)⟩;have n2_:Aside0 (wr.heap[gb431]?=some (.cells #[.int .i64 a0_0,.slice (some ad434) l0_1.length c0_1] 24 (0,0))):=⟨by rw[← hq_];exact(kW BK431)⟩;have n3_:Aside0 (wr.heap[gb432]?=some (.cells #[.int .i64 0,.slice none 0 0] 24 (0,0))):=⟨by rw[← hq_];exact(kW BK432)⟩;have n4_:Aside0 (wr.heap[gb440]?=some (.cells #[.int .i64 a0_0,u441001] 24 (0,0))):=⟨by rw[← hq_];exact(kW BK440)⟩;have n5_:Aside0 (Below w.heap.size w wr):=⟨by rw[← hq_];exact pB⟩;clear HO_11 HO_441001 BK431 BK432 BK440 HB hq_;have HO_11:=n0_;have HO_441001:=n1_;have BK431:=n2_;have BK432:=n3_;have BK440:=n4_;have HB:=n5_;clear n0_ n1_ n2_ n3_ n4_ n5_;have hcqgb431_0:wr.cell? ⟨gb431,0,none⟩=some (.int .i64 a0_0):=(blk_cell BK431.out 0).trans rfl;have hfqgb431_0:=blk_frozen BK431.out 0;have hcqgb431_1:wr.cell? ⟨gb431,1,none⟩=some (.slice (some ad434) l0_1.length c0_1):=(blk_cell BK431.out 1).trans rfl;have hfqgb431_1:=blk_frozen BK431.out 1;have hcqgb432_0:wr.cell? ⟨gb432,0,none⟩=some (.int .i64 0):=(blk_cell BK432.out 0).trans rfl;have hfqgb432_0:=blk_frozen BK432.out 0;have hcqgb432_1:wr.cell? ⟨gb432,1,none⟩=some (.slice none 0 0):=(blk_cell BK432.out 1).trans rfl;have hfqgb432_1:=blk_frozen BK432.out 1;have hcqgb440_0:wr.cell? ⟨gb440,0,none⟩=some (.int .i64 a0_0):=(blk_cell BK440.out 0).trans rfl;have hfqgb440_0:=blk_frozen BK440.out 0;have hcqgb440_1:wr.cell? ⟨gb440,1,none⟩=some (u441001):=(blk_cell BK440.out 1).trans rfl;have hfqgb440_1:=blk_frozen BK440.out 1));have hnb199:=NB440_432.out;have hnc199:=NB432_440.out;obtain⟨hcz200_0,hcz200_1,hfz200_0,hfz200_1⟩:=bk2 BK440;obtain⟨Ao201,co201,eo201⟩:=Kd.S_slice HO_441001.out;subst eo201;obtain⟨hcz202_0,hcz202_1,hfz202_0,hfz202_1⟩:=bk2 BK432))
            refine bodyPost_ret (results_ctt rfl _ _ gb432 24 #[.int .i64 a0_0,.slice Ao201 x441001_1.length co201] (0,0) _ rfl (by refine bD ?_;refine blk_put (cs:=#[.int .i64 a0_0,.slice none 0 0]) ?_ 1 _ rfl;refine bD ?_;refine blk_put (cs:=#[.int .i64 0,.slice none 0 0]) ?_ 0 _ rfl;(with_reducible repeat(first|refine blk_drewN ?_ _|refine blk_drew ?_|refine blk_alloc ?_ _));exact BK432.out) Try.underlying24 rfl (by kernel_rfl)) rfl ?_
            exact⟨_,_,eW,by(with_reducible repeat(first|apply Kd.S_alloc|apply Kd.S_drewN|apply Kd.S_drew));exact Kd.S_mono (Kd.S_far (p:=⟨gb432,1,none⟩) (Kd.S_far (p:=⟨gb432,0,none⟩) (Kd.S_types HO_441001.out BK432.out (by decide)) (fun _ hk=>hk.2) (.int .i64 a0_0)) (fun _ hk=>hk.2) (.slice Ao201 x441001_1.length co201)) (fun _ hk=>hk.1),by(with_reducible repeat(first|apply Kd.R_alloc|apply Kd.R_drewN|apply Kd.R_drew));exact Kd.R_mono (Kd.R_far (p:=⟨gb432,1,none⟩) (Kd.R_far (p:=⟨gb432,0,none⟩) (Kd.R_types HO_11.out BK432.out (by decide)) (fun _ hk=>hk.2) (.int .i64 a0_0)) (fun _ hk=>hk.2) (.slice Ao201 x441001_1.length co201)) (fun _ hk=>trivial),pB⟩
      ·rw[if_neg c18] at H;exact absurd H (by simp)
     ·rw[if_neg c17] at H;exact absurd H (by simp)
   ·rw[if_neg c7] at H;have c7b0:(t435 == 0)=false:=beq_eq_false_iff_ne.mpr c7;have c7b1:(t435 != 0)=true:=bne_iff_ne.mpr c7;simp only[Option.some.injEq,Prod.mk.injEq] at H;obtain⟨rfl,rfl,rfl,rfl⟩:=H;go_enter Try.func19,Try.ntmps19
    go_wp2_with (first|((with_reducible refine gate_dst (N:=2) rfl ?_);refine box_event ?hg (N:=2) ?hd (cs:=#[.int .i64 a0_0,.slice A0_1 l0_1.length c0_1]) (t:=24) ?hr ?_;(case hd=>rfl);(case hg=>rfl);(case hr=>first|(go_simp;done)|(go_simp;rfl));intro gb431 hg w203 hbox hb;have BK431:=aM (hbox);have GW431:=aM (gW hg:w.heap.size≤gb431);have GE431:=aM (gW hg:w.heap.size≤gb431);replace HB:=aM (below_step pB hb);clear hb hbox hg)|((with_reducible refine gate_dst (N:=4) rfl ?_);refine box_event ?hg (N:=4) ?hd (cs:=#[.int .i64 0,.slice none 0 0]) (t:=24) ?hr ?_;(case hd=>rfl);(case hg=>rfl);(case hr=>first|(go_simp;done)|(go_simp;rfl));intro gb432 hg w204 hbox hb;have BK432:=aM (hbox);have GW432:=aM (gW hg:w.heap.size≤gb432);have GE432:=aM (gW hg:w.heap.size≤gb432);have NB431_432:=aM (nL hg BK431:gb431≠gb432);have NB432_431:=aM (nG hg BK431:gb432≠gb431);replace BK431:=aM (kB BK431 hb);replace HB:=aM (below_step pB hb);clear hb hbox hg;have hnb205:=NB431_432.out;have hnc205:=NB432_431.out;obtain⟨hcz206_0,hcz206_1,hfz206_0,hfz206_1⟩:=bk2 BK431)|((with_reducible refine gate_callee (f:=14) rfl ?_);refine goesL_ (some 19) rfl rfl Try.func14 (by kernel_rfl) rfl #[.agg #[.int .i64 a0_0,.slice A0_1 l0_1.length c0_1]] rfl mA ?_;(with_reducible refine(Azf.calls k a0_0 _ _ l0_1 t433 _ ?side1 ?side2 A3.out).mono ?_);(case side1=>exact cX (Kd.C_below HR0_1.out HB.out));(case side2=>exact HC0_1.out);rintro e w207 ⟨rfl,hb⟩;refine⟨_,rfl,?_⟩;replace BK431:=aM (kB BK431 hb);replace BK432:=aM (kB BK432 hb);replace HB:=aM (below_step pB hb);(try clear hb);(try clear hb2);(try clear hk);(try clear hi);obtain⟨hcz208_0,hcz208_1,hfz208_0,hfz208_1⟩:=bk2 BK431;have p434:0≤(0:Int):=(by omega);have q434:0 < (l0_1.length:Int):=oE aS;obtain⟨ad434,A434_0,c434_0,e434,hx434_0,hl434_0,hi434_0⟩:=at_L1 HR0_1.out 0 p434 q434;cases e434;have qi434:(0 < l0_1.length)=True:=eq_true (by omega);(try rw[show((0:Int)).toNat=0 from rfl] at hx434_0);(try rw[Addr.add_zero'] at hx434_0);replace hx434_0:=(HB.out.cell (World.block_lt_of_cell? w _ hx434_0)).trans hx434_0;have HR434_0:=aM hi434_0;have HC434_0:=aM hl434_0;clear hi434_0 hl434_0;replace p434:=eq_true p434;replace q434:=eq_true q434)|((with_reducible refine gate_callee (f:=28) rfl ?_);refine goesL_ (some 31) rfl rfl Try.func28 (by kernel_rfl) rfl #[.slice A1 l1.length c1,.int .i64 ((rd_L1 l0_1 0).length:Int)] rfl mA ?_;(with_reducible refine(Czv.calls k _ _ l1 ((rd_L1 l0_1 0).length:Int) t435 _ ?side1 ?side2 A6.out).mono ?_);(case side1=>exact cX (Kd.C_below HR1.out HB.out));(case side2=>exact HC1.out);rintro e w' ⟨rfl,⟨nd,rfl⟩⟩;refine⟨_,rfl,?_⟩;(try(rw[drewN_self w207];generalize hq_:World.drewN w207 _=w207;have n0_:Aside0 (w207.heap[gb431]?=some (.cells #[.int .i64 a0_0,.slice (some ad434) l0_1.length c0_1] 24 (0,0))):=⟨by rw[← hq_];exact(kW BK431)⟩;have n1_:Aside0 (w207.heap[gb432]?=some (.cells #[.int .i64 0,.slice none 0 0] 24 (0,0))):=⟨by rw[← hq_];exact(kW BK432)⟩;have n2_:Aside0 (Below w.heap.size w w207):=⟨by rw[← hq_];exact pB⟩;clear BK431 BK432 HB hq_;have BK431:=n0_;have BK432:=n1_;have HB:=n2_;clear n0_ n1_ n2_;have hcqgb431_0:w207.cell? ⟨gb431,0,none⟩=some (.int .i64 a0_0):=(blk_cell BK431.out 0).trans rfl;have hfqgb431_0:=blk_frozen BK431.out 0;have hcqgb431_1:w207.cell? ⟨gb431,1,none⟩=some (.slice (some ad434) l0_1.length c0_1):=(blk_cell BK431.out 1).trans rfl;have hfqgb431_1:=blk_frozen BK431.out 1;have hcqgb432_0:w207.cell? ⟨gb432,0,none⟩=some (.int .i64 0):=(blk_cell BK432.out 0).trans rfl;have hfqgb432_0:=blk_frozen BK432.out 0;have hcqgb432_1:w207.cell? ⟨gb432,1,none⟩=some (.slice none 0 0):=(blk_cell BK432.out 1).trans rfl;have hfqgb432_1:=blk_frozen BK432.out 1));obtain⟨hcz209_0,hcz209_1,hfz209_0,hfz209_1⟩:=bk2 BK432))
    refine bodyPost_ret (results_ctt rfl _ _ gb432 24 #[.int .i64 0,.slice none 0 0] (0,0) _ rfl (by refine bD ?_;refine blk_put (cs:=#[.int .i64 0,.slice none 0 0]) ?_ 1 _ rfl;refine bD ?_;refine blk_put (cs:=#[.int .i64 0,.slice none 0 0]) ?_ 0 _ rfl;(with_reducible repeat(first|refine blk_drewN ?_ _|refine blk_drew ?_|refine blk_alloc ?_ _));exact BK432.out) Try.underlying24 rfl (by kernel_rfl)) rfl ?_
    exact⟨_,_,eW,by first|exact Kd.S_nil _ _ _ _ _|exact Kd.N_nil _ _ _ _ _|exact Kd.V_nil _ _ _ _ _|exact Kd.Q_nil _ _ _ _ _|exact Kd.R_nil _ _ _ _ _,by first|exact Kd.R_nil _ _ _ _ _|exact Kd.N_nil _ _ _ _ _|exact Kd.V_nil _ _ _ _ _|exact Kd.Q_nil _ _ _ _ _|exact Kd.S_nil _ _ _ _ _,pB⟩
  ·rw[if_neg c5] at H;exact absurd H (by simp)
 ·rw[if_neg c4] at H;have c4b0:(t433 == 0)=false:=beq_eq_false_iff_ne.mpr c4;have c4b1:(t433 != 0)=true:=bne_iff_ne.mpr c4;simp only[Option.some.injEq,Prod.mk.injEq] at H;obtain⟨rfl,rfl,rfl,rfl⟩:=H;go_enter Try.func19,Try.ntmps19
  go_wp2_with (first|((with_reducible refine gate_dst (N:=2) rfl ?_);refine box_event ?hg (N:=2) ?hd (cs:=#[.int .i64 a0_0,.slice A0_1 l0_1.length c0_1]) (t:=24) ?hr ?_;(case hd=>rfl);(case hg=>rfl);(case hr=>first|(go_simp;done)|(go_simp;rfl));intro gb431 hg w210 hbox hb;have BK431:=aM (hbox);have GW431:=aM (gW hg:w.heap.size≤gb431);have GE431:=aM (gW hg:w.heap.size≤gb431);replace HB:=aM (below_step pB hb);clear hb hbox hg)|((with_reducible refine gate_dst (N:=4) rfl ?_);refine box_event ?hg (N:=4) ?hd (cs:=#[.int .i64 0,.slice none 0 0]) (t:=24) ?hr ?_;(case hd=>rfl);(case hg=>rfl);(case hr=>first|(go_simp;done)|(go_simp;rfl));intro gb432 hg w211 hbox hb;have BK432:=aM (hbox);have GW432:=aM (gW hg:w.heap.size≤gb432);have GE432:=aM (gW hg:w.heap.size≤gb432);have NB431_432:=aM (nL hg BK431:gb431≠gb432);have NB432_431:=aM (nG hg BK431:gb432≠gb431);replace BK431:=aM (kB BK431 hb);replace HB:=aM (below_step pB hb);clear hb hbox hg;have hnb212:=NB431_432.out;have hnc212:=NB432_431.out;obtain⟨hcz213_0,hcz213_1,hfz213_0,hfz213_1⟩:=bk2 BK431)|((with_reducible refine gate_callee (f:=14) rfl ?_);refine goesL_ (some 19) rfl rfl Try.func14 (by kernel_rfl) rfl #[.agg #[.int .i64 a0_0,.slice A0_1 l0_1.length c0_1]] rfl mA ?_;(with_reducible refine(Azf.calls k a0_0 _ _ l0_1 t433 _ ?side1 ?side2 A3.out).mono ?_);(case side1=>exact cX (Kd.C_below HR0_1.out HB.out));(case side2=>exact HC0_1.out);rintro e w214 ⟨rfl,hb⟩;refine⟨_,rfl,?_⟩;replace BK431:=aM (kB BK431 hb);replace BK432:=aM (kB BK432 hb);replace HB:=aM (below_step pB hb);(try clear hb);(try clear hb2);(try clear hk);(try clear hi);obtain⟨hcz215_0,hcz215_1,hfz215_0,hfz215_1⟩:=bk2 BK432))
  refine bodyPost_ret (results_ctt rfl _ _ gb432 24 #[.int .i64 0,.slice none 0 0] (0,0) _ rfl (by refine bD ?_;refine blk_put (cs:=#[.int .i64 0,.slice none 0 0]) ?_ 1 _ rfl;refine bD ?_;refine blk_put (cs:=#[.int .i64 0,.slice none 0 0]) ?_ 0 _ rfl;(with_reducible repeat(first|refine blk_drewN ?_ _|refine blk_drew ?_|refine blk_alloc ?_ _));exact BK432.out) Try.underlying24 rfl (by kernel_rfl)) rfl ?_
  exact⟨_,_,eW,by first|exact Kd.S_nil _ _ _ _ _|exact Kd.N_nil _ _ _ _ _|exact Kd.V_nil _ _ _ _ _|exact Kd.Q_nil _ _ _ _ _|exact Kd.R_nil _ _ _ _ _,by first|exact Kd.R_nil _ _ _ _ _|exact Kd.N_nil _ _ _ _ _|exact Kd.V_nil _ _ _ _ _|exact Kd.Q_nil _ _ _ _ _|exact Kd.S_nil _ _ _ _ _,pB⟩

end Go.Proofs.Ytpnfdhhfdidlmaa.Print
