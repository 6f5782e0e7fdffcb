import Derived.Test.YtokkiljkgejnhaaPrint0
namespace Go.Proofs.Ytokkiljkgejnhaa.Print
open Go.RowKit Go.Proofs.YtokkiljkgejnhaaW.PrintWords Go.Proofs.YtokkiljkgejnhaaW.PrintLast Go.Proofs.YtokkiljkgejnhaaW.PrintMore
attribute [local go_sem] max2_int min2_int max_two min_two max_three min_three max_four min_four
set_option linter.unusedVariables false
set_option maxRecDepth 100000
set_option maxHeartbeats 8000000
set_option linter.unusedSimpArgs false

def Bzb.l0:Nat→List Int→List Int→Int→Option (Int)
 | 0,_,_,_=>none
 | k+1,x0,x1,x5=>if x5≥0 then(if 0≤x5 then(if x5 < (x0.length:Int) then(if x5 < (x1.length:Int) then(if(rd x0 x5) < (rd x1 x5) then(some (-1)) else(if(rd x0 x5) > (rd x1 x5) then(some 1) else(Bzb.l0 k x0 x1 (wrap64 (x5 - 1))))) else(none)) else(none)) else(none)) else(some 0)
def Bzb.f (k:Nat) (l0:List Int) (l1:List Int):Option (Int):=if(l0.length:Int)=(l1.length:Int) then(Bzb.l0 k l0 l1 (wrap64 ((l0.length:Int) - 1))) else(if(l0.length:Int) < (l1.length:Int) then(some (-1)) else(some 1))
theorem Bzb.mono_l:∀ k,(∀ a6 a7 a8,LeO (Bzb.l0 k a6 a7 a8) (Bzb.l0 (k+1) a6 a7 a8))
 | 0=>fun _ _ _ r h=>by simp [Bzb.l0] at h
 | k+1=>by
  have ih0:=Bzb.mono_l k
  ·intro a6 a7 a8;unfold Bzb.l0;exact mM
theorem Bzb.mono:∀ a6 a7 k,LeO (Bzb.f k a6 a7) (Bzb.f (k+1) a6 a7):=by
 intro a6 a7 k;have ih0:=Bzb.mono_l k;unfold Bzb.f;exact mM
theorem Bzb.calls (k:Nat) (a6:Option Addr) (a7:Nat) (l0:List Int) (a8:Option Addr) (b4:Nat) (l1:List Int) (r:Int) (w:World) (b5:Kd.C (Kd.int .i64) w a6 l0.length l0) (b6:l0.length≤a7) (b7:Kd.C (Kd.int .i64) w a8 l1.length l1) (b8:l1.length≤b4) (h:Bzb.f k l0 l1=some r) :
  Calls Try.prog 71 #[.slice a6 l0.length a7,.slice a8 l1.length b4] w fun e w'=>e=.returned (.int .i64 r)∧Drawn0 w w':=by
 have b9:=aM b5;have d0:=aM b6;clear b5 b6;have d6:=aM b7;have d7:=aM b8;clear b7 b8;have H:(if(l0.length:Int)=(l1.length:Int) then(Bzb.l0 k l0 l1 (wrap64 ((l0.length:Int) - 1))) else(if(l0.length:Int) < (l1.length:Int) then(some (-1)) else(some 1)))=some r:=h
 clear h;by_cases c3:(l0.length:Int)=(l1.length:Int)
 ·rw[if_pos c3] at H;have d8:((l0.length:Int) == (l1.length:Int))=true:=beq_iff_eq.mpr c3;have d9:((l0.length:Int) != (l1.length:Int))=false:=bne_eq_false_iff_eq.mpr c3;have e6:(l0.length == l1.length)=true:=by first|simpa using c3|(simp at c3 ⊢;omega)
  clear c3;have H':=aM H;clear H;go_enter Try.func71,Try.ntmps71
  go_wp2
  repeat(go_quiet (fail);try go_wp2)
  go_loopg [5] k (fun kq e7 w'=>∃ (e8:Int),e7=.int .i64 e8∧Aside0 (Bzb.l0 kq l0 l1 e8=some r)∧Aside0 (kq≤k)∧Drawn0 w w')
  case atStart=>exact⟨(wrap64 ((l0.length:Int) - 1)),sD,H',⟨Nat.le_refl _⟩,dR⟩
  case round =>
   clear H';try clear b4
   try clear e9
   try clear c3
   try clear d8
   try clear d9
   try clear e6
   obtain⟨e8,rfl,HA,f3,⟨f4,rfl⟩⟩:=hrel;cases gk with
   | zero=>exact absurd HA.out (by simp [Bzb.l0])
   | succ k1 =>
    have H:=HA.out;clear HA;simp only[Bzb.l0] at H;by_cases c4:e8≥0
    ·rw[if_pos c4] at H;have f6:decide (0≤e8)=true:=dE c4;clear c4;obtain⟨f9,H⟩:=iN H;obtain⟨g4,H⟩:=iN H;obtain⟨g5,H⟩:=iN H;by_cases c8:(rd l0 e8) < (rd l1 e8)
     ·rw[if_pos c8] at H;have g6:=dE c8;clear c8;obtain rfl:=Option.some.inj H;obtain⟨g7,g8,g9,j5,j6⟩:=aI b9.out e8;cases g8;obtain⟨j7,j8,j9,l5,l6⟩:=aI d6.out e8;cases j8;go_wp2
      repeat(go_quiet (fail);try go_wp2)
      go_ret
      exact⟨sD,dR⟩
     ·rw[if_neg c8] at H;have g6:decide ((rd l0 e8) < (rd l1 e8))=false:=decide_eq_false c8;clear c8;by_cases c9:(rd l0 e8) > (rd l1 e8)
      ·rw[if_pos c9] at H;have l7:decide ((rd l1 e8) < (rd l0 e8))=true:=dE c9;clear c9;obtain rfl:=Option.some.inj H;obtain⟨g7,g8,g9,j5,j6⟩:=aI b9.out e8;cases g8;obtain⟨j7,j8,j9,l5,l6⟩:=aI d6.out e8;cases j8;obtain⟨l8,l9,m0,m2,m3⟩:=aI b9.out e8;obtain rfl:g7=l8:=(by injection l9);obtain⟨m4,m5,m6,m7,m8⟩:=aI d6.out e8;obtain rfl:j7=m4:=(by injection m5);go_wp2
       repeat(go_quiet (fail);try go_wp2)
       go_ret
       exact⟨sD,dR⟩
      ·rw[if_neg c9] at H;have l7:decide ((rd l1 e8) < (rd l0 e8))=false:=decide_eq_false c9;clear c9;have H':=aM H;clear H;obtain⟨g7,g8,g9,j5,j6⟩:=aI b9.out e8;cases g8;obtain⟨j7,j8,j9,l5,l6⟩:=aI d6.out e8;cases j8;obtain⟨l8,l9,m0,m2,m3⟩:=aI b9.out e8;obtain rfl:g7=l8:=(by injection l9);obtain⟨m4,m5,m6,m7,m8⟩:=aI d6.out e8;obtain rfl:j7=m4:=(by injection m5);go_wp2
       repeat(go_quiet (fail);try go_wp2)
       go_roundg k1
       case measure=>have:=f3.out;omega
       case rel=>exact⟨(wrap64 (e8 - 1)),sD,H',⟨by have:=f3.out;omega⟩,dR⟩
    ·rw[if_neg c4] at H;have f6:decide (0≤e8)=false:=decide_eq_false c4;clear c4;obtain rfl:=Option.some.inj H;go_wp2
     repeat(go_quiet (fail);try go_wp2)
     go_ret
     exact⟨sD,dR⟩
 ·rw[if_neg c3] at H;have d8:((l0.length:Int) == (l1.length:Int))=false:=beq_eq_false_iff_ne.mpr c3;have d9:((l0.length:Int) != (l1.length:Int))=true:=bne_iff_ne.mpr c3;have e6:(l0.length == l1.length)=false:=by first|simpa using c3|(simp at c3 ⊢;omega)
  by_cases c10:(l0.length:Int) < (l1.length:Int)
  ·rw[if_pos c10] at H;have m9:=dE c10;have n0:decide (l0.length < l1.length)=true:=dE (Int.ofNat_lt.mp c10);clear c10;obtain rfl:=Option.some.inj H;go_enter Try.func71,Try.ntmps71
   go_wp2
   repeat(go_quiet (fail);try go_wp2)
   go_ret
   exact⟨sD,dR⟩
  ·rw[if_neg c10] at H;have m9:decide ((l0.length:Int) < (l1.length:Int))=false:=decide_eq_false c10;have n0:decide (l0.length < l1.length)=false:=decide_eq_false (fun h=>c10 (Int.ofNat_lt.mpr h))
   clear c10;obtain rfl:=Option.some.inj H;go_enter Try.func71,Try.ntmps71
   go_wp2
   repeat(go_quiet (fail);try go_wp2)
   go_ret
   exact⟨sD,dR⟩

def Azp.l0:Nat→List Int→Int→Option (List Int)
 | 0,_,_=>none
 | k+1,x0,x3=>if x3 > 0 then(if 0≤(wrap64 (x3 - 1)) then(if(wrap64 (x3 - 1)) < (x0.length:Int) then(if(rd x0 (wrap64 (x3 - 1)))=0 then(Azp.l0 k x0 (wrap64 (x3 - 1))) else(if 0≤x3 then(if x3≤(x0.length:Int) then(some (x0.take (x3:Int).toNat)) else(none)) else(none))) else(none)) else(none)) else(if 0≤x3 then(if x3≤(x0.length:Int) then(some (x0.take (x3:Int).toNat)) else(none)) else(none))
def Azp.f (k:Nat) (l0:List Int):Option (List Int):=Azp.l0 k l0 (l0.length:Int)
theorem Azp.mono_l:∀ k,(∀ a6 a7,LeO (Azp.l0 k a6 a7) (Azp.l0 (k+1) a6 a7))
 | 0=>fun _ _ r h=>by simp [Azp.l0] at h
 | k+1=>by
  have ih0:=Azp.mono_l k
  ·intro a6 a7;unfold Azp.l0;exact mM
theorem Azp.mono:∀ a6 k,LeO (Azp.f k a6) (Azp.f (k+1) a6):=by
 intro a6 k;have ih0:=Azp.mono_l k;unfold Azp.f;exact mM
theorem Azp.calls (k:Nat) (a6:Nat→Prop) (u9000_:Value) (l0:List Int) (r:List Int) (a7 w:World) (hB:Below a7.heap.size a7 w) (a8:Kd.R (Kd.int .i64) 3 w a7.heap.size a6 u9000_ l0) (h:Azp.f k l0=some r) :
  Calls Try.prog 72 #[u9000_] w fun e w'=>∃ v0_:Value,e=.returned (v0_)∧Kd.R (Kd.int .i64) 3 w' a7.heap.size (fun k_=>(a6 k_∨w.heap.size≤k_)) v0_ r∧Below a7.heap.size a7 w'∧Kept w w' (fun k_=>a6 k_):=by
 have b4:=aM (show Kd.R (Kd.int .i64) 3 w a7.heap.size (fun k_=>(a6 k_∨w.heap.size≤k_)) u9000_ l0 from Kd.R_mono a8 (fun k_ hk=>(.inl hk)))
 have HK:=aM (Kept.refl w (fun k_=>a6 k_))
 have HW0:=aM hB.size;have HB:=aM hB;clear hB;have H:(Azp.l0 k l0 (l0.length:Int))=some r:=h;clear h;have H':=aM H;clear H;obtain⟨b5,b6,rfl⟩:=Kd.R_slice b4.out;go_enter Try.func72,Try.ntmps72
 go_wp2
 go_loopg [3] k (fun kq b7 w'=>∃ (b8:Int),b7=.int .i64 b8∧Aside0 (Azp.l0 kq l0 b8=some r)∧Aside0 (kq≤k)∧Aside0 (Kd.R (Kd.int .i64) 3 w' a7.heap.size (fun k_=>(a6 k_∨w.heap.size≤k_)) (.slice b5 l0.length b6) l0)∧Aside0 (Kept w w' (fun k_=>a6 k_))∧Aside0 (Below a7.heap.size a7 w'))
 case atStart=>exact⟨((l0.length:Int)),sD,H',⟨Nat.le_refl _⟩,⟨rX b4.out⟩,⟨kK HK⟩,⟨pB⟩⟩
 case round =>
  clear H';try clear b9
  obtain⟨b8,rfl,HA,d0,d6,HK,HB⟩:=hrel;cases gk with
  | zero=>exact absurd HA.out (by simp [Azp.l0])
  | succ k1 =>
   have H:=HA.out;clear HA;simp only[Azp.l0] at H;by_cases c3:b8 > 0
   ·rw[if_pos c3] at H;have d7:decide (0 < b8)=true:=dE c3;clear c3;obtain⟨d8,d9⟩:∃ j_:Int,(wrap64 (b8 - 1))=j_:=⟨_,rfl⟩;replace H:(if 0≤(d8) then(if(d8) < (l0.length:Int) then(if(rd l0 (d8))=0 then(Azp.l0 k1 l0 d8) else(if 0≤b8 then(if b8≤(l0.length:Int) then(some (l0.take (b8:Int).toNat)) else(none)) else(none))) else(none)) else(none))=some r:=by first|(rw[d9] at H;exact H)|(simp only[d9] at H ⊢;exact H)
    have e6:(IntKind.i64.wrap (b8 - 1))=d8:=(i64_w _).trans d9;obtain⟨e7,H⟩:=iN H;obtain⟨e8,H⟩:=iN H;by_cases c7:(rd l0 (d8))=0
    ·rw[if_pos c7] at H;have e9:((rd l0 (d8)) == 0)=true:=beq_iff_eq.mpr c7;have f3:((rd l0 (d8)) != 0)=false:=bne_eq_false_iff_eq.mpr c7;clear c7;have H':=aM H;clear H;obtain⟨f4,f6,f9,g4,g5⟩:=aI (Kd.R_reads' d6.out).2.2 (d8);cases f6;go_wp2
     go_roundg k1
     case measure=>have:=d0.out;omega
     case rel=>exact⟨(d8),(by first|rfl|(simp;done)|(simp only[← d9] <;> (first|rfl|simp))|(simp [*];done)),H',⟨by have:=d0.out;omega⟩,⟨rX d6.out⟩,⟨kK HK⟩,⟨pB⟩⟩
    ·rw[if_neg c7] at H;have e9:((rd l0 (d8)) == 0)=false:=beq_eq_false_iff_ne.mpr c7;have f3:((rd l0 (d8)) != 0)=true:=bne_iff_ne.mpr c7;obtain⟨c8,H⟩:=iO H;have g6:=eq_true c8;have g7:decide (0≤b8)=true:=dE c8;clear c8;obtain⟨c9,H⟩:=iO H;have g8:=eq_true c9;have g9:decide (b8≤(l0.length:Int))=true:=dE c9;clear c9;obtain⟨j5,j6⟩:∃ y_:List Int,y_=(l0.take (b8:Int).toNat):=⟨_,rfl⟩;replace H:(some j5)=some r:=yE j6 H
     have j7:=aM j6;clear j6;obtain rfl:=Option.some.inj H;obtain⟨f4,f6,f9,g4,g5⟩:=aI (Kd.R_reads' d6.out).2.2 (d8);cases f6;have j8:(b8:Int)≤((l0.length:Int):Int):=oE aS
     obtain⟨i010,j9,_,hsz10,_⟩:=info_parts info3;have hcut10:=cut_to (P:=Try.prog) 22 3 .i64 Try.underlying22 j9 (some f4) l0.length b6 b8 (oE aS) j8 (Kd.R_reads' d6.out).2.1
     have l5:=Kd.R_take (m:=(b8:Int).toNat) d6.out (by omega)
     have l6:j5.length=(b8:Int).toNat:=(by rw[j7.out,List.length_take];omega)
     rw[← j7.out] at l5;rw[← l6] at l5 hcut10;clear l6 j9 hsz10 d6;have l7:=aM l5;clear l5;replace j8:=eq_true j8;go_wp2
     go_ret
     exact⟨_,by first|rfl|(simp [errW_none,errW_some] <;> rfl)|(simp only[← d9];first|rfl|(simp [errW_none,errW_some] <;> rfl))|(simp [*,errW_none,errW_some] <;> rfl),rX l7.out,pB,kK HK⟩
   ·rw[if_neg c3] at H;have d7:decide (0 < b8)=false:=decide_eq_false c3;clear c3;by_cases l8:0≤b8
    ·rw[if_pos l8] at H;have l9:=eq_true l8;have m0:=dE l8;clear l8;obtain⟨m2,H⟩:=iO H;have m3:=eq_true m2;have m4:decide (b8≤(l0.length:Int))=true:=dE m2;clear m2;obtain⟨m5,m6⟩:∃ y_:List Int,y_=(l0.take (b8:Int).toNat):=⟨_,rfl⟩;replace H:(some m5)=some r:=yE m6 H
     have m7:=aM m6;clear m6;obtain rfl:=Option.some.inj H;have m8:(b8:Int)≤((l0.length:Int):Int):=oE aS
     obtain⟨i013,m9,_,hsz13,_⟩:=info_parts info3;have hcut13:=cut_to (P:=Try.prog) 22 3 .i64 Try.underlying22 m9 b5 l0.length b6 b8 (oE aS) m8 (Kd.R_reads' d6.out).2.1
     have n0:=Kd.R_take (m:=(b8:Int).toNat) d6.out (by omega)
     have n6:m5.length=(b8:Int).toNat:=(by rw[m7.out,List.length_take];omega)
     rw[← m7.out] at n0;rw[← n6] at n0 hcut13;clear n6 m9 hsz13 d6;have n7:=aM n0;clear n0;replace m8:=eq_true m8;go_wp2
     go_ret
     exact⟨_,eW,rX n7.out,pB,kK HK⟩
    ·rw[if_neg l8] at H;exact absurd H (by simp)


def Czq.l0:Nat→List Int→Int→List Int→Int→Int→Option (List Int × List Int)
 | 0,_,_,_,_,_=>none
 | k+1,x0,x1,x6,x7,x8=>if x8≥0 then(if 0≤x8 then(if x8 < (x0.length:Int) then(if x1=0 then(none) else(if x8 < (x6.length:Int) then(Czq.l0 k x0 x1 (x6.set (x8:Int).toNat (wrap64 (Int.tdiv (wrap64 ((wrap64 (x7 * 1000000000))+(rd x0 x8))) x1))) (Int.tmod (wrap64 ((wrap64 (x7 * 1000000000))+(rd x0 x8))) x1) (wrap64 (x8 - 1))) else(none))) else(none)) else(none)) else((Azp.f k x6).bind fun t287=>((Azp.f k (([x7]:List Int))).bind fun t293=>(some (t287,t293))))
def Czq.f (k:Nat) (l0:List Int) (a1:Int):Option (List Int × List Int):=if 0≤(l0.length:Int) then(if((l0.length:Int):Int).toNat≤35184372088832 then(Czq.l0 k l0 a1 (List.replicate ((l0.length:Int):Int).toNat 0) 0 (wrap64 ((l0.length:Int) - 1))) else(none)) else(none)
theorem Czq.mono_l:∀ k,(∀ a6 a7 a8 b4 b5,LeO (Czq.l0 k a6 a7 a8 b4 b5) (Czq.l0 (k+1) a6 a7 a8 b4 b5))
 | 0=>fun _ _ _ _ _ r h=>by simp [Czq.l0] at h
 | k+1=>by
  have ih0:=Czq.mono_l k
  ·intro a6 a7 a8 b4 b5;unfold Czq.l0;have i0:=@Azp.mono;exact mM
theorem Czq.mono:∀ a6 a7 k,LeO (Czq.f k a6 a7) (Czq.f (k+1) a6 a7):=by
 intro a6 a7 k;have ih0:=Czq.mono_l k;unfold Czq.f;have i0:=@Azp.mono;exact mM
def Czq.T7:Bool × List (List Nat × List Nat):=(true,[([],[]),([],[]),([],[]),([],[]),([2,3],[2,3]),([],[]),([],[]),([5,6],[5,6]),([0,1,0,1,2,3,4],[0,1]),([8,4,0,1,2,3,4],[4,8]),([7,9,0,1,2,3,4,5,6,7,8,9],[7])])
def Czq.B7:List Nat:=[0,0,0,0,12,0,0,96,31,287,1023]
theorem Czq.tab7:rtab .any (opsOf Try.f91 7)=Czq.T7:=by kernel_rfl
theorem Czq.bits7:waitsOk Czq.T7.2 Czq.B7=true:=by kernel_rfl
theorem Czq.calls (k:Nat) (a6:Option Addr) (a7:Nat) (l0:List Int) (a8:Int) (b4:List Int) (b5:List Int) (w:World) (b6:Kd.C (Kd.int .i64) w a6 l0.length l0) (b7:l0.length≤a7) (h:Czq.f k l0 a8=some (b4,b5)) :
  Calls Try.prog 91 #[.slice a6 l0.length a7,.int .i64 a8] w fun e w'=>∃ v0_ v1_:Value,e=.returned (.tuple #[v0_,v1_])∧Kd.R (Kd.int .i64) 3 w' w.heap.size (fun k_=>some k_≠(v1_:Value).ownBlock) v0_ b4∧Kd.R (Kd.int .i64) 3 w' w.heap.size (fun k_=>some k_≠(v0_:Value).ownBlock) v1_ b5∧Below w.heap.size w w':=by
 have b8:=aM b6;have b9:=aM b7;clear b6 b7;have HB:=aM (Below.refl w.heap.size w);have H:(if 0≤(l0.length:Int) then(if((l0.length:Int):Int).toNat≤35184372088832 then(Czq.l0 k l0 a8 (List.replicate ((l0.length:Int):Int).toNat 0) 0 (wrap64 ((l0.length:Int) - 1))) else(none)) else(none))=some (b4,b5):=h
 clear h;by_cases c3:0≤(l0.length:Int)
 ·rw[if_pos c3] at H;have d0:=eq_true c3;have d6:=dE c3;clear c3;obtain⟨c4,H⟩:=iO H;have d7:=eq_true c4;have d8:decide (((l0.length:Int):Int).toNat≤35184372088832)=true:=dE c4;clear c4;obtain⟨d9,e6⟩:∃ y_:List Int,y_=(List.replicate ((l0.length:Int):Int).toNat 0):=⟨_,rfl⟩;replace H:(Czq.l0 k l0 a8 d9 0 (wrap64 ((l0.length:Int) - 1)))=some (b4,b5):=yE e6 H
  have e7:=aM e6;clear e6;have H':=aM H;clear H;go_enter Try.func91,Try.ntmps91
  go_wp2_with (first|((with_reducible refine gate_dst (N:=12) rfl ?_);refine Kd.R_make (Kd.int .i64) _ 3 rfl (N:=12) rfl 22 _ _ rfl (l0.length:Int) rfl rfl Try.underlying22 (.int .i64 0) 8 info3 rfl (by decide) (by omega) 0 (ok:=fun _=>True) (okp:=fun _=>True) rfl (fun _ hk=>hk) trivial (oE aS) (Nat.le_trans (Nat.mul_le_mul_right _ (oE aS:(l0.length:Int).toNat≤35184372088832)) (by omega)) (Below.refl _ _) (Nat.le_refl _) ?_;intro e8 e9 f3 hb hg_ hnew_;clear hg_ hnew_;replace f3:=rY e7 f3;have f4:=rL f3;replace HB:=bB hb;clear hb f3))
  go_loopg [7,8] k (fun kq f6 f9 w'=>∃ (g4:List Int) (g5:Int) (g6:Int),f6=.int .i64 g5∧f9=.int .i64 g6∧Aside0 (Czq.l0 kq l0 a8 g4 g5 g6=some (b4,b5))∧Aside0 (kq≤k)∧Aside0 (Kd.R (Kd.int .i64) 3 w' w.heap.size (fun _=>True) e8 g4)∧Aside0 (Below w.heap.size w w'))
  case atStart=>exact⟨(d9),(0),(wrap64 ((l0.length:Int) - 1)),sD,sD,H',⟨Nat.le_refl _⟩,⟨rX f4.out⟩,⟨pB⟩⟩
  case round =>
   clear H';try clear g7
   try clear c3
   try clear d0
   try clear d6
   try clear c4
   try clear d7
   try clear d8
   try clear g8
   obtain⟨g4,g5,g6,rfl,rfl,HA,g9,j5,HB⟩:=hrel;cases gk with
   | zero=>exact absurd HA.out (by simp [Czq.l0])
   | succ k1 =>
    have H:=HA.out;clear HA;simp only[Czq.l0] at H;by_cases c7:g6≥0
    ·rw[if_pos c7] at H;have j6:decide (0≤g6)=true:=dE c7;clear c7;obtain⟨j7,H⟩:=iN H;obtain⟨j8,H⟩:=iN H;obtain⟨c10,H⟩:=iM H;have j9:(a8 == 0)=false:=beq_eq_false_iff_ne.mpr c10;have l5:(a8 != 0)=true:=bne_iff_ne.mpr c10;obtain⟨l6,H⟩:=iN H;obtain⟨l7,l8⟩:∃ y_:List Int,y_=(g4.set (g6:Int).toNat (wrap64 (Int.tdiv (wrap64 ((wrap64 (g5 * 1000000000))+(rd l0 g6))) a8))):=⟨_,rfl⟩;replace H:(Czq.l0 k1 l0 a8 l7 (Int.tmod (wrap64 ((wrap64 (g5 * 1000000000))+(rd l0 g6))) a8) (wrap64 (g6 - 1)))=some (b4,b5):=yE l8 H
     have l9:=aM l8;clear l8;have H':=aM H;clear H;obtain⟨m0,m2,m3,m4,m5⟩:=aI b8.out g6;cases m2
     replace m3:=hB HB m3;try go_wp2
     have n0_:=aM (Kd.R_drew j5.out);have n1_:=aM (below_drew1 HB.out);clear j5;clear HB;have j5:=n0_;have HB:=n1_;clear n0_ n1_;have m6:0≤(g6:Int):=oE aS
     have m7:(g6:Int) < ((g4.length:Int):Int):=oE aS
     obtain⟨m8,m9,n0,n6,n7,n8,n9⟩:=Kd.R_form j5.out (by omega)
     (first|cases n0|(injection n0 with ea_ en_ ec_;(first|subst ea_|(injection ea_ with ea_;subst ea_));subst ec_;clear en_))
     have o0:=aM n6;have o8:=aM n9;clear n6 n7 n9;obtain⟨o9,p0⟩:=Kd.R_celln 0 j5.out (g6:Int) m6 m7;replace m6:=eq_true m6;replace m7:=eq_true m7;have p4:=Kd.R_putn j5.out (g6:Int) (wrap64 (Int.tdiv (wrap64 ((wrap64 (g5 * 1000000000))+(rd l0 g6))) a8));rw[← l9.out] at p4;have p5:=aM p4;clear p4;refine start_ (n:=11) (S:=fun w'=>True) (ds:=[9]) (bA 11 0) (by kernel_rfl) rfl rfl trivial (fun hHeld=>?_);refine with_tabW Czq.tab7 Czq.bits7 (fun HT_ HW_=>?_)
     generalize wr.drew=p9 at j5 HB o8 p5 p0 o9 hHeld ⊢;refine pS 0 27 HT_ ?_;refine pS 1 28 HT_ ?_;refine pS 2 29 HT_ ?_;refine pS 3 30 HT_ ?_;refine pS 4 31 HT_ ?_;refine pS 5 32 HT_ ?_;refine pS 6 33 HT_ ?_;refine pS 7 34 HT_ ?_;refine pS 8 35 HT_ ?_;refine lU 9 none HT_ fun K hK=>?_
     refine skip_ (w1:=?_) (by rfl) rfl ?_ ?_
     rotate_left
     ·go_simp
      rfl
     refine hK.out _ _ ?_;clear hK K;refine pS 10 7 HT_ ?_;refine done_ (done_of HT_.out (by kernel_rfl)) ?_
     try go_wp2
     go_roundg k1
     case measure=>have:=g9.out;omega
     case rel=>exact⟨(l7),(Int.tmod (wrap64 ((wrap64 (g5 * 1000000000))+(rd l0 g6))) a8),(wrap64 (g6 - 1)),sD,sD,H',⟨by have:=g9.out;omega⟩,⟨rX p5.out⟩,⟨pB⟩⟩
    ·rw[if_neg c7] at H;have j6:decide (0≤g6)=false:=decide_eq_false c7;clear c7;obtain⟨r5,r6,H⟩:=bT H;(try dsimp only at H);obtain⟨r7,r8⟩:∃ y_:List Int,y_=(([g5]:List Int)):=⟨_,rfl⟩;replace H:((Azp.f k1 r7).bind fun r9=>(some (r5,r9)))=some (b4,b5):=yE r8 H
     have t6:=aM r8;clear r8;replace H:=bS H;obtain⟨r9,t7,H⟩:=H;replace H:(some (r5,r9))=some (b4,b5):=H;have t8:=aM t7;clear t7;obtain⟨rfl,rfl⟩:=q2 H;obtain⟨z1,z2,rfl⟩:=Kd.R_slice j5.out;go_wp2_with (first|((with_reducible refine gc 72 rfl ?_);refine gC 72 (some 37) Try.func72 #[.slice z1 g4.length z2] ?_;(with_reducible refine(Azp.calls k1 (fun k_=>some k_=(.slice z1 g4.length z2:Value).ownBlock) (.slice z1 g4.length z2) g4 r5 w _ ?_ ?_ r6.out).mono ?_);exact pB;exact Kd.R_tight rfl j5.out;rintro e z6 ⟨z7,rfl,z8,hb,hkp⟩;refine⟨_,rfl,?_⟩;have B0:=aM (Kd.R_mono (ok':=fun k_=>True) z8 (fun k_ hk_=>trivial));replace HB:=aM (hb);clear j5;clear hb hkp z8)|((with_reducible refine gd 39 rfl ?_);refine iL 39 [g5] ?_;intro B5 B6 B8 hb;replace B8:=rY t6 B8;have B9:=rL (rn B8 B0);replace B0:=rE B0 B8 hb;replace HB:=bB hb;clear hb B8;obtain⟨C0,C1,rfl⟩:=Kd.R_slice B9.out)|((with_reducible refine gc 72 rfl ?_);refine gC 72 (some 40) Try.func72 #[.slice C0 r7.length C1] ?_;(with_reducible refine(Azp.calls k1 (fun k_=>some k_=(.slice C0 r7.length C1:Value).ownBlock) (.slice C0 r7.length C1) r7 r9 w _ ?_ ?_ t8.out).mono ?_);exact pB;exact Kd.R_tight rfl B9.out;rintro e C2 ⟨C3,rfl,z8,hb,hkp⟩;refine⟨_,rfl,?_⟩;have C4:=aM (Kd.R_mono (ok':=fun k_=>some k_≠(z7:Value).ownBlock) z8 (fun k_ hk_=>Or.elim hk_ (fun hs_=>fun e_=>(((B0.out).1 k_ e_.symm).2) hs_) (fun hn_=>(Kd.fresh' (Kd.R_lt (rX B0.out)) k_ hn_))));replace B0:=aM (Kd.R_mono (ok':=fun k_=>some k_≠(C3:Value).ownBlock) (Kd.R_keptB (B0.out) hkp (fun k_ hk_ hs_=>(hk_.2) hs_)) (fun k_ hk_=>fun e_=>Or.elim (z8.1 k_ e_.symm) (fun hs_=>hk_.2.1 hs_) (fun hn_=>Nat.not_le.2 hk_.2.2 hn_)));replace HB:=aM (hb);clear B9;clear hb hkp z8))
     go_ret2
     exact⟨_,_,eW,rX B0.out,rX C4.out,pB⟩
 ·rw[if_neg c3] at H;exact absurd H (by simp)


def Czy.l0:Nat→List Int→Int→List Int→Int→Int→Int→Option (List Int)
 | 0,_,_,_,_,_,_=>none
 | k+1,x0,x1,x5,x6,x14,x15=>if x15 < x14 then(if 0≤x15 then(if x15 < (x0.length:Int) then(if x15 < (x5.length:Int) then(Czy.l0 k x0 x1 (x5.set (x15:Int).toNat (Int.tmod (wrap64 ((wrap64 ((rd x0 x15) * x1))+x6)) 1000000000)) (wrap64 (Int.tdiv (wrap64 ((wrap64 ((rd x0 x15) * x1))+x6)) 1000000000)) x14 (wrap64 (x15+1))) else(none)) else(none)) else(none)) else(if 0≤(x0.length:Int) then(if(x0.length:Int) < (x5.length:Int) then(some (x5.set ((x0.length:Int):Int).toNat x6)) else(none)) else(none))
def Czy.f (k:Nat) (l0:List Int) (a1:Int):Option (List Int):=if 0≤(wrap64 ((l0.length:Int)+1)) then(if(wrap64 ((l0.length:Int)+1):Int).toNat≤35184372088832 then(Czy.l0 k l0 a1 (List.replicate (wrap64 ((l0.length:Int)+1):Int).toNat 0) 0 (l0.length:Int) 0) else(none)) else(none)
theorem Czy.mono_l:∀ k,(∀ a6 a7 a8 b4 b5 b6,LeO (Czy.l0 k a6 a7 a8 b4 b5 b6) (Czy.l0 (k+1) a6 a7 a8 b4 b5 b6))
 | 0=>fun _ _ _ _ _ _ r h=>by simp [Czy.l0] at h
 | k+1=>by
  have ih0:=Czy.mono_l k
  ·intro a6 a7 a8 b4 b5 b6;unfold Czy.l0;exact mM
theorem Czy.mono:∀ a6 a7 k,LeO (Czy.f k a6 a7) (Czy.f (k+1) a6 a7):=by
 intro a6 a7 k;have ih0:=Czy.mono_l k;unfold Czy.f;exact mM
theorem Czy.calls (k:Nat) (a6:Option Addr) (a7:Nat) (l0:List Int) (a8:Int) (r:List Int) (w:World) (b4:Kd.C (Kd.int .i64) w a6 l0.length l0) (b5:l0.length≤a7) (h:Czy.f k l0 a8=some r) :
  Calls Try.prog 99 #[.slice a6 l0.length a7,.int .i64 a8] w fun e w'=>∃ v0_:Value,e=.returned (v0_)∧Kd.R (Kd.int .i64) 3 w' w.heap.size (fun _=>True) v0_ r∧Below w.heap.size w w':=by
 have b6:=aM b4;have b7:=aM b5;clear b4 b5;have HB:=aM (Below.refl w.heap.size w);have H:(if 0≤(wrap64 ((l0.length:Int)+1)) then(if(wrap64 ((l0.length:Int)+1):Int).toNat≤35184372088832 then(Czy.l0 k l0 a8 (List.replicate (wrap64 ((l0.length:Int)+1):Int).toNat 0) 0 (l0.length:Int) 0) else(none)) else(none))=some r:=h
 clear h;obtain⟨b8,b9⟩:∃ j_:Int,(wrap64 ((l0.length:Int)+1))=j_:=⟨_,rfl⟩;replace H:(if 0≤(b8) then(if(b8:Int).toNat≤35184372088832 then(Czy.l0 k l0 a8 (List.replicate (b8:Int).toNat 0) 0 (l0.length:Int) 0) else(none)) else(none))=some r:=by first|(rw[b9] at H;exact H)|(simp only[b9] at H ⊢;exact H)
 have d0:(IntKind.i64.wrap ((l0.length:Int)+1))=b8:=(i64_w _).trans b9;by_cases c4:0≤(b8)
 ·rw[if_pos c4] at H;have d6:=eq_true c4;have d7:=dE c4;clear c4;obtain⟨c5,H⟩:=iO H;have d8:=eq_true c5;have d9:decide ((b8:Int).toNat≤35184372088832)=true:=dE c5;clear c5;obtain⟨e6,e7⟩:∃ y_:List Int,y_=(List.replicate (b8:Int).toNat 0):=⟨_,rfl⟩;replace H:(Czy.l0 k l0 a8 e6 0 (l0.length:Int) 0)=some r:=yE e7 H
  have e8:=aM e7;clear e7;have H':=aM H;clear H;go_enter Try.func99,Try.ntmps99
  go_wp2_with (first|((with_reducible refine gate_dst (N:=12) rfl ?_);refine Kd.R_make (Kd.int .i64) _ 3 rfl (N:=12) rfl 22 _ _ rfl b8 rfl rfl Try.underlying22 (.int .i64 0) 8 info3 rfl (by decide) (by omega) 0 (ok:=fun _=>True) (okp:=fun _=>True) rfl (fun _ hk=>hk) trivial (oE aS) (Nat.le_trans (Nat.mul_le_mul_right _ (oE aS:b8.toNat≤35184372088832)) (by omega)) (Below.refl _ _) (Nat.le_refl _) ?_;intro e9 f3 f4 hb hg_ hnew_;clear hg_ hnew_;replace f4:=rY e8 f4;have f6:=rL f4;replace HB:=bB hb;clear hb f4))
  go_loopg [6,15] k (fun kq f9 g4 w'=>∃ (g5:List Int) (g6:Int) (g7:Int),f9=.int .i64 g6∧g4=.int .i64 g7∧Aside0 (Czy.l0 kq l0 a8 g5 g6 (l0.length:Int) g7=some r)∧Aside0 (kq≤k)∧Aside0 (Kd.R (Kd.int .i64) 3 w' w.heap.size (fun _=>True) e9 g5)∧Aside0 (Below w.heap.size w w'))
  case atStart=>exact⟨(e6),(0),(0),sD,sD,H',⟨Nat.le_refl _⟩,⟨rX f6.out⟩,⟨pB⟩⟩
  case round =>
   clear H';try clear g8
   try clear c4
   try clear d6
   try clear d7
   try clear c5
   try clear d8
   try clear d9
   try clear g9
   obtain⟨g5,g6,g7,rfl,rfl,HA,j5,j6,HB⟩:=hrel;cases gk with
   | zero=>exact absurd HA.out (by simp [Czy.l0])
   | succ k1 =>
    have H:=HA.out;clear HA;simp only[Czy.l0] at H;by_cases c8:g7 < (l0.length:Int)
    ·rw[if_pos c8] at H;have j7:=dE c8;clear c8;obtain⟨j8,H⟩:=iN H;obtain⟨j9,H⟩:=iN H;obtain⟨l5,H⟩:=iN H;obtain⟨l6,l7⟩:∃ y_:List Int,y_=(g5.set (g7:Int).toNat (Int.tmod (wrap64 ((wrap64 ((rd l0 g7) * a8))+g6)) 1000000000)):=⟨_,rfl⟩;replace H:(Czy.l0 k1 l0 a8 l6 (wrap64 (Int.tdiv (wrap64 ((wrap64 ((rd l0 g7) * a8))+g6)) 1000000000)) (l0.length:Int) (wrap64 (g7+1)))=some r:=yE l7 H
     have l8:=aM l7;clear l7;have H':=aM H;clear H;obtain⟨l9,m0,m2,m3,m4⟩:=aI b6.out g7;cases m0
     replace m2:=hB HB m2;have m5:0≤(g7:Int):=oE aS
     have m6:(g7:Int) < ((g5.length:Int):Int):=oE aS
     obtain⟨m7,m8,m9,n0,n6,n7,n8⟩:=Kd.R_form j6.out (by omega)
     (first|cases m9|(injection m9 with ea_ en_ ec_;(first|subst ea_|(injection ea_ with ea_;subst ea_));subst ec_;clear en_))
     have n9:=aM n0;have o0:=aM n8;clear n0 n6 n8;obtain⟨o8,o9⟩:=Kd.R_celln 0 j6.out (g7:Int) m5 m6;replace m5:=eq_true m5;replace m6:=eq_true m6;have p0:=Kd.R_putg j6.out (g7:Int) (Int.tmod (wrap64 ((wrap64 ((rd l0 g7) * a8))+g6)) 1000000000);go_wp2_with (first|((with_reducible refine gate_store (t:=3) (p:=32) rfl ?_);refine store_event (t:=3) (p:=32) (v:=?vo_w14) (w1:=(wr.setCell ⟨m7,(g7:Int).toNat,none⟩ (.int .i64 (Int.tmod (wrap64 ((wrap64 ((rd l0 g7) * a8))+g6)) 1000000000)))) ?hg ?ho ?hn ?hr ?_;(case ho=>rfl);(case hg=>rfl);(case hn=>rfl);(case hr=>first|(go_simp;done)|(go_simp;rfl));intro p4 hw;have hg:wr.grownBy p4 (some m7):=(by rw[hw];exact p0.2);have hp_:Kd.R (Kd.int .i64) 3 p4 w.heap.size (fun _=>True) (.slice (some ⟨m7,0,none⟩) g5.length m8) l6:=(by rw[hw,l8.out];exact p0.1);clear p0;replace j6:=aM (hp_);replace HB:=aM ((by rw[hw];exact below_set (HB.out) n9.out:Below w.heap.size w p4));clear hg hw hp_))
     go_roundg k1
     case measure=>have:=j5.out;omega
     case rel=>exact⟨(l6),(wrap64 (Int.tdiv (wrap64 ((wrap64 ((rd l0 g7) * a8))+g6)) 1000000000)),(wrap64 (g7+1)),sD,sD,H',⟨by have:=j5.out;omega⟩,⟨rX j6.out⟩,⟨pB⟩⟩
    ·rw[if_neg c8] at H;have j7:decide (g7 < (l0.length:Int))=false:=decide_eq_false c8;clear c8;obtain⟨p5,H⟩:=iO H;have p9:decide (0≤(l0.length:Int))=true:=dE p5;have r5:decide (0≤l0.length)=true:=dE (by omega)
     clear p5;obtain⟨r6,H⟩:=iO H;have r7:decide ((l0.length:Int) < (g5.length:Int))=true:=dE r6;have r8:decide (l0.length < g5.length)=true:=dE (Int.ofNat_lt.mp r6);clear r6;obtain⟨r9,t6⟩:∃ y_:List Int,y_=(g5.set ((l0.length:Int):Int).toNat g6):=⟨_,rfl⟩;replace H:(some r9)=some r:=yE t6 H
     have t7:=aM t6;clear t6;obtain rfl:=Option.some.inj H;have t8:0≤((l0.length:Int):Int):=oE aS
     have z1:((l0.length:Int):Int) < ((g5.length:Int):Int):=oE aS
     obtain⟨z2,z6,z7,z8,B0,B5,B6⟩:=Kd.R_form j6.out (by omega)
     (first|cases z7|(injection z7 with ea_ en_ ec_;(first|subst ea_|(injection ea_ with ea_;subst ea_));subst ec_;clear en_))
     have B8:=aM z8;have B9:=aM B6;clear z8 B0 B6;obtain⟨C0,C1⟩:=Kd.R_celln 0 j6.out ((l0.length:Int):Int) t8 z1;(try simp only[Int.toNat_natCast] at C0)
     (try simp only[Int.toNat_natCast] at C1)
     replace t8:=eq_true t8;replace z1:=eq_true z1;have C2:=Kd.R_putg j6.out ((l0.length:Int):Int) g6;go_wp2_with (first|((with_reducible refine gate_store (t:=3) (p:=38) rfl ?_);refine store_event (t:=3) (p:=38) (v:=?vo_w19) (w1:=(wr.setCell ⟨z2,((l0.length:Int):Int).toNat,none⟩ (.int .i64 g6))) ?hg ?ho ?hn ?hr ?_;(case ho=>rfl);(case hg=>rfl);(case hn=>rfl);(case hr=>first|(go_simp;done)|(go_simp;rfl));intro C3 hw;have hg:wr.grownBy C3 (some z2):=(by rw[hw];exact C2.2);have hp_:Kd.R (Kd.int .i64) 3 C3 w.heap.size (fun _=>True) (.slice (some ⟨z2,0,none⟩) g5.length z6) r9:=(by rw[hw,t7.out];exact C2.1);clear C2;replace j6:=aM (hp_);replace HB:=aM ((by rw[hw];exact below_set (HB.out) B8.out:Below w.heap.size w C3));clear hg hw hp_))
     go_ret
     exact⟨_,by first|rfl|(simp [errW_none,errW_some] <;> rfl)|(simp only[← b9];first|rfl|(simp [errW_none,errW_some] <;> rfl))|(simp [*,errW_none,errW_some] <;> rfl),rX j6.out,pB⟩
 ·rw[if_neg c4] at H;exact absurd H (by simp)

end Go.Proofs.Ytokkiljkgejnhaa.Print
