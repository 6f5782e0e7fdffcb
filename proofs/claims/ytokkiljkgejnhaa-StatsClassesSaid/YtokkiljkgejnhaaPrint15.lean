import Derived.Test.YtokkiljkgejnhaaPrint0
namespace Go.Proofs.Ytokkiljkgejnhaa.Print
open Go.RowKit Go.Proofs.YtokkiljkgejnhaaW.PrintWords Go.Proofs.YtokkiljkgejnhaaW.PrintLast Go.Proofs.YtokkiljkgejnhaaW.PrintMore
attribute [local go_sem] max2_int min2_int max_two min_two max_three min_three max_four min_four
set_option linter.unusedVariables false
set_option maxRecDepth 100000
set_option maxHeartbeats 8000000
set_option linter.unusedSimpArgs false

def Bzm.l0:Nat→List Int→List Int→Int→Option (Int)
 | 0,_,_,_=>none
 | k+1,x0,x1,x5=>if x5≥0 then(if 0≤x5 then(if x5 < (x0.length:Int) then(if x5 < (x1.length:Int) then(if(rd x0 x5) < (rd x1 x5) then(some (-1)) else(if(rd x0 x5) > (rd x1 x5) then(some 1) else(Bzm.l0 k x0 x1 (wrap64 (x5 - 1))))) else(none)) else(none)) else(none)) else(some 0)
def Bzm.f (k:Nat) (l0:List Int) (l1:List Int):Option (Int):=if(l0.length:Int)=(l1.length:Int) then(Bzm.l0 k l0 l1 (wrap64 ((l0.length:Int) - 1))) else(if(l0.length:Int) < (l1.length:Int) then(some (-1)) else(some 1))
theorem Bzm.mono_l:∀ k,(∀ y0 y1 y2,LeO (Bzm.l0 k y0 y1 y2) (Bzm.l0 (k+1) y0 y1 y2))
 | 0=>fun _ _ _ r h=>by simp [Bzm.l0] at h
 | k+1=>by
  have ih0:=Bzm.mono_l k
  ·intro y0 y1 y2;unfold Bzm.l0;with_reducible repeat' first|exact ih0 _ _ _|exact LeO.refl _|exact LeO.none _|refine LeO.ite ?_ ?_|refine LeO.bind ?_ (fun _=>?_)
theorem Bzm.mono:∀ a0 a1 k,LeO (Bzm.f k a0 a1) (Bzm.f (k+1) a0 a1):=by
 intro a0 a1 k;have ih0:=Bzm.mono_l k;unfold Bzm.f;with_reducible repeat' first|exact ih0 _ _ _|exact LeO.refl _|exact LeO.none _|refine LeO.ite ?_ ?_|refine LeO.bind ?_ (fun _=>?_)
theorem Bzm.calls (k:Nat) (A0:Option Addr) (c0:Nat) (l0:List Int) (A1:Option Addr) (c1:Nat) (l1:List Int) (r:Int) (w:World) (hr0:Kd.C (Kd.int .i64) w A0 l0.length l0) (hc0:l0.length≤c0) (hr1:Kd.C (Kd.int .i64) w A1 l1.length l1) (hc1:l1.length≤c1) (h:Bzm.f k l0 l1=some r) :
  Calls Try.prog 71 #[.slice A0 l0.length c0,.slice A1 l1.length c1] w fun e w'=>e=.returned (.int .i64 r)∧Drawn0 w w':=by
 have HR0:=aM hr0;have HC0:=aM hc0;clear hr0 hc0;have HR1:=aM hr1;have HC1:=aM hc1;clear hr1 hc1;have H:(if(l0.length:Int)=(l1.length:Int) then(Bzm.l0 k l0 l1 (wrap64 ((l0.length:Int) - 1))) else(if(l0.length:Int) < (l1.length:Int) then(some (-1)) else(some 1)))=some r:=h
 clear h;by_cases c3:(l0.length:Int)=(l1.length:Int)
 ·rw[if_pos c3] at H;have c3b0:((l0.length:Int) == (l1.length:Int))=true:=beq_iff_eq.mpr c3;have c3b1:((l0.length:Int) != (l1.length:Int))=false:=bne_eq_false_iff_eq.mpr c3;have c3b2:(l0.length == l1.length)=true:=by first|simpa using c3|(simp at c3 ⊢;omega)
  clear c3;have H':=aM H;clear H;go_enter Try.func71,Try.ntmps71
  go_wp2
  repeat(go_quiet (fail);try go_wp2)
  go_loopg [5] k (fun kq v5 w'=>∃ (x5_1:Int),v5=.int .i64 x5_1∧Aside0 (Bzm.l0 kq l0 l1 x5_1=some r)∧Aside0 (kq≤k)∧Drawn0 w w')
  case atStart=>exact⟨(wrap64 ((l0.length:Int) - 1)),sD,H',⟨Nat.le_refl _⟩,by repeat(first|exact Drawn0.refl _|apply Drawn0.step)⟩
  case round =>
   clear H';try clear c1
   try clear p2
   try clear c3
   try clear c3b0
   try clear c3b1
   try clear c3b2
   obtain⟨x5_1,rfl,HA,HK1,⟨m1,rfl⟩⟩:=hrel;cases gk with
   | zero=>exact absurd HA.out (by simp [Bzm.l0])
   | succ k1 =>
    have H:=HA.out;clear HA;simp only[Bzm.l0] at H;by_cases c4:x5_1≥0
    ·rw[if_pos c4] at H;have c4b0:decide (0≤x5_1)=true:=dE c4;clear c4;by_cases c5:0≤x5_1
     ·rw[if_pos c5] at H;have c5b0:decide (0≤x5_1)=true:=dE c5;clear c5;by_cases c6:x5_1 < (l0.length:Int)
      ·rw[if_pos c6] at H;have c6b0:decide (x5_1 < (l0.length:Int))=true:=dE c6;clear c6;by_cases c7:x5_1 < (l1.length:Int)
       ·rw[if_pos c7] at H;have c7b0:decide (x5_1 < (l1.length:Int))=true:=dE c7;clear c7;by_cases c8:(rd l0 x5_1) < (rd l1 x5_1)
        ·rw[if_pos c8] at H;have c8b0:decide ((rd l0 x5_1) < (rd l1 x5_1))=true:=dE c8;clear c8;obtain rfl:=Option.some.inj H;have p271:0≤(x5_1:Int):=oE aS
         have q271:x5_1 < (l0.length:Int):=oE aS
         obtain⟨ad271,e271,hx271_0⟩:=Kd.at_int HR0.out x5_1 p271 q271;cases e271
         replace p271:=eq_true p271;replace q271:=eq_true q271;have p272:0≤(x5_1:Int):=oE aS
         have q272:x5_1 < (l1.length:Int):=oE aS
         obtain⟨ad272,e272,hx272_0⟩:=Kd.at_int HR1.out x5_1 p272 q272;cases e272
         replace p272:=eq_true p272;replace q272:=eq_true q272;go_wp2
         repeat(go_quiet (fail);try go_wp2)
         go_ret
         exact⟨by first|rfl|(simp;done)|(simp [*];done),by repeat(first|exact Drawn0.refl _|apply Drawn0.step)⟩
        ·rw[if_neg c8] at H;have c8b0:decide ((rd l0 x5_1) < (rd l1 x5_1))=false:=decide_eq_false c8;clear c8;by_cases c9:(rd l0 x5_1) > (rd l1 x5_1)
         ·rw[if_pos c9] at H;have c9b0:decide ((rd l1 x5_1) < (rd l0 x5_1))=true:=dE c9;clear c9;obtain rfl:=Option.some.inj H;have p271:0≤(x5_1:Int):=oE aS
          have q271:x5_1 < (l0.length:Int):=oE aS
          obtain⟨ad271,e271,hx271_0⟩:=Kd.at_int HR0.out x5_1 p271 q271;cases e271
          replace p271:=eq_true p271;replace q271:=eq_true q271;have p272:0≤(x5_1:Int):=oE aS
          have q272:x5_1 < (l1.length:Int):=oE aS
          obtain⟨ad272,e272,hx272_0⟩:=Kd.at_int HR1.out x5_1 p272 q272;cases e272
          replace p272:=eq_true p272;replace q272:=eq_true q272;have p273:0≤(x5_1:Int):=oE aS
          have q273:x5_1 < (l0.length:Int):=oE aS
          obtain⟨ad273,e273,hx273_0⟩:=Kd.at_int HR0.out x5_1 p273 q273;obtain rfl:ad271=ad273:=(by injection e273)
          replace p273:=eq_true p273;replace q273:=eq_true q273;have p274:0≤(x5_1:Int):=oE aS
          have q274:x5_1 < (l1.length:Int):=oE aS
          obtain⟨ad274,e274,hx274_0⟩:=Kd.at_int HR1.out x5_1 p274 q274;obtain rfl:ad272=ad274:=(by injection e274)
          replace p274:=eq_true p274;replace q274:=eq_true q274;go_wp2
          repeat(go_quiet (fail);try go_wp2)
          go_ret
          exact⟨by first|rfl|(simp;done)|(simp [*];done),by repeat(first|exact Drawn0.refl _|apply Drawn0.step)⟩
         ·rw[if_neg c9] at H;have c9b0:decide ((rd l1 x5_1) < (rd l0 x5_1))=false:=decide_eq_false c9;clear c9;have H':=aM H;clear H;have p271:0≤(x5_1:Int):=oE aS
          have q271:x5_1 < (l0.length:Int):=oE aS
          obtain⟨ad271,e271,hx271_0⟩:=Kd.at_int HR0.out x5_1 p271 q271;cases e271
          replace p271:=eq_true p271;replace q271:=eq_true q271;have p272:0≤(x5_1:Int):=oE aS
          have q272:x5_1 < (l1.length:Int):=oE aS
          obtain⟨ad272,e272,hx272_0⟩:=Kd.at_int HR1.out x5_1 p272 q272;cases e272
          replace p272:=eq_true p272;replace q272:=eq_true q272;have p273:0≤(x5_1:Int):=oE aS
          have q273:x5_1 < (l0.length:Int):=oE aS
          obtain⟨ad273,e273,hx273_0⟩:=Kd.at_int HR0.out x5_1 p273 q273;obtain rfl:ad271=ad273:=(by injection e273)
          replace p273:=eq_true p273;replace q273:=eq_true q273;have p274:0≤(x5_1:Int):=oE aS
          have q274:x5_1 < (l1.length:Int):=oE aS
          obtain⟨ad274,e274,hx274_0⟩:=Kd.at_int HR1.out x5_1 p274 q274;obtain rfl:ad272=ad274:=(by injection e274)
          replace p274:=eq_true p274;replace q274:=eq_true q274;go_wp2
          repeat(go_quiet (fail);try go_wp2)
          go_roundg k1
          case measure=>have:=HK1.out;omega
          case rel=>exact⟨(wrap64 (x5_1 - 1)),sD,H',⟨by have:=HK1.out;omega⟩,by repeat(first|exact Drawn0.refl _|apply Drawn0.step)⟩
       ·rw[if_neg c7] at H;exact absurd H (by simp)
      ·rw[if_neg c6] at H;exact absurd H (by simp)
     ·rw[if_neg c5] at H;exact absurd H (by simp)
    ·rw[if_neg c4] at H;have c4b0:decide (0≤x5_1)=false:=decide_eq_false c4;clear c4;obtain rfl:=Option.some.inj H;go_wp2
     repeat(go_quiet (fail);try go_wp2)
     go_ret
     exact⟨by first|rfl|(simp;done)|(simp [*];done),by repeat(first|exact Drawn0.refl _|apply Drawn0.step)⟩
 ·rw[if_neg c3] at H;have c3b0:((l0.length:Int) == (l1.length:Int))=false:=beq_eq_false_iff_ne.mpr c3;have c3b1:((l0.length:Int) != (l1.length:Int))=true:=bne_iff_ne.mpr c3;have c3b2:(l0.length == l1.length)=false:=by first|simpa using c3|(simp at c3 ⊢;omega)
  by_cases c10:(l0.length:Int) < (l1.length:Int)
  ·rw[if_pos c10] at H;have c10b0:decide ((l0.length:Int) < (l1.length:Int))=true:=dE c10;have c10b1:decide (l0.length < l1.length)=true:=dE (Int.ofNat_lt.mp c10);clear c10;obtain rfl:=Option.some.inj H;go_enter Try.func71,Try.ntmps71
   go_wp2
   repeat(go_quiet (fail);try go_wp2)
   go_ret
   exact⟨by first|rfl|(simp;done)|(simp [*];done),by repeat(first|exact Drawn0.refl _|apply Drawn0.step)⟩
  ·rw[if_neg c10] at H;have c10b0:decide ((l0.length:Int) < (l1.length:Int))=false:=decide_eq_false c10;have c10b1:decide (l0.length < l1.length)=false:=decide_eq_false (fun h=>c10 (Int.ofNat_lt.mpr h))
   clear c10;obtain rfl:=Option.some.inj H;go_enter Try.func71,Try.ntmps71
   go_wp2
   repeat(go_quiet (fail);try go_wp2)
   go_ret
   exact⟨by first|rfl|(simp;done)|(simp [*];done),by repeat(first|exact Drawn0.refl _|apply Drawn0.step)⟩

def Bzw.l0:Nat→List Int→Int→Option (List Int)
 | 0,_,_=>none
 | k+1,x0,x3=>if x3 > 0 then(if 0≤(wrap64 (x3 - 1)) then(if(wrap64 (x3 - 1)) < (x0.length:Int) then(if(rd x0 (wrap64 (x3 - 1)))=0 then(Bzw.l0 k x0 (wrap64 (x3 - 1))) else(if 0≤x3 then(if x3≤(x0.length:Int) then(some (x0.take (x3:Int).toNat)) else(none)) else(none))) else(none)) else(none)) else(if 0≤x3 then(if x3≤(x0.length:Int) then(some (x0.take (x3:Int).toNat)) else(none)) else(none))
def Bzw.f (k:Nat) (l0:List Int):Option (List Int):=Bzw.l0 k l0 (l0.length:Int)
theorem Bzw.mono_l:∀ k,(∀ y0 y1,LeO (Bzw.l0 k y0 y1) (Bzw.l0 (k+1) y0 y1))
 | 0=>fun _ _ r h=>by simp [Bzw.l0] at h
 | k+1=>by
  have ih0:=Bzw.mono_l k
  ·intro y0 y1;unfold Bzw.l0;with_reducible repeat' first|exact ih0 _ _|exact LeO.refl _|exact LeO.none _|refine LeO.ite ?_ ?_|refine LeO.bind ?_ (fun _=>?_)
theorem Bzw.mono:∀ a0 k,LeO (Bzw.f k a0) (Bzw.f (k+1) a0):=by
 intro a0 k;have ih0:=Bzw.mono_l k;unfold Bzw.f;with_reducible repeat' first|exact ih0 _ _|exact LeO.refl _|exact LeO.none _|refine LeO.ite ?_ ?_|refine LeO.bind ?_ (fun _=>?_)
theorem Bzw.calls (k:Nat) (P0_:Nat→Prop) (u9000_:Value) (l0:List Int) (r:List Int) (w0 w:World) (hB:Below w0.heap.size w0 w) (ho0:Kd.R (Kd.int .i64) 3 w w0.heap.size P0_ u9000_ l0) (h:Bzw.f k l0=some r) :
  Calls Try.prog 72 #[u9000_] w fun e w'=>∃ v0_:Value,e=.returned (v0_)∧Kd.R (Kd.int .i64) 3 w' w0.heap.size (fun k_=>(P0_ k_∨w.heap.size≤k_)) v0_ r∧Below w0.heap.size w0 w'∧Kept w w' (fun k_=>P0_ k_):=by
 have HO0:=aM (show Kd.R (Kd.int .i64) 3 w w0.heap.size (fun k_=>(P0_ k_∨w.heap.size≤k_)) u9000_ l0 from Kd.R_mono ho0 (fun k_ hk=>(.inl hk)))
 have HK:=aM (Kept.refl w (fun k_=>P0_ k_))
 have HW0:=aM hB.size;have HB:=aM hB;clear hB;have H:(Bzw.l0 k l0 (l0.length:Int))=some r:=h;clear h;have H':=aM H;clear H;obtain⟨Ao2,co2,eo2⟩:=Kd.R_slice HO0.out;subst eo2;go_enter Try.func72,Try.ntmps72
 go_wp2
 go_loopg [3] k (fun kq v3 w'=>∃ (x3_1:Int),v3=.int .i64 x3_1∧Aside0 (Bzw.l0 kq l0 x3_1=some r)∧Aside0 (kq≤k)∧Aside0 (Kd.R (Kd.int .i64) 3 w' w0.heap.size (fun k_=>(P0_ k_∨w.heap.size≤k_)) (.slice Ao2 l0.length co2) l0)∧Aside0 (Kept w w' (fun k_=>P0_ k_))∧Aside0 (Below w0.heap.size w0 w'))
 case atStart=>exact⟨((l0.length:Int)),sD,H',⟨Nat.le_refl _⟩,⟨rX HO0.out⟩,⟨kK HK⟩,⟨pB⟩⟩
 case round =>
  clear H';try clear p2
  obtain⟨x3_1,rfl,HA,HK1,HO_0,HK,HB⟩:=hrel;cases gk with
  | zero=>exact absurd HA.out (by simp [Bzw.l0])
  | succ k1 =>
   have H:=HA.out;clear HA;simp only[Bzw.l0] at H;by_cases c3:x3_1 > 0
   ·rw[if_pos c3] at H;have c3b0:decide (0 < x3_1)=true:=dE c3;clear c3;obtain⟨ji4,hji4⟩:∃ j_:Int,(wrap64 (x3_1 - 1))=j_:=⟨_,rfl⟩;replace H:(if 0≤(ji4) then(if(ji4) < (l0.length:Int) then(if(rd l0 (ji4))=0 then(Bzw.l0 k1 l0 ji4) else(if 0≤x3_1 then(if x3_1≤(l0.length:Int) then(some (l0.take (x3_1:Int).toNat)) else(none)) else(none))) else(none)) else(none))=some r:=by first|(rw[hji4] at H;exact H)|(simp only[hji4] at H ⊢;exact H)
    have hji4w:(IntKind.i64.wrap (x3_1 - 1))=ji4:=(i64_w _).trans hji4;by_cases c5:0≤(ji4)
    ·rw[if_pos c5] at H;have c5b0:decide (0≤(ji4))=true:=dE c5;clear c5;by_cases c6:(ji4) < (l0.length:Int)
     ·rw[if_pos c6] at H;have c6b0:decide ((ji4) < (l0.length:Int))=true:=dE c6;clear c6;by_cases c7:(rd l0 (ji4))=0
      ·rw[if_pos c7] at H;have c7b0:((rd l0 (ji4)) == 0)=true:=beq_iff_eq.mpr c7;have c7b1:((rd l0 (ji4)) != 0)=false:=bne_eq_false_iff_eq.mpr c7;clear c7;have H':=aM H;clear H;have p275:0≤((ji4):Int):=oE aS
       have q275:(ji4) < (l0.length:Int):=oE aS
       obtain⟨ad275,e275,hx275_0⟩:=Kd.at_int (Kd.R_reads' HO_0.out).2.2 (ji4) p275 q275;cases e275
       replace p275:=eq_true p275;replace q275:=eq_true q275;go_wp2
       go_roundg k1
       case measure=>have:=HK1.out;omega
       case rel=>exact⟨(ji4),(by first|rfl|(simp;done)|(simp only[← hji4] <;> (first|rfl|simp))|(simp [*];done)),H',⟨by have:=HK1.out;omega⟩,⟨rX HO_0.out⟩,⟨kK HK⟩,⟨pB⟩⟩
      ·rw[if_neg c7] at H;have c7b0:((rd l0 (ji4)) == 0)=false:=beq_eq_false_iff_ne.mpr c7;have c7b1:((rd l0 (ji4)) != 0)=true:=bne_iff_ne.mpr c7;by_cases c8:0≤x3_1
       ·rw[if_pos c8] at H;have c8b0:=eq_true c8;have c8b1:decide (0≤x3_1)=true:=dE c8;clear c8;by_cases c9:x3_1≤(l0.length:Int)
        ·rw[if_pos c9] at H;have c9b0:=eq_true c9;have c9b1:decide (x3_1≤(l0.length:Int))=true:=dE c9;clear c9;obtain⟨y276,hy276⟩:∃ y_:List Int,y_=(l0.take (x3_1:Int).toNat):=⟨_,rfl⟩;replace H:(some y276)=some r:=by first|(rw[hy276];with_reducible exact H)|(have H2_:=(Option.bind_some _ _).symm.trans H;rw[hy276];with_reducible exact H2_)|(have H2_:=(Option.bind_some _ _).symm.trans H;with_reducible exact H2_)|with_reducible exact H|(rw[hy276];exact H)|exact H
         have Ny276:=aM hy276;clear hy276;obtain rfl:=Option.some.inj H;have p275:0≤((ji4):Int):=oE aS
         have q275:(ji4) < (l0.length:Int):=oE aS
         obtain⟨ad275,e275,hx275_0⟩:=Kd.at_int (Kd.R_reads' HO_0.out).2.2 (ji4) p275 q275;cases e275
         replace p275:=eq_true p275;replace q275:=eq_true q275;have q10:(x3_1:Int)≤((l0.length:Int):Int):=oE aS
         obtain⟨i010,hi010,_,hsz10,_⟩:=info_parts info3;have hcut10:=cut_to (P:=Try.prog) 22 3 .i64 Try.underlying22 hi010 (some ad275) l0.length co2 x3_1 (oE aS) q10 (Kd.R_reads' HO_0.out).2.1
         have hr10:=Kd.R_take (m:=(x3_1:Int).toNat) HO_0.out (by omega)
         have hy10:y276.length=(x3_1:Int).toNat:=(by rw[Ny276.out,List.length_take];omega)
         rw[← Ny276.out] at hr10;rw[← hy10] at hr10 hcut10;clear hy10 hi010 hsz10 HO_0;have HO278:=aM hr10;clear hr10;replace q10:=eq_true q10;go_wp2
         go_ret
         exact⟨_,by first|rfl|(simp [errW_none,errW_some] <;> rfl)|(simp only[← hji4];first|rfl|(simp [errW_none,errW_some] <;> rfl))|(simp [*,errW_none,errW_some] <;> rfl),rX HO278.out,pB,kK HK⟩
        ·rw[if_neg c9] at H;exact absurd H (by simp)
       ·rw[if_neg c8] at H;exact absurd H (by simp)
     ·rw[if_neg c6] at H;exact absurd H (by simp)
    ·rw[if_neg c5] at H;exact absurd H (by simp)
   ·rw[if_neg c3] at H;have c3b0:decide (0 < x3_1)=false:=decide_eq_false c3;clear c3;by_cases c11:0≤x3_1
    ·rw[if_pos c11] at H;have c11b0:=eq_true c11;have c11b1:decide (0≤x3_1)=true:=dE c11;clear c11;by_cases c12:x3_1≤(l0.length:Int)
     ·rw[if_pos c12] at H;have c12b0:=eq_true c12;have c12b1:decide (x3_1≤(l0.length:Int))=true:=dE c12;clear c12;obtain⟨y279,hy279⟩:∃ y_:List Int,y_=(l0.take (x3_1:Int).toNat):=⟨_,rfl⟩;replace H:(some y279)=some r:=by first|(rw[hy279];with_reducible exact H)|(have H2_:=(Option.bind_some _ _).symm.trans H;rw[hy279];with_reducible exact H2_)|(have H2_:=(Option.bind_some _ _).symm.trans H;with_reducible exact H2_)|with_reducible exact H|(rw[hy279];exact H)|exact H
      have Ny279:=aM hy279;clear hy279;obtain rfl:=Option.some.inj H;have q13:(x3_1:Int)≤((l0.length:Int):Int):=oE aS
      obtain⟨i013,hi013,_,hsz13,_⟩:=info_parts info3;have hcut13:=cut_to (P:=Try.prog) 22 3 .i64 Try.underlying22 hi013 Ao2 l0.length co2 x3_1 (oE aS) q13 (Kd.R_reads' HO_0.out).2.1
      have hr13:=Kd.R_take (m:=(x3_1:Int).toNat) HO_0.out (by omega)
      have hy13:y279.length=(x3_1:Int).toNat:=(by rw[Ny279.out,List.length_take];omega)
      rw[← Ny279.out] at hr13;rw[← hy13] at hr13 hcut13;clear hy13 hi013 hsz13 HO_0;have HO281:=aM hr13;clear hr13;replace q13:=eq_true q13;go_wp2
      go_ret
      exact⟨_,eW,rX HO281.out,pB,kK HK⟩
     ·rw[if_neg c12] at H;exact absurd H (by simp)
    ·rw[if_neg c11] at H;exact absurd H (by simp)

end Go.Proofs.Ytokkiljkgejnhaa.Print
