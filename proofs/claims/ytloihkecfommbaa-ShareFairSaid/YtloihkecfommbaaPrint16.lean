import Derived.Test.YtloihkecfommbaaPrint0
namespace Go.Proofs.Ytloihkecfommbaa.Print
open Go.RowKit Go.Proofs.YtloihkecfommbaaW.PrintWords Go.Proofs.YtloihkecfommbaaW.PrintLast Go.Proofs.YtloihkecfommbaaW.PrintMore
attribute [local go_sem] max2_int min2_int max_two min_two max_three min_three max_four min_four
set_option linter.unusedVariables false
set_option maxRecDepth 100000
set_option maxHeartbeats 8000000
set_option linter.unusedSimpArgs false

def Azf.l0:Nat→List Int→Int→Int→Option (Bool)
 | 0,_,_,_=>none
 | k+1,x0,x8,x9=>if x9 < x8 then(if 0≤x9 then(if x9 < (x0.length:Int) then(if(rd x0 x9) < 0 then(some false) else(if(rd x0 x9)≥1000000000 then(some false) else(Azf.l0 k x0 x8 (wrap64 (x9+1))))) else(none)) else(none)) else(if(x0.length:Int)=0 then(some true) else(if 0≤(wrap64 ((x0.length:Int) - 1)) then(if(wrap64 ((x0.length:Int) - 1)) < (x0.length:Int) then(some ((rd x0 (wrap64 ((x0.length:Int) - 1))) != 0)) else(none)) else(none)))
def Azf.f (k:Nat) (l0:List Int):Option (Bool):=if(l0.length:Int) > 48 then(some false) else(Azf.l0 k l0 (l0.length:Int) 0)
theorem Azf.mono_l:∀ k,(∀ y0 y1 y2,LeO (Azf.l0 k y0 y1 y2) (Azf.l0 (k+1) y0 y1 y2))
 | 0=>fun _ _ _ r h=>by simp [Azf.l0] at h
 | k+1=>by
  have ih0:=Azf.mono_l k
  ·intro y0 y1 y2;unfold Azf.l0;with_reducible repeat' first|exact ih0 _ _ _|exact LeO.refl _|exact LeO.none _|refine LeO.ite ?_ ?_|refine LeO.bind ?_ (fun _=>?_)
theorem Azf.mono:∀ a0 k,LeO (Azf.f k a0) (Azf.f (k+1) a0):=by
 intro a0 k;have ih0:=Azf.mono_l k;unfold Azf.f;with_reducible repeat' first|exact ih0 _ _ _|exact LeO.refl _|exact LeO.none _|refine LeO.ite ?_ ?_|refine LeO.bind ?_ (fun _=>?_)
theorem Azf.calls (k:Nat) (A0:Option Addr) (c0:Nat) (l0:List Int) (r:Bool) (w:World) (hr0:Kd.C (Kd.int .i64) w A0 l0.length l0) (hc0:l0.length≤c0) (h:Azf.f k l0=some r) :
  Calls Try.prog 65 #[.slice A0 l0.length c0] w fun e w'=>e=.returned (.bool r)∧Drawn0 w w':=by
 have HR0:=aM hr0;have HC0:=aM hc0;clear hr0 hc0;have H:(if(l0.length:Int) > 48 then(some false) else(Azf.l0 k l0 (l0.length:Int) 0))=some r:=h
 clear h;by_cases c2:(l0.length:Int) > 48
 ·rw[if_pos c2] at H;have c2b0:decide (48 < (l0.length:Int))=true:=dE c2;have c2b1:decide (48 < l0.length)=true:=dE (by omega)
  clear c2;obtain rfl:=Option.some.inj H;go_enter Try.func65,Try.ntmps65
  go_wp2
  go_ret
  exact⟨by first|rfl|(simp;done)|(simp [*];done),by repeat(first|exact Drawn0.refl _|apply Drawn0.step)⟩
 ·rw[if_neg c2] at H;have c2b0:decide (48 < (l0.length:Int))=false:=decide_eq_false c2;have c2b1:decide (48 < l0.length)=false:=decide_eq_false (by omega)
  clear c2;have H':=aM H;clear H;go_enter Try.func65,Try.ntmps65
  go_wp2
  go_loopg [9] k (fun kq v9 w'=>∃ (x9_1:Int),v9=.int .i64 x9_1∧Aside0 (Azf.l0 kq l0 (l0.length:Int) x9_1=some r)∧Aside0 (kq≤k)∧Drawn0 w w')
  case atStart=>exact⟨(0),sD,H',⟨Nat.le_refl _⟩,by repeat(first|exact Drawn0.refl _|apply Drawn0.step)⟩
  case round =>
   clear H';try clear c2
   try clear c2b0
   try clear c2b1
   try clear p2
   obtain⟨x9_1,rfl,HA,HK1,⟨m1,rfl⟩⟩:=hrel;cases gk with
   | zero=>exact absurd HA.out (by simp [Azf.l0])
   | succ k1 =>
    have H:=HA.out;clear HA;simp only[Azf.l0] at H;by_cases c3:x9_1 < (l0.length:Int)
    ·rw[if_pos c3] at H;have c3b0:decide (x9_1 < (l0.length:Int))=true:=dE c3;clear c3;by_cases c4:0≤x9_1
     ·rw[if_pos c4] at H;have c4b0:decide (0≤x9_1)=true:=dE c4;clear c4;by_cases c5:x9_1 < (l0.length:Int)
      ·rw[if_pos c5] at H;have c5b0:decide (x9_1 < (l0.length:Int))=true:=dE c5;clear c5;by_cases c6:(rd l0 x9_1) < 0
       ·rw[if_pos c6] at H;have c6b0:decide ((rd l0 x9_1) < 0)=true:=dE c6;clear c6;obtain rfl:=Option.some.inj H;have p314:0≤(x9_1:Int):=oE aS
        have q314:x9_1 < (l0.length:Int):=oE aS
        obtain⟨ad314,e314,hx314_0⟩:=Kd.at_int HR0.out x9_1 p314 q314;cases e314
        replace p314:=eq_true p314;replace q314:=eq_true q314;go_wp2
        go_ret
        exact⟨by first|rfl|(simp;done)|(simp [*];done),by repeat(first|exact Drawn0.refl _|apply Drawn0.step)⟩
       ·rw[if_neg c6] at H;have c6b0:decide ((rd l0 x9_1) < 0)=false:=decide_eq_false c6;clear c6;by_cases c7:(rd l0 x9_1)≥1000000000
        ·rw[if_pos c7] at H;have c7b0:decide (1000000000≤(rd l0 x9_1))=true:=dE c7;clear c7;obtain rfl:=Option.some.inj H;have p314:0≤(x9_1:Int):=oE aS
         have q314:x9_1 < (l0.length:Int):=oE aS
         obtain⟨ad314,e314,hx314_0⟩:=Kd.at_int HR0.out x9_1 p314 q314;cases e314
         replace p314:=eq_true p314;replace q314:=eq_true q314;have p315:0≤(x9_1:Int):=oE aS
         have q315:x9_1 < (l0.length:Int):=oE aS
         obtain⟨ad315,e315,hx315_0⟩:=Kd.at_int HR0.out x9_1 p315 q315;obtain rfl:ad314=ad315:=(by injection e315)
         replace p315:=eq_true p315;replace q315:=eq_true q315;go_wp2
         go_ret
         exact⟨by first|rfl|(simp;done)|(simp [*];done),by repeat(first|exact Drawn0.refl _|apply Drawn0.step)⟩
        ·rw[if_neg c7] at H;have c7b0:decide (1000000000≤(rd l0 x9_1))=false:=decide_eq_false c7;clear c7;have H':=aM H;clear H;have p314:0≤(x9_1:Int):=oE aS
         have q314:x9_1 < (l0.length:Int):=oE aS
         obtain⟨ad314,e314,hx314_0⟩:=Kd.at_int HR0.out x9_1 p314 q314;cases e314
         replace p314:=eq_true p314;replace q314:=eq_true q314;have p315:0≤(x9_1:Int):=oE aS
         have q315:x9_1 < (l0.length:Int):=oE aS
         obtain⟨ad315,e315,hx315_0⟩:=Kd.at_int HR0.out x9_1 p315 q315;obtain rfl:ad314=ad315:=(by injection e315)
         replace p315:=eq_true p315;replace q315:=eq_true q315;go_wp2
         go_roundg k1
         case measure=>have:=HK1.out;omega
         case rel=>exact⟨(wrap64 (x9_1+1)),sD,H',⟨by have:=HK1.out;omega⟩,by repeat(first|exact Drawn0.refl _|apply Drawn0.step)⟩
      ·rw[if_neg c5] at H;exact absurd H (by simp)
     ·rw[if_neg c4] at H;exact absurd H (by simp)
    ·rw[if_neg c3] at H;have c3b0:decide (x9_1 < (l0.length:Int))=false:=decide_eq_false c3;clear c3;by_cases c8:(l0.length:Int)=0
     ·rw[if_pos c8] at H;have c8b0:((l0.length:Int) == 0)=true:=beq_iff_eq.mpr c8;have c8b1:((l0.length:Int) != 0)=false:=bne_eq_false_iff_eq.mpr c8;clear c8;obtain rfl:=Option.some.inj H;go_wp2
      go_ret
      exact⟨by first|rfl|(simp;done)|(simp [*];done),by repeat(first|exact Drawn0.refl _|apply Drawn0.step)⟩
     ·rw[if_neg c8] at H;have c8b0:((l0.length:Int) == 0)=false:=beq_eq_false_iff_ne.mpr c8;have c8b1:((l0.length:Int) != 0)=true:=bne_iff_ne.mpr c8;have c8b2:¬ (l0=[]):=fun h_=>c8 (by rw[h_];rfl)
      obtain⟨ji9,hji9⟩:∃ j_:Int,(wrap64 ((l0.length:Int) - 1))=j_:=⟨_,rfl⟩;replace H:(if 0≤(ji9) then(if(ji9) < (l0.length:Int) then(some ((rd l0 (ji9)) != 0)) else(none)) else(none))=some r:=by first|(rw[hji9] at H;exact H)|(simp only[hji9] at H ⊢;exact H)
      have hji9w:(IntKind.i64.wrap ((l0.length:Int) - 1))=ji9:=(i64_w _).trans hji9;by_cases c10:0≤(ji9)
      ·rw[if_pos c10] at H;have c10b0:decide (0≤(ji9))=true:=dE c10;clear c10;by_cases c11:(ji9) < (l0.length:Int)
       ·rw[if_pos c11] at H;have c11b0:decide ((ji9) < (l0.length:Int))=true:=dE c11;clear c11;obtain rfl:=Option.some.inj H;have p316:0≤((ji9):Int):=oE aS
        have q316:(ji9) < (l0.length:Int):=oE aS
        obtain⟨ad316,e316,hx316_0⟩:=Kd.at_int HR0.out (ji9) p316 q316;cases e316
        replace p316:=eq_true p316;replace q316:=eq_true q316;go_wp2
        go_ret
        exact⟨by first|rfl|(simp;done)|(simp only[← hji9] <;> (first|rfl|simp))|(simp [*];done),by repeat(first|exact Drawn0.refl _|apply Drawn0.step)⟩
       ·rw[if_neg c11] at H;exact absurd H (by simp)
      ·rw[if_neg c10] at H;exact absurd H (by simp)

def Bzv.l0:Nat→List Int→Int→Option (List Int)
 | 0,_,_=>none
 | k+1,x0,x3=>if x3 > 0 then(if 0≤(wrap64 (x3 - 1)) then(if(wrap64 (x3 - 1)) < (x0.length:Int) then(if(rd x0 (wrap64 (x3 - 1)))=0 then(Bzv.l0 k x0 (wrap64 (x3 - 1))) else(if 0≤x3 then(if x3≤(x0.length:Int) then(some (x0.take (x3:Int).toNat)) else(none)) else(none))) else(none)) else(none)) else(if 0≤x3 then(if x3≤(x0.length:Int) then(some (x0.take (x3:Int).toNat)) else(none)) else(none))
def Bzv.f (k:Nat) (l0:List Int):Option (List Int):=Bzv.l0 k l0 (l0.length:Int)
theorem Bzv.mono_l:∀ k,(∀ y0 y1,LeO (Bzv.l0 k y0 y1) (Bzv.l0 (k+1) y0 y1))
 | 0=>fun _ _ r h=>by simp [Bzv.l0] at h
 | k+1=>by
  have ih0:=Bzv.mono_l k
  ·intro y0 y1;unfold Bzv.l0;with_reducible repeat' first|exact ih0 _ _|exact LeO.refl _|exact LeO.none _|refine LeO.ite ?_ ?_|refine LeO.bind ?_ (fun _=>?_)
theorem Bzv.mono:∀ a0 k,LeO (Bzv.f k a0) (Bzv.f (k+1) a0):=by
 intro a0 k;have ih0:=Bzv.mono_l k;unfold Bzv.f;with_reducible repeat' first|exact ih0 _ _|exact LeO.refl _|exact LeO.none _|refine LeO.ite ?_ ?_|refine LeO.bind ?_ (fun _=>?_)
theorem Bzv.calls (k:Nat) (P0_:Nat→Prop) (u9000_:Value) (l0:List Int) (r:List Int) (w0 w:World) (hB:Below w0.heap.size w0 w) (ho0:Kd.R (Kd.int .i64) 3 w w0.heap.size P0_ u9000_ l0) (h:Bzv.f k l0=some r) :
  Calls Try.prog 69 #[u9000_] w fun e w'=>∃ v0_:Value,e=.returned (v0_)∧Kd.R (Kd.int .i64) 3 w' w0.heap.size (fun k_=>(P0_ k_∨w.heap.size≤k_)) v0_ r∧Below w0.heap.size w0 w'∧Kept w w' (fun k_=>P0_ k_):=by
 have HO0:=aM (show Kd.R (Kd.int .i64) 3 w w0.heap.size (fun k_=>(P0_ k_∨w.heap.size≤k_)) u9000_ l0 from Kd.R_mono ho0 (fun k_ hk=>(.inl hk)))
 have HK:=aM (Kept.refl w (fun k_=>P0_ k_))
 have HW0:=aM hB.size;have HB:=aM hB;clear hB;have H:(Bzv.l0 k l0 (l0.length:Int))=some r:=h;clear h;have H':=aM H;clear H;obtain⟨Ao2,co2,eo2⟩:=Kd.R_slice HO0.out;subst eo2;go_enter Try.func69,Try.ntmps69
 go_wp2
 go_loopg [3] k (fun kq v3 w'=>∃ (x3_1:Int),v3=.int .i64 x3_1∧Aside0 (Bzv.l0 kq l0 x3_1=some r)∧Aside0 (kq≤k)∧Aside0 (Kd.R (Kd.int .i64) 3 w' w0.heap.size (fun k_=>(P0_ k_∨w.heap.size≤k_)) (.slice Ao2 l0.length co2) l0)∧Aside0 (Kept w w' (fun k_=>P0_ k_))∧Aside0 (Below w0.heap.size w0 w'))
 case atStart=>exact⟨((l0.length:Int)),sD,H',⟨Nat.le_refl _⟩,⟨rX HO0.out⟩,⟨kK HK⟩,⟨pB⟩⟩
 case round =>
  clear H';try clear p2
  obtain⟨x3_1,rfl,HA,HK1,HO_0,HK,HB⟩:=hrel;cases gk with
  | zero=>exact absurd HA.out (by simp [Bzv.l0])
  | succ k1 =>
   have H:=HA.out;clear HA;simp only[Bzv.l0] at H;by_cases c3:x3_1 > 0
   ·rw[if_pos c3] at H;have c3b0:decide (0 < x3_1)=true:=dE c3;clear c3;obtain⟨ji4,hji4⟩:∃ j_:Int,(wrap64 (x3_1 - 1))=j_:=⟨_,rfl⟩;replace H:(if 0≤(ji4) then(if(ji4) < (l0.length:Int) then(if(rd l0 (ji4))=0 then(Bzv.l0 k1 l0 ji4) else(if 0≤x3_1 then(if x3_1≤(l0.length:Int) then(some (l0.take (x3_1:Int).toNat)) else(none)) else(none))) else(none)) else(none))=some r:=by first|(rw[hji4] at H;exact H)|(simp only[hji4] at H ⊢;exact H)
    have hji4w:(IntKind.i64.wrap (x3_1 - 1))=ji4:=(i64_w _).trans hji4;by_cases c5:0≤(ji4)
    ·rw[if_pos c5] at H;have c5b0:decide (0≤(ji4))=true:=dE c5;clear c5;by_cases c6:(ji4) < (l0.length:Int)
     ·rw[if_pos c6] at H;have c6b0:decide ((ji4) < (l0.length:Int))=true:=dE c6;clear c6;by_cases c7:(rd l0 (ji4))=0
      ·rw[if_pos c7] at H;have c7b0:((rd l0 (ji4)) == 0)=true:=beq_iff_eq.mpr c7;have c7b1:((rd l0 (ji4)) != 0)=false:=bne_eq_false_iff_eq.mpr c7;clear c7;have H':=aM H;clear H;have p317:0≤((ji4):Int):=oE aS
       have q317:(ji4) < (l0.length:Int):=oE aS
       obtain⟨ad317,e317,hx317_0⟩:=Kd.at_int (Kd.R_reads' HO_0.out).2.2 (ji4) p317 q317;cases e317
       replace p317:=eq_true p317;replace q317:=eq_true q317;go_wp2
       go_roundg k1
       case measure=>have:=HK1.out;omega
       case rel=>exact⟨(ji4),(by first|rfl|(simp;done)|(simp only[← hji4] <;> (first|rfl|simp))|(simp [*];done)),H',⟨by have:=HK1.out;omega⟩,⟨rX HO_0.out⟩,⟨kK HK⟩,⟨pB⟩⟩
      ·rw[if_neg c7] at H;have c7b0:((rd l0 (ji4)) == 0)=false:=beq_eq_false_iff_ne.mpr c7;have c7b1:((rd l0 (ji4)) != 0)=true:=bne_iff_ne.mpr c7;by_cases c8:0≤x3_1
       ·rw[if_pos c8] at H;have c8b0:=eq_true c8;have c8b1:decide (0≤x3_1)=true:=dE c8;clear c8;by_cases c9:x3_1≤(l0.length:Int)
        ·rw[if_pos c9] at H;have c9b0:=eq_true c9;have c9b1:decide (x3_1≤(l0.length:Int))=true:=dE c9;clear c9;obtain⟨y318,hy318⟩:∃ y_:List Int,y_=(l0.take (x3_1:Int).toNat):=⟨_,rfl⟩;replace H:(some y318)=some r:=by first|(rw[hy318];with_reducible exact H)|(have H2_:=(Option.bind_some _ _).symm.trans H;rw[hy318];with_reducible exact H2_)|(have H2_:=(Option.bind_some _ _).symm.trans H;with_reducible exact H2_)|with_reducible exact H|(rw[hy318];exact H)|exact H
         have Ny318:=aM hy318;clear hy318;obtain rfl:=Option.some.inj H;have p317:0≤((ji4):Int):=oE aS
         have q317:(ji4) < (l0.length:Int):=oE aS
         obtain⟨ad317,e317,hx317_0⟩:=Kd.at_int (Kd.R_reads' HO_0.out).2.2 (ji4) p317 q317;cases e317
         replace p317:=eq_true p317;replace q317:=eq_true q317;have q10:(x3_1:Int)≤((l0.length:Int):Int):=oE aS
         obtain⟨i010,hi010,_,hsz10,_⟩:=info_parts info3;have hcut10:=cut_to (P:=Try.prog) 22 3 .i64 Try.underlying22 hi010 (some ad317) l0.length co2 x3_1 (oE aS) q10 (Kd.R_reads' HO_0.out).2.1
         have hr10:=Kd.R_take (m:=(x3_1:Int).toNat) HO_0.out (by omega)
         have hy10:y318.length=(x3_1:Int).toNat:=(by rw[Ny318.out,List.length_take];omega)
         rw[← Ny318.out] at hr10;rw[← hy10] at hr10 hcut10;clear hy10 hi010 hsz10 HO_0;have HO320:=aM hr10;clear hr10;replace q10:=eq_true q10;go_wp2
         go_ret
         exact⟨_,by first|rfl|(simp [errW_none,errW_some] <;> rfl)|(simp only[← hji4];first|rfl|(simp [errW_none,errW_some] <;> rfl))|(simp [*,errW_none,errW_some] <;> rfl),rX HO320.out,pB,kK HK⟩
        ·rw[if_neg c9] at H;exact absurd H (by simp)
       ·rw[if_neg c8] at H;exact absurd H (by simp)
     ·rw[if_neg c6] at H;exact absurd H (by simp)
    ·rw[if_neg c5] at H;exact absurd H (by simp)
   ·rw[if_neg c3] at H;have c3b0:decide (0 < x3_1)=false:=decide_eq_false c3;clear c3;by_cases c11:0≤x3_1
    ·rw[if_pos c11] at H;have c11b0:=eq_true c11;have c11b1:decide (0≤x3_1)=true:=dE c11;clear c11;by_cases c12:x3_1≤(l0.length:Int)
     ·rw[if_pos c12] at H;have c12b0:=eq_true c12;have c12b1:decide (x3_1≤(l0.length:Int))=true:=dE c12;clear c12;obtain⟨y321,hy321⟩:∃ y_:List Int,y_=(l0.take (x3_1:Int).toNat):=⟨_,rfl⟩;replace H:(some y321)=some r:=by first|(rw[hy321];with_reducible exact H)|(have H2_:=(Option.bind_some _ _).symm.trans H;rw[hy321];with_reducible exact H2_)|(have H2_:=(Option.bind_some _ _).symm.trans H;with_reducible exact H2_)|with_reducible exact H|(rw[hy321];exact H)|exact H
      have Ny321:=aM hy321;clear hy321;obtain rfl:=Option.some.inj H;have q13:(x3_1:Int)≤((l0.length:Int):Int):=oE aS
      obtain⟨i013,hi013,_,hsz13,_⟩:=info_parts info3;have hcut13:=cut_to (P:=Try.prog) 22 3 .i64 Try.underlying22 hi013 Ao2 l0.length co2 x3_1 (oE aS) q13 (Kd.R_reads' HO_0.out).2.1
      have hr13:=Kd.R_take (m:=(x3_1:Int).toNat) HO_0.out (by omega)
      have hy13:y321.length=(x3_1:Int).toNat:=(by rw[Ny321.out,List.length_take];omega)
      rw[← Ny321.out] at hr13;rw[← hy13] at hr13 hcut13;clear hy13 hi013 hsz13 HO_0;have HO323:=aM hr13;clear hr13;replace q13:=eq_true q13;go_wp2
      go_ret
      exact⟨_,eW,rX HO323.out,pB,kK HK⟩
     ·rw[if_neg c12] at H;exact absurd H (by simp)
    ·rw[if_neg c11] at H;exact absurd H (by simp)


def Ezk.f (l0:List Int) (a1:Int):Option (List Int):=if 0≤(mx a1 (l0.length:Int)) then(if(mx a1 (l0.length:Int):Int).toNat≤35184372088832 then((Ezf.f (List.replicate (mx a1 (l0.length:Int):Int).toNat 0) l0).bind fun bt327=>(some bt327.2)) else(none)) else(none)
theorem Ezk.calls (A0:Option Addr) (c0:Nat) (l0:List Int) (a1:Int) (r:List Int) (w:World) (hr0:Kd.C (Kd.int .i64) w A0 l0.length l0) (hc0:l0.length≤c0) (h:Ezk.f l0 a1=some r) :
  Calls Try.prog 70 #[.slice A0 l0.length c0,.int .i64 a1] w fun e w'=>∃ v0_:Value,e=.returned (v0_)∧Kd.R (Kd.int .i64) 3 w' w.heap.size (fun _=>True) v0_ r∧Below w.heap.size w w':=by
 have HR0:=aM hr0;have HC0:=aM hc0;clear hr0 hc0;have HB:=aM (Below.refl w.heap.size w);have H:(if 0≤(mx a1 (l0.length:Int)) then(if(mx a1 (l0.length:Int):Int).toNat≤35184372088832 then((Ezf.f (List.replicate (mx a1 (l0.length:Int):Int).toNat 0) l0).bind fun bt327=>(some bt327.2)) else(none)) else(none))=some r:=h
 clear h;obtain⟨ji3,hji3⟩:∃ j_:Int,(mx a1 (l0.length:Int))=j_:=⟨_,rfl⟩;replace H:(if 0≤(ji3) then(if(ji3:Int).toNat≤35184372088832 then((Ezf.f (List.replicate (ji3:Int).toNat 0) l0).bind fun bt327=>(some bt327.2)) else(none)) else(none))=some r:=by first|(rw[hji3] at H;exact H)|(simp only[hji3] at H ⊢;exact H)
 (try(have hji3l:0≤ji3:=by(rw[← hji3];unfold mx;(repeat' split) <;> omega)))
 (try(have hji3m:0≤ji3:=by omega))
 have hji3_:(if a1 < (l0.length:Int) then(l0.length:Int) else a1)=ji3:=hji3
 by_cases c4:0≤(ji3)
 ·rw[if_pos c4] at H;have c4b0:=eq_true c4;have c4b1:decide (0≤(ji3))=true:=dE c4;clear c4;by_cases c5:(ji3:Int).toNat≤35184372088832
  ·rw[if_pos c5] at H;have c5b0:=eq_true c5;have c5b1:decide ((ji3:Int).toNat≤35184372088832)=true:=dE c5;clear c5;obtain⟨y324,hy324⟩:∃ y_:List Int,y_=(List.replicate (ji3:Int).toNat 0):=⟨_,rfl⟩;replace H:((Ezf.f y324 l0).bind fun bt327=>(some bt327.2))=some r:=by first|(rw[hy324];with_reducible exact H)|(have H2_:=(Option.bind_some _ _).symm.trans H;rw[hy324];with_reducible exact H2_)|(have H2_:=(Option.bind_some _ _).symm.trans H;with_reducible exact H2_)|with_reducible exact H|(rw[hy324];exact H)|exact H
   have Ny324:=aM hy324;clear hy324;replace H:=bS H;obtain⟨⟨t327,t328⟩,A60,H⟩:=H;replace H:(some t328)=some r:=H;have A6:=aM A60;clear A60;obtain rfl:=Option.some.inj H;go_enter Try.func70,Try.ntmps70
   go_wp2_with (first|((with_reducible refine gate_dst (N:=10) rfl ?_);refine Kd.R_make (Kd.int .i64) _ 3 rfl (N:=10) rfl 22 _ _ rfl ji3 rfl rfl Try.underlying22 (.int .i64 0) 8 info3 rfl (by decide) (by omega) 0 (ok:=fun _=>True) (okp:=fun _=>True) rfl (fun _ hk=>hk) trivial (oE aS) (Nat.le_trans (Nat.mul_le_mul_right _ (oE aS:ji3.toNat≤35184372088832)) (by omega)) (Below.refl _ _) (Nat.le_refl _) ?_;intro v325 w7 ho8 hb hg_ hnew_;clear hg_ hnew_;(first|rw[← Ny324.out] at ho8|(simp only[Int.reduceToNat] at ho8;rw[← Ny324.out] at ho8));have HO326:=aM (Kd.R_lower ho8 (below_size pB));replace HB:=aM (below_step pB hb);clear hb ho8;obtain⟨Ao9,co9,eo9⟩:=Kd.R_slice HO326.out;subst eo9)|((with_reducible refine gate_builtin (b:=.copy) rfl ?_);refine copyL_ (some 13) rfl rfl rfl (.slice Ao9 y324.length co9) (.slice A0 l0.length c0) rfl rfl ?_;(with_reducible refine(Ezf.calls (by kernel_rfl) (fun k_=>some k_=(.slice Ao9 y324.length co9:Value).ownBlock) (.slice Ao9 y324.length co9) y324 _ _ l0 t327 t328 w _ ?side1 ?side2 ?side3 ?side4 A6.out).mono ?_);(case side1=>repeat(first|(with_reducible first|exact HB.out|apply below_alloc|apply pw_below_drewN|apply below_drew1)|exact HB.out));(case side2=>exact Kd.R_tight rfl HO326.out);(case side3=>exact Kd.C_kept_came (Kd.heap_int .i64) HR0.out pB (fun k_ hs_=>(fun e_=>Kd.R_base HO326.out k_ e_.symm) hs_));(case side4=>exact HC0.out);rintro e w10 ⟨rfl,hy0,hb,hkp⟩;refine⟨_,rfl,?_⟩;replace HO326:=aM (Kd.R_reok rfl hy0 (fun k_ e_=>HO326.out.1 k_ e_));replace HB:=aM (hb);(try clear hb);(try clear hkp);(try clear hy0)))
   go_ret
   exact⟨_,by first|rfl|(simp [errW_none,errW_some] <;> rfl)|(simp only[← hji3];first|rfl|(simp [errW_none,errW_some] <;> rfl))|(simp [*,errW_none,errW_some] <;> rfl),rX HO326.out,pB⟩
  ·rw[if_neg c5] at H;exact absurd H (by simp)
 ·rw[if_neg c4] at H;exact absurd H (by simp)

def Czb.l0:Nat→List Int→List Int→Int→Option (Int)
 | 0,_,_,_=>none
 | k+1,x0,x1,x5=>if x5≥0 then(if 0≤x5 then(if x5 < (x0.length:Int) then(if x5 < (x1.length:Int) then(if(rd x0 x5) < (rd x1 x5) then(some (-1)) else(if(rd x0 x5) > (rd x1 x5) then(some 1) else(Czb.l0 k x0 x1 (wrap64 (x5 - 1))))) else(none)) else(none)) else(none)) else(some 0)
def Czb.f (k:Nat) (l0:List Int) (l1:List Int):Option (Int):=if(l0.length:Int)=(l1.length:Int) then(Czb.l0 k l0 l1 (wrap64 ((l0.length:Int) - 1))) else(if(l0.length:Int) < (l1.length:Int) then(some (-1)) else(some 1))
theorem Czb.mono_l:∀ k,(∀ y0 y1 y2,LeO (Czb.l0 k y0 y1 y2) (Czb.l0 (k+1) y0 y1 y2))
 | 0=>fun _ _ _ r h=>by simp [Czb.l0] at h
 | k+1=>by
  have ih0:=Czb.mono_l k
  ·intro y0 y1 y2;unfold Czb.l0;with_reducible repeat' first|exact ih0 _ _ _|exact LeO.refl _|exact LeO.none _|refine LeO.ite ?_ ?_|refine LeO.bind ?_ (fun _=>?_)
theorem Czb.mono:∀ a0 a1 k,LeO (Czb.f k a0 a1) (Czb.f (k+1) a0 a1):=by
 intro a0 a1 k;have ih0:=Czb.mono_l k;unfold Czb.f;with_reducible repeat' first|exact ih0 _ _ _|exact LeO.refl _|exact LeO.none _|refine LeO.ite ?_ ?_|refine LeO.bind ?_ (fun _=>?_)
theorem Czb.calls (k:Nat) (A0:Option Addr) (c0:Nat) (l0:List Int) (A1:Option Addr) (c1:Nat) (l1:List Int) (r:Int) (w:World) (hr0:Kd.C (Kd.int .i64) w A0 l0.length l0) (hc0:l0.length≤c0) (hr1:Kd.C (Kd.int .i64) w A1 l1.length l1) (hc1:l1.length≤c1) (h:Czb.f k l0 l1=some r) :
  Calls Try.prog 72 #[.slice A0 l0.length c0,.slice A1 l1.length c1] w fun e w'=>e=.returned (.int .i64 r)∧Drawn0 w w':=by
 have HR0:=aM hr0;have HC0:=aM hc0;clear hr0 hc0;have HR1:=aM hr1;have HC1:=aM hc1;clear hr1 hc1;have H:(if(l0.length:Int)=(l1.length:Int) then(Czb.l0 k l0 l1 (wrap64 ((l0.length:Int) - 1))) else(if(l0.length:Int) < (l1.length:Int) then(some (-1)) else(some 1)))=some r:=h
 clear h;by_cases c3:(l0.length:Int)=(l1.length:Int)
 ·rw[if_pos c3] at H;have c3b0:((l0.length:Int) == (l1.length:Int))=true:=beq_iff_eq.mpr c3;have c3b1:((l0.length:Int) != (l1.length:Int))=false:=bne_eq_false_iff_eq.mpr c3;have c3b2:(l0.length == l1.length)=true:=by first|simpa using c3|(simp at c3 ⊢;omega)
  clear c3;have H':=aM H;clear H;go_enter Try.func72,Try.ntmps72
  go_wp2
  repeat(go_quiet (fail);try go_wp2)
  go_loopg [5] k (fun kq v5 w'=>∃ (x5_1:Int),v5=.int .i64 x5_1∧Aside0 (Czb.l0 kq l0 l1 x5_1=some r)∧Aside0 (kq≤k)∧Drawn0 w w')
  case atStart=>exact⟨(wrap64 ((l0.length:Int) - 1)),sD,H',⟨Nat.le_refl _⟩,by repeat(first|exact Drawn0.refl _|apply Drawn0.step)⟩
  case round =>
   clear H';try clear c1
   try clear p2
   try clear c3
   try clear c3b0
   try clear c3b1
   try clear c3b2
   obtain⟨x5_1,rfl,HA,HK1,⟨m1,rfl⟩⟩:=hrel;cases gk with
   | zero=>exact absurd HA.out (by simp [Czb.l0])
   | succ k1 =>
    have H:=HA.out;clear HA;simp only[Czb.l0] at H;by_cases c4:x5_1≥0
    ·rw[if_pos c4] at H;have c4b0:decide (0≤x5_1)=true:=dE c4;clear c4;by_cases c5:0≤x5_1
     ·rw[if_pos c5] at H;have c5b0:decide (0≤x5_1)=true:=dE c5;clear c5;by_cases c6:x5_1 < (l0.length:Int)
      ·rw[if_pos c6] at H;have c6b0:decide (x5_1 < (l0.length:Int))=true:=dE c6;clear c6;by_cases c7:x5_1 < (l1.length:Int)
       ·rw[if_pos c7] at H;have c7b0:decide (x5_1 < (l1.length:Int))=true:=dE c7;clear c7;by_cases c8:(rd l0 x5_1) < (rd l1 x5_1)
        ·rw[if_pos c8] at H;have c8b0:decide ((rd l0 x5_1) < (rd l1 x5_1))=true:=dE c8;clear c8;obtain rfl:=Option.some.inj H;have p329:0≤(x5_1:Int):=oE aS
         have q329:x5_1 < (l0.length:Int):=oE aS
         obtain⟨ad329,e329,hx329_0⟩:=Kd.at_int HR0.out x5_1 p329 q329;cases e329
         replace p329:=eq_true p329;replace q329:=eq_true q329;have p330:0≤(x5_1:Int):=oE aS
         have q330:x5_1 < (l1.length:Int):=oE aS
         obtain⟨ad330,e330,hx330_0⟩:=Kd.at_int HR1.out x5_1 p330 q330;cases e330
         replace p330:=eq_true p330;replace q330:=eq_true q330;go_wp2
         repeat(go_quiet (fail);try go_wp2)
         go_ret
         exact⟨by first|rfl|(simp;done)|(simp [*];done),by repeat(first|exact Drawn0.refl _|apply Drawn0.step)⟩
        ·rw[if_neg c8] at H;have c8b0:decide ((rd l0 x5_1) < (rd l1 x5_1))=false:=decide_eq_false c8;clear c8;by_cases c9:(rd l0 x5_1) > (rd l1 x5_1)
         ·rw[if_pos c9] at H;have c9b0:decide ((rd l1 x5_1) < (rd l0 x5_1))=true:=dE c9;clear c9;obtain rfl:=Option.some.inj H;have p329:0≤(x5_1:Int):=oE aS
          have q329:x5_1 < (l0.length:Int):=oE aS
          obtain⟨ad329,e329,hx329_0⟩:=Kd.at_int HR0.out x5_1 p329 q329;cases e329
          replace p329:=eq_true p329;replace q329:=eq_true q329;have p330:0≤(x5_1:Int):=oE aS
          have q330:x5_1 < (l1.length:Int):=oE aS
          obtain⟨ad330,e330,hx330_0⟩:=Kd.at_int HR1.out x5_1 p330 q330;cases e330
          replace p330:=eq_true p330;replace q330:=eq_true q330;have p331:0≤(x5_1:Int):=oE aS
          have q331:x5_1 < (l0.length:Int):=oE aS
          obtain⟨ad331,e331,hx331_0⟩:=Kd.at_int HR0.out x5_1 p331 q331;obtain rfl:ad329=ad331:=(by injection e331)
          replace p331:=eq_true p331;replace q331:=eq_true q331;have p332:0≤(x5_1:Int):=oE aS
          have q332:x5_1 < (l1.length:Int):=oE aS
          obtain⟨ad332,e332,hx332_0⟩:=Kd.at_int HR1.out x5_1 p332 q332;obtain rfl:ad330=ad332:=(by injection e332)
          replace p332:=eq_true p332;replace q332:=eq_true q332;go_wp2
          repeat(go_quiet (fail);try go_wp2)
          go_ret
          exact⟨by first|rfl|(simp;done)|(simp [*];done),by repeat(first|exact Drawn0.refl _|apply Drawn0.step)⟩
         ·rw[if_neg c9] at H;have c9b0:decide ((rd l1 x5_1) < (rd l0 x5_1))=false:=decide_eq_false c9;clear c9;have H':=aM H;clear H;have p329:0≤(x5_1:Int):=oE aS
          have q329:x5_1 < (l0.length:Int):=oE aS
          obtain⟨ad329,e329,hx329_0⟩:=Kd.at_int HR0.out x5_1 p329 q329;cases e329
          replace p329:=eq_true p329;replace q329:=eq_true q329;have p330:0≤(x5_1:Int):=oE aS
          have q330:x5_1 < (l1.length:Int):=oE aS
          obtain⟨ad330,e330,hx330_0⟩:=Kd.at_int HR1.out x5_1 p330 q330;cases e330
          replace p330:=eq_true p330;replace q330:=eq_true q330;have p331:0≤(x5_1:Int):=oE aS
          have q331:x5_1 < (l0.length:Int):=oE aS
          obtain⟨ad331,e331,hx331_0⟩:=Kd.at_int HR0.out x5_1 p331 q331;obtain rfl:ad329=ad331:=(by injection e331)
          replace p331:=eq_true p331;replace q331:=eq_true q331;have p332:0≤(x5_1:Int):=oE aS
          have q332:x5_1 < (l1.length:Int):=oE aS
          obtain⟨ad332,e332,hx332_0⟩:=Kd.at_int HR1.out x5_1 p332 q332;obtain rfl:ad330=ad332:=(by injection e332)
          replace p332:=eq_true p332;replace q332:=eq_true q332;go_wp2
          repeat(go_quiet (fail);try go_wp2)
          go_roundg k1
          case measure=>have:=HK1.out;omega
          case rel=>exact⟨(wrap64 (x5_1 - 1)),sD,H',⟨by have:=HK1.out;omega⟩,by repeat(first|exact Drawn0.refl _|apply Drawn0.step)⟩
       ·rw[if_neg c7] at H;exact absurd H (by simp)
      ·rw[if_neg c6] at H;exact absurd H (by simp)
     ·rw[if_neg c5] at H;exact absurd H (by simp)
    ·rw[if_neg c4] at H;have c4b0:decide (0≤x5_1)=false:=decide_eq_false c4;clear c4;obtain rfl:=Option.some.inj H;go_wp2
     repeat(go_quiet (fail);try go_wp2)
     go_ret
     exact⟨by first|rfl|(simp;done)|(simp [*];done),by repeat(first|exact Drawn0.refl _|apply Drawn0.step)⟩
 ·rw[if_neg c3] at H;have c3b0:((l0.length:Int) == (l1.length:Int))=false:=beq_eq_false_iff_ne.mpr c3;have c3b1:((l0.length:Int) != (l1.length:Int))=true:=bne_iff_ne.mpr c3;have c3b2:(l0.length == l1.length)=false:=by first|simpa using c3|(simp at c3 ⊢;omega)
  by_cases c10:(l0.length:Int) < (l1.length:Int)
  ·rw[if_pos c10] at H;have c10b0:decide ((l0.length:Int) < (l1.length:Int))=true:=dE c10;have c10b1:decide (l0.length < l1.length)=true:=dE (Int.ofNat_lt.mp c10);clear c10;obtain rfl:=Option.some.inj H;go_enter Try.func72,Try.ntmps72
   go_wp2
   repeat(go_quiet (fail);try go_wp2)
   go_ret
   exact⟨by first|rfl|(simp;done)|(simp [*];done),by repeat(first|exact Drawn0.refl _|apply Drawn0.step)⟩
  ·rw[if_neg c10] at H;have c10b0:decide ((l0.length:Int) < (l1.length:Int))=false:=decide_eq_false c10;have c10b1:decide (l0.length < l1.length)=false:=decide_eq_false (fun h=>c10 (Int.ofNat_lt.mpr h))
   clear c10;obtain rfl:=Option.some.inj H;go_enter Try.func72,Try.ntmps72
   go_wp2
   repeat(go_quiet (fail);try go_wp2)
   go_ret
   exact⟨by first|rfl|(simp;done)|(simp [*];done),by repeat(first|exact Drawn0.refl _|apply Drawn0.step)⟩

end Go.Proofs.Ytloihkecfommbaa.Print
