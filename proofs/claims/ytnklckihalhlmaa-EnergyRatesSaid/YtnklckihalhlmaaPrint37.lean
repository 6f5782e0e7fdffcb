import Derived.Test.YtnklckihalhlmaaPrint0
import Derived.Test.YtnklckihalhlmaaPrint32
import Derived.Test.YtnklckihalhlmaaPrint34
import Derived.Test.YtnklckihalhlmaaPrint35
namespace Go.Proofs.Ytnklckihalhlmaa.Print
open Go.RowKit Go.Proofs.YtnklckihalhlmaaW.PrintWords Go.Proofs.YtnklckihalhlmaaW.PrintLast Go.Proofs.YtnklckihalhlmaaW.PrintMore
attribute [local go_sem] max2_int min2_int max_two min_two max_three min_three max_four min_four
set_option linter.unusedVariables false
set_option maxRecDepth 100000
set_option maxHeartbeats 8000000
set_option linter.unusedSimpArgs false

mutual
def Azy.j0:Nat→List Int→List Int→Bool→Option (List Int × List Int × Int)
 | 0,_,_,_=>none
 | k+1,x0,x1,x18=>if x18=true then(some (([]:List Int),([]:List Int),3)) else(if(x1.length:Int)=0 then(some (([]:List Int),([]:List Int),16)) else(if 0≤(x0.length:Int) then(if((x0.length:Int):Int).toNat≤35184372088832 then(Azy.l0 k x0 x1 (List.replicate ((x0.length:Int):Int).toNat 0) ([]:List Int) (wrap64 ((x0.length:Int) - 1))) else(none)) else(none)))
def Azy.l0:Nat→List Int→List Int→List Int→List Int→Int→Option (List Int × List Int × Int)
 | 0,_,_,_,_,_=>none
 | k+1,x0,x1,x7,x8,x9=>if x9≥0 then(if 0≤x9 then(if x9 < (x0.length:Int) then((some (([rd x0 x9]:List Int):List Int)).bind fun y516=>(if y516.length+x8.length < 17592186044416 then((some (y516 ++ x8:List Int)).bind fun y519=>(if 0≤(wrap64 ((y519.length:Int) - 1)) then(if(wrap64 ((y519.length:Int) - 1)) < (y519.length:Int) then(if(rd y519 (wrap64 ((y519.length:Int) - 1)))=0 then(Azy.j2 k x0 x1 x7 ([]:List Int) x9) else(Azy.j2 k x0 x1 x7 y519 x9)) else(none)) else(none))) else(none))) else(none)) else(none)) else((Bzk.f k x7).bind fun bt511=>(some (bt511.1,x8,0)))
def Azy.j2:Nat→List Int→List Int→List Int→List Int→Int→Option (List Int × List Int × Int)
 | 0,_,_,_,_,_=>none
 | k+1,x0,x1,x7,x8,x9=>(Bzm.f k x8 x1).bind fun t523=>(if 0≤x9 then(if x9 < (x7.length:Int) then((some (x7.set (x9:Int).toNat t523:List Int)).bind fun y524=>(if t523 > 0 then((Azk.f k x1 (([t523]:List Int))).bind fun t528=>((Bzp.f k x8 t528).bind fun t531=>(Azy.l0 k x0 x1 y524 t531 (wrap64 (x9 - 1))))) else(Azy.l0 k x0 x1 y524 x8 (wrap64 (x9 - 1))))) else(none)) else(none))
end
def Azy.f (k:Nat) (l0:List Int) (l1:List Int):Option (List Int × List Int × Int):=(Azw.f k l0).bind fun t506=>(if t506=true then((Azw.f k l1).bind fun t507=>(Azy.j0 k l0 l1 (!t507))) else(Azy.j0 k l0 l1 true))
theorem Azy.mono_l:∀ k,(∀ y0 y1 y2,LeO (Azy.j0 k y0 y1 y2) (Azy.j0 (k+1) y0 y1 y2))∧(∀ y0 y1 y2 y3 y4,LeO (Azy.l0 k y0 y1 y2 y3 y4) (Azy.l0 (k+1) y0 y1 y2 y3 y4))∧(∀ y0 y1 y2 y3 y4,LeO (Azy.j2 k y0 y1 y2 y3 y4) (Azy.j2 (k+1) y0 y1 y2 y3 y4))
 | 0=>⟨fun _ _ _ r h=>by simp [Azy.j0] at h,fun _ _ _ _ _ r h=>by simp [Azy.l0] at h,fun _ _ _ _ _ r h=>by simp [Azy.j2] at h⟩
 | k+1=>by
  obtain⟨ih0,ih1,ih2⟩:=Azy.mono_l k;have i0:=@Azw.mono;have i1:=@Bzm.mono;have i2:=@Bzk.mono;have i3:=@Bzp.mono;have i4:=@Azk.mono;refine⟨?_,?_,?_⟩
  ·intro y0 y1 y2;unfold Azy.j0;exact mM
  ·intro y0 y1 y2 y3 y4;unfold Azy.l0;exact mM
  ·intro y0 y1 y2 y3 y4;unfold Azy.j2;exact mM
theorem Azy.mono:∀ a0 a1 k,LeO (Azy.f k a0 a1) (Azy.f (k+1) a0 a1):=by
 intro a0 a1 k;obtain⟨ih0,ih1,ih2⟩:=Azy.mono_l k;unfold Azy.f;have i0:=@Azw.mono;have i1:=@Bzm.mono;have i2:=@Bzk.mono;have i3:=@Bzp.mono;have i4:=@Azk.mono;exact mM
theorem Azy.calls (k:Nat) (A0:Option Addr) (c0:Nat) (l0:List Int) (A1:Option Addr) (c1:Nat) (l1:List Int) (r1:List Int) (r2:List Int) (r3:Int) (w:World) (hr0:Kd.C (Kd.int .i64) w A0 l0.length l0) (hc0:l0.length≤c0) (hr1:Kd.C (Kd.int .i64) w A1 l1.length l1) (hc1:l1.length≤c1) (h:Azy.f k l0 l1=some (r1,r2,r3)) :
  Calls Try.prog 64 #[.slice A0 l0.length c0,.slice A1 l1.length c1] w fun e w'=>∃ v0_ v1_:Value,e=.returned (.tuple #[v0_,v1_,.int .i64 r3])∧Kd.R (Kd.int .i64) 3 w' w.heap.size (fun k_=>some k_≠(v1_:Value).ownBlock) v0_ r1∧Kd.R (Kd.int .i64) 3 w' w.heap.size (fun k_=>some k_≠(v0_:Value).ownBlock) v1_ r2∧Below w.heap.size w w':=by
 have HR0:=aM hr0;have HC0:=aM hc0;clear hr0 hc0;have HR1:=aM hr1;have HC1:=aM hc1;clear hr1 hc1;have HB:=aM (Below.refl w.heap.size w);have H:((Azw.f k l0).bind fun t506=>(if t506=true then((Azw.f k l1).bind fun t507=>(Azy.j0 k l0 l1 (!t507))) else(Azy.j0 k l0 l1 true)))=some (r1,r2,r3):=h
 clear h;have HC3:=aM H;clear H;go_enter Try.func64,Try.ntmps64
 go_upto_region 1 with (fail)
 go_cut [18] (fun v18 wc=>∃ (kq:Nat) (x18_2:Bool),v18=.bool x18_2∧Aside0 (Azy.j0 kq l0 l1 x18_2=some (r1,r2,r3))∧Aside0 (kq≤k)∧Aside0 (Below w.heap.size w wc))
 case first =>
  have H:=HC3.out;clear HC3;obtain⟨t506,A4,H⟩:=bT H;(try dsimp only at H);by_cases c5:t506=true
  ·subst c5;rw[if_pos rfl] at H;obtain⟨t507,A6,H⟩:=bT H;(try dsimp only at H);have H':=aM H;clear H;go_wp2_with (first|((with_reducible refine gc 42 rfl ?_);refine gC 42 (some 12) Try.func42 #[.slice A0 l0.length c0] ?_;(with_reducible refine(Azw.calls k _ _ l0 true _ ?side1 ?side2 A4.out).mono ?_);(case side1=>exact cB HR0);(case side2=>exact HC0.out);rintro e w' ⟨rfl,⟨nd,rfl⟩⟩;refine⟨_,rfl,?_⟩)|(go_at_call 42;(with_reducible refine(Azw.calls k _ _ l1 t507 _ ?side1 ?side2 A6.out).mono ?_);(case side1=>exact cB HR1);(case side2=>exact HC1.out);rintro e w' ⟨rfl,⟨nd,rfl⟩⟩))
   go_meet
   case rel=>exact⟨_,(!t507),sD,H',⟨by first|omega|exact Nat.le_refl _⟩,⟨pB⟩⟩
  ·obtain rfl:=bN c5;rw[if_neg nF] at H
   have H':=aM H;clear H;go_wp2_with (first|((with_reducible refine gc 42 rfl ?_);refine gC 42 (some 12) Try.func42 #[.slice A0 l0.length c0] ?_;(with_reducible refine(Azw.calls k _ _ l0 false _ ?side1 ?side2 A4.out).mono ?_);(case side1=>exact cB HR0);(case side2=>exact HC0.out);rintro e w' ⟨rfl,⟨nd,rfl⟩⟩;refine⟨_,rfl,?_⟩))
   go_meet
   case rel=>exact⟨_,(true),sD,H',⟨by first|omega|exact Nat.le_refl _⟩,⟨pB⟩⟩
 case rest =>
  clear HC3;try clear c1
  try clear p2
  try clear c4
  try clear c5
  try clear c6
  obtain⟨kq,x18_2,rfl,HA,HJ2,HB⟩:=hcut;cases kq with
  | zero=>exact absurd HA.out (by simp [Azy.j0])
  | succ kj2 =>
   have H:=HA.out;clear HA;simp only[Azy.j0] at H;by_cases c7:x18_2=true
   ·subst c7;rw[if_pos rfl] at H;obtain⟨rfl,rfl,rfl⟩:=q3 H;go_wp2
    go_ret3
    exact⟨_,_,eW,nK,nK,pB⟩
   ·obtain rfl:=bN c7;rw[if_neg nF] at H
    by_cases c8:(l1.length:Int)=0
    ·rw[if_pos c8] at H;have c8b0:((l1.length:Int) == 0)=true:=beq_iff_eq.mpr c8;have c8b1:((l1.length:Int) != 0)=false:=bne_eq_false_iff_eq.mpr c8;clear c8;obtain⟨rfl,rfl,rfl⟩:=q3 H;go_wp2
     go_ret3
     exact⟨_,_,eW,nK,nK,pB⟩
    ·rw[if_neg c8] at H;have c8b0:((l1.length:Int) == 0)=false:=beq_eq_false_iff_ne.mpr c8;have c8b1:((l1.length:Int) != 0)=true:=bne_iff_ne.mpr c8;have c8b2:¬ (l1=[]):=fun h_=>c8 (by rw[h_];rfl)
     by_cases c9:0≤(l0.length:Int)
     ·rw[if_pos c9] at H;have c9b0:=eq_true c9;have c9b1:=dE c9;clear c9;obtain⟨c10,H⟩:=iO H;have c10b0:=eq_true c10;have c10b1:decide (((l0.length:Int):Int).toNat≤35184372088832)=true:=dE c10;clear c10;obtain⟨y508,hy508⟩:∃ y_:List Int,y_=(List.replicate ((l0.length:Int):Int).toNat 0):=⟨_,rfl⟩;replace H:(Azy.l0 kj2 l0 l1 y508 ([]:List Int) (wrap64 ((l0.length:Int) - 1)))=some (r1,r2,r3):=yE hy508 H
      have Ny508:=aM hy508;clear hy508;have H':=aM H;clear H;go_wp2_with (first|((with_reducible refine gate_dst (N:=24) rfl ?_);refine Kd.R_make (Kd.int .i64) _ 3 rfl (N:=24) rfl 37 _ _ rfl (l0.length:Int) rfl rfl Try.underlying37 (.int .i64 0) 8 info3 rfl (by decide) (by omega) 0 (ok:=fun _=>True) (okp:=fun _=>True) rfl (fun _ hk=>hk) trivial (oE aS) (Nat.le_trans (Nat.mul_le_mul_right _ (oE aS:(l0.length:Int).toNat≤35184372088832)) (by omega)) (Below.refl _ _) (Nat.le_refl _) ?_;intro v509 w11 ho12 hb hg_ hnew_;clear hg_ hnew_;replace ho12:=rY Ny508 ho12;have HO510:=rL ho12;replace HB:=bB hb;clear hb ho12))
      go_loopg [8,9] kj2 (fun kq v8 v9 w'=>∃ (x7_2:List Int) (x8_2:List Int) (x9_2:Int),v9=.int .i64 x9_2∧Aside0 (Azy.l0 kq l0 l1 x7_2 x8_2 x9_2=some (r1,r2,r3))∧Aside0 (kq≤kj2)∧Aside0 (Kd.R (Kd.int .i64) 3 w' w.heap.size (fun k_=>some k_≠(v8:Value).ownBlock) v509 x7_2)∧Aside0 (Kd.R (Kd.int .i64) 3 w' w.heap.size (fun k_=>some k_≠(v509:Value).ownBlock) v8 x8_2)∧Aside0 (Below w.heap.size w w'))
      case atStart=>exact⟨(y508),(([]:List Int)),(wrap64 ((l0.length:Int) - 1)),sD,H',⟨Nat.le_refl _⟩,⟨by exact rX (Kd.R_mono HO510.out (fun _ hk=>(by simp [Value.ownBlock])))⟩,⟨nK⟩,⟨pB⟩⟩
      case round =>
       clear H';try clear c1
       try clear p2
       try clear c4
       try clear c5
       try clear c6
       try clear p6
       try clear c7
       try clear c8
       try clear c8b0
       try clear c8b1
       try clear c8b2
       try clear c9
       try clear c9b0
       try clear c9b1
       try clear c10
       try clear c10b0
       try clear c10b1
       try clear p2
       obtain⟨x7_2,x8_2,x9_2,rfl,HA,HK2,HO_7,HO_8,HB⟩:=hrel;cases gk with
       | zero=>exact absurd HA.out (by simp [Azy.l0])
       | succ k2 =>
        have H:=HA.out;clear HA;simp only[Azy.l0] at H;by_cases c13:x9_2≥0
        ·rw[if_pos c13] at H;have c13b0:decide (0≤x9_2)=true:=dE c13;clear c13;obtain⟨c14b0,H⟩:=iN H;obtain⟨c15b0,H⟩:=iN H;obtain⟨y516,hy516⟩:∃ y_:List Int,y_=(([rd l0 x9_2]:List Int)):=⟨_,rfl⟩;replace H:(if y516.length+x8_2.length < 17592186044416 then((some (y516 ++ x8_2:List Int)).bind fun y519=>(if 0≤(wrap64 ((y519.length:Int) - 1)) then(if(wrap64 ((y519.length:Int) - 1)) < (y519.length:Int) then(if(rd y519 (wrap64 ((y519.length:Int) - 1)))=0 then(Azy.j2 k2 l0 l1 x7_2 ([]:List Int) x9_2) else(Azy.j2 k2 l0 l1 x7_2 y519 x9_2)) else(none)) else(none))) else(none))=some (r1,r2,r3):=yE hy516 H
         have Ny516:=aM hy516;clear hy516;obtain⟨c16,H⟩:=iO H;have LMc16:=aM c16;clear c16;obtain⟨y519,hy519⟩:∃ y_:List Int,y_=(y516 ++ x8_2):=⟨_,rfl⟩;replace H:(if 0≤(wrap64 ((y519.length:Int) - 1)) then(if(wrap64 ((y519.length:Int) - 1)) < (y519.length:Int) then(if(rd y519 (wrap64 ((y519.length:Int) - 1)))=0 then(Azy.j2 k2 l0 l1 x7_2 ([]:List Int) x9_2) else(Azy.j2 k2 l0 l1 x7_2 y519 x9_2)) else(none)) else(none))=some (r1,r2,r3):=yE hy519 H
         have Ny519:=aM hy519;clear hy519;obtain⟨ji17,hji17⟩:∃ j_:Int,(wrap64 ((y519.length:Int) - 1))=j_:=⟨_,rfl⟩;replace H:(if 0≤(ji17) then(if(ji17) < (y519.length:Int) then(if(rd y519 (ji17))=0 then(Azy.j2 k2 l0 l1 x7_2 ([]:List Int) x9_2) else(Azy.j2 k2 l0 l1 x7_2 y519 x9_2)) else(none)) else(none))=some (r1,r2,r3):=by first|(rw[hji17] at H;exact H)|(simp only[hji17] at H ⊢;exact H)
         have hji17w:(IntKind.i64.wrap ((y519.length:Int) - 1))=ji17:=(i64_w _).trans hji17;obtain⟨c18b0,H⟩:=iN H;obtain⟨c19b0,H⟩:=iN H;have HC20:=aM H;clear H;obtain⟨ad515,e515,hx515_0,p515,q515⟩:=aI HR0.out x9_2;cases e515
         replace hx515_0:=hB HB hx515_0;go_upto_if 45 with (first|((with_reducible refine gd 36 rfl ?_);refine iL 36 [rd l0 x9_2] ?_;intro v517 w21 ho22 hb;replace ho22:=rY Ny516 ho22;have HO518:=rL (rn (rn ho22 HO_7) HO_8);replace HO_7:=rE HO_7 ho22 hb;replace HO_8:=rE HO_8 ho22 hb;replace HB:=bB hb;clear hb ho22;obtain⟨Ao24,co24,rfl⟩:=Kd.R_slice HO_8.out)|((with_reducible refine gate_builtin (b:=.append) (xs:=#[.tmp 36,.tmp 37]) rfl ?_);at_builtin;refine Kd.R_append_rows (Kd.int .i64) (w0:=w) w.heap.size rfl (.tmp 36) (.tmp 37) 37 3 (.int .i64 0) 8 rfl Try.underlying37 info3 rfl (by decide) (by omega) v517 y516 x8_2 _ _ _ (fun k_=>some k_≠(v509:Value).ownBlock∧some k_≠(.slice Ao24 x8_2.length co24:Value).ownBlock) (fun _=>False) rfl rfl ?aO ?aR (fun _ _ h=>h) (fun _ h=>h.elim) ?aF ?aB ?aS ?aL ?_;(case aR=>exact cR HO_8);(case aB=>exact pB);(case aF=>exact(fun k_ hk=>⟨Kd.fresh' (Kd.R_lt (rX HO_7.out)) k_ hk,Kd.fresh' (Kd.R_lt (rX HO_8.out)) k_ hk⟩));(case aO=>exact(rX (Kd.R_mono HO518.out (fun _ hk=>⟨hk.1.2,hk.2⟩))));(case aS=>exact(below_size pB));(case aL=>have:=LMc16.out;omega);intro v520 w23 ho hb hg hat;rw[← Ny519.out] at ho;have HO521:=aM (ho);replace HO_7:=aM (Kd.R_after (ok:=(fun k_=>some k_≠(.slice Ao24 x8_2.length co24:Value).ownBlock)) (rX HO_7.out) hg hat);replace HO_8:=aM (Kd.R_after (ok:=(fun k_=>some k_≠(v509:Value).ownBlock)) (rX HO_8.out) hg hat);replace HB:=aM (hb);clear HO518;clear ho hb hg hat;obtain⟨Ao25,co25,rfl⟩:=Kd.R_slice HO521.out;obtain⟨ad522,e522,hx522_0,p522,q522⟩:=aI (Kd.R_reads' HO521.out).2.2 (ji17);cases e522))
         (try simp only[Act.put,sA,sZ,sC])
         go_cut [8] (fun v8 wc=>∃ (kq:Nat) (x8_19:List Int),Aside0 (Azy.j2 kq l0 l1 x7_2 x8_19 x9_2=some (r1,r2,r3))∧Aside0 (kq≤k2)∧Aside0 (Kd.R (Kd.int .i64) 3 wc w.heap.size (fun k_=>some k_≠(v8:Value).ownBlock) v509 x7_2)∧Aside0 (Kd.R (Kd.int .i64) 3 wc w.heap.size (fun k_=>some k_≠(v509:Value).ownBlock) v8 x8_19)∧Aside0 (Below w.heap.size w wc))
         case first =>
          have H:=HC20.out;clear HC20;by_cases c26:(rd y519 (ji17))=0
          ·rw[if_pos c26] at H;have c26b0:((rd y519 (ji17)) == 0)=true:=beq_iff_eq.mpr c26;have c26b1:((rd y519 (ji17)) != 0)=false:=bne_eq_false_iff_eq.mpr c26;clear c26;(first|rw[c26b0]|(simp only[i64_w,i32_w];rw[c26b0])|skip)
           have H':=aM H;clear H;go_wp2
           go_meet
           case rel=>exact⟨_,(([]:List Int)),H',⟨by have:=HJ2.out;have:=HK2.out;first|omega|exact Nat.le_refl _⟩,⟨by exact rX (Kd.R_mono HO_7.out (fun _ hk=>(by simp [Value.ownBlock])))⟩,⟨nK⟩,⟨pB⟩⟩
          ·rw[if_neg c26] at H;have c26b0:((rd y519 (ji17)) == 0)=false:=beq_eq_false_iff_ne.mpr c26;have c26b1:((rd y519 (ji17)) != 0)=true:=bne_iff_ne.mpr c26;(first|rw[c26b0]|(simp only[i64_w,i32_w];rw[c26b0])|skip)
           have H':=aM H;clear H;go_wp2
           go_meet
           case rel=>exact⟨_,(y519),H',⟨by have:=HJ2.out;have:=HK2.out;first|omega|exact Nat.le_refl _⟩,⟨by exact rX (Kd.R_mono HO_7.out (fun _ hk=>hk.2))⟩,⟨by exact rX (Kd.R_mono HO521.out (fun _ hk=>hk.1))⟩,⟨pB⟩⟩
         case rest =>
          clear HC20;try clear c1
          try clear c2
          try clear p2
          try clear c4
          try clear c5
          try clear p5
          try clear q5
          try clear hx5
          try clear c6
          try clear p6
          try clear c7
          try clear c8
          try clear c8b0
          try clear c8b1
          try clear c8b2
          try clear c9
          try clear c9b0
          try clear c9b1
          try clear c10
          try clear c10b0
          try clear c10b1
          try clear c13
          try clear c13b0
          try clear c14
          try clear c14b0
          try clear c15
          try clear c15b0
          try clear c16
          try clear c18
          try clear c18b0
          try clear c19
          try clear c19b0
          try clear c26
          try clear c26b0
          try clear c26b1
          try clear hx515_0
          try clear hx522_0
          try clear p2
          try clear p515
          try clear p522
          try clear p6
          try clear q515
          try clear q522
          obtain⟨kq,x8_19,HA,HJ19,HO_7,HO_8,HB⟩:=hcut;cases kq with
          | zero=>exact absurd HA.out (by simp [Azy.j2])
          | succ kj19 =>
           have H:=HA.out;clear HA;simp only[Azy.j2] at H;obtain⟨t523,A27,H⟩:=bT H;(try dsimp only at H);obtain⟨c28b0,H⟩:=iN H;obtain⟨c29b0,H⟩:=iN H;obtain⟨y524,hy524⟩:∃ y_:List Int,y_=(x7_2.set (x9_2:Int).toNat t523):=⟨_,rfl⟩;replace H:(if t523 > 0 then((Azk.f kj19 l1 (([t523]:List Int))).bind fun t528=>((Bzp.f kj19 x8_19 t528).bind fun t531=>(Azy.l0 kj19 l0 l1 y524 t531 (wrap64 (x9_2 - 1))))) else(Azy.l0 kj19 l0 l1 y524 x8_19 (wrap64 (x9_2 - 1))))=some (r1,r2,r3):=yE hy524 H
           have Ny524:=aM hy524;clear hy524;by_cases c31:t523 > 0
           ·rw[if_pos c31] at H;have c31b0:decide (0 < t523)=true:=dE c31;clear c31;obtain⟨y525,hy525⟩:∃ y_:List Int,y_=(([t523]:List Int)):=⟨_,rfl⟩;replace H:((Azk.f kj19 l1 y525).bind fun t528=>((Bzp.f kj19 x8_19 t528).bind fun t531=>(Azy.l0 kj19 l0 l1 y524 t531 (wrap64 (x9_2 - 1)))))=some (r1,r2,r3):=yE hy525 H
            have Ny525:=aM hy525;clear hy525;obtain⟨t528,A32,H⟩:=bT H;(try dsimp only at H);obtain⟨t531,A33,H⟩:=bT H;(try dsimp only at H);have H':=aM H;clear H;obtain⟨Ao34,co34,rfl⟩:=Kd.R_slice HO_8.out;go_wp2_with (first|((with_reducible refine gc 83 rfl ?_);refine gC 83 (some 48) Try.func83 #[.slice Ao34 x8_19.length co34,.slice A1 l1.length c1] ?_;(with_reducible refine(Bzm.calls kj19 _ _ x8_19 _ _ l1 t523 _ ?side1 ?side2 ?side3 ?side4 A27.out).mono ?_);(case side1=>exact cR HO_8);(case side2=>exact lR HO_8);(case side3=>exact cB HR1);(case side4=>exact HC1.out);rintro e w35 ⟨rfl,hb⟩;refine⟨_,rfl,?_⟩;replace HO_7:=rB HO_7 hb;replace HO_8:=rB HO_8 hb;replace HB:=bB hb;clear hb;have p30:0≤(x9_2:Int):=oE aS;have q30:(x9_2:Int) < ((x7_2.length:Int):Int):=oE aS;obtain⟨go30,co30,eo30,gb30,gl30,cl30,HG30⟩:=Kd.R_form HO_7.out (by omega);(first|cases eo30|(injection eo30 with ea_ en_ ec_;(first|subst ea_|(injection ea_ with ea_;subst ea_));subst ec_;clear en_));have GB30:=aM gb30;have GG30:=aM HG30;clear gb30 gl30 HG30;obtain⟨hx30_0,hf30_0⟩:=Kd.R_celln 0 HO_7.out (x9_2:Int) p30 q30;replace p30:=eq_true p30;replace q30:=eq_true q30;obtain⟨hy36_,hz36_⟩:=Kd.R_celln 0 HO_7.out (x9_2:Int) (oE aS) (oE aS);have HP36:=Kd.R_putg HO_7.out (x9_2:Int) t523)|((with_reducible refine gate_store (t:=3) (p:=52) rfl ?_);refine store_event (t:=3) (p:=52) (v:=?vo_w37) (w1:=(w35.setCell ⟨go30,(x9_2:Int).toNat,none⟩ (.int .i64 t523))) ?hg ?ho ?hn ?hr ?_;(case ho=>rfl);(case hg=>rfl);(case hn=>rfl);(case hr=>first|(go_simp;done)|(go_simp;rfl));intro w37 hw;have hg:w35.grownBy w37 (some go30):=(by rw[hw];exact HP36.2);have hp_:Kd.R (Kd.int .i64) 3 w37 w.heap.size (fun k_=>some k_≠(.slice Ao34 x8_19.length co34:Value).ownBlock) (.slice (some ⟨go30,0,none⟩) x7_2.length co30) y524:=(by rw[hw,Ny524.out];exact HP36.1);clear HP36;replace HO_7:=aM (hp_);replace HO_8:=aM (Kd.R_after (v:=(.slice (some ⟨go30,0,none⟩) x7_2.length co30)) (v1:=(.slice (some ⟨go30,0,none⟩) x7_2.length co30)) (ok:=(fun _=>True)) (rX (Kd.R_mono HO_8.out (fun _ hk=>⟨trivial,hk⟩))) hg (.inl rfl));replace HB:=aM ((by rw[hw];exact below_set (HB.out) GB30.out:Below w.heap.size w w37));clear hg hw hp_)|((with_reducible refine gd 58 rfl ?_);refine iL 58 [t523] ?_;intro v526 w38 ho39 hb;replace ho39:=rY Ny525 ho39;have HO527:=rL (rn (rn ho39 HO_7) HO_8);replace HO_7:=rE HO_7 ho39 hb;replace HO_8:=rE HO_8 ho39 hb;replace HB:=bB hb;clear hb ho39;obtain⟨Ao40,co40,rfl⟩:=Kd.R_slice HO527.out)|((with_reducible refine gc 66 rfl ?_);refine gC 66 (some 59) Try.func66 #[.slice A1 l1.length c1,.slice Ao40 y525.length co40] ?_;(with_reducible refine(Azk.calls kj19 _ _ l1 _ _ y525 t528 _ ?side1 ?side2 ?side3 ?side4 A32.out).mono ?_);(case side1=>exact cB HR1);(case side2=>exact HC1.out);(case side3=>exact cR HO527);(case side4=>exact lR HO527);rintro e w41 ⟨v529,rfl,ho0,hb⟩;refine⟨_,rfl,?_⟩;have HO530:=rL (rn (rn (rn ho0 HO_7) HO_8) HO527);replace HO_7:=rE HO_7 ho0 hb;replace HO_8:=rE HO_8 ho0 hb;replace HO527:=rE HO527 ho0 hb;replace HB:=bB hb;clear hb ho0;obtain⟨Ao42,co42,rfl⟩:=Kd.R_slice HO530.out)|((with_reducible refine gc 84 rfl ?_);refine gC 84 (some 60) Try.func84 #[.slice Ao34 x8_19.length co34,.slice Ao42 t528.length co42] ?_;(with_reducible refine(Bzp.calls kj19 _ _ x8_19 _ _ t528 t531 _ ?side1 ?side2 ?side3 ?side4 A33.out).mono ?_);(case side1=>exact cR HO_8);(case side2=>exact lR HO_8);(case side3=>exact cR HO530);(case side4=>exact lR HO530);rintro e w43 ⟨v532,rfl,ho0,hb⟩;refine⟨_,rfl,?_⟩;have HO533:=rL (rn (rn (rn (rn ho0 HO_7) HO_8) HO527) HO530);replace HO_7:=rE HO_7 ho0 hb;replace HO_8:=rE HO_8 ho0 hb;replace HO527:=rE HO527 ho0 hb;replace HO530:=rE HO530 ho0 hb;replace HB:=bB hb;clear hb ho0))
            go_roundg kj19
            case measure=>have:=HJ2.out;have:=HK2.out;have:=HJ19.out;omega
            case rel=>exact⟨(y524),(t531),(wrap64 (x9_2 - 1)),sD,H',⟨by have:=HJ2.out;have:=HK2.out;have:=HJ19.out;omega⟩,⟨by exact rX (Kd.R_mono HO_7.out (fun _ hk=>hk.2))⟩,⟨by exact rX (Kd.R_mono HO533.out (fun _ hk=>hk.1.1.1.2))⟩,⟨pB⟩⟩
           ·rw[if_neg c31] at H;have c31b0:decide (0 < t523)=false:=decide_eq_false c31;clear c31;have H':=aM H;clear H;obtain⟨Ao44,co44,rfl⟩:=Kd.R_slice HO_8.out;go_wp2_with (first|((with_reducible refine gc 83 rfl ?_);refine gC 83 (some 48) Try.func83 #[.slice Ao44 x8_19.length co44,.slice A1 l1.length c1] ?_;(with_reducible refine(Bzm.calls kj19 _ _ x8_19 _ _ l1 t523 _ ?side1 ?side2 ?side3 ?side4 A27.out).mono ?_);(case side1=>exact cR HO_8);(case side2=>exact lR HO_8);(case side3=>exact cB HR1);(case side4=>exact HC1.out);rintro e w45 ⟨rfl,hb⟩;refine⟨_,rfl,?_⟩;replace HO_7:=rB HO_7 hb;replace HO_8:=rB HO_8 hb;replace HB:=bB hb;clear hb;have p30:0≤(x9_2:Int):=oE aS;have q30:(x9_2:Int) < ((x7_2.length:Int):Int):=oE aS;obtain⟨go30,co30,eo30,gb30,gl30,cl30,HG30⟩:=Kd.R_form HO_7.out (by omega);(first|cases eo30|(injection eo30 with ea_ en_ ec_;(first|subst ea_|(injection ea_ with ea_;subst ea_));subst ec_;clear en_));have GB30:=aM gb30;have GG30:=aM HG30;clear gb30 gl30 HG30;obtain⟨hx30_0,hf30_0⟩:=Kd.R_celln 0 HO_7.out (x9_2:Int) p30 q30;replace p30:=eq_true p30;replace q30:=eq_true q30;obtain⟨hy46_,hz46_⟩:=Kd.R_celln 0 HO_7.out (x9_2:Int) (oE aS) (oE aS);have HP46:=Kd.R_putg HO_7.out (x9_2:Int) t523)|((with_reducible refine gate_store (t:=3) (p:=52) rfl ?_);refine store_event (t:=3) (p:=52) (v:=?vo_w47) (w1:=(w45.setCell ⟨go30,(x9_2:Int).toNat,none⟩ (.int .i64 t523))) ?hg ?ho ?hn ?hr ?_;(case ho=>rfl);(case hg=>rfl);(case hn=>rfl);(case hr=>first|(go_simp;done)|(go_simp;rfl));intro w47 hw;have hg:w45.grownBy w47 (some go30):=(by rw[hw];exact HP46.2);have hp_:Kd.R (Kd.int .i64) 3 w47 w.heap.size (fun k_=>some k_≠(.slice Ao44 x8_19.length co44:Value).ownBlock) (.slice (some ⟨go30,0,none⟩) x7_2.length co30) y524:=(by rw[hw,Ny524.out];exact HP46.1);clear HP46;replace HO_7:=aM (hp_);replace HO_8:=aM (Kd.R_after (v:=(.slice (some ⟨go30,0,none⟩) x7_2.length co30)) (v1:=(.slice (some ⟨go30,0,none⟩) x7_2.length co30)) (ok:=(fun _=>True)) (rX (Kd.R_mono HO_8.out (fun _ hk=>⟨trivial,hk⟩))) hg (.inl rfl));replace HB:=aM ((by rw[hw];exact below_set (HB.out) GB30.out:Below w.heap.size w w47));clear hg hw hp_))
            go_roundg kj19
            case measure=>have:=HJ2.out;have:=HK2.out;have:=HJ19.out;omega
            case rel=>exact⟨(y524),(x8_19),(wrap64 (x9_2 - 1)),sD,H',⟨by have:=HJ2.out;have:=HK2.out;have:=HJ19.out;omega⟩,⟨rX HO_7.out⟩,⟨by exact rX (Kd.R_mono HO_8.out (fun _ hk=>hk.2))⟩,⟨pB⟩⟩
        ·rw[if_neg c13] at H;have c13b0:decide (0≤x9_2)=false:=decide_eq_false c13;clear c13;replace H:=bS H;obtain⟨⟨t511,t512⟩,A480,H⟩:=H;replace H:(some (t511,x8_2,0))=some (r1,r2,r3):=H;have A48:=aM A480;clear A480;obtain⟨rfl,rfl,rfl⟩:=q3 H;obtain⟨Ao49,co49,rfl⟩:=Kd.R_slice HO_7.out;go_wp2_with (first|((with_reducible refine gc 65 rfl ?_);refine gC 65 (some 63) Try.func65 #[.slice Ao49 x7_2.length co49] ?_;(with_reducible refine(Bzk.calls k2 _ _ x7_2 t511 t512 _ ?side1 ?side2 A48.out).mono ?_);(case side1=>exact cR HO_7);(case side2=>exact lR HO_7);rintro e w50 ⟨v513,rfl,ho0,hb⟩;refine⟨_,rfl,?_⟩;have HO514:=rL (rn (rn ho0 HO_7) HO_8);replace HO_7:=rE HO_7 ho0 hb;replace HO_8:=rE HO_8 ho0 hb;replace HB:=bB hb;clear hb ho0))
         go_ret3
         exact⟨_,_,eW,by exact rX (Kd.R_mono HO514.out (fun _ hk=>hk.2)),by exact rX (Kd.R_mono HO_8.out (fun _ hk=>hk.2)),pB⟩
     ·rw[if_neg c9] at H;exact absurd H (by simp)

end Go.Proofs.Ytnklckihalhlmaa.Print
