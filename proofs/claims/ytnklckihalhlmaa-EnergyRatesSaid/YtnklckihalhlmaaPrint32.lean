import Derived.Test.YtnklckihalhlmaaPrint0
namespace Go.Proofs.Ytnklckihalhlmaa.Print
open Go.RowKit Go.Proofs.YtnklckihalhlmaaW.PrintWords Go.Proofs.YtnklckihalhlmaaW.PrintLast Go.Proofs.YtnklckihalhlmaaW.PrintMore
attribute [local go_sem] max2_int min2_int max_two min_two max_three min_three max_four min_four
set_option linter.unusedVariables false
set_option maxRecDepth 100000
set_option maxHeartbeats 8000000
set_option linter.unusedSimpArgs false

mutual
def Azw.j0:Nat→List Int→Bool→Option (Bool)
 | 0,_,_=>none
 | k+1,x0,x20=>if x20=true then(some false) else(Azw.l0 k x0 0)
def Azw.l0:Nat→List Int→Int→Option (Bool)
 | 0,_,_=>none
 | k+1,x0,x3=>if x3 < (x0.length:Int) then(if 0≤x3 then(if(rd x0 x3) < 0 then(some false) else(if(rd x0 x3)≥1000000000 then(some false) else(Azw.l0 k x0 (wrap64 (x3+1))))) else(none)) else(some true)
end
def Azw.f (k:Nat) (l0:List Int):Option (Bool):=if(l0.length:Int) > 48 then(Azw.j0 k l0 true) else(if(l0.length:Int) > 0 then(if 0≤(wrap64 ((l0.length:Int) - 1)) then(if(wrap64 ((l0.length:Int) - 1)) < (l0.length:Int) then(Azw.j0 k l0 ((rd l0 (wrap64 ((l0.length:Int) - 1))) == 0)) else(none)) else(none)) else(Azw.j0 k l0 false))
theorem Azw.mono_l:∀ k,(∀ y0 y1,LeO (Azw.j0 k y0 y1) (Azw.j0 (k+1) y0 y1))∧(∀ y0 y1,LeO (Azw.l0 k y0 y1) (Azw.l0 (k+1) y0 y1))
 | 0=>⟨fun _ _ r h=>by simp [Azw.j0] at h,fun _ _ r h=>by simp [Azw.l0] at h⟩
 | k+1=>by
  obtain⟨ih0,ih1⟩:=Azw.mono_l k;refine⟨?_,?_⟩
  ·intro y0 y1;unfold Azw.j0;exact mM
  ·intro y0 y1;unfold Azw.l0;exact mM
theorem Azw.mono:∀ a0 k,LeO (Azw.f k a0) (Azw.f (k+1) a0):=by
 intro a0 k;obtain⟨ih0,ih1⟩:=Azw.mono_l k;unfold Azw.f;exact mM
theorem Azw.calls (k:Nat) (A0:Option Addr) (c0:Nat) (l0:List Int) (r:Bool) (w:World) (hr0:Kd.C (Kd.int .i64) w A0 l0.length l0) (hc0:l0.length≤c0) (h:Azw.f k l0=some r) :
  Calls Try.prog 42 #[.slice A0 l0.length c0] w fun e w'=>e=.returned (.bool r)∧Drawn0 w w':=by
 have HR0:=aM hr0;have HC0:=aM hc0;clear hr0 hc0;have H:(if(l0.length:Int) > 48 then(Azw.j0 k l0 true) else(if(l0.length:Int) > 0 then(if 0≤(wrap64 ((l0.length:Int) - 1)) then(if(wrap64 ((l0.length:Int) - 1)) < (l0.length:Int) then(Azw.j0 k l0 ((rd l0 (wrap64 ((l0.length:Int) - 1))) == 0)) else(none)) else(none)) else(Azw.j0 k l0 false)))=some r:=h
 clear h;have HC2:=aM H;clear H;go_enter Try.func42,Try.ntmps42
 go_upto_region 1 with (fail)
 go_cut [20] (fun v20 wc=>∃ (kq:Nat) (x20_1:Bool),v20=.bool x20_1∧Aside0 (Azw.j0 kq l0 x20_1=some r)∧Aside0 (kq≤k)∧Drawn0 w wc)
 case first =>
  have H:=HC2.out;clear HC2;by_cases c3:(l0.length:Int) > 48
  ·rw[if_pos c3] at H;have c3b0:decide (48 < (l0.length:Int))=true:=dE c3;have c3b1:decide (48 < l0.length)=true:=dE (by omega)
   clear c3;(first|rw[c3b0]|(simp only[i64_w,i32_w];rw[c3b0])|skip)
   have H':=aM H;clear H;go_wp2
   go_meet
   case rel=>exact⟨_,(true),sD,H',⟨by first|omega|exact Nat.le_refl _⟩,dR⟩
  ·rw[if_neg c3] at H;have c3b0:decide (48 < (l0.length:Int))=false:=decide_eq_false c3;have c3b1:decide (48 < l0.length)=false:=decide_eq_false (by omega)
   clear c3;(first|rw[c3b0]|(simp only[i64_w,i32_w];rw[c3b0])|skip)
   by_cases c4:(l0.length:Int) > 0
   ·rw[if_pos c4] at H;have c4b0:decide (0 < (l0.length:Int))=true:=dE c4;have c4b1:decide (0 < l0.length)=true:=dE (by omega)
    clear c4;obtain⟨ji5,hji5⟩:∃ j_:Int,(wrap64 ((l0.length:Int) - 1))=j_:=⟨_,rfl⟩;replace H:(if 0≤(ji5) then(if(ji5) < (l0.length:Int) then(Azw.j0 k l0 ((rd l0 (ji5)) == 0)) else(none)) else(none))=some r:=by first|(rw[hji5] at H;exact H)|(simp only[hji5] at H ⊢;exact H)
    have hji5w:(IntKind.i64.wrap ((l0.length:Int) - 1))=ji5:=(i64_w _).trans hji5;obtain⟨c6b0,H⟩:=iN H;obtain⟨c7b0,H⟩:=iN H;have H':=aM H;clear H;obtain⟨ad446,e446,hx446_0,p446,q446⟩:=aI HR0.out (ji5);cases e446;go_wp2
    go_meet
    case rel=>exact⟨_,(((rd l0 (ji5)) == 0)),(by first|rfl|(simp;done)|(simp only[← hji5] <;> (first|rfl|simp))|(simp [*];done)),H',⟨by first|omega|exact Nat.le_refl _⟩,dR⟩
   ·rw[if_neg c4] at H;have c4b0:decide (0 < (l0.length:Int))=false:=decide_eq_false c4;have c4b1:decide (0 < l0.length)=false:=decide_eq_false (by omega)
    clear c4;have H':=aM H;clear H;go_wp2
    go_meet
    case rel=>exact⟨_,(false),sD,H',⟨by first|omega|exact Nat.le_refl _⟩,dR⟩
 case rest =>
  clear HC2;try clear p2
  try clear c3
  try clear c3b0
  try clear c3b1
  try clear c4
  try clear c4b0
  try clear c4b1
  try clear p4
  try clear q4
  try clear hx4
  try clear c6
  try clear c6b0
  try clear p6
  try clear c7
  try clear c7b0
  try clear hx446_0
  try clear p446
  try clear q446
  obtain⟨kq,x20_1,rfl,HA,HJ1,⟨mc1,rfl⟩⟩:=hcut;cases kq with
  | zero=>exact absurd HA.out (by simp [Azw.j0])
  | succ kj1 =>
   have H:=HA.out;clear HA;simp only[Azw.j0] at H;by_cases c8:x20_1=true
   ·subst c8;rw[if_pos rfl] at H;obtain rfl:=Option.some.inj H;go_wp2
    go_ret
    exact⟨sD,dR⟩
   ·obtain rfl:=bN c8;rw[if_neg nF] at H
    have H':=aM H;clear H;go_wp2
    go_loopg [3] kj1 (fun kq v3 w'=>∃ (x3_2:Int),v3=.int .i64 x3_2∧Aside0 (Azw.l0 kq l0 x3_2=some r)∧Aside0 (kq≤kj1)∧Drawn0 w w')
    case atStart=>exact⟨(0),sD,H',⟨Nat.le_refl _⟩,dR⟩
    case round =>
     clear H';try clear c1
     try clear p2
     try clear c3
     try clear c3b0
     try clear c3b1
     try clear c4
     try clear c4b0
     try clear c4b1
     try clear p4
     try clear q4
     try clear hx4
     try clear c6
     try clear c6b0
     try clear p6
     try clear c7
     try clear c7b0
     try clear c8
     try clear hx446_0
     try clear p2
     try clear p4
     try clear p446
     try clear p6
     try clear q4
     try clear q446
     obtain⟨x3_2,rfl,HA,HK2,⟨m2,rfl⟩⟩:=hrel;cases gk with
     | zero=>exact absurd HA.out (by simp [Azw.l0])
     | succ k2 =>
      have H:=HA.out;clear HA;simp only[Azw.l0] at H;by_cases c9:x3_2 < (l0.length:Int)
      ·rw[if_pos c9] at H;have c9b0:=dE c9;clear c9;obtain⟨c10b0,H⟩:=iN H;by_cases c11:(rd l0 x3_2) < 0
       ·rw[if_pos c11] at H;have c11b0:=dE c11;clear c11;obtain rfl:=Option.some.inj H;obtain⟨ad447,e447,hx447_0,p447,q447⟩:=aI HR0.out x3_2;cases e447;go_wp2
        go_ret
        exact⟨sD,dR⟩
       ·rw[if_neg c11] at H;have c11b0:decide ((rd l0 x3_2) < 0)=false:=decide_eq_false c11;clear c11;by_cases c12:(rd l0 x3_2)≥1000000000
        ·rw[if_pos c12] at H;have c12b0:decide (1000000000≤(rd l0 x3_2))=true:=dE c12;clear c12;obtain rfl:=Option.some.inj H;obtain⟨ad447,e447,hx447_0,p447,q447⟩:=aI HR0.out x3_2;cases e447;obtain⟨ad448,e448,hx448_0,p448,q448⟩:=aI HR0.out x3_2;obtain rfl:ad447=ad448:=(by injection e448);go_wp2
         go_ret
         exact⟨sD,dR⟩
        ·rw[if_neg c12] at H;have c12b0:decide (1000000000≤(rd l0 x3_2))=false:=decide_eq_false c12;clear c12;have H':=aM H;clear H;obtain⟨ad447,e447,hx447_0,p447,q447⟩:=aI HR0.out x3_2;cases e447;obtain⟨ad448,e448,hx448_0,p448,q448⟩:=aI HR0.out x3_2;obtain rfl:ad447=ad448:=(by injection e448);go_wp2
         go_roundg k2
         case measure=>have:=HJ1.out;have:=HK2.out;omega
         case rel=>exact⟨(wrap64 (x3_2+1)),sD,H',⟨by have:=HJ1.out;have:=HK2.out;omega⟩,dR⟩
      ·rw[if_neg c9] at H;have c9b0:decide (x3_2 < (l0.length:Int))=false:=decide_eq_false c9;clear c9;obtain rfl:=Option.some.inj H;go_wp2
       go_ret
       exact⟨sD,dR⟩


def Bzk.l0:Nat→List Int→Int→Option (List Int × Int)
 | 0,_,_=>none
 | k+1,x0,x4=>if x4 > 0 then(if 0≤(wrap64 (x4 - 1)) then(if(wrap64 (x4 - 1)) < (x0.length:Int) then(if(rd x0 (wrap64 (x4 - 1)))=0 then(Bzk.l0 k x0 (wrap64 (x4 - 1))) else(if x4 > 48 then(some (([]:List Int),2)) else((some (([]:List Int):List Int)).bind fun y450=>(if 0≤x4 then(if x4≤(x0.length:Int) then(if y450.length+(x0.take (x4:Int).toNat).length < 17592186044416 then(some ((y450 ++ (x0.take (x4:Int).toNat)),0)) else(none)) else(none)) else(none))))) else(none)) else(none)) else(if x4 > 48 then(some (([]:List Int),2)) else((some (([]:List Int):List Int)).bind fun y457=>(if 0≤x4 then(if x4≤(x0.length:Int) then(if y457.length+(x0.take (x4:Int).toNat).length < 17592186044416 then(some ((y457 ++ (x0.take (x4:Int).toNat)),0)) else(none)) else(none)) else(none))))
def Bzk.f (k:Nat) (l0:List Int):Option (List Int × Int):=Bzk.l0 k l0 (l0.length:Int)
theorem Bzk.mono_l:∀ k,(∀ y0 y1,LeO (Bzk.l0 k y0 y1) (Bzk.l0 (k+1) y0 y1))
 | 0=>fun _ _ r h=>by simp [Bzk.l0] at h
 | k+1=>by
  have ih0:=Bzk.mono_l k
  ·intro y0 y1;unfold Bzk.l0;exact mM
theorem Bzk.mono:∀ a0 k,LeO (Bzk.f k a0) (Bzk.f (k+1) a0):=by
 intro a0 k;have ih0:=Bzk.mono_l k;unfold Bzk.f;exact mM
theorem Bzk.calls (k:Nat) (A0:Option Addr) (c0:Nat) (l0:List Int) (r1:List Int) (r2:Int) (w:World) (hr0:Kd.C (Kd.int .i64) w A0 l0.length l0) (hc0:l0.length≤c0) (h:Bzk.f k l0=some (r1,r2)) :
  Calls Try.prog 65 #[.slice A0 l0.length c0] w fun e w'=>∃ v0_:Value,e=.returned (.tuple #[v0_,.int .i64 r2])∧Kd.R (Kd.int .i64) 3 w' w.heap.size (fun _=>True) v0_ r1∧Below w.heap.size w w':=by
 have HR0:=aM hr0;have HC0:=aM hc0;clear hr0 hc0;have HB:=aM (Below.refl w.heap.size w);have H:(Bzk.l0 k l0 (l0.length:Int))=some (r1,r2):=h;clear h;have H':=aM H;clear H;go_enter Try.func65,Try.ntmps65
 go_wp2
 go_loopg [4] k (fun kq v4 w'=>∃ (x4_1:Int),v4=.int .i64 x4_1∧Aside0 (Bzk.l0 kq l0 x4_1=some (r1,r2))∧Aside0 (kq≤k)∧Aside0 (Below w.heap.size w w'))
 case atStart=>exact⟨((l0.length:Int)),sD,H',⟨Nat.le_refl _⟩,⟨pB⟩⟩
 case round =>
  clear H';obtain⟨x4_1,rfl,HA,HK1,HB⟩:=hrel;cases gk with
  | zero=>exact absurd HA.out (by simp [Bzk.l0])
  | succ k1 =>
   have H:=HA.out;clear HA;simp only[Bzk.l0] at H;by_cases c2:x4_1 > 0
   ·rw[if_pos c2] at H;have c2b0:decide (0 < x4_1)=true:=dE c2;clear c2;obtain⟨ji3,hji3⟩:∃ j_:Int,(wrap64 (x4_1 - 1))=j_:=⟨_,rfl⟩;replace H:(if 0≤(ji3) then(if(ji3) < (l0.length:Int) then(if(rd l0 (ji3))=0 then(Bzk.l0 k1 l0 ji3) else(if x4_1 > 48 then(some (([]:List Int),2)) else((some (([]:List Int):List Int)).bind fun y450=>(if 0≤x4_1 then(if x4_1≤(l0.length:Int) then(if y450.length+(l0.take (x4_1:Int).toNat).length < 17592186044416 then(some ((y450 ++ (l0.take (x4_1:Int).toNat)),0)) else(none)) else(none)) else(none))))) else(none)) else(none))=some (r1,r2):=by first|(rw[hji3] at H;exact H)|(simp only[hji3] at H ⊢;exact H)
    have hji3w:(IntKind.i64.wrap (x4_1 - 1))=ji3:=(i64_w _).trans hji3;obtain⟨c4b0,H⟩:=iN H;obtain⟨c5b0,H⟩:=iN H;by_cases c6:(rd l0 (ji3))=0
    ·rw[if_pos c6] at H;have c6b0:((rd l0 (ji3)) == 0)=true:=beq_iff_eq.mpr c6;have c6b1:((rd l0 (ji3)) != 0)=false:=bne_eq_false_iff_eq.mpr c6;clear c6;have H':=aM H;clear H;obtain⟨ad449,e449,hx449_0,p449,q449⟩:=aI HR0.out (ji3);cases e449
     replace hx449_0:=hB HB hx449_0;go_wp2
     go_roundg k1
     case measure=>have:=HK1.out;omega
     case rel=>exact⟨(ji3),(by first|rfl|(simp;done)|(simp only[← hji3] <;> (first|rfl|simp))|(simp [*];done)),H',⟨by have:=HK1.out;omega⟩,⟨pB⟩⟩
    ·rw[if_neg c6] at H;have c6b0:((rd l0 (ji3)) == 0)=false:=beq_eq_false_iff_ne.mpr c6;have c6b1:((rd l0 (ji3)) != 0)=true:=bne_iff_ne.mpr c6;by_cases c7:x4_1 > 48
     ·rw[if_pos c7] at H;have c7b0:decide (48 < x4_1)=true:=dE c7;clear c7;obtain⟨rfl,rfl⟩:=q2 H;obtain⟨ad449,e449,hx449_0,p449,q449⟩:=aI HR0.out (ji3);cases e449
      replace hx449_0:=hB HB hx449_0;go_wp2
      go_ret2
      exact⟨_,by first|rfl|(simp [errW_none,errW_some] <;> rfl)|(simp only[← hji3];first|rfl|(simp [errW_none,errW_some] <;> rfl))|(simp [*,errW_none,errW_some] <;> rfl),nK,pB⟩
     ·rw[if_neg c7] at H;have c7b0:decide (48 < x4_1)=false:=decide_eq_false c7;clear c7;obtain⟨y450,hy450⟩:∃ y_:List Int,y_=(([]:List Int)):=⟨_,rfl⟩;replace H:(if 0≤x4_1 then(if x4_1≤(l0.length:Int) then(if y450.length+(l0.take (x4_1:Int).toNat).length < 17592186044416 then(some ((y450 ++ (l0.take (x4_1:Int).toNat)),0)) else(none)) else(none)) else(none))=some (r1,r2):=yE hy450 H
      have Ny450:=aM hy450;clear hy450;obtain⟨c8,H⟩:=iO H;have c8b0:=eq_true c8;have c8b1:decide (0≤x4_1)=true:=dE c8;clear c8;obtain⟨c9,H⟩:=iO H;have c9b0:=eq_true c9;have c9b1:decide (x4_1≤(l0.length:Int))=true:=dE c9;clear c9;obtain⟨c10,H⟩:=iO H;have LMc10:=aM c10;clear c10;obtain⟨y454,hy454⟩:∃ y_:List Int,y_=(y450 ++ (l0.take (x4_1:Int).toNat)):=⟨_,rfl⟩;replace H:(some (y454,0))=some (r1,r2):=yE hy454 H
      have Ny454:=aM hy454;clear hy454;obtain⟨rfl,rfl⟩:=q2 H;obtain⟨ad449,e449,hx449_0,p449,q449⟩:=aI HR0.out (ji3);cases e449
      replace hx449_0:=hB HB hx449_0;go_wp2_with (first|((with_reducible refine gd 21 rfl ?_);refine iL 21 [] ?_;intro v451 w11 ho12 hb;replace ho12:=rY Ny450 ho12;have HO452:=rL ho12;replace HB:=bB hb;clear hb ho12;obtain⟨i013,hi013,_,hsz13,_⟩:=info_parts info3;obtain⟨hcut13,hA13,hC13⟩:=print_take_of (P:=Try.prog) (Value.int .i64) 0 37 3 .i64 Try.underlying37 hi013 hsz13 (some ad449) c0 l0 x4_1 (oE aS) (oE aS) HC0.out;have HR453:=aM (Kd.C_of_reads (h1:=fun _=>rfl) (hA13 _ (Kd.reads_of_C HR0.out)));have HC453:=aM hC13;clear hA13 hC13 hi013 hsz13)|((with_reducible refine gate_builtin (b:=.append) (xs:=#[.tmp 21,.tmp 24]) rfl ?_);at_builtin;refine Kd.R_append_rows (Kd.int .i64) (w0:=w) w.heap.size rfl (.tmp 21) (.tmp 24) 37 3 (.int .i64 0) 8 rfl Try.underlying37 info3 rfl (by decide) (by omega) v451 y450 (l0.take (x4_1:Int).toNat) _ _ _ (fun _=>True) (fun _=>False) rfl rfl ?aO ?aR (fun _ _ h=>h) (fun _ h=>h.elim) ?aF ?aB ?aS ?aL ?_;(case aR=>first|(rw[← show(l0.take (x4_1:Int).toNat).length=x4_1.toNat from(by rw[List.length_take];have h_:(x4_1:Int)≤(l0.length:Int):=oE aS;omega)];(exact cB HR453);done)|(have hq_:=HR453.out;rw[show(l0.take (x4_1:Int).toNat).length=x4_1.toNat from(by rw[List.length_take];have h_:(x4_1:Int)≤(l0.length:Int):=oE aS;omega)] at hq_;(exact cX (Kd.C_below hq_ HB.out));done)|(exact cB HR453));(case aB=>exact pB);(case aF=>exact(fun _ _=>trivial));(case aO=>exact(rX HO452.out));(case aS=>exact(below_size pB));(case aL=>have:=LMc10.out;have hlx_:=(show(l0.take (x4_1:Int).toNat).length=x4_1.toNat from(by rw[List.length_take];have h_:(x4_1:Int)≤(l0.length:Int):=oE aS;omega));omega);intro v455 w14 ho hb hg hat;rw[← Ny454.out] at ho;have HO456:=aM (ho);replace HB:=aM (hb);clear HO452;clear ho hb hg hat))
      go_ret2
      exact⟨_,by first|rfl|(simp [errW_none,errW_some] <;> rfl)|(simp only[← hji3];first|rfl|(simp [errW_none,errW_some] <;> rfl))|(simp [*,errW_none,errW_some] <;> rfl),rX HO456.out,pB⟩
   ·rw[if_neg c2] at H;have c2b0:decide (0 < x4_1)=false:=decide_eq_false c2;clear c2;by_cases c15:x4_1 > 48
    ·rw[if_pos c15] at H;have c15b0:decide (48 < x4_1)=true:=dE c15;clear c15;obtain⟨rfl,rfl⟩:=q2 H;go_wp2
     go_ret2
     exact⟨_,eW,nK,pB⟩
    ·rw[if_neg c15] at H;have c15b0:decide (48 < x4_1)=false:=decide_eq_false c15;clear c15;obtain⟨y457,hy457⟩:∃ y_:List Int,y_=(([]:List Int)):=⟨_,rfl⟩;replace H:(if 0≤x4_1 then(if x4_1≤(l0.length:Int) then(if y457.length+(l0.take (x4_1:Int).toNat).length < 17592186044416 then(some ((y457 ++ (l0.take (x4_1:Int).toNat)),0)) else(none)) else(none)) else(none))=some (r1,r2):=yE hy457 H
     have Ny457:=aM hy457;clear hy457;by_cases c16:0≤x4_1
     ·rw[if_pos c16] at H;have c16b0:=eq_true c16;have c16b1:=dE c16;clear c16;obtain⟨c17,H⟩:=iO H;have c17b0:=eq_true c17;have c17b1:decide (x4_1≤(l0.length:Int))=true:=dE c17;clear c17;obtain⟨c18,H⟩:=iO H;have LMc18:=aM c18;clear c18;obtain⟨y461,hy461⟩:∃ y_:List Int,y_=(y457 ++ (l0.take (x4_1:Int).toNat)):=⟨_,rfl⟩;replace H:(some (y461,0))=some (r1,r2):=yE hy461 H
      have Ny461:=aM hy461;clear hy461;obtain⟨rfl,rfl⟩:=q2 H;go_wp2_with (first|((with_reducible refine gd 21 rfl ?_);refine iL 21 [] ?_;intro v458 w19 ho20 hb;replace ho20:=rY Ny457 ho20;have HO459:=rL ho20;replace HB:=bB hb;clear hb ho20;obtain⟨i021,hi021,_,hsz21,_⟩:=info_parts info3;obtain⟨hcut21,hA21,hC21⟩:=print_take_of (P:=Try.prog) (Value.int .i64) 0 37 3 .i64 Try.underlying37 hi021 hsz21 A0 c0 l0 x4_1 (oE aS) (oE aS) HC0.out;have HR460:=aM (Kd.C_of_reads (h1:=fun _=>rfl) (hA21 _ (Kd.reads_of_C HR0.out)));have HC460:=aM hC21;clear hA21 hC21 hi021 hsz21)|((with_reducible refine gate_builtin (b:=.append) (xs:=#[.tmp 21,.tmp 24]) rfl ?_);at_builtin;refine Kd.R_append_rows (Kd.int .i64) (w0:=w) w.heap.size rfl (.tmp 21) (.tmp 24) 37 3 (.int .i64 0) 8 rfl Try.underlying37 info3 rfl (by decide) (by omega) v458 y457 (l0.take (x4_1:Int).toNat) _ _ _ (fun _=>True) (fun _=>False) rfl rfl ?aO ?aR (fun _ _ h=>h) (fun _ h=>h.elim) ?aF ?aB ?aS ?aL ?_;(case aR=>first|(rw[← show(l0.take (x4_1:Int).toNat).length=x4_1.toNat from(by rw[List.length_take];have h_:(x4_1:Int)≤(l0.length:Int):=oE aS;omega)];(exact cB HR460);done)|(have hq_:=HR460.out;rw[show(l0.take (x4_1:Int).toNat).length=x4_1.toNat from(by rw[List.length_take];have h_:(x4_1:Int)≤(l0.length:Int):=oE aS;omega)] at hq_;(exact cX (Kd.C_below hq_ HB.out));done)|(exact cB HR460));(case aB=>exact pB);(case aF=>exact(fun _ _=>trivial));(case aO=>exact(rX HO459.out));(case aS=>exact(below_size pB));(case aL=>have:=LMc18.out;have hlx_:=(show(l0.take (x4_1:Int).toNat).length=x4_1.toNat from(by rw[List.length_take];have h_:(x4_1:Int)≤(l0.length:Int):=oE aS;omega));omega);intro v462 w22 ho hb hg hat;rw[← Ny461.out] at ho;have HO463:=aM (ho);replace HB:=aM (hb);clear HO459;clear ho hb hg hat))
      go_ret2
      exact⟨_,eW,rX HO463.out,pB⟩
     ·rw[if_neg c16] at H;exact absurd H (by simp)

def Ezk.f (l0:List Int) (a1:Int):Option (Int):=if a1 < (l0.length:Int) then(if 0≤a1 then(some (rd l0 a1)) else(none)) else(some 0)
theorem Ezk.calls (A0:Option Addr) (c0:Nat) (l0:List Int) (a1:Int) (r:Int) (w:World) (hr0:Kd.C (Kd.int .i64) w A0 l0.length l0) (hc0:l0.length≤c0) (h:Ezk.f l0 a1=some r) :
  Calls Try.prog 85 #[.slice A0 l0.length c0,.int .i64 a1] w fun e w'=>e=.returned (.int .i64 r)∧Drawn0 w w':=by
 have HR0:=aM hr0;have HC0:=aM hc0;clear hr0 hc0;have H:(if a1 < (l0.length:Int) then(if 0≤a1 then(some (rd l0 a1)) else(none)) else(some 0))=some r:=h
 clear h;by_cases c3:a1 < (l0.length:Int)
 ·rw[if_pos c3] at H;have c3b0:=dE c3;clear c3;obtain⟨c4b0,H⟩:=iN H;obtain rfl:=Option.some.inj H;obtain⟨ad464,e464,hx464_0,p464,q464⟩:=aI HR0.out a1;cases e464;go_enter Try.func85,Try.ntmps85
  go_wp2
  go_ret
  exact⟨sD,dR⟩
 ·rw[if_neg c3] at H;have c3b0:decide (a1 < (l0.length:Int))=false:=decide_eq_false c3;clear c3;obtain rfl:=Option.some.inj H;go_enter Try.func85,Try.ntmps85
  go_wp2
  go_ret
  exact⟨sD,dR⟩

end Go.Proofs.Ytnklckihalhlmaa.Print
