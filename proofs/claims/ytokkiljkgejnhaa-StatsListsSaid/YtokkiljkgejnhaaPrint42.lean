import Derived.Test.YtokkiljkgejnhaaPrint0
import Derived.Test.YtokkiljkgejnhaaPrint38
import Derived.Test.YtokkiljkgejnhaaPrint12
import Derived.Test.YtokkiljkgejnhaaPrint13
import Derived.Test.YtokkiljkgejnhaaPrint14
import Derived.Test.YtokkiljkgejnhaaPrint37
import Derived.Test.YtokkiljkgejnhaaPrint41
namespace Go.Proofs.Ytokkiljkgejnhaa.Print
open Go.RowKit Go.Proofs.YtokkiljkgejnhaaW.PrintWords Go.Proofs.YtokkiljkgejnhaaW.PrintLast Go.Proofs.YtokkiljkgejnhaaW.PrintMore
attribute [local go_sem] max2_int min2_int max_two min_two max_three min_three max_four min_four
set_option linter.unusedVariables false
set_option maxRecDepth 100000
set_option maxHeartbeats 8000000
set_option linter.unusedSimpArgs false

mutual
def Azx.j0:Nat→List Int→Int→Bool→Option (List Int × Int)
 | 0,_,_,_=>none
 | k+1,x0,x1,x23=>if x23=true then(some (([]:List Int),1)) else(Azx.l0 k x0 x1 ([]:List Int) 0)
def Azx.l0:Nat→List Int→Int→List Int→Int→Option (List Int × Int)
 | 0,_,_,_,_=>none
 | k+1,x0,x1,x7,x8=>if(wrap64 (x8+x1))≤(x0.length:Int) then(Azx.l1 k x0 x1 x7 x8 0 x8) else(some (x7,0))
def Azx.l1:Nat→List Int→Int→List Int→Int→Int→Int→Option (List Int × Int)
 | 0,_,_,_,_,_,_=>none
 | k+1,x0,x1,x7,x8,x9,x10=>if x10 < (wrap64 (x8+x1)) then(if 0≤x10 then(if x10 < (x0.length:Int) then(Azx.l1 k x0 x1 x7 x8 (wrap64 (x9+(rd x0 x10))) (wrap64 (x10+1))) else(none)) else(none)) else(if x7.length < 17592186044416 then(Azx.l0 k x0 x1 (x7 ++ [x9]) (wrap64 (x8+1))) else(none))
end
def Azx.f (k:Nat) (l0:List Int) (a1:Int):Option (List Int × Int):=(Azj.f k l0).bind fun t754=>(if t754=0 then(if a1 < 1 then(Azx.j0 k l0 a1 true) else(Azx.j0 k l0 a1 (decide (a1 > (l0.length:Int))))) else(some (([]:List Int),t754)))
theorem Azx.mono_l:∀ k,(∀ y0 y1 y2,LeO (Azx.j0 k y0 y1 y2) (Azx.j0 (k+1) y0 y1 y2))∧(∀ y0 y1 y2 y3,LeO (Azx.l0 k y0 y1 y2 y3) (Azx.l0 (k+1) y0 y1 y2 y3))∧(∀ y0 y1 y2 y3 y4 y5,LeO (Azx.l1 k y0 y1 y2 y3 y4 y5) (Azx.l1 (k+1) y0 y1 y2 y3 y4 y5))
 | 0=>⟨fun _ _ _ r h=>by simp [Azx.j0] at h,fun _ _ _ _ r h=>by simp [Azx.l0] at h,fun _ _ _ _ _ _ r h=>by simp [Azx.l1] at h⟩
 | k+1=>by
  obtain⟨ih0,ih1,ih2⟩:=Azx.mono_l k;refine⟨?_,?_,?_⟩
  ·intro y0 y1 y2;unfold Azx.j0;with_reducible repeat' first|exact ih0 _ _ _|exact ih1 _ _ _ _|exact ih2 _ _ _ _ _ _|exact Azj.mono _ _|exact LeO.refl _|exact LeO.none _|refine LeO.ite ?_ ?_|refine LeO.bind ?_ (fun _=>?_)
  ·intro y0 y1 y2 y3;unfold Azx.l0;with_reducible repeat' first|exact ih0 _ _ _|exact ih1 _ _ _ _|exact ih2 _ _ _ _ _ _|exact Azj.mono _ _|exact LeO.refl _|exact LeO.none _|refine LeO.ite ?_ ?_|refine LeO.bind ?_ (fun _=>?_)
  ·intro y0 y1 y2 y3 y4 y5;unfold Azx.l1;with_reducible repeat' first|exact ih0 _ _ _|exact ih1 _ _ _ _|exact ih2 _ _ _ _ _ _|exact Azj.mono _ _|exact LeO.refl _|exact LeO.none _|refine LeO.ite ?_ ?_|refine LeO.bind ?_ (fun _=>?_)
theorem Azx.mono:∀ a0 a1 k,LeO (Azx.f k a0 a1) (Azx.f (k+1) a0 a1):=by
 intro a0 a1 k;obtain⟨ih0,ih1,ih2⟩:=Azx.mono_l k;unfold Azx.f;with_reducible repeat' first|exact ih0 _ _ _|exact ih1 _ _ _ _|exact ih2 _ _ _ _ _ _|exact Azj.mono _ _|exact LeO.refl _|exact LeO.none _|refine LeO.ite ?_ ?_|refine LeO.bind ?_ (fun _=>?_)
theorem Azx.calls (k:Nat) (A0:Option Addr) (c0:Nat) (l0:List Int) (a1:Int) (r1:List Int) (r2:Int) (w:World) (hr0:Kd.C (Kd.int .i64) w A0 l0.length l0) (hc0:l0.length≤c0) (h:Azx.f k l0 a1=some (r1,r2)) :
  Calls Try.prog 18 #[.slice A0 l0.length c0,.int .i64 a1] w fun e w'=>∃ v0_:Value,e=.returned (.tuple #[v0_,.int .i64 r2])∧Kd.R (Kd.int .i64) 3 w' w.heap.size (fun _=>True) v0_ r1∧Below w.heap.size w w':=by
 have HR0:=aM hr0;have HC0:=aM hc0;clear hr0 hc0;have HB:=aM (Below.refl w.heap.size w);have H:((Azj.f k l0).bind fun t754=>(if t754=0 then(if a1 < 1 then(Azx.j0 k l0 a1 true) else(Azx.j0 k l0 a1 (decide (a1 > (l0.length:Int))))) else(some (([]:List Int),t754))))=some (r1,r2):=h
 clear h;replace H:=bS H;obtain⟨t754,A30,H⟩:=H;(try dsimp only at H);have A3:=aM A30;clear A30;by_cases c4:t754=0
 ·rw[if_pos c4] at H;have c4b0:(t754 == 0)=true:=beq_iff_eq.mpr c4;have c4b1:(t754 != 0)=false:=bne_eq_false_iff_eq.mpr c4;clear c4;have HC5:=aM H;clear H;go_enter Try.func18,Try.ntmps18
  go_upto_region 4 with (first|((with_reducible refine gate_callee (f:=33) rfl ?_);refine goesL_ (some 12) rfl rfl Try.func33 (by kernel_rfl) rfl #[.slice A0 l0.length c0] rfl mA ?_;(with_reducible refine(Azj.calls k _ _ l0 t754 _ ?side1 ?side2 A3.out).mono ?_);(case side1=>exact cX HR0.out);(case side2=>exact HC0.out);rintro e w' ⟨rfl,⟨nd,rfl⟩⟩;refine⟨_,rfl,?_⟩))
  (try simp only[Act.put,sA,sZ,sC])
  go_cut [23] (fun v23 wc=>∃ (kq:Nat) (x23_4:Bool),v23=.bool x23_4∧Aside0 (Azx.j0 kq l0 a1 x23_4=some (r1,r2))∧Aside0 (kq≤k)∧Aside0 (Below w.heap.size w wc))
  case first =>
   have H:=HC5.out;clear HC5;by_cases c6:a1 < 1
   ·rw[if_pos c6] at H;have c6b0:decide (a1 < 1)=true:=dE c6;clear c6;(first|rw[c6b0]|(simp only[i64_w,i32_w];rw[c6b0])|skip)
    have H':=aM H;clear H;go_wp2
    go_meet
    case rel=>exact⟨_,(true),sD,H',⟨by first|omega|exact Nat.le_refl _⟩,⟨pB⟩⟩
   ·rw[if_neg c6] at H;have c6b0:decide (a1 < 1)=false:=decide_eq_false c6;clear c6;(first|rw[c6b0]|(simp only[i64_w,i32_w];rw[c6b0])|skip)
    have H':=aM H;clear H;go_wp2
    go_meet
    case rel=>exact⟨_,(decide (a1 > (l0.length:Int))),sD,H',⟨by first|omega|exact Nat.le_refl _⟩,⟨pB⟩⟩
  case rest =>
   clear HC5;try clear c1
   try clear p2
   try clear c3
   try clear c4
   try clear c4b0
   try clear c4b1
   try clear c6
   try clear c6b0
   obtain⟨kq,x23_4,rfl,HA,HJ4,HB⟩:=hcut;cases kq with
   | zero=>exact absurd HA.out (by simp [Azx.j0])
   | succ kj4 =>
    have H:=HA.out;clear HA;simp only[Azx.j0] at H;by_cases c7:x23_4=true
    ·subst c7;rw[if_pos rfl] at H;simp only[Option.some.injEq,Prod.mk.injEq] at H;obtain⟨rfl,rfl⟩:=H;go_wp2
     go_ret2
     exact⟨_,eW,by first|exact Kd.R_nil _ _ _ _ _|exact Kd.N_nil _ _ _ _ _|exact Kd.V_nil _ _ _ _ _|exact Kd.Q_nil _ _ _ _ _|exact Kd.S_nil _ _ _ _ _,pB⟩
    ·replace c7:=Bool.eq_false_iff.mpr c7;subst c7;rw[if_neg (show ¬ (false=true) by decide)] at H
     have H':=aM H;clear H;go_wp2
     go_loopg [7,8] kj4 (fun kq v7 v8 w'=>∃ (x7_2:List Int) (x8_2:Int),v8=.int .i64 x8_2∧Aside0 (Azx.l0 kq l0 a1 x7_2 x8_2=some (r1,r2))∧Aside0 (kq≤kj4)∧Aside0 (Kd.R (Kd.int .i64) 3 w' w.heap.size (fun _=>True) v7 x7_2)∧Aside0 (Below w.heap.size w w'))
     case atStart=>exact⟨(([]:List Int)),(0),sD,H',⟨Nat.le_refl _⟩,⟨by first|exact Kd.R_nil _ _ _ _ _|exact Kd.N_nil _ _ _ _ _|exact Kd.V_nil _ _ _ _ _|exact Kd.Q_nil _ _ _ _ _|exact Kd.S_nil _ _ _ _ _⟩,⟨pB⟩⟩
     case round =>
      clear H';try clear c1
      try clear p2
      try clear c3
      try clear c4
      try clear c4b0
      try clear c4b1
      try clear c6
      try clear c6b0
      try clear c7
      try clear p2
      obtain⟨x7_2,x8_2,rfl,HA,HK2,HO_7,HB⟩:=hrel;cases gk with
      | zero=>exact absurd HA.out (by simp [Azx.l0])
      | succ k2 =>
       have H:=HA.out;clear HA;simp only[Azx.l0] at H;by_cases c8:(wrap64 (x8_2+a1))≤(l0.length:Int)
       ·rw[if_pos c8] at H;have c8b0:decide ((wrap64 (x8_2+a1))≤(l0.length:Int))=true:=dE c8;have c8b0w:decide ((IntKind.i64.wrap (x8_2+a1))≤(l0.length:Int))=true:=by have h_:=c8b0;first|exact h_|(simp only[i64_w];exact h_)
        clear c8;have H':=aM H;clear H;go_wp2
        go_loopg [9,10] k2 (fun kq v9 v10 w'=>∃ (x9_3:Int) (x10_3:Int),v9=.int .i64 x9_3∧v10=.int .i64 x10_3∧Aside0 (Azx.l1 kq l0 a1 x7_2 x8_2 x9_3 x10_3=some (r1,r2))∧Aside0 (kq≤k2)∧Aside0 (Kd.R (Kd.int .i64) 3 w' w.heap.size (fun _=>True) u7 x7_2)∧Aside0 (Below w.heap.size w w'))
        case atStart=>exact⟨(0),(x8_2),sD,sD,H',⟨Nat.le_refl _⟩,⟨rX HO_7.out⟩,⟨pB⟩⟩
        case round =>
         clear H';try clear c1
         try clear p2
         try clear c3
         try clear c4
         try clear c4b0
         try clear c4b1
         try clear c6
         try clear c6b0
         try clear p6
         try clear c7
         try clear c8
         try clear c8b0
         try clear p2
         obtain⟨x9_3,x10_3,rfl,rfl,HA,HK3,HO_7,HB⟩:=hrel;cases gk with
         | zero=>exact absurd HA.out (by simp [Azx.l1])
         | succ k3 =>
          have H:=HA.out;clear HA;simp only[Azx.l1] at H;by_cases c9:x10_3 < (wrap64 (x8_2+a1))
          ·rw[if_pos c9] at H;have c9b0:decide (x10_3 < (wrap64 (x8_2+a1)))=true:=dE c9;have c9b0w:decide (x10_3 < (IntKind.i64.wrap (x8_2+a1)))=true:=by have h_:=c9b0;first|exact h_|(simp only[i64_w];exact h_)
           clear c9;by_cases c10:0≤x10_3
           ·rw[if_pos c10] at H;have c10b0:decide (0≤x10_3)=true:=dE c10;clear c10;by_cases c11:x10_3 < (l0.length:Int)
            ·rw[if_pos c11] at H;have c11b0:decide (x10_3 < (l0.length:Int))=true:=dE c11;clear c11;have H':=aM H;clear H;have p755:0≤(x10_3:Int):=oE aS
             have q755:x10_3 < (l0.length:Int):=oE aS
             obtain⟨ad755,e755,hx755_0⟩:=Kd.at_int HR0.out x10_3 p755 q755;cases e755
             replace hx755_0:=(HB.out.cell (World.block_lt_of_cell? w _ hx755_0)).trans hx755_0;replace p755:=eq_true p755;replace q755:=eq_true q755;go_wp2
             go_roundg k3
             case measure=>have:=HJ4.out;have:=HK2.out;have:=HK3.out;omega
             case rel=>exact⟨(wrap64 (x9_3+(rd l0 x10_3))),(wrap64 (x10_3+1)),sD,sD,H',⟨by have:=HJ4.out;have:=HK2.out;have:=HK3.out;omega⟩,⟨rX HO_7.out⟩,⟨pB⟩⟩
            ·rw[if_neg c11] at H;exact absurd H (by simp)
           ·rw[if_neg c10] at H;exact absurd H (by simp)
          ·rw[if_neg c9] at H;have c9b0:decide (x10_3 < (wrap64 (x8_2+a1)))=false:=decide_eq_false c9;have c9b0w:decide (x10_3 < (IntKind.i64.wrap (x8_2+a1)))=false:=by have h_:=c9b0;first|exact h_|(simp only[i64_w];exact h_)
           clear c9;by_cases c12:x7_2.length < 17592186044416
           ·rw[if_pos c12] at H;have LMc12:=aM c12;clear c12;obtain⟨y756,hy756⟩:∃ y_:List Int,y_=(x7_2 ++ [x9_3]):=⟨_,rfl⟩;replace H:(Azx.l0 k3 l0 a1 y756 (wrap64 (x8_2+1)))=some (r1,r2):=by first|(rw[hy756];with_reducible exact H)|(have H2_:=(Option.bind_some _ _).symm.trans H;rw[hy756];with_reducible exact H2_)|(have H2_:=(Option.bind_some _ _).symm.trans H;with_reducible exact H2_)|with_reducible exact H|(rw[hy756];exact H)|exact H
            have Ny756:=aM hy756;clear hy756;have H':=aM H;clear H;go_wp2_with (first|((with_reducible refine gate_builtin (b:=.append) (xs:=#[.tmp 46,.tmp 48]) rfl ?_);(try(refine gate_guard (by rfl) ?_;dsimp only));at_builtin;refine Kd.R_append (Kd.int .i64) (w0:=w) w.heap.size rfl (.tmp 46) (.tmp 48) 22 3 (.int .i64 0) 8 rfl Try.underlying22 info3 rfl (by decide) (by omega) u7 x7_2 x9_3 [.int .i64 x9_3] (fun _=>True) (fun _=>False) rfl rfl ?aP (fun _ hk=>hk.elim) ?aF ?aO ?aB ?aS ?aL ?_;(case aP=>exact rfl);(case aB=>exact pB);(case aF=>exact(fun _ _=>trivial));(case aO=>exact(rX HO_7.out));(case aS=>exact(below_size pB));(case aL=>have:=LMc12.out;omega);intro v757 w13 ho hb hg hat;rw[← Ny756.out] at ho;have HO758:=aM (ho);replace HB:=aM (hb);clear HO_7;clear ho hb hg hat))
            go_roundg k3
            case measure=>have:=HJ4.out;have:=HK2.out;have:=HK3.out;omega
            case rel=>exact⟨(y756),(wrap64 (x8_2+1)),sD,H',⟨by have:=HJ4.out;have:=HK2.out;have:=HK3.out;omega⟩,⟨rX HO758.out⟩,⟨pB⟩⟩
           ·rw[if_neg c12] at H;exact absurd H (by simp)
       ·rw[if_neg c8] at H;have c8b0:decide ((wrap64 (x8_2+a1))≤(l0.length:Int))=false:=decide_eq_false c8;have c8b0w:decide ((IntKind.i64.wrap (x8_2+a1))≤(l0.length:Int))=false:=by have h_:=c8b0;first|exact h_|(simp only[i64_w];exact h_)
        clear c8;simp only[Option.some.injEq,Prod.mk.injEq] at H;obtain⟨rfl,rfl⟩:=H;go_wp2
        go_ret2
        exact⟨_,eW,rX HO_7.out,pB⟩
 ·rw[if_neg c4] at H;have c4b0:(t754 == 0)=false:=beq_eq_false_iff_ne.mpr c4;have c4b1:(t754 != 0)=true:=bne_iff_ne.mpr c4;simp only[Option.some.injEq,Prod.mk.injEq] at H;obtain⟨rfl,rfl⟩:=H;go_enter Try.func18,Try.ntmps18
  go_wp2_with (first|((with_reducible refine gate_callee (f:=33) rfl ?_);refine goesL_ (some 12) rfl rfl Try.func33 (by kernel_rfl) rfl #[.slice A0 l0.length c0] rfl mA ?_;(with_reducible refine(Azj.calls k _ _ l0 t754 _ ?side1 ?side2 A3.out).mono ?_);(case side1=>exact cX HR0.out);(case side2=>exact HC0.out);rintro e w' ⟨rfl,⟨nd,rfl⟩⟩;refine⟨_,rfl,?_⟩))
  go_ret2
  exact⟨_,eW,by first|exact Kd.R_nil _ _ _ _ _|exact Kd.N_nil _ _ _ _ _|exact Kd.V_nil _ _ _ _ _|exact Kd.Q_nil _ _ _ _ _|exact Kd.S_nil _ _ _ _ _,pB⟩


def papermilllaw60_StatsLists.j0:Nat→List Int→List Int→Int→Bool→Option (Bool)
 | 0,_,_,_,_=>none
 | k+1,x0,x1,x2,x22=>if x22=true then((Azz.f k).bind fun t759=>(some t759)) else((Azv.f k x0 x1).bind fun bt760=>((Azq.f k x0 x1).bind fun bt764=>((Bzv.f k x0 x2).bind fun bt768=>((Azx.f k x0 x2).bind fun bt772=>((Azy.f k bt760.1 bt764.1).bind fun t776=>(if t776=true then(if bt760.2=bt764.2 then((Azy.f k bt768.1 bt772.1).bind fun t777=>(if t777=true then(if bt768.2=bt772.2 then((Azz.f k).bind fun t778=>(some t778)) else(none)) else(none))) else(none)) else(none)))))))
def papermilllaw60_StatsLists.f (k:Nat) (l0:List Int) (l1:List Int) (a2:Int):Option (Bool):=if(l0.length:Int) > 520 then(papermilllaw60_StatsLists.j0 k l0 l1 a2 true) else(papermilllaw60_StatsLists.j0 k l0 l1 a2 (decide ((l1.length:Int) > 70)))
theorem papermilllaw60_StatsLists.mono_l:∀ k,(∀ y0 y1 y2 y3,LeO (papermilllaw60_StatsLists.j0 k y0 y1 y2 y3) (papermilllaw60_StatsLists.j0 (k+1) y0 y1 y2 y3))
 | 0=>fun _ _ _ _ r h=>by simp [papermilllaw60_StatsLists.j0] at h
 | k+1=>by
  have ih0:=papermilllaw60_StatsLists.mono_l k
  ·intro y0 y1 y2 y3;unfold papermilllaw60_StatsLists.j0;with_reducible repeat' first|exact ih0 _ _ _ _|exact Azz.mono _|exact Azy.mono _ _ _|exact Azq.mono _ _ _|exact Azx.mono _ _ _|exact Azv.mono _ _ _|exact Bzv.mono _ _ _|exact LeO.refl _|exact LeO.none _|refine LeO.ite ?_ ?_|refine LeO.bind ?_ (fun _=>?_)
theorem papermilllaw60_StatsLists.mono:∀ a0 a1 a2 k,LeO (papermilllaw60_StatsLists.f k a0 a1 a2) (papermilllaw60_StatsLists.f (k+1) a0 a1 a2):=by
 intro a0 a1 a2 k;have ih0:=papermilllaw60_StatsLists.mono_l k;unfold papermilllaw60_StatsLists.f;with_reducible repeat' first|exact ih0 _ _ _ _|exact Azz.mono _|exact Azy.mono _ _ _|exact Azq.mono _ _ _|exact Azx.mono _ _ _|exact Azv.mono _ _ _|exact Bzv.mono _ _ _|exact LeO.refl _|exact LeO.none _|refine LeO.ite ?_ ?_|refine LeO.bind ?_ (fun _=>?_)
theorem papermilllaw60_StatsLists.calls (k:Nat) (A0:Option Addr) (c0:Nat) (l0:List Int) (A1:Option Addr) (c1:Nat) (l1:List Int) (a2:Int) (r:Bool) (w:World) (hr0:Kd.C (Kd.int .i64) w A0 l0.length l0) (hc0:l0.length≤c0) (hr1:Kd.C (Kd.int .i64) w A1 l1.length l1) (hc1:l1.length≤c1) (h:papermilllaw60_StatsLists.f k l0 l1 a2=some r) :
  Calls Try.prog 4 #[.slice A0 l0.length c0,.slice A1 l1.length c1,.int .i64 a2] w fun e w'=>e=.returned (.bool r)∧Below w.heap.size w w':=by
 have HR0:=aM hr0;have HC0:=aM hc0;clear hr0 hc0;have HR1:=aM hr1;have HC1:=aM hc1;clear hr1 hc1;have HB:=aM (Below.refl w.heap.size w);have H:(if(l0.length:Int) > 520 then(papermilllaw60_StatsLists.j0 k l0 l1 a2 true) else(papermilllaw60_StatsLists.j0 k l0 l1 a2 (decide ((l1.length:Int) > 70))))=some r:=h
 clear h;have HC4:=aM H;clear H;go_enter Try.func4,Try.ntmps4
 go_upto_region 1 with (fail)
 go_cut [22] (fun v22 wc=>∃ (kq:Nat) (x22_3:Bool),v22=.bool x22_3∧Aside0 (papermilllaw60_StatsLists.j0 kq l0 l1 a2 x22_3=some r)∧Aside0 (kq≤k)∧Aside0 (Below w.heap.size w wc))
 case first =>
  have H:=HC4.out;clear HC4;by_cases c5:(l0.length:Int) > 520
  ·rw[if_pos c5] at H;have c5b0:decide (520 < (l0.length:Int))=true:=dE c5;have c5b1:decide (520 < l0.length)=true:=dE (by omega)
   clear c5;(first|rw[c5b0]|(simp only[i64_w,i32_w];rw[c5b0])|skip)
   have H':=aM H;clear H;go_wp2
   go_meet
   case rel=>exact⟨_,(true),sD,H',⟨by first|omega|exact Nat.le_refl _⟩,⟨pB⟩⟩
  ·rw[if_neg c5] at H;have c5b0:decide (520 < (l0.length:Int))=false:=decide_eq_false c5;have c5b1:decide (520 < l0.length)=false:=decide_eq_false (by omega)
   clear c5;(first|rw[c5b0]|(simp only[i64_w,i32_w];rw[c5b0])|skip)
   have H':=aM H;clear H;go_wp2
   go_meet
   case rel=>exact⟨_,(decide ((l1.length:Int) > 70)),sD,H',⟨by first|omega|exact Nat.le_refl _⟩,⟨pB⟩⟩
 case rest =>
  clear HC4;try clear c1
  try clear p2
  try clear c4
  try clear c5
  try clear c5b0
  try clear c5b1
  obtain⟨kq,x22_3,rfl,HA,HJ3,HB⟩:=hcut;cases kq with
  | zero=>exact absurd HA.out (by simp [papermilllaw60_StatsLists.j0])
  | succ kj3 =>
   have H:=HA.out;clear HA;simp only[papermilllaw60_StatsLists.j0] at H;by_cases c6:x22_3=true
   ·subst c6;rw[if_pos rfl] at H;replace H:=bS H;obtain⟨t759,A70,H⟩:=H;replace H:(some t759)=some r:=H;have A7:=aM A70;clear A70;obtain rfl:=Option.some.inj H;go_wp2_with (first|((with_reducible refine gate_callee (f:=10) rfl ?_);refine goesL_ (some 23) rfl rfl Try.func10 (by kernel_rfl) rfl #[] rfl mA ?_;(with_reducible refine(Azz.calls kj3  t759 _ A7.out).mono ?_);rintro e w8 ⟨rfl,hb⟩;refine⟨_,rfl,?_⟩;replace HB:=aM (below_step pB hb);(try clear hb);(try clear hb2);(try clear hk);(try clear hi)))
    go_ret
    exact⟨eW,pB⟩
   ·replace c6:=Bool.eq_false_iff.mpr c6;subst c6;rw[if_neg (show ¬ (false=true) by decide)] at H
    replace H:=bS H;obtain⟨⟨t760,t761⟩,A90,H⟩:=H;(try dsimp only at H);have A9:=aM A90;clear A90;replace H:=bS H;obtain⟨⟨t764,t765⟩,A100,H⟩:=H;(try dsimp only at H);have A10:=aM A100;clear A100;replace H:=bS H;obtain⟨⟨t768,t769⟩,A110,H⟩:=H;(try dsimp only at H);have A11:=aM A110;clear A110;replace H:=bS H;obtain⟨⟨t772,t773⟩,A120,H⟩:=H;(try dsimp only at H);have A12:=aM A120;clear A120;replace H:=bS H;obtain⟨t776,A130,H⟩:=H;(try dsimp only at H);have A13:=aM A130;clear A130;by_cases c14:t776=true
    ·subst c14;rw[if_pos rfl] at H;by_cases c15:t761=t765
     ·rw[if_pos c15] at H;have c15b0:(t761 == t765)=true:=beq_iff_eq.mpr c15;have c15b1:(t761 != t765)=false:=bne_eq_false_iff_eq.mpr c15;clear c15;replace H:=bS H;obtain⟨t777,A160,H⟩:=H;(try dsimp only at H);have A16:=aM A160;clear A160;by_cases c17:t777=true
      ·subst c17;rw[if_pos rfl] at H;by_cases c18:t769=t773
       ·rw[if_pos c18] at H;have c18b0:(t769 == t773)=true:=beq_iff_eq.mpr c18;have c18b1:(t769 != t773)=false:=bne_eq_false_iff_eq.mpr c18;clear c18;replace H:=bS H;obtain⟨t778,A190,H⟩:=H;replace H:(some t778)=some r:=H;have A19:=aM A190;clear A190;obtain rfl:=Option.some.inj H;go_wp2_with (first|((with_reducible refine gate_callee (f:=15) rfl ?_);refine goesL_ (some 27) rfl rfl Try.func15 (by kernel_rfl) rfl #[.slice A0 l0.length c0,.slice A1 l1.length c1] rfl mA ?_;(with_reducible refine(Azv.calls kj3 _ _ l0 _ _ l1 t760 t761 _ ?side1 ?side2 ?side3 ?side4 A9.out).mono ?_);(case side1=>exact cX (Kd.C_below HR0.out HB.out));(case side2=>exact HC0.out);(case side3=>exact cX (Kd.C_below HR1.out HB.out));(case side4=>exact HC1.out);rintro e w20 ⟨v762,rfl,ho0,hb⟩;refine⟨_,rfl,?_⟩;have HO763:=aM (Kd.R_lower ho0 (below_size pB));replace HB:=aM (below_step pB hb);(try clear hb);(try clear hb2);(try clear hk);(try clear hi);(try clear ho0))|((with_reducible refine gate_callee (f:=16) rfl ?_);refine goesL_ (some 33) rfl rfl Try.func16 (by kernel_rfl) rfl #[.slice A0 l0.length c0,.slice A1 l1.length c1] rfl mA ?_;(with_reducible refine(Azq.calls kj3 _ _ l0 _ _ l1 t764 t765 _ ?side1 ?side2 ?side3 ?side4 A10.out).mono ?_);(case side1=>exact cX (Kd.C_below HR0.out HB.out));(case side2=>exact HC0.out);(case side3=>exact cX (Kd.C_below HR1.out HB.out));(case side4=>exact HC1.out);rintro e w21 ⟨v766,rfl,ho0,hb⟩;refine⟨_,rfl,?_⟩;have HO767:=aM (Kd.R_lower (Kd.R_new' ho0 (Kd.R_lt (rX HO763.out))) (below_size pB));replace HO763:=aM (Kd.R_elder' (rX HO763.out) (Kd.R_base ho0) hb);replace HB:=aM (below_step pB hb);(try clear hb);(try clear hb2);(try clear hk);(try clear hi);(try clear ho0))|((with_reducible refine gate_callee (f:=17) rfl ?_);refine goesL_ (some 39) rfl rfl Try.func17 (by kernel_rfl) rfl #[.slice A0 l0.length c0,.int .i64 a2] rfl mA ?_;(with_reducible refine(Bzv.calls kj3 _ _ l0 a2 t768 t769 _ ?side1 ?side2 A11.out).mono ?_);(case side1=>exact cX (Kd.C_below HR0.out HB.out));(case side2=>exact HC0.out);rintro e w22 ⟨v770,rfl,ho0,hb⟩;refine⟨_,rfl,?_⟩;have HO771:=aM (Kd.R_lower (Kd.R_new' (Kd.R_new' ho0 (Kd.R_lt (rX HO763.out))) (Kd.R_lt (rX HO767.out))) (below_size pB));replace HO763:=aM (Kd.R_elder' (rX HO763.out) (Kd.R_base ho0) hb);replace HO767:=aM (Kd.R_elder' (rX HO767.out) (Kd.R_base ho0) hb);replace HB:=aM (below_step pB hb);(try clear hb);(try clear hb2);(try clear hk);(try clear hi);(try clear ho0))|((with_reducible refine gate_callee (f:=18) rfl ?_);refine goesL_ (some 45) rfl rfl Try.func18 (by kernel_rfl) rfl #[.slice A0 l0.length c0,.int .i64 a2] rfl mA ?_;(with_reducible refine(Azx.calls kj3 _ _ l0 a2 t772 t773 _ ?side1 ?side2 A12.out).mono ?_);(case side1=>exact cX (Kd.C_below HR0.out HB.out));(case side2=>exact HC0.out);rintro e w23 ⟨v774,rfl,ho0,hb⟩;refine⟨_,rfl,?_⟩;have HO775:=aM (Kd.R_lower (Kd.R_new' (Kd.R_new' (Kd.R_new' ho0 (Kd.R_lt (rX HO763.out))) (Kd.R_lt (rX HO767.out))) (Kd.R_lt (rX HO771.out))) (below_size pB));replace HO763:=aM (Kd.R_elder' (rX HO763.out) (Kd.R_base ho0) hb);replace HO767:=aM (Kd.R_elder' (rX HO767.out) (Kd.R_base ho0) hb);replace HO771:=aM (Kd.R_elder' (rX HO771.out) (Kd.R_base ho0) hb);replace HB:=aM (below_step pB hb);(try clear hb);(try clear hb2);(try clear hk);(try clear hi);(try clear ho0);obtain⟨Ao24,co24,eo24⟩:=Kd.R_slice HO763.out;subst eo24;obtain⟨Ao25,co25,eo25⟩:=Kd.R_slice HO767.out;subst eo25)|((with_reducible refine gate_callee (f:=19) rfl ?_);refine goesL_ (some 50) rfl rfl Try.func19 (by kernel_rfl) rfl #[.slice Ao24 t760.length co24,.slice Ao25 t764.length co25] rfl mA ?_;(with_reducible refine(Azy.calls kj3 _ _ t760 _ _ t764 true _ ?side1 ?side2 ?side3 ?side4 A13.out).mono ?_);(case side1=>repeat(first|exact(Kd.R_reads' HO763.out).2.2|(with_reducible refine Kd.C_alloc ?_ _)|(with_reducible refine Kd.C_drewN ?_ _)|(with_reducible refine Kd.C_drew ?_)));(case side2=>exact(Kd.R_reads' HO763.out).2.1);(case side3=>repeat(first|exact(Kd.R_reads' HO767.out).2.2|(with_reducible refine Kd.C_alloc ?_ _)|(with_reducible refine Kd.C_drewN ?_ _)|(with_reducible refine Kd.C_drew ?_)));(case side4=>exact(Kd.R_reads' HO767.out).2.1);rintro e w' ⟨rfl,⟨nd,rfl⟩⟩;refine⟨_,rfl,?_⟩;obtain⟨Ao26,co26,eo26⟩:=Kd.R_slice HO771.out;subst eo26;obtain⟨Ao27,co27,eo27⟩:=Kd.R_slice HO775.out;subst eo27)|(go_at_call 19;(with_reducible refine(Azy.calls kj3 _ _ t768 _ _ t772 true _ ?side1 ?side2 ?side3 ?side4 A16.out).mono ?_);(case side1=>repeat(first|exact(Kd.R_reads' HO771.out).2.2|(with_reducible refine Kd.C_alloc ?_ _)|(with_reducible refine Kd.C_drewN ?_ _)|(with_reducible refine Kd.C_drew ?_)));(case side2=>exact(Kd.R_reads' HO771.out).2.1);(case side3=>repeat(first|exact(Kd.R_reads' HO775.out).2.2|(with_reducible refine Kd.C_alloc ?_ _)|(with_reducible refine Kd.C_drewN ?_ _)|(with_reducible refine Kd.C_drew ?_)));(case side4=>exact(Kd.R_reads' HO775.out).2.1);rintro e w' ⟨rfl,⟨nd,rfl⟩⟩)|(go_at_call 10;(with_reducible refine(Azz.calls kj3  t778 _ A19.out).mono ?_);rintro e w28 ⟨rfl,hb⟩;replace HO763:=aM (Kd.R_below (rX HO763.out) hb);replace HO767:=aM (Kd.R_below (rX HO767.out) hb);replace HO771:=aM (Kd.R_below (rX HO771.out) hb);replace HO775:=aM (Kd.R_below (rX HO775.out) hb);replace HB:=aM (below_step pB hb);(try clear hb);(try clear hb2);(try clear hk);(try clear hi)))
        go_ret
        exact⟨eW,pB⟩
       ·rw[if_neg c18] at H;exact absurd H (by simp)
      ·replace c17:=Bool.eq_false_iff.mpr c17;subst c17;rw[if_neg (show ¬ (false=true) by decide)] at H
       exact absurd H (by simp)
     ·rw[if_neg c15] at H;exact absurd H (by simp)
    ·replace c14:=Bool.eq_false_iff.mpr c14;subst c14;rw[if_neg (show ¬ (false=true) by decide)] at H
     exact absurd H (by simp)

/-- THE ONE PURE STATEMENT of papermilllaw60_StatsLists: yours. -/
def papermilllaw60_StatsLists.Pure:Prop:=∀ (l0:List Int) (l1:List Int) (a2:Int),l0.length≤maxLen→l0.length * 8≤140737488351232→(∀ x ∈ l0,(Lit.int .i64 x).wf=true)→l1.length≤maxLen→l1.length * 8≤140737488351232→(∀ x ∈ l1,(Lit.int .i64 x).wf=true)→(Lit.int .i64 a2).wf=true→∃ k,papermilllaw60_StatsLists.f k l0 l1 a2=some true
theorem papermilllaw60_StatsLists.walk (P:papermilllaw60_StatsLists.Pure) (a0:Option Addr) (len0 cap0:Nat) (z0:List Int) (a1:Option Addr) (len1 cap1:Nat) (z1:List Int) (a2:Int) (w:World) (w0:(a0=none∧len0=0∧cap0=0∧z0=[])∨∃ x,a0=some x∧len0≤cap0∧cap0≤maxLen∧z0.length=cap0∧(∀ i,i < z0.length→w.cell? (x.add i)=some (.int .i64 (z0.getD i 0)))∧∀ n ∈ z0,(Lit.int .i64 n).wf=true) (y0:len0 * 8≤140737488351232) (w1:(a1=none∧len1=0∧cap1=0∧z1=[])∨∃ x,a1=some x∧len1≤cap1∧cap1≤maxLen∧z1.length=cap1∧(∀ i,i < z1.length→w.cell? (x.add i)=some (.int .i64 (z1.getD i 0)))∧∀ n ∈ z1,(Lit.int .i64 n).wf=true) (y1:len1 * 8≤140737488351232) (w2:(Lit.int .i64 a2).wf=true) :
  Calls Try.prog 4 #[.slice a0 len0 cap0,.slice a1 len1 cap1,.int .i64 a2] w fun e w'=>e=.returned (.bool true)∧Below w.heap.size w w':=by
 obtain⟨l0,rfl,hr0,hm0,hw0,hc0⟩:=ReadsInt.ofRowC w0;obtain⟨l1,rfl,hr1,hm1,hw1,hc1⟩:=ReadsInt.ofRowC w1;obtain⟨k,h⟩:=P l0 l1 a2 hm0 y0 hw0 hm1 y1 hw1 w2;refine(papermilllaw60_StatsLists.calls k _ _ l0 _ _ l1 a2 true w (Kd.C_of_reads (d:=(0:Int)) (h1:=fun _=>rfl) hr0) hc0 (Kd.C_of_reads (d:=(0:Int)) (h1:=fun _=>rfl) hr1) hc1 h).mono ?_
 rintro e w' ⟨rfl,hd⟩;exact⟨rfl,hd⟩

end Go.Proofs.Ytokkiljkgejnhaa.Print
