import Derived.Test.YtokkiljkgejnhaaPrint0
import Derived.Test.YtokkiljkgejnhaaPrint14
import Derived.Test.YtokkiljkgejnhaaPrint15
namespace Go.Proofs.Ytokkiljkgejnhaa.Print
open Go.RowKit Go.Proofs.YtokkiljkgejnhaaW.PrintWords Go.Proofs.YtokkiljkgejnhaaW.PrintLast Go.Proofs.YtokkiljkgejnhaaW.PrintMore
attribute [local go_sem] max2_int min2_int max_two min_two max_three min_three max_four min_four
set_option linter.unusedVariables false
set_option maxRecDepth 100000
set_option maxHeartbeats 8000000
set_option linter.unusedSimpArgs false

mutual
def Czw.j0:Nat→List Int→List Int→Bool→Option (List Int × Int)
 | 0,_,_,_=>none
 | k+1,x0,x1,x17=>if x17=true then(some (([]:List Int),3)) else((Bzm.f k x0 x1).bind fun t510=>(if t510 < 0 then(some (([]:List Int),1)) else((Dzm.f x0 (x0.length:Int)).bind fun t511=>(Czw.l0 k x1 t511 0 (t511.length:Int) 0))))
def Czw.l0:Nat→List Int→List Int→Int→Int→Int→Option (List Int × Int)
 | 0,_,_,_,_,_=>none
 | k+1,x1,x6,x7,x27,x28=>if x28 < x27 then(if 0≤x28 then(if x28 < (x6.length:Int) then(if x28 < (x1.length:Int) then(if(wrap64 ((wrap64 ((rd x6 x28) - x7)) - (rd x1 x28))) < 0 then(Czw.l0 k x1 (x6.set (x28:Int).toNat (wrap64 ((wrap64 ((wrap64 ((rd x6 x28) - x7)) - (rd x1 x28)))+1000000000))) 1 x27 (wrap64 (x28+1))) else(Czw.l0 k x1 (x6.set (x28:Int).toNat (wrap64 ((wrap64 ((rd x6 x28) - x7)) - (rd x1 x28)))) 0 x27 (wrap64 (x28+1)))) else(if(wrap64 ((rd x6 x28) - x7)) < 0 then(Czw.l0 k x1 (x6.set (x28:Int).toNat (wrap64 ((wrap64 ((rd x6 x28) - x7))+1000000000))) 1 x27 (wrap64 (x28+1))) else(Czw.l0 k x1 (x6.set (x28:Int).toNat (wrap64 ((rd x6 x28) - x7))) 0 x27 (wrap64 (x28+1))))) else(none)) else(none)) else((Bzw.f k x6).bind fun t514=>(some (t514,0)))
end
def Czw.f (k:Nat) (l0:List Int) (l1:List Int):Option (List Int × Int):=(Azk.f k l0).bind fun t508=>(if t508=true then((Azk.f k l1).bind fun t509=>(Czw.j0 k l0 l1 (!t509))) else(Czw.j0 k l0 l1 true))
theorem Czw.mono_l:∀ k,(∀ y0 y1 y2,LeO (Czw.j0 k y0 y1 y2) (Czw.j0 (k+1) y0 y1 y2))∧(∀ y0 y1 y2 y3 y4,LeO (Czw.l0 k y0 y1 y2 y3 y4) (Czw.l0 (k+1) y0 y1 y2 y3 y4))
 | 0=>⟨fun _ _ _ r h=>by simp [Czw.j0] at h,fun _ _ _ _ _ r h=>by simp [Czw.l0] at h⟩
 | k+1=>by
  obtain⟨ih0,ih1⟩:=Czw.mono_l k;refine⟨?_,?_⟩
  ·intro y0 y1 y2;unfold Czw.j0;with_reducible repeat' first|exact ih0 _ _ _|exact ih1 _ _ _ _ _|exact Azk.mono _ _|exact Bzm.mono _ _ _|exact Bzw.mono _ _|exact LeO.refl _|exact LeO.none _|refine LeO.ite ?_ ?_|refine LeO.bind ?_ (fun _=>?_)
  ·intro y0 y1 y2 y3 y4;unfold Czw.l0;with_reducible repeat' first|exact ih0 _ _ _|exact ih1 _ _ _ _ _|exact Azk.mono _ _|exact Bzm.mono _ _ _|exact Bzw.mono _ _|exact LeO.refl _|exact LeO.none _|refine LeO.ite ?_ ?_|refine LeO.bind ?_ (fun _=>?_)
theorem Czw.mono:∀ a0 a1 k,LeO (Czw.f k a0 a1) (Czw.f (k+1) a0 a1):=by
 intro a0 a1 k;obtain⟨ih0,ih1⟩:=Czw.mono_l k;unfold Czw.f;with_reducible repeat' first|exact ih0 _ _ _|exact ih1 _ _ _ _ _|exact Azk.mono _ _|exact Bzm.mono _ _ _|exact Bzw.mono _ _|exact LeO.refl _|exact LeO.none _|refine LeO.ite ?_ ?_|refine LeO.bind ?_ (fun _=>?_)
theorem Czw.calls (k:Nat) (A0:Option Addr) (c0:Nat) (l0:List Int) (A1:Option Addr) (c1:Nat) (l1:List Int) (r1:List Int) (r2:Int) (w:World) (hr0:Kd.C (Kd.int .i64) w A0 l0.length l0) (hc0:l0.length≤c0) (hr1:Kd.C (Kd.int .i64) w A1 l1.length l1) (hc1:l1.length≤c1) (h:Czw.f k l0 l1=some (r1,r2)) :
  Calls Try.prog 53 #[.slice A0 l0.length c0,.slice A1 l1.length c1] w fun e w'=>∃ v0_:Value,e=.returned (.tuple #[v0_,.int .i64 r2])∧Kd.R (Kd.int .i64) 3 w' w.heap.size (fun _=>True) v0_ r1∧Below w.heap.size w w':=by
 have HR0:=aM hr0;have HC0:=aM hc0;clear hr0 hc0;have HR1:=aM hr1;have HC1:=aM hc1;clear hr1 hc1;have HB:=aM (Below.refl w.heap.size w);have H:((Azk.f k l0).bind fun t508=>(if t508=true then((Azk.f k l1).bind fun t509=>(Czw.j0 k l0 l1 (!t509))) else(Czw.j0 k l0 l1 true)))=some (r1,r2):=h
 clear h;have HC3:=aM H;clear H;go_enter Try.func53,Try.ntmps53
 go_upto_region 1 with (fail)
 go_cut [17] (fun v17 wc=>∃ (kq:Nat) (x17_2:Bool),v17=.bool x17_2∧Aside0 (Czw.j0 kq l0 l1 x17_2=some (r1,r2))∧Aside0 (kq≤k)∧Aside0 (Below w.heap.size w wc))
 case first =>
  have H:=HC3.out;clear HC3;replace H:=bS H;obtain⟨t508,A40,H⟩:=H;(try dsimp only at H);have A4:=aM A40;clear A40;by_cases c5:t508=true
  ·subst c5;rw[if_pos rfl] at H;replace H:=bS H;obtain⟨t509,A60,H⟩:=H;(try dsimp only at H);have A6:=aM A60;clear A60;have H':=aM H;clear H;go_wp2_with (first|((with_reducible refine gate_callee (f:=65) rfl ?_);refine goesL_ (some 11) rfl rfl Try.func65 (by kernel_rfl) rfl #[.slice A0 l0.length c0] rfl mA ?_;(with_reducible refine(Azk.calls k _ _ l0 true _ ?side1 ?side2 A4.out).mono ?_);(case side1=>exact cX (Kd.C_below HR0.out HB.out));(case side2=>exact HC0.out);rintro e w' ⟨rfl,⟨nd,rfl⟩⟩;refine⟨_,rfl,?_⟩)|(go_at_call 65;(with_reducible refine(Azk.calls k _ _ l1 t509 _ ?side1 ?side2 A6.out).mono ?_);(case side1=>repeat(first|exact(Kd.C_below HR1.out pB)|(with_reducible refine Kd.C_alloc ?_ _)|(with_reducible refine Kd.C_drewN ?_ _)|(with_reducible refine Kd.C_drew ?_)));(case side2=>exact HC1.out);rintro e w' ⟨rfl,⟨nd,rfl⟩⟩))
   go_meet
   case rel=>exact⟨_,(!t509),sD,H',⟨by first|omega|exact Nat.le_refl _⟩,⟨pB⟩⟩
  ·replace c5:=Bool.eq_false_iff.mpr c5;subst c5;rw[if_neg (show ¬ (false=true) by decide)] at H
   have H':=aM H;clear H;go_wp2_with (first|((with_reducible refine gate_callee (f:=65) rfl ?_);refine goesL_ (some 11) rfl rfl Try.func65 (by kernel_rfl) rfl #[.slice A0 l0.length c0] rfl mA ?_;(with_reducible refine(Azk.calls k _ _ l0 false _ ?side1 ?side2 A4.out).mono ?_);(case side1=>exact cX (Kd.C_below HR0.out HB.out));(case side2=>exact HC0.out);rintro e w' ⟨rfl,⟨nd,rfl⟩⟩;refine⟨_,rfl,?_⟩))
   go_meet
   case rel=>exact⟨_,(true),sD,H',⟨by first|omega|exact Nat.le_refl _⟩,⟨pB⟩⟩
 case rest =>
  clear HC3;try clear c1
  try clear p2
  try clear c5
  try clear c6
  obtain⟨kq,x17_2,rfl,HA,HJ2,HB⟩:=hcut;cases kq with
  | zero=>exact absurd HA.out (by simp [Czw.j0])
  | succ kj2 =>
   have H:=HA.out;clear HA;simp only[Czw.j0] at H;by_cases c7:x17_2=true
   ·subst c7;rw[if_pos rfl] at H;simp only[Option.some.injEq,Prod.mk.injEq] at H;obtain⟨rfl,rfl⟩:=H;go_wp2
    go_ret2
    exact⟨_,eW,by first|exact Kd.R_nil _ _ _ _ _|exact Kd.N_nil _ _ _ _ _|exact Kd.V_nil _ _ _ _ _|exact Kd.Q_nil _ _ _ _ _|exact Kd.S_nil _ _ _ _ _,pB⟩
   ·replace c7:=Bool.eq_false_iff.mpr c7;subst c7;rw[if_neg (show ¬ (false=true) by decide)] at H
    replace H:=bS H;obtain⟨t510,A80,H⟩:=H;(try dsimp only at H);have A8:=aM A80;clear A80;by_cases c9:t510 < 0
    ·rw[if_pos c9] at H;have c9b0:decide (t510 < 0)=true:=dE c9;clear c9;simp only[Option.some.injEq,Prod.mk.injEq] at H;obtain⟨rfl,rfl⟩:=H;go_wp2_with (first|((with_reducible refine gate_callee (f:=71) rfl ?_);refine goesL_ (some 20) rfl rfl Try.func71 (by kernel_rfl) rfl #[.slice A0 l0.length c0,.slice A1 l1.length c1] rfl mA ?_;(with_reducible refine(Bzm.calls kj2 _ _ l0 _ _ l1 t510 _ ?side1 ?side2 ?side3 ?side4 A8.out).mono ?_);(case side1=>exact cX (Kd.C_below HR0.out HB.out));(case side2=>exact HC0.out);(case side3=>exact cX (Kd.C_below HR1.out HB.out));(case side4=>exact HC1.out);rintro e w' ⟨rfl,⟨nd,rfl⟩⟩;refine⟨_,rfl,?_⟩))
     go_ret2
     exact⟨_,eW,by first|exact Kd.R_nil _ _ _ _ _|exact Kd.N_nil _ _ _ _ _|exact Kd.V_nil _ _ _ _ _|exact Kd.Q_nil _ _ _ _ _|exact Kd.S_nil _ _ _ _ _,pB⟩
    ·rw[if_neg c9] at H;have c9b0:decide (t510 < 0)=false:=decide_eq_false c9;clear c9;replace H:=bS H;obtain⟨t511,A100,H⟩:=H;(try dsimp only at H);have A10:=aM A100;clear A100;have H':=aM H;clear H;go_wp2_with (first|((with_reducible refine gate_callee (f:=71) rfl ?_);refine goesL_ (some 20) rfl rfl Try.func71 (by kernel_rfl) rfl #[.slice A0 l0.length c0,.slice A1 l1.length c1] rfl mA ?_;(with_reducible refine(Bzm.calls kj2 _ _ l0 _ _ l1 t510 _ ?side1 ?side2 ?side3 ?side4 A8.out).mono ?_);(case side1=>exact cX (Kd.C_below HR0.out HB.out));(case side2=>exact HC0.out);(case side3=>exact cX (Kd.C_below HR1.out HB.out));(case side4=>exact HC1.out);rintro e w' ⟨rfl,⟨nd,rfl⟩⟩;refine⟨_,rfl,?_⟩)|((with_reducible refine gate_callee (f:=69) rfl ?_);refine goesL_ (some 25) rfl rfl Try.func69 (by kernel_rfl) rfl #[.slice A0 l0.length c0,.int .i64 (l0.length:Int)] rfl mA ?_;(with_reducible refine(Dzm.calls _ _ l0 (l0.length:Int) t511 _ ?side1 ?side2 A10.out).mono ?_);(case side1=>repeat(first|exact(Kd.C_below HR0.out pB)|(with_reducible refine Kd.C_alloc ?_ _)|(with_reducible refine Kd.C_drewN ?_ _)|(with_reducible refine Kd.C_drew ?_)));(case side2=>exact HC0.out);rintro e w11 ⟨v512,rfl,ho0,hb⟩;refine⟨_,rfl,?_⟩;have HO513:=aM (Kd.R_lower ho0 (below_size pB));replace HB:=aM (below_step pB hb);(try clear hb);(try clear hb2);(try clear hk);(try clear hi);(try clear ho0);obtain⟨Ao12,co12,eo12⟩:=Kd.R_slice HO513.out;subst eo12))
     go_loopg [7,28] kj2 (fun kq v7 v28 w'=>∃ (x6_2:List Int) (x7_2:Int) (x28_2:Int),v7=.int .i64 x7_2∧v28=.int .i64 x28_2∧Aside0 (Czw.l0 kq l1 x6_2 x7_2 (t511.length:Int) x28_2=some (r1,r2))∧Aside0 (kq≤kj2)∧Aside0 (Kd.R (Kd.int .i64) 3 w' w.heap.size (fun _=>True) (.slice Ao12 t511.length co12) x6_2)∧Aside0 (Below w.heap.size w w'))
     case atStart=>exact⟨(t511),(0),(0),sD,sD,H',⟨Nat.le_refl _⟩,⟨rX HO513.out⟩,⟨pB⟩⟩
     case round =>
      clear H';try clear c1
      try clear p2
      try clear c5
      try clear c6
      try clear c7
      try clear c9
      try clear c9b0
      try clear p2
      obtain⟨x6_2,x7_2,x28_2,rfl,rfl,HA,HK2,HO_6,HB⟩:=hrel;have hl6_2:=(Kd.R_reads' HO_6.out).1;rw[hl6_2] at HO_6;(try simp only[hl6_2])
      cases gk with
      | zero=>exact absurd HA.out (by simp [Czw.l0])
      | succ k2 =>
       have H:=HA.out;clear HA;simp only[Czw.l0] at H;by_cases c13:x28_2 < (t511.length:Int)
       ·rw[if_pos c13] at H;have c13b0:decide (x28_2 < (t511.length:Int))=true:=dE c13;clear c13;by_cases c14:0≤x28_2
        ·rw[if_pos c14] at H;have c14b0:decide (0≤x28_2)=true:=dE c14;clear c14;by_cases c15:x28_2 < (x6_2.length:Int)
         ·rw[if_pos c15] at H;have c15b0:decide (x28_2 < (x6_2.length:Int))=true:=dE c15;clear c15;by_cases c16:x28_2 < (l1.length:Int)
          ·rw[if_pos c16] at H;have c16b0:decide (x28_2 < (l1.length:Int))=true:=dE c16;clear c16;by_cases c17:(wrap64 ((wrap64 ((rd x6_2 x28_2) - x7_2)) - (rd l1 x28_2))) < 0
           ·rw[if_pos c17] at H;have c17b0:decide ((wrap64 ((wrap64 ((rd x6_2 x28_2) - x7_2)) - (rd l1 x28_2))) < 0)=true:=dE c17;have c17b0w:decide ((IntKind.i64.wrap ((IntKind.i64.wrap ((rd x6_2 x28_2) - x7_2)) - (rd l1 x28_2))) < 0)=true:=by have h_:=c17b0;first|exact h_|(simp only[i64_w];exact h_)
            clear c17;obtain⟨y519,hy519⟩:∃ y_:List Int,y_=(x6_2.set (x28_2:Int).toNat (wrap64 ((wrap64 ((wrap64 ((rd x6_2 x28_2) - x7_2)) - (rd l1 x28_2)))+1000000000))):=⟨_,rfl⟩;replace H:(Czw.l0 k2 l1 y519 1 (t511.length:Int) (wrap64 (x28_2+1)))=some (r1,r2):=by first|(rw[hy519];with_reducible exact H)|(have H2_:=(Option.bind_some _ _).symm.trans H;rw[hy519];with_reducible exact H2_)|(have H2_:=(Option.bind_some _ _).symm.trans H;with_reducible exact H2_)|with_reducible exact H|(rw[hy519];exact H)|exact H
            have Ny519:=aM hy519;clear hy519;have H':=aM H;clear H;have p517:0≤(x28_2:Int):=oE aS
            have q517:x28_2 < (x6_2.length:Int):=oE aS
            obtain⟨ad517,e517,hx517_0⟩:=Kd.at_int (Kd.R_reads' HO_6.out).2.2 x28_2 p517 q517;cases e517
            replace p517:=eq_true p517;replace q517:=eq_true q517;have p518:0≤(x28_2:Int):=oE aS
            have q518:x28_2 < (l1.length:Int):=oE aS
            obtain⟨ad518,e518,hx518_0⟩:=Kd.at_int HR1.out x28_2 p518 q518;cases e518
            replace hx518_0:=(HB.out.cell (World.block_lt_of_cell? w _ hx518_0)).trans hx518_0;replace p518:=eq_true p518;replace q518:=eq_true q518;have p18:0≤(x28_2:Int):=oE aS
            have q18:(x28_2:Int) < ((x6_2.length:Int):Int):=oE aS
            obtain⟨go18,co18,eo18,gb18,gl18,cl18,HG18⟩:=Kd.R_form HO_6.out (by omega)
            (first|cases eo18|(injection eo18 with ea_ en_ ec_;(first|subst ea_|(injection ea_ with ea_;subst ea_));subst ec_;clear en_))
            have GB18:=aM gb18;have GG18:=aM HG18;clear gb18 gl18 HG18;(first|simp only[add_plain] at hx517_0|skip)
            obtain⟨hx18_0,hf18_0⟩:=Kd.R_celln 0 HO_6.out (x28_2:Int) p18 q18;replace p18:=eq_true p18;replace q18:=eq_true q18;have HP19:=Kd.R_putg HO_6.out (x28_2:Int) (wrap64 ((wrap64 ((wrap64 ((rd x6_2 x28_2) - x7_2)) - (rd l1 x28_2)))+1000000000));go_wp2_with (first|((with_reducible refine gate_store (t:=3) (p:=54) rfl ?_);refine store_event (t:=3) (p:=54) (v:=?vo_w20) (w1:=(wr.setCell ⟨go18,(x28_2:Int).toNat,none⟩ (.int .i64 (wrap64 ((wrap64 ((wrap64 ((rd x6_2 x28_2) - x7_2)) - (rd l1 x28_2)))+1000000000))))) ?hg ?ho ?hn ?hr ?_;(case ho=>rfl);(case hg=>rfl);(case hn=>rfl);(case hr=>first|(go_simp;done)|(go_simp;rfl));intro w20 hw;have hg:wr.grownBy w20 (some go18):=(by rw[hw];exact HP19.2);have hp_:Kd.R (Kd.int .i64) 3 w20 w.heap.size (fun _=>True) (.slice (some ⟨go18,0,none⟩) x6_2.length co12) y519:=(by rw[hw,Ny519.out];exact HP19.1);clear HP19;replace HO_6:=aM (hp_);replace HB:=aM ((by rw[hw];exact below_set (HB.out) GB18.out:Below w.heap.size w w20));clear hg hw hp_))
            (try simp only[← hl6_2])
            go_roundg k2
            case measure=>have:=HJ2.out;have:=HK2.out;omega
            case rel=>exact⟨(y519),(1),(wrap64 (x28_2+1)),sD,sD,H',⟨by have:=HJ2.out;have:=HK2.out;omega⟩,⟨by(try simp only[hl6_2]);(with_reducible repeat(first|apply Kd.R_alloc|apply Kd.R_drewN|apply Kd.R_drew));exact HO_6.out⟩,⟨pB⟩⟩
           ·rw[if_neg c17] at H;have c17b0:decide ((wrap64 ((wrap64 ((rd x6_2 x28_2) - x7_2)) - (rd l1 x28_2))) < 0)=false:=decide_eq_false c17;have c17b0w:decide ((IntKind.i64.wrap ((IntKind.i64.wrap ((rd x6_2 x28_2) - x7_2)) - (rd l1 x28_2))) < 0)=false:=by have h_:=c17b0;first|exact h_|(simp only[i64_w];exact h_)
            clear c17;obtain⟨y520,hy520⟩:∃ y_:List Int,y_=(x6_2.set (x28_2:Int).toNat (wrap64 ((wrap64 ((rd x6_2 x28_2) - x7_2)) - (rd l1 x28_2)))):=⟨_,rfl⟩;replace H:(Czw.l0 k2 l1 y520 0 (t511.length:Int) (wrap64 (x28_2+1)))=some (r1,r2):=by first|(rw[hy520];with_reducible exact H)|(have H2_:=(Option.bind_some _ _).symm.trans H;rw[hy520];with_reducible exact H2_)|(have H2_:=(Option.bind_some _ _).symm.trans H;with_reducible exact H2_)|with_reducible exact H|(rw[hy520];exact H)|exact H
            have Ny520:=aM hy520;clear hy520;have H':=aM H;clear H;have p517:0≤(x28_2:Int):=oE aS
            have q517:x28_2 < (x6_2.length:Int):=oE aS
            obtain⟨ad517,e517,hx517_0⟩:=Kd.at_int (Kd.R_reads' HO_6.out).2.2 x28_2 p517 q517;cases e517
            replace p517:=eq_true p517;replace q517:=eq_true q517;have p518:0≤(x28_2:Int):=oE aS
            have q518:x28_2 < (l1.length:Int):=oE aS
            obtain⟨ad518,e518,hx518_0⟩:=Kd.at_int HR1.out x28_2 p518 q518;cases e518
            replace hx518_0:=(HB.out.cell (World.block_lt_of_cell? w _ hx518_0)).trans hx518_0;replace p518:=eq_true p518;replace q518:=eq_true q518;have p21:0≤(x28_2:Int):=oE aS
            have q21:(x28_2:Int) < ((x6_2.length:Int):Int):=oE aS
            obtain⟨go21,co21,eo21,gb21,gl21,cl21,HG21⟩:=Kd.R_form HO_6.out (by omega)
            (first|cases eo21|(injection eo21 with ea_ en_ ec_;(first|subst ea_|(injection ea_ with ea_;subst ea_));subst ec_;clear en_))
            have GB21:=aM gb21;have GG21:=aM HG21;clear gb21 gl21 HG21;(first|simp only[add_plain] at hx517_0|skip)
            obtain⟨hx21_0,hf21_0⟩:=Kd.R_celln 0 HO_6.out (x28_2:Int) p21 q21;replace p21:=eq_true p21;replace q21:=eq_true q21;have HP22:=Kd.R_putg HO_6.out (x28_2:Int) (wrap64 ((wrap64 ((rd x6_2 x28_2) - x7_2)) - (rd l1 x28_2)));go_wp2_with (first|((with_reducible refine gate_store (t:=3) (p:=54) rfl ?_);refine store_event (t:=3) (p:=54) (v:=?vo_w23) (w1:=(wr.setCell ⟨go21,(x28_2:Int).toNat,none⟩ (.int .i64 (wrap64 ((wrap64 ((rd x6_2 x28_2) - x7_2)) - (rd l1 x28_2)))))) ?hg ?ho ?hn ?hr ?_;(case ho=>rfl);(case hg=>rfl);(case hn=>rfl);(case hr=>first|(go_simp;done)|(go_simp;rfl));intro w23 hw;have hg:wr.grownBy w23 (some go21):=(by rw[hw];exact HP22.2);have hp_:Kd.R (Kd.int .i64) 3 w23 w.heap.size (fun _=>True) (.slice (some ⟨go21,0,none⟩) x6_2.length co12) y520:=(by rw[hw,Ny520.out];exact HP22.1);clear HP22;replace HO_6:=aM (hp_);replace HB:=aM ((by rw[hw];exact below_set (HB.out) GB21.out:Below w.heap.size w w23));clear hg hw hp_))
            (try simp only[← hl6_2])
            go_roundg k2
            case measure=>have:=HJ2.out;have:=HK2.out;omega
            case rel=>exact⟨(y520),(0),(wrap64 (x28_2+1)),sD,sD,H',⟨by have:=HJ2.out;have:=HK2.out;omega⟩,⟨by(try simp only[hl6_2]);(with_reducible repeat(first|apply Kd.R_alloc|apply Kd.R_drewN|apply Kd.R_drew));exact HO_6.out⟩,⟨pB⟩⟩
          ·rw[if_neg c16] at H;have c16b0:decide (x28_2 < (l1.length:Int))=false:=decide_eq_false c16;have c16b0x:=c16b0;(try simp only[hl6_2] at c16b0x)
           clear c16;by_cases c24:(wrap64 ((rd x6_2 x28_2) - x7_2)) < 0
           ·rw[if_pos c24] at H;have c24b0:decide ((wrap64 ((rd x6_2 x28_2) - x7_2)) < 0)=true:=dE c24;have c24b0w:decide ((IntKind.i64.wrap ((rd x6_2 x28_2) - x7_2)) < 0)=true:=by have h_:=c24b0;first|exact h_|(simp only[i64_w];exact h_)
            clear c24;obtain⟨y521,hy521⟩:∃ y_:List Int,y_=(x6_2.set (x28_2:Int).toNat (wrap64 ((wrap64 ((rd x6_2 x28_2) - x7_2))+1000000000))):=⟨_,rfl⟩;replace H:(Czw.l0 k2 l1 y521 1 (t511.length:Int) (wrap64 (x28_2+1)))=some (r1,r2):=by first|(rw[hy521];with_reducible exact H)|(have H2_:=(Option.bind_some _ _).symm.trans H;rw[hy521];with_reducible exact H2_)|(have H2_:=(Option.bind_some _ _).symm.trans H;with_reducible exact H2_)|with_reducible exact H|(rw[hy521];exact H)|exact H
            have Ny521:=aM hy521;clear hy521;have H':=aM H;clear H;have p517:0≤(x28_2:Int):=oE aS
            have q517:x28_2 < (x6_2.length:Int):=oE aS
            obtain⟨ad517,e517,hx517_0⟩:=Kd.at_int (Kd.R_reads' HO_6.out).2.2 x28_2 p517 q517;cases e517
            replace p517:=eq_true p517;replace q517:=eq_true q517;have p25:0≤(x28_2:Int):=oE aS
            have q25:(x28_2:Int) < ((x6_2.length:Int):Int):=oE aS
            obtain⟨go25,co25,eo25,gb25,gl25,cl25,HG25⟩:=Kd.R_form HO_6.out (by omega)
            (first|cases eo25|(injection eo25 with ea_ en_ ec_;(first|subst ea_|(injection ea_ with ea_;subst ea_));subst ec_;clear en_))
            have GB25:=aM gb25;have GG25:=aM HG25;clear gb25 gl25 HG25;(first|simp only[add_plain] at hx517_0|skip)
            obtain⟨hx25_0,hf25_0⟩:=Kd.R_celln 0 HO_6.out (x28_2:Int) p25 q25;replace p25:=eq_true p25;replace q25:=eq_true q25;have HP26:=Kd.R_putg HO_6.out (x28_2:Int) (wrap64 ((wrap64 ((rd x6_2 x28_2) - x7_2))+1000000000));go_wp2_with (first|((with_reducible refine gate_store (t:=3) (p:=54) rfl ?_);refine store_event (t:=3) (p:=54) (v:=?vo_w27) (w1:=(wr.setCell ⟨go25,(x28_2:Int).toNat,none⟩ (.int .i64 (wrap64 ((wrap64 ((rd x6_2 x28_2) - x7_2))+1000000000))))) ?hg ?ho ?hn ?hr ?_;(case ho=>rfl);(case hg=>rfl);(case hn=>rfl);(case hr=>first|(go_simp;done)|(go_simp;rfl));intro w27 hw;have hg:wr.grownBy w27 (some go25):=(by rw[hw];exact HP26.2);have hp_:Kd.R (Kd.int .i64) 3 w27 w.heap.size (fun _=>True) (.slice (some ⟨go25,0,none⟩) x6_2.length co12) y521:=(by rw[hw,Ny521.out];exact HP26.1);clear HP26;replace HO_6:=aM (hp_);replace HB:=aM ((by rw[hw];exact below_set (HB.out) GB25.out:Below w.heap.size w w27));clear hg hw hp_))
            (try simp only[← hl6_2])
            go_roundg k2
            case measure=>have:=HJ2.out;have:=HK2.out;omega
            case rel=>exact⟨(y521),(1),(wrap64 (x28_2+1)),sD,sD,H',⟨by have:=HJ2.out;have:=HK2.out;omega⟩,⟨by(try simp only[hl6_2]);(with_reducible repeat(first|apply Kd.R_alloc|apply Kd.R_drewN|apply Kd.R_drew));exact HO_6.out⟩,⟨pB⟩⟩
           ·rw[if_neg c24] at H;have c24b0:decide ((wrap64 ((rd x6_2 x28_2) - x7_2)) < 0)=false:=decide_eq_false c24;have c24b0w:decide ((IntKind.i64.wrap ((rd x6_2 x28_2) - x7_2)) < 0)=false:=by have h_:=c24b0;first|exact h_|(simp only[i64_w];exact h_)
            clear c24;obtain⟨y522,hy522⟩:∃ y_:List Int,y_=(x6_2.set (x28_2:Int).toNat (wrap64 ((rd x6_2 x28_2) - x7_2))):=⟨_,rfl⟩;replace H:(Czw.l0 k2 l1 y522 0 (t511.length:Int) (wrap64 (x28_2+1)))=some (r1,r2):=by first|(rw[hy522];with_reducible exact H)|(have H2_:=(Option.bind_some _ _).symm.trans H;rw[hy522];with_reducible exact H2_)|(have H2_:=(Option.bind_some _ _).symm.trans H;with_reducible exact H2_)|with_reducible exact H|(rw[hy522];exact H)|exact H
            have Ny522:=aM hy522;clear hy522;have H':=aM H;clear H;have p517:0≤(x28_2:Int):=oE aS
            have q517:x28_2 < (x6_2.length:Int):=oE aS
            obtain⟨ad517,e517,hx517_0⟩:=Kd.at_int (Kd.R_reads' HO_6.out).2.2 x28_2 p517 q517;cases e517
            replace p517:=eq_true p517;replace q517:=eq_true q517;have p28:0≤(x28_2:Int):=oE aS
            have q28:(x28_2:Int) < ((x6_2.length:Int):Int):=oE aS
            obtain⟨go28,co28,eo28,gb28,gl28,cl28,HG28⟩:=Kd.R_form HO_6.out (by omega)
            (first|cases eo28|(injection eo28 with ea_ en_ ec_;(first|subst ea_|(injection ea_ with ea_;subst ea_));subst ec_;clear en_))
            have GB28:=aM gb28;have GG28:=aM HG28;clear gb28 gl28 HG28;(first|simp only[add_plain] at hx517_0|skip)
            obtain⟨hx28_0,hf28_0⟩:=Kd.R_celln 0 HO_6.out (x28_2:Int) p28 q28;replace p28:=eq_true p28;replace q28:=eq_true q28;have HP29:=Kd.R_putg HO_6.out (x28_2:Int) (wrap64 ((rd x6_2 x28_2) - x7_2));go_wp2_with (first|((with_reducible refine gate_store (t:=3) (p:=54) rfl ?_);refine store_event (t:=3) (p:=54) (v:=?vo_w30) (w1:=(wr.setCell ⟨go28,(x28_2:Int).toNat,none⟩ (.int .i64 (wrap64 ((rd x6_2 x28_2) - x7_2))))) ?hg ?ho ?hn ?hr ?_;(case ho=>rfl);(case hg=>rfl);(case hn=>rfl);(case hr=>first|(go_simp;done)|(go_simp;rfl));intro w30 hw;have hg:wr.grownBy w30 (some go28):=(by rw[hw];exact HP29.2);have hp_:Kd.R (Kd.int .i64) 3 w30 w.heap.size (fun _=>True) (.slice (some ⟨go28,0,none⟩) x6_2.length co12) y522:=(by rw[hw,Ny522.out];exact HP29.1);clear HP29;replace HO_6:=aM (hp_);replace HB:=aM ((by rw[hw];exact below_set (HB.out) GB28.out:Below w.heap.size w w30));clear hg hw hp_))
            (try simp only[← hl6_2])
            go_roundg k2
            case measure=>have:=HJ2.out;have:=HK2.out;omega
            case rel=>exact⟨(y522),(0),(wrap64 (x28_2+1)),sD,sD,H',⟨by have:=HJ2.out;have:=HK2.out;omega⟩,⟨by(try simp only[hl6_2]);(with_reducible repeat(first|apply Kd.R_alloc|apply Kd.R_drewN|apply Kd.R_drew));exact HO_6.out⟩,⟨pB⟩⟩
         ·rw[if_neg c15] at H;exact absurd H (by simp)
        ·rw[if_neg c14] at H;exact absurd H (by simp)
       ·rw[if_neg c13] at H;have c13b0:decide (x28_2 < (t511.length:Int))=false:=decide_eq_false c13;have c13b0x:=c13b0;(try simp only[hl6_2] at c13b0x)
        clear c13;replace H:=bS H;obtain⟨t514,A310,H⟩:=H;replace H:(some (t514,0))=some (r1,r2):=H;have A31:=aM A310;clear A310;simp only[Option.some.injEq,Prod.mk.injEq] at H;obtain⟨rfl,rfl⟩:=H;go_wp2_with (first|((with_reducible refine gate_callee (f:=72) rfl ?_);refine goesL_ (some 57) rfl rfl Try.func72 (by kernel_rfl) rfl #[.slice Ao12 x6_2.length co12] rfl mA ?_;(with_reducible refine(Bzw.calls k2 (fun k_=>some k_=(.slice Ao12 x6_2.length co12:Value).ownBlock) (.slice Ao12 x6_2.length co12) x6_2 t514 w _ ?side1 ?side2 A31.out).mono ?_);(case side1=>repeat(first|(with_reducible first|exact HB.out|apply below_alloc|apply pw_below_drewN|apply below_drew1)|exact HB.out));(case side2=>exact Kd.R_tight rfl HO_6.out);rintro e w32 ⟨v515,rfl,ho0,hb,hkp⟩;refine⟨_,rfl,?_⟩;have HO516:=aM (Kd.R_mono (ok':=fun k_=>True) ho0 (fun k_ hk_=>trivial));replace HB:=aM (hb);clear HO_6;(try clear hb);(try clear hkp);(try clear ho0)))
        go_ret2
        exact⟨_,eW,rX HO516.out,pB⟩


end Go.Proofs.Ytokkiljkgejnhaa.Print
