import Derived.Test.YtokkiljkgejnhaaPrint0
import Derived.Test.YtokkiljkgejnhaaPrint14
import Derived.Test.YtokkiljkgejnhaaPrint15
import Derived.Test.YtokkiljkgejnhaaPrint26
namespace Go.Proofs.Ytokkiljkgejnhaa.Print
open Go.RowKit Go.Proofs.YtokkiljkgejnhaaW.PrintWords Go.Proofs.YtokkiljkgejnhaaW.PrintLast Go.Proofs.YtokkiljkgejnhaaW.PrintMore
attribute [local go_sem] max2_int min2_int max_two min_two max_three min_three max_four min_four
set_option linter.unusedVariables false
set_option maxRecDepth 100000
set_option maxHeartbeats 8000000
set_option linter.unusedSimpArgs false

mutual
def Czx.j0:Nat→List Int→List Int→Bool→Option (List Int × Int)
 | 0,_,_,_=>none
 | k+1,x0,x1,x17=>if x17=true then(some (([]:List Int),3)) else((Dzm.f x0 (wrap64 ((mx (x0.length:Int) (x1.length:Int))+1))).bind fun t494=>(Czx.l0 k x1 t494 0 (t494.length:Int) 0))
def Czx.l0:Nat→List Int→List Int→Int→Int→Int→Option (List Int × Int)
 | 0,_,_,_,_,_=>none
 | k+1,x1,x6,x7,x27,x28=>if x28 < x27 then(if 0≤x28 then(if x28 < (x6.length:Int) then(if x28 < (x1.length:Int) then(Czx.l0 k x1 (x6.set (x28:Int).toNat (Int.tmod (wrap64 ((wrap64 ((rd x6 x28)+x7))+(rd x1 x28))) 1000000000)) (wrap64 (Int.tdiv (wrap64 ((wrap64 ((rd x6 x28)+x7))+(rd x1 x28))) 1000000000)) x27 (wrap64 (x28+1))) else(Czx.l0 k x1 (x6.set (x28:Int).toNat (Int.tmod (wrap64 ((rd x6 x28)+x7)) 1000000000)) (wrap64 (Int.tdiv (wrap64 ((rd x6 x28)+x7)) 1000000000)) x27 (wrap64 (x28+1)))) else(none)) else(none)) else((Dzy.f k x6).bind fun bt501=>(some (bt501.1,bt501.2)))
end
def Czx.f (k:Nat) (l0:List Int) (l1:List Int):Option (List Int × Int):=(Azk.f k l0).bind fun t492=>(if t492=true then((Azk.f k l1).bind fun t493=>(Czx.j0 k l0 l1 (!t493))) else(Czx.j0 k l0 l1 true))
theorem Czx.mono_l:∀ k,(∀ y0 y1 y2,LeO (Czx.j0 k y0 y1 y2) (Czx.j0 (k+1) y0 y1 y2))∧(∀ y0 y1 y2 y3 y4,LeO (Czx.l0 k y0 y1 y2 y3 y4) (Czx.l0 (k+1) y0 y1 y2 y3 y4))
 | 0=>⟨fun _ _ _ r h=>by simp [Czx.j0] at h,fun _ _ _ _ _ r h=>by simp [Czx.l0] at h⟩
 | k+1=>by
  obtain⟨ih0,ih1⟩:=Czx.mono_l k;refine⟨?_,?_⟩
  ·intro y0 y1 y2;unfold Czx.j0;with_reducible repeat' first|exact ih0 _ _ _|exact ih1 _ _ _ _ _|exact Azk.mono _ _|exact Dzy.mono _ _|exact LeO.refl _|exact LeO.none _|refine LeO.ite ?_ ?_|refine LeO.bind ?_ (fun _=>?_)
  ·intro y0 y1 y2 y3 y4;unfold Czx.l0;with_reducible repeat' first|exact ih0 _ _ _|exact ih1 _ _ _ _ _|exact Azk.mono _ _|exact Dzy.mono _ _|exact LeO.refl _|exact LeO.none _|refine LeO.ite ?_ ?_|refine LeO.bind ?_ (fun _=>?_)
theorem Czx.mono:∀ a0 a1 k,LeO (Czx.f k a0 a1) (Czx.f (k+1) a0 a1):=by
 intro a0 a1 k;obtain⟨ih0,ih1⟩:=Czx.mono_l k;unfold Czx.f;with_reducible repeat' first|exact ih0 _ _ _|exact ih1 _ _ _ _ _|exact Azk.mono _ _|exact Dzy.mono _ _|exact LeO.refl _|exact LeO.none _|refine LeO.ite ?_ ?_|refine LeO.bind ?_ (fun _=>?_)
theorem Czx.calls (k:Nat) (A0:Option Addr) (c0:Nat) (l0:List Int) (A1:Option Addr) (c1:Nat) (l1:List Int) (r1:List Int) (r2:Int) (w:World) (hr0:Kd.C (Kd.int .i64) w A0 l0.length l0) (hc0:l0.length≤c0) (hr1:Kd.C (Kd.int .i64) w A1 l1.length l1) (hc1:l1.length≤c1) (h:Czx.f k l0 l1=some (r1,r2)) :
  Calls Try.prog 51 #[.slice A0 l0.length c0,.slice A1 l1.length c1] w fun e w'=>∃ v0_:Value,e=.returned (.tuple #[v0_,.int .i64 r2])∧Kd.R (Kd.int .i64) 3 w' w.heap.size (fun _=>True) v0_ r1∧Below w.heap.size w w':=by
 have HR0:=aM hr0;have HC0:=aM hc0;clear hr0 hc0;have HR1:=aM hr1;have HC1:=aM hc1;clear hr1 hc1;have HB:=aM (Below.refl w.heap.size w);have H:((Azk.f k l0).bind fun t492=>(if t492=true then((Azk.f k l1).bind fun t493=>(Czx.j0 k l0 l1 (!t493))) else(Czx.j0 k l0 l1 true)))=some (r1,r2):=h
 clear h;have HC3:=aM H;clear H;go_enter Try.func51,Try.ntmps51
 go_upto_region 1 with (fail)
 go_cut [17] (fun v17 wc=>∃ (kq:Nat) (x17_2:Bool),v17=.bool x17_2∧Aside0 (Czx.j0 kq l0 l1 x17_2=some (r1,r2))∧Aside0 (kq≤k)∧Aside0 (Below w.heap.size w wc))
 case first =>
  have H:=HC3.out;clear HC3;replace H:=bS H;obtain⟨t492,A40,H⟩:=H;(try dsimp only at H);have A4:=aM A40;clear A40;by_cases c5:t492=true
  ·subst c5;rw[if_pos rfl] at H;replace H:=bS H;obtain⟨t493,A60,H⟩:=H;(try dsimp only at H);have A6:=aM A60;clear A60;have H':=aM H;clear H;go_wp2_with (first|((with_reducible refine gate_callee (f:=65) rfl ?_);refine goesL_ (some 11) rfl rfl Try.func65 (by kernel_rfl) rfl #[.slice A0 l0.length c0] rfl mA ?_;(with_reducible refine(Azk.calls k _ _ l0 true _ ?side1 ?side2 A4.out).mono ?_);(case side1=>exact cX (Kd.C_below HR0.out HB.out));(case side2=>exact HC0.out);rintro e w' ⟨rfl,⟨nd,rfl⟩⟩;refine⟨_,rfl,?_⟩)|(go_at_call 65;(with_reducible refine(Azk.calls k _ _ l1 t493 _ ?side1 ?side2 A6.out).mono ?_);(case side1=>repeat(first|exact(Kd.C_below HR1.out pB)|(with_reducible refine Kd.C_alloc ?_ _)|(with_reducible refine Kd.C_drewN ?_ _)|(with_reducible refine Kd.C_drew ?_)));(case side2=>exact HC1.out);rintro e w' ⟨rfl,⟨nd,rfl⟩⟩))
   go_meet
   case rel=>exact⟨_,(!t493),sD,H',⟨by first|omega|exact Nat.le_refl _⟩,⟨pB⟩⟩
  ·replace c5:=Bool.eq_false_iff.mpr c5;subst c5;rw[if_neg (show ¬ (false=true) by decide)] at H
   have H':=aM H;clear H;go_wp2_with (first|((with_reducible refine gate_callee (f:=65) rfl ?_);refine goesL_ (some 11) rfl rfl Try.func65 (by kernel_rfl) rfl #[.slice A0 l0.length c0] rfl mA ?_;(with_reducible refine(Azk.calls k _ _ l0 false _ ?side1 ?side2 A4.out).mono ?_);(case side1=>exact cX (Kd.C_below HR0.out HB.out));(case side2=>exact HC0.out);rintro e w' ⟨rfl,⟨nd,rfl⟩⟩;refine⟨_,rfl,?_⟩))
   go_meet
   case rel=>exact⟨_,(true),sD,H',⟨by first|omega|exact Nat.le_refl _⟩,⟨pB⟩⟩
 case rest =>
  clear HC3;try clear c1
  try clear p2
  try clear c5
  try clear c6
  obtain⟨kq,x17_2,rfl,HA,HJ2,HB⟩:=hcut;cases kq with
  | zero=>exact absurd HA.out (by simp [Czx.j0])
  | succ kj2 =>
   have H:=HA.out;clear HA;simp only[Czx.j0] at H;by_cases c7:x17_2=true
   ·subst c7;rw[if_pos rfl] at H;simp only[Option.some.injEq,Prod.mk.injEq] at H;obtain⟨rfl,rfl⟩:=H;go_wp2
    go_ret2
    exact⟨_,eW,by first|exact Kd.R_nil _ _ _ _ _|exact Kd.N_nil _ _ _ _ _|exact Kd.V_nil _ _ _ _ _|exact Kd.Q_nil _ _ _ _ _|exact Kd.S_nil _ _ _ _ _,pB⟩
   ·replace c7:=Bool.eq_false_iff.mpr c7;subst c7;rw[if_neg (show ¬ (false=true) by decide)] at H
    obtain⟨ji8,hji8⟩:∃ j_:Int,(mx (l0.length:Int) (l1.length:Int))=j_:=⟨_,rfl⟩;replace H:((Dzm.f l0 (wrap64 ((ji8)+1))).bind fun t494=>(Czx.l0 kj2 l1 t494 0 (t494.length:Int) 0))=some (r1,r2):=by first|(rw[hji8] at H;exact H)|(simp only[hji8] at H ⊢;exact H)
    have hji8_:(if(l0.length:Int) < (l1.length:Int) then(l1.length:Int) else(l0.length:Int))=ji8:=hji8
    have hji8n:(if l0.length < l1.length then(l1.length:Int) else(l0.length:Int))=ji8:=by rw[← hji8_];simp only[Int.ofNat_lt]
    replace H:=bS H;obtain⟨t494,A90,H⟩:=H;(try dsimp only at H);have A9:=aM A90;clear A90;have H':=aM H;clear H;go_wp2_with (first|((with_reducible refine gate_callee (f:=69) rfl ?_);refine goesL_ (some 25) rfl rfl Try.func69 (by kernel_rfl) rfl #[.slice A0 l0.length c0,.int .i64 (wrap64 ((ji8)+1))] rfl (by(try simp only[List.map_toArray,List.map_cons,List.map_nil]);first|done|(simp only[hji8];rfl)|rfl|(simp only[List.length_drop,List.length_take];rfl)) ?_;(with_reducible refine(Dzm.calls _ _ l0 (wrap64 ((ji8)+1)) t494 _ ?side1 ?side2 A9.out).mono ?_);(case side1=>exact cX (Kd.C_below HR0.out HB.out));(case side2=>exact HC0.out);rintro e w10 ⟨v495,rfl,ho0,hb⟩;refine⟨_,rfl,?_⟩;have HO496:=aM (Kd.R_lower ho0 (below_size pB));replace HB:=aM (below_step pB hb);(try clear hb);(try clear hb2);(try clear hk);(try clear hi);(try clear ho0);obtain⟨Ao11,co11,eo11⟩:=Kd.R_slice HO496.out;subst eo11))
    go_loopg [7,28] kj2 (fun kq v7 v28 w'=>∃ (x6_2:List Int) (x7_2:Int) (x28_2:Int),v7=.int .i64 x7_2∧v28=.int .i64 x28_2∧Aside0 (Czx.l0 kq l1 x6_2 x7_2 (t494.length:Int) x28_2=some (r1,r2))∧Aside0 (kq≤kj2)∧Aside0 (Kd.R (Kd.int .i64) 3 w' w.heap.size (fun _=>True) (.slice Ao11 t494.length co11) x6_2)∧Aside0 (Below w.heap.size w w'))
    case atStart=>exact⟨(t494),(0),(0),sD,sD,H',⟨Nat.le_refl _⟩,⟨rX HO496.out⟩,⟨pB⟩⟩
    case round =>
     clear H';try clear c1
     try clear p2
     try clear c5
     try clear c6
     try clear p6
     try clear c7
     try clear p2
     obtain⟨x6_2,x7_2,x28_2,rfl,rfl,HA,HK2,HO_6,HB⟩:=hrel;have hl6_2:=(Kd.R_reads' HO_6.out).1;rw[hl6_2] at HO_6;(try simp only[hl6_2])
     cases gk with
     | zero=>exact absurd HA.out (by simp [Czx.l0])
     | succ k2 =>
      have H:=HA.out;clear HA;simp only[Czx.l0] at H;by_cases c12:x28_2 < (t494.length:Int)
      ·rw[if_pos c12] at H;have c12b0:decide (x28_2 < (t494.length:Int))=true:=dE c12;clear c12;by_cases c13:0≤x28_2
       ·rw[if_pos c13] at H;have c13b0:decide (0≤x28_2)=true:=dE c13;clear c13;by_cases c14:x28_2 < (x6_2.length:Int)
        ·rw[if_pos c14] at H;have c14b0:decide (x28_2 < (x6_2.length:Int))=true:=dE c14;clear c14;by_cases c15:x28_2 < (l1.length:Int)
         ·rw[if_pos c15] at H;have c15b0:decide (x28_2 < (l1.length:Int))=true:=dE c15;clear c15;obtain⟨y499,hy499⟩:∃ y_:List Int,y_=(x6_2.set (x28_2:Int).toNat (Int.tmod (wrap64 ((wrap64 ((rd x6_2 x28_2)+x7_2))+(rd l1 x28_2))) 1000000000)):=⟨_,rfl⟩;replace H:(Czx.l0 k2 l1 y499 (wrap64 (Int.tdiv (wrap64 ((wrap64 ((rd x6_2 x28_2)+x7_2))+(rd l1 x28_2))) 1000000000)) (t494.length:Int) (wrap64 (x28_2+1)))=some (r1,r2):=by first|(rw[hy499];with_reducible exact H)|(have H2_:=(Option.bind_some _ _).symm.trans H;rw[hy499];with_reducible exact H2_)|(have H2_:=(Option.bind_some _ _).symm.trans H;with_reducible exact H2_)|with_reducible exact H|(rw[hy499];exact H)|exact H
          have Ny499:=aM hy499;clear hy499;have H':=aM H;clear H;have p497:0≤(x28_2:Int):=oE aS
          have q497:x28_2 < (x6_2.length:Int):=oE aS
          obtain⟨ad497,e497,hx497_0⟩:=Kd.at_int (Kd.R_reads' HO_6.out).2.2 x28_2 p497 q497;cases e497
          replace p497:=eq_true p497;replace q497:=eq_true q497;have p498:0≤(x28_2:Int):=oE aS
          have q498:x28_2 < (l1.length:Int):=oE aS
          obtain⟨ad498,e498,hx498_0⟩:=Kd.at_int HR1.out x28_2 p498 q498;cases e498
          replace hx498_0:=(HB.out.cell (World.block_lt_of_cell? w _ hx498_0)).trans hx498_0;replace p498:=eq_true p498;replace q498:=eq_true q498;have p16:0≤(x28_2:Int):=oE aS
          have q16:(x28_2:Int) < ((x6_2.length:Int):Int):=oE aS
          obtain⟨go16,co16,eo16,gb16,gl16,cl16,HG16⟩:=Kd.R_form HO_6.out (by omega)
          (first|cases eo16|(injection eo16 with ea_ en_ ec_;(first|subst ea_|(injection ea_ with ea_;subst ea_));subst ec_;clear en_))
          have GB16:=aM gb16;have GG16:=aM HG16;clear gb16 gl16 HG16;(first|simp only[add_plain] at hx497_0|skip)
          obtain⟨hx16_0,hf16_0⟩:=Kd.R_celln 0 HO_6.out (x28_2:Int) p16 q16;replace p16:=eq_true p16;replace q16:=eq_true q16;have HP17:=Kd.R_putg HO_6.out (x28_2:Int) (Int.tmod (wrap64 ((wrap64 ((rd x6_2 x28_2)+x7_2))+(rd l1 x28_2))) 1000000000);go_wp2_with (first|((with_reducible refine gate_store (t:=3) (p:=53) rfl ?_);refine store_event (t:=3) (p:=53) (v:=?vo_w18) (w1:=(wr.setCell ⟨go16,(x28_2:Int).toNat,none⟩ (.int .i64 (Int.tmod (wrap64 ((wrap64 ((rd x6_2 x28_2)+x7_2))+(rd l1 x28_2))) 1000000000)))) ?hg ?ho ?hn ?hr ?_;(case ho=>rfl);(case hg=>rfl);(case hn=>rfl);(case hr=>first|(go_simp;done)|(go_simp;rfl));intro w18 hw;have hg:wr.grownBy w18 (some go16):=(by rw[hw];exact HP17.2);have hp_:Kd.R (Kd.int .i64) 3 w18 w.heap.size (fun _=>True) (.slice (some ⟨go16,0,none⟩) x6_2.length co11) y499:=(by rw[hw,Ny499.out];exact HP17.1);clear HP17;replace HO_6:=aM (hp_);replace HB:=aM ((by rw[hw];exact below_set (HB.out) GB16.out:Below w.heap.size w w18));clear hg hw hp_))
          (try simp only[← hl6_2])
          go_roundg k2
          case measure=>have:=HJ2.out;have:=HK2.out;omega
          case rel=>exact⟨(y499),(wrap64 (Int.tdiv (wrap64 ((wrap64 ((rd x6_2 x28_2)+x7_2))+(rd l1 x28_2))) 1000000000)),(wrap64 (x28_2+1)),sD,sD,H',⟨by have:=HJ2.out;have:=HK2.out;omega⟩,⟨by(try simp only[hl6_2]);(with_reducible repeat(first|apply Kd.R_alloc|apply Kd.R_drewN|apply Kd.R_drew));exact HO_6.out⟩,⟨pB⟩⟩
         ·rw[if_neg c15] at H;have c15b0:decide (x28_2 < (l1.length:Int))=false:=decide_eq_false c15;have c15b0x:=c15b0;(try simp only[hl6_2] at c15b0x)
          clear c15;obtain⟨y500,hy500⟩:∃ y_:List Int,y_=(x6_2.set (x28_2:Int).toNat (Int.tmod (wrap64 ((rd x6_2 x28_2)+x7_2)) 1000000000)):=⟨_,rfl⟩;replace H:(Czx.l0 k2 l1 y500 (wrap64 (Int.tdiv (wrap64 ((rd x6_2 x28_2)+x7_2)) 1000000000)) (t494.length:Int) (wrap64 (x28_2+1)))=some (r1,r2):=by first|(rw[hy500];with_reducible exact H)|(have H2_:=(Option.bind_some _ _).symm.trans H;rw[hy500];with_reducible exact H2_)|(have H2_:=(Option.bind_some _ _).symm.trans H;with_reducible exact H2_)|with_reducible exact H|(rw[hy500];exact H)|exact H
          have Ny500:=aM hy500;clear hy500;have H':=aM H;clear H;have p497:0≤(x28_2:Int):=oE aS
          have q497:x28_2 < (x6_2.length:Int):=oE aS
          obtain⟨ad497,e497,hx497_0⟩:=Kd.at_int (Kd.R_reads' HO_6.out).2.2 x28_2 p497 q497;cases e497
          replace p497:=eq_true p497;replace q497:=eq_true q497;have p19:0≤(x28_2:Int):=oE aS
          have q19:(x28_2:Int) < ((x6_2.length:Int):Int):=oE aS
          obtain⟨go19,co19,eo19,gb19,gl19,cl19,HG19⟩:=Kd.R_form HO_6.out (by omega)
          (first|cases eo19|(injection eo19 with ea_ en_ ec_;(first|subst ea_|(injection ea_ with ea_;subst ea_));subst ec_;clear en_))
          have GB19:=aM gb19;have GG19:=aM HG19;clear gb19 gl19 HG19;(first|simp only[add_plain] at hx497_0|skip)
          obtain⟨hx19_0,hf19_0⟩:=Kd.R_celln 0 HO_6.out (x28_2:Int) p19 q19;replace p19:=eq_true p19;replace q19:=eq_true q19;have HP20:=Kd.R_putg HO_6.out (x28_2:Int) (Int.tmod (wrap64 ((rd x6_2 x28_2)+x7_2)) 1000000000);go_wp2_with (first|((with_reducible refine gate_store (t:=3) (p:=53) rfl ?_);refine store_event (t:=3) (p:=53) (v:=?vo_w21) (w1:=(wr.setCell ⟨go19,(x28_2:Int).toNat,none⟩ (.int .i64 (Int.tmod (wrap64 ((rd x6_2 x28_2)+x7_2)) 1000000000)))) ?hg ?ho ?hn ?hr ?_;(case ho=>rfl);(case hg=>rfl);(case hn=>rfl);(case hr=>first|(go_simp;done)|(go_simp;rfl));intro w21 hw;have hg:wr.grownBy w21 (some go19):=(by rw[hw];exact HP20.2);have hp_:Kd.R (Kd.int .i64) 3 w21 w.heap.size (fun _=>True) (.slice (some ⟨go19,0,none⟩) x6_2.length co11) y500:=(by rw[hw,Ny500.out];exact HP20.1);clear HP20;replace HO_6:=aM (hp_);replace HB:=aM ((by rw[hw];exact below_set (HB.out) GB19.out:Below w.heap.size w w21));clear hg hw hp_))
          (try simp only[← hl6_2])
          go_roundg k2
          case measure=>have:=HJ2.out;have:=HK2.out;omega
          case rel=>exact⟨(y500),(wrap64 (Int.tdiv (wrap64 ((rd x6_2 x28_2)+x7_2)) 1000000000)),(wrap64 (x28_2+1)),sD,sD,H',⟨by have:=HJ2.out;have:=HK2.out;omega⟩,⟨by(try simp only[hl6_2]);(with_reducible repeat(first|apply Kd.R_alloc|apply Kd.R_drewN|apply Kd.R_drew));exact HO_6.out⟩,⟨pB⟩⟩
        ·rw[if_neg c14] at H;exact absurd H (by simp)
       ·rw[if_neg c13] at H;exact absurd H (by simp)
      ·rw[if_neg c12] at H;have c12b0:decide (x28_2 < (t494.length:Int))=false:=decide_eq_false c12;have c12b0x:=c12b0;(try simp only[hl6_2] at c12b0x)
       clear c12;replace H:=bS H;obtain⟨⟨t501,t504⟩,A220,H⟩:=H;replace H:(some (t501,t504))=some (r1,r2):=H;have A22:=aM A220;clear A220;simp only[Option.some.injEq,Prod.mk.injEq] at H;obtain⟨rfl,rfl⟩:=H;go_wp2_with (first|((with_reducible refine gate_callee (f:=70) rfl ?_);refine goesL_ (some 56) rfl rfl Try.func70 (by kernel_rfl) rfl #[.slice Ao11 x6_2.length co11] rfl mA ?_;(with_reducible refine(Dzy.calls k2 (fun k_=>some k_=(.slice Ao11 x6_2.length co11:Value).ownBlock) (.slice Ao11 x6_2.length co11) x6_2 t501 t504 w _ ?side1 ?side2 A22.out).mono ?_);(case side1=>repeat(first|(with_reducible first|exact HB.out|apply below_alloc|apply pw_below_drewN|apply below_drew1)|exact HB.out));(case side2=>exact Kd.R_tight rfl HO_6.out);rintro e w23 ⟨v502,rfl,ho0,hb,hkp⟩;refine⟨_,rfl,?_⟩;have HO503:=aM (Kd.R_mono (ok':=fun k_=>True) ho0 (fun k_ hk_=>trivial));replace HB:=aM (hb);clear HO_6;(try clear hb);(try clear hkp);(try clear ho0)))
       go_ret2
       exact⟨_,by first|rfl|(simp [errW_none,errW_some] <;> rfl)|(simp only[← hji8];first|rfl|(simp [errW_none,errW_some] <;> rfl))|(simp [*,errW_none,errW_some] <;> rfl),rX HO503.out,pB⟩

def Ezf.f (k:Nat) (l0:List Int) (l1:List Int):Option (Int × Int):=(Azk.f k l0).bind fun t505=>(if t505=true then((Azk.f k l1).bind fun t506=>(if t506=true then((Bzm.f k l0 l1).bind fun t507=>(some (t507,0))) else(some (0,3)))) else(some (0,3)))
theorem Ezf.mono:∀ a0 a1 k,LeO (Ezf.f k a0 a1) (Ezf.f (k+1) a0 a1):=by
 intro a0 a1 k;unfold Ezf.f;with_reducible repeat' first|exact Azk.mono _ _|exact Bzm.mono _ _ _|exact LeO.refl _|exact LeO.none _|refine LeO.ite ?_ ?_|refine LeO.bind ?_ (fun _=>?_)
theorem Ezf.calls (k:Nat) (A0:Option Addr) (c0:Nat) (l0:List Int) (A1:Option Addr) (c1:Nat) (l1:List Int) (r1:Int) (r2:Int) (w:World) (hr0:Kd.C (Kd.int .i64) w A0 l0.length l0) (hc0:l0.length≤c0) (hr1:Kd.C (Kd.int .i64) w A1 l1.length l1) (hc1:l1.length≤c1) (h:Ezf.f k l0 l1=some (r1,r2)) :
  Calls Try.prog 52 #[.slice A0 l0.length c0,.slice A1 l1.length c1] w fun e w'=>e=.returned (.tuple #[.int .i64 r1,.int .i64 r2])∧Drawn0 w w':=by
 have HR0:=aM hr0;have HC0:=aM hc0;clear hr0 hc0;have HR1:=aM hr1;have HC1:=aM hc1;clear hr1 hc1;have H:((Azk.f k l0).bind fun t505=>(if t505=true then((Azk.f k l1).bind fun t506=>(if t506=true then((Bzm.f k l0 l1).bind fun t507=>(some (t507,0))) else(some (0,3)))) else(some (0,3))))=some (r1,r2):=h
 clear h;replace H:=bS H;obtain⟨t505,A30,H⟩:=H;(try dsimp only at H);have A3:=aM A30;clear A30;by_cases c4:t505=true
 ·subst c4;rw[if_pos rfl] at H;replace H:=bS H;obtain⟨t506,A50,H⟩:=H;(try dsimp only at H);have A5:=aM A50;clear A50;by_cases c6:t506=true
  ·subst c6;rw[if_pos rfl] at H;replace H:=bS H;obtain⟨t507,A70,H⟩:=H;replace H:(some (t507,0))=some (r1,r2):=H;have A7:=aM A70;clear A70;simp only[Option.some.injEq,Prod.mk.injEq] at H;obtain⟨rfl,rfl⟩:=H;go_enter Try.func52,Try.ntmps52
   go_wp2_with (first|((with_reducible refine gate_callee (f:=65) rfl ?_);refine goesL_ (some 7) rfl rfl Try.func65 (by kernel_rfl) rfl #[.slice A0 l0.length c0] rfl mA ?_;(with_reducible refine(Azk.calls k _ _ l0 true _ ?side1 ?side2 A3.out).mono ?_);(case side1=>exact cX HR0.out);(case side2=>exact HC0.out);rintro e w' ⟨rfl,⟨nd,rfl⟩⟩;refine⟨_,rfl,?_⟩)|(go_at_call 65;(with_reducible refine(Azk.calls k _ _ l1 true _ ?side1 ?side2 A5.out).mono ?_);(case side1=>exact cX HR1.out);(case side2=>exact HC1.out);rintro e w' ⟨rfl,⟨nd,rfl⟩⟩)|((with_reducible refine gate_callee (f:=71) rfl ?_);refine goesL_ (some 16) rfl rfl Try.func71 (by kernel_rfl) rfl #[.slice A0 l0.length c0,.slice A1 l1.length c1] rfl mA ?_;(with_reducible refine(Bzm.calls k _ _ l0 _ _ l1 t507 _ ?side1 ?side2 ?side3 ?side4 A7.out).mono ?_);(case side1=>exact cX HR0.out);(case side2=>exact HC0.out);(case side3=>exact cX HR1.out);(case side4=>exact HC1.out);rintro e w' ⟨rfl,⟨nd,rfl⟩⟩;refine⟨_,rfl,?_⟩))
   go_ret2
   exact⟨by first|rfl|(simp;done)|(simp [*];done),by repeat(first|exact Drawn0.refl _|apply Drawn0.step)⟩
  ·replace c6:=Bool.eq_false_iff.mpr c6;subst c6;rw[if_neg (show ¬ (false=true) by decide)] at H
   simp only[Option.some.injEq,Prod.mk.injEq] at H;obtain⟨rfl,rfl⟩:=H;go_enter Try.func52,Try.ntmps52
   go_wp2_with (first|((with_reducible refine gate_callee (f:=65) rfl ?_);refine goesL_ (some 7) rfl rfl Try.func65 (by kernel_rfl) rfl #[.slice A0 l0.length c0] rfl mA ?_;(with_reducible refine(Azk.calls k _ _ l0 true _ ?side1 ?side2 A3.out).mono ?_);(case side1=>exact cX HR0.out);(case side2=>exact HC0.out);rintro e w' ⟨rfl,⟨nd,rfl⟩⟩;refine⟨_,rfl,?_⟩)|(go_at_call 65;(with_reducible refine(Azk.calls k _ _ l1 false _ ?side1 ?side2 A5.out).mono ?_);(case side1=>exact cX HR1.out);(case side2=>exact HC1.out);rintro e w' ⟨rfl,⟨nd,rfl⟩⟩))
   go_ret2
   exact⟨by first|rfl|(simp;done)|(simp [*];done),by repeat(first|exact Drawn0.refl _|apply Drawn0.step)⟩
 ·replace c4:=Bool.eq_false_iff.mpr c4;subst c4;rw[if_neg (show ¬ (false=true) by decide)] at H
  simp only[Option.some.injEq,Prod.mk.injEq] at H;obtain⟨rfl,rfl⟩:=H;go_enter Try.func52,Try.ntmps52
  go_wp2_with (first|((with_reducible refine gate_callee (f:=65) rfl ?_);refine goesL_ (some 7) rfl rfl Try.func65 (by kernel_rfl) rfl #[.slice A0 l0.length c0] rfl mA ?_;(with_reducible refine(Azk.calls k _ _ l0 false _ ?side1 ?side2 A3.out).mono ?_);(case side1=>exact cX HR0.out);(case side2=>exact HC0.out);rintro e w' ⟨rfl,⟨nd,rfl⟩⟩;refine⟨_,rfl,?_⟩))
  go_ret2
  exact⟨by first|rfl|(simp;done)|(simp [*];done),by repeat(first|exact Drawn0.refl _|apply Drawn0.step)⟩

end Go.Proofs.Ytokkiljkgejnhaa.Print
