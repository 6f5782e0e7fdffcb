import Derived.Test.YtokkiljkgejnhaaPrint0
import Derived.Test.YtokkiljkgejnhaaPrint14
import Derived.Test.YtokkiljkgejnhaaPrint15
import Derived.Test.YtokkiljkgejnhaaPrint16
import Derived.Test.YtokkiljkgejnhaaPrint21
namespace Go.Proofs.Ytokkiljkgejnhaa.Print
open Go.RowKit Go.Proofs.YtokkiljkgejnhaaW.PrintWords Go.Proofs.YtokkiljkgejnhaaW.PrintLast Go.Proofs.YtokkiljkgejnhaaW.PrintMore
attribute [local go_sem] max2_int min2_int max_two min_two max_three min_three max_four min_four
set_option linter.unusedVariables false
set_option maxRecDepth 100000
set_option maxHeartbeats 8000000
set_option linter.unusedSimpArgs false

mutual
def Bzk.j0:Nat→List Int→List Int→Bool→Option (List Int × Int)
 | 0,_,_,_=>none
 | k+1,x0,x1,x17=>if x17=true then(some (([]:List Int),3)) else(Bzk.l0 k x0 x1)
def Bzk.j2:Nat→List Int→List Int→Option (List Int × Int)
 | 0,_,_=>none
 | k+1,x0,x1=>if(x1.length:Int)=0 then((Dzm.f x0 (x0.length:Int)).bind fun t365=>((Bzw.f k t365).bind fun t368=>(some (t368,0)))) else((Czv.f k x0).bind fun t371=>((Czv.f k x1).bind fun t372=>(Bzk.l1 k t371 t372)))
def Bzk.l1:Nat→Int→Int→Option (List Int × Int)
 | 0,_,_=>none
 | k+1,x8,x9=>if x9 > 0 then(if x9=0 then(none) else(Bzk.l1 k x9 (Int.tmod x8 x9))) else((Dzq.f k x8).bind fun bt373=>(some (bt373.1,bt373.2)))
def Bzk.l0:Nat→List Int→List Int→Option (List Int × Int)
 | 0,_,_=>none
 | k+1,x0,x1=>if(x1.length:Int) > 0 then(if(x0.length:Int) > 2 then((Czb.f k x0 x1).bind fun bt353=>(Bzk.l0 k x1 bt353.2)) else(if(x1.length:Int) > 2 then((Czb.f k x0 x1).bind fun bt359=>(Bzk.l0 k x1 bt359.2)) else(Bzk.j2 k x0 x1))) else(Bzk.j2 k x0 x1)
end
def Bzk.f (k:Nat) (l0:List Int) (l1:List Int):Option (List Int × Int):=(Azk.f k l0).bind fun t351=>(if t351=true then((Azk.f k l1).bind fun t352=>(Bzk.j0 k l0 l1 (!t352))) else(Bzk.j0 k l0 l1 true))
theorem Bzk.mono_l:∀ k,(∀ y0 y1 y2,LeO (Bzk.j0 k y0 y1 y2) (Bzk.j0 (k+1) y0 y1 y2))∧(∀ y0 y1,LeO (Bzk.j2 k y0 y1) (Bzk.j2 (k+1) y0 y1))∧(∀ y0 y1,LeO (Bzk.l1 k y0 y1) (Bzk.l1 (k+1) y0 y1))∧(∀ y0 y1,LeO (Bzk.l0 k y0 y1) (Bzk.l0 (k+1) y0 y1))
 | 0=>⟨fun _ _ _ r h=>by simp [Bzk.j0] at h,fun _ _ r h=>by simp [Bzk.j2] at h,fun _ _ r h=>by simp [Bzk.l1] at h,fun _ _ r h=>by simp [Bzk.l0] at h⟩
 | k+1=>by
  obtain⟨ih0,ih1,ih2,ih3⟩:=Bzk.mono_l k;refine⟨?_,?_,?_,?_⟩
  ·intro y0 y1 y2;unfold Bzk.j0;with_reducible repeat' first|exact ih0 _ _ _|exact ih1 _ _|exact ih2 _ _|exact ih3 _ _|exact Dzq.mono _ _|exact Azk.mono _ _|exact Czb.mono _ _ _|exact Czv.mono _ _|exact Bzw.mono _ _|exact LeO.refl _|exact LeO.none _|refine LeO.ite ?_ ?_|refine LeO.bind ?_ (fun _=>?_)
  ·intro y0 y1;unfold Bzk.j2;with_reducible repeat' first|exact ih0 _ _ _|exact ih1 _ _|exact ih2 _ _|exact ih3 _ _|exact Dzq.mono _ _|exact Azk.mono _ _|exact Czb.mono _ _ _|exact Czv.mono _ _|exact Bzw.mono _ _|exact LeO.refl _|exact LeO.none _|refine LeO.ite ?_ ?_|refine LeO.bind ?_ (fun _=>?_)
  ·intro y0 y1;unfold Bzk.l1;with_reducible repeat' first|exact ih0 _ _ _|exact ih1 _ _|exact ih2 _ _|exact ih3 _ _|exact Dzq.mono _ _|exact Azk.mono _ _|exact Czb.mono _ _ _|exact Czv.mono _ _|exact Bzw.mono _ _|exact LeO.refl _|exact LeO.none _|refine LeO.ite ?_ ?_|refine LeO.bind ?_ (fun _=>?_)
  ·intro y0 y1;unfold Bzk.l0;with_reducible repeat' first|exact ih0 _ _ _|exact ih1 _ _|exact ih2 _ _|exact ih3 _ _|exact Dzq.mono _ _|exact Azk.mono _ _|exact Czb.mono _ _ _|exact Czv.mono _ _|exact Bzw.mono _ _|exact LeO.refl _|exact LeO.none _|refine LeO.ite ?_ ?_|refine LeO.bind ?_ (fun _=>?_)
theorem Bzk.mono:∀ a0 a1 k,LeO (Bzk.f k a0 a1) (Bzk.f (k+1) a0 a1):=by
 intro a0 a1 k;obtain⟨ih0,ih1,ih2,ih3⟩:=Bzk.mono_l k;unfold Bzk.f;with_reducible repeat' first|exact ih0 _ _ _|exact ih1 _ _|exact ih2 _ _|exact ih3 _ _|exact Dzq.mono _ _|exact Azk.mono _ _|exact Czb.mono _ _ _|exact Czv.mono _ _|exact Bzw.mono _ _|exact LeO.refl _|exact LeO.none _|refine LeO.ite ?_ ?_|refine LeO.bind ?_ (fun _=>?_)
theorem Bzk.calls (k:Nat) (P0_:Nat→Prop) (A0:Option Addr) (c0:Nat) (l0:List Int) (P1_:Nat→Prop) (A1:Option Addr) (c1:Nat) (l1:List Int) (r1:List Int) (r2:Int) (w:World) (hs0:Kd.V (Kd.int .i64) 3 w w.heap.size (fun k_=>P0_ k_) (.slice A0 l0.length c0) l0) (hs1:Kd.V (Kd.int .i64) 3 w w.heap.size (fun k_=>P1_ k_) (.slice A1 l1.length c1) l1) (h:Bzk.f k l0 l1=some (r1,r2)) :
  Calls Try.prog 66 #[.slice A0 l0.length c0,.slice A1 l1.length c1] w fun e w'=>∃ v0_:Value,e=.returned (.tuple #[v0_,.int .i64 r2])∧Kd.R (Kd.int .i64) 3 w' w.heap.size (fun k_=>(w.heap.size≤k_)) v0_ r1∧Below w.heap.size w w':=by
 have HO0:=aM (show Kd.V (Kd.int .i64) 3 w w.heap.size (fun k_=>((P0_ k_∨P1_ k_)∨w.heap.size≤k_)) (.slice A0 l0.length c0) l0 from Kd.V_mono hs0 (fun k_ hk=>.inl (.inl hk)))
 have HO1:=aM (show Kd.V (Kd.int .i64) 3 w w.heap.size (fun k_=>((P0_ k_∨P1_ k_)∨w.heap.size≤k_)) (.slice A1 l1.length c1) l1 from Kd.V_mono hs1 (fun k_ hk=>.inl (.inr hk)))
 have HB:=aM (Below.refl w.heap.size w);have H:((Azk.f k l0).bind fun t351=>(if t351=true then((Azk.f k l1).bind fun t352=>(Bzk.j0 k l0 l1 (!t352))) else(Bzk.j0 k l0 l1 true)))=some (r1,r2):=h
 clear h;have HC3:=aM H;clear H;go_enter Try.func66,Try.ntmps66
 go_upto_region 1 with (fail)
 repeat(go_quiet (fail);go_upto_region 1 with (fail))
 go_cut [17] (fun v17 wc=>∃ (kq:Nat) (x17_2:Bool),v17=.bool x17_2∧Aside0 (Bzk.j0 kq l0 l1 x17_2=some (r1,r2))∧Aside0 (kq≤k)∧Aside0 (Kd.V (Kd.int .i64) 3 wc w.heap.size (fun k_=>((P0_ k_∨P1_ k_)∨w.heap.size≤k_)) (.slice A0 l0.length c0) l0)∧Aside0 (Kd.V (Kd.int .i64) 3 wc w.heap.size (fun k_=>((P0_ k_∨P1_ k_)∨w.heap.size≤k_)) (.slice A1 l1.length c1) l1)∧Aside0 (Below w.heap.size w wc))
 case first =>
  have H:=HC3.out;clear HC3;replace H:=bS H;obtain⟨t351,A40,H⟩:=H;(try dsimp only at H);have A4:=aM A40;clear A40;by_cases c5:t351=true
  ·subst c5;rw[if_pos rfl] at H;replace H:=bS H;obtain⟨t352,A60,H⟩:=H;(try dsimp only at H);have A6:=aM A60;clear A60;have H':=aM H;clear H;have fl_:True:=trivial;repeat((first|clear fl_|go_quiet (first|(go_at_call 65;(with_reducible refine(Azk.calls k _ _ l0 true _ ?side1 ?side2 A4.out).mono ?_);(case side1=>repeat(first|exact(Kd.V_reads' HO0.out).2.2|(with_reducible refine Kd.C_alloc ?_ _)|(with_reducible refine Kd.C_drewN ?_ _)|(with_reducible refine Kd.C_drew ?_)));(case side2=>exact(Kd.V_reads' HO0.out).2.1);rintro e w' ⟨rfl,⟨nd,rfl⟩⟩;(try first|exact⟨rfl,_,World.drewN_drewN _ _ _⟩|exact⟨rfl,_,Eq.trans (World.drewN_drewN _ _ _) (congrArg (World.drewN _) (Nat.add_assoc _ _ _))⟩))|(go_at_call 65;(with_reducible refine(Azk.calls k _ _ l1 t352 _ ?side1 ?side2 A6.out).mono ?_);(case side1=>repeat(first|exact(Kd.V_reads' HO1.out).2.2|(with_reducible refine Kd.C_alloc ?_ _)|(with_reducible refine Kd.C_drewN ?_ _)|(with_reducible refine Kd.C_drew ?_)));(case side2=>exact(Kd.V_reads' HO1.out).2.1);rintro e w' ⟨rfl,⟨nd,rfl⟩⟩;(try first|exact⟨rfl,_,World.drewN_drewN _ _ _⟩|exact⟨rfl,_,Eq.trans (World.drewN_drewN _ _ _) (congrArg (World.drewN _) (Nat.add_assoc _ _ _))⟩))));go_wp2_with (first|(go_at_call 65;(with_reducible refine(Azk.calls k _ _ l0 true _ ?side1 ?side2 A4.out).mono ?_);(case side1=>repeat(first|exact(Kd.V_reads' HO0.out).2.2|(with_reducible refine Kd.C_alloc ?_ _)|(with_reducible refine Kd.C_drewN ?_ _)|(with_reducible refine Kd.C_drew ?_)));(case side2=>exact(Kd.V_reads' HO0.out).2.1);rintro e w' ⟨rfl,⟨nd,rfl⟩⟩;(try first|exact⟨rfl,_,World.drewN_drewN _ _ _⟩|exact⟨rfl,_,Eq.trans (World.drewN_drewN _ _ _) (congrArg (World.drewN _) (Nat.add_assoc _ _ _))⟩))|(go_at_call 65;(with_reducible refine(Azk.calls k _ _ l1 t352 _ ?side1 ?side2 A6.out).mono ?_);(case side1=>repeat(first|exact(Kd.V_reads' HO1.out).2.2|(with_reducible refine Kd.C_alloc ?_ _)|(with_reducible refine Kd.C_drewN ?_ _)|(with_reducible refine Kd.C_drew ?_)));(case side2=>exact(Kd.V_reads' HO1.out).2.1);rintro e w' ⟨rfl,⟨nd,rfl⟩⟩;(try first|exact⟨rfl,_,World.drewN_drewN _ _ _⟩|exact⟨rfl,_,Eq.trans (World.drewN_drewN _ _ _) (congrArg (World.drewN _) (Nat.add_assoc _ _ _))⟩))))
   go_meet
   case rel=>exact⟨_,(!t352),sD,H',⟨by first|omega|exact Nat.le_refl _⟩,⟨vX HO0.out⟩,⟨vX HO1.out⟩,⟨pB⟩⟩
  ·replace c5:=Bool.eq_false_iff.mpr c5;subst c5;rw[if_neg (show ¬ (false=true) by decide)] at H
   have H':=aM H;clear H;have fl_:True:=trivial;repeat((first|clear fl_|go_quiet (first|(go_at_call 65;(with_reducible refine(Azk.calls k _ _ l0 false _ ?side1 ?side2 A4.out).mono ?_);(case side1=>repeat(first|exact(Kd.V_reads' HO0.out).2.2|(with_reducible refine Kd.C_alloc ?_ _)|(with_reducible refine Kd.C_drewN ?_ _)|(with_reducible refine Kd.C_drew ?_)));(case side2=>exact(Kd.V_reads' HO0.out).2.1);rintro e w' ⟨rfl,⟨nd,rfl⟩⟩;(try first|exact⟨rfl,_,World.drewN_drewN _ _ _⟩|exact⟨rfl,_,Eq.trans (World.drewN_drewN _ _ _) (congrArg (World.drewN _) (Nat.add_assoc _ _ _))⟩))));go_wp2_with (first|(go_at_call 65;(with_reducible refine(Azk.calls k _ _ l0 false _ ?side1 ?side2 A4.out).mono ?_);(case side1=>repeat(first|exact(Kd.V_reads' HO0.out).2.2|(with_reducible refine Kd.C_alloc ?_ _)|(with_reducible refine Kd.C_drewN ?_ _)|(with_reducible refine Kd.C_drew ?_)));(case side2=>exact(Kd.V_reads' HO0.out).2.1);rintro e w' ⟨rfl,⟨nd,rfl⟩⟩;(try first|exact⟨rfl,_,World.drewN_drewN _ _ _⟩|exact⟨rfl,_,Eq.trans (World.drewN_drewN _ _ _) (congrArg (World.drewN _) (Nat.add_assoc _ _ _))⟩))))
   go_meet
   case rel=>exact⟨_,(true),sD,H',⟨by first|omega|exact Nat.le_refl _⟩,⟨vX HO0.out⟩,⟨vX HO1.out⟩,⟨pB⟩⟩
 case rest =>
  clear HC3;try clear c1
  try clear p2
  try clear c5
  try clear c6
  obtain⟨kq,x17_2,rfl,HA,HJ2,HO_0,HO_1,HB⟩:=hcut;cases kq with
  | zero=>exact absurd HA.out (by simp [Bzk.j0])
  | succ kj2 =>
   have H:=HA.out;clear HA;simp only[Bzk.j0] at H;by_cases c7:x17_2=true
   ·subst c7;rw[if_pos rfl] at H;simp only[Option.some.injEq,Prod.mk.injEq] at H;obtain⟨rfl,rfl⟩:=H;go_wp2
    repeat(go_quiet (fail);try go_wp2)
    go_ret2
    exact⟨_,eW,by first|exact Kd.R_nil _ _ _ _ _|exact Kd.N_nil _ _ _ _ _|exact Kd.V_nil _ _ _ _ _|exact Kd.Q_nil _ _ _ _ _|exact Kd.S_nil _ _ _ _ _,pB⟩
   ·replace c7:=Bool.eq_false_iff.mpr c7;subst c7;rw[if_neg (show ¬ (false=true) by decide)] at H
    have HC8:=aM H;clear H;go_upto_block 0 with (fail)
    repeat(go_quiet (fail);go_upto_block 0 with (fail))
    go_cut [0,1] (fun v0 v1 wc=>∃ (kq:Nat) (x0_7:List Int) (x1_7:List Int),Aside0 (Bzk.j2 kq x0_7 x1_7=some (r1,r2))∧Aside0 (kq≤kj2)∧Aside0 (Kd.V (Kd.int .i64) 3 wc w.heap.size (fun k_=>((P0_ k_∨P1_ k_)∨w.heap.size≤k_)) v0 x0_7)∧Aside0 (Kd.V (Kd.int .i64) 3 wc w.heap.size (fun k_=>((P0_ k_∨P1_ k_)∨w.heap.size≤k_)) v1 x1_7)∧Aside0 (Below w.heap.size w wc))
    case first =>
     have H:=HC8.out;clear HC8;have H':=aM H;clear H;go_wp2
     repeat(go_quiet (fail);try go_wp2)
     go_loopg [0,1] kj2 (fun kq v0 v1 w'=>∃ (x0_2:List Int) (x1_2:List Int),Aside0 (Bzk.l0 kq x0_2 x1_2=some (r1,r2))∧Aside0 (kq≤kj2)∧Aside0 (Kd.V (Kd.int .i64) 3 w' w.heap.size (fun k_=>((P0_ k_∨P1_ k_)∨w.heap.size≤k_)) v0 x0_2)∧Aside0 (Kd.V (Kd.int .i64) 3 w' w.heap.size (fun k_=>((P0_ k_∨P1_ k_)∨w.heap.size≤k_)) v1 x1_2)∧Aside0 (Below w.heap.size w w'))
     case atStart=>exact⟨(l0),(l1),H',⟨Nat.le_refl _⟩,⟨vX HO_0.out⟩,⟨vX HO_1.out⟩,⟨pB⟩⟩
     case round =>
      clear H';try clear c1
      try clear p2
      try clear c5
      try clear c6
      try clear c7
      try clear p2
      obtain⟨x0_2,x1_2,HA,HK2,HO_0,HO_1,HB⟩:=hrel;cases gk with
      | zero=>exact absurd HA.out (by simp [Bzk.l0])
      | succ k2 =>
       have H:=HA.out;clear HA;simp only[Bzk.l0] at H;by_cases c9:(x1_2.length:Int) > 0
       ·rw[if_pos c9] at H;have c9b0:decide (0 < (x1_2.length:Int))=true:=dE c9;have c9b1:decide (0 < x1_2.length)=true:=dE (by omega)
        clear c9;(first|rw[c9b0]|(simp only[i64_w,i32_w];rw[c9b0])|skip)
        by_cases c10:(x0_2.length:Int) > 2
        ·rw[if_pos c10] at H;have c10b0:decide (2 < (x0_2.length:Int))=true:=dE c10;have c10b1:decide (2 < x0_2.length)=true:=dE (by omega)
         clear c10;replace H:=bS H;obtain⟨⟨t353,t354⟩,A110,H⟩:=H;(try dsimp only at H);have A11:=aM A110;clear A110;have H':=aM H;clear H;obtain⟨Ao12,co12,eo12⟩:=Kd.V_slice HO_1.out;subst eo12;obtain⟨Ao13,co13,eo13⟩:=Kd.V_slice HO_0.out;subst eo13;have fl_:True:=trivial;repeat((first|clear fl_|go_quiet (first|(go_at_call 78;(with_reducible refine(Czb.calls k2 _ _ x0_2 _ _ x1_2 t353 t354 _ ?side1 ?side2 ?side3 ?side4 A11.out).mono ?_);(case side1=>repeat(first|exact(Kd.V_reads' HO_0.out).2.2|(with_reducible refine Kd.C_alloc ?_ _)|(with_reducible refine Kd.C_drewN ?_ _)|(with_reducible refine Kd.C_drew ?_)));(case side2=>exact(Kd.V_reads' HO_0.out).2.1);(case side3=>repeat(first|exact(Kd.V_reads' HO_1.out).2.2|(with_reducible refine Kd.C_alloc ?_ _)|(with_reducible refine Kd.C_drewN ?_ _)|(with_reducible refine Kd.C_drew ?_)));(case side4=>exact(Kd.V_reads' HO_1.out).2.1);rintro e w14 ⟨v355,v357,rfl,ho0,ho1,hb⟩;have HO356:=aM (Kd.R_lower (Kd.R_newM (M:=fun k_=>(w.heap.size≤k_)) ho0 (below_size pB) (fun k_ h_=>h_)) (below_size pB));have HO358:=aM (Kd.R_lower (Kd.R_newM (M:=fun k_=>(w.heap.size≤k_)) ho1 (below_size pB) (fun k_ h_=>h_)) (below_size pB));replace HO_0:=aM (Kd.V_mono (Kd.V_told (Kd.V_told (Kd.V_old (vX HO_0.out) hb) (Kd.R_base ho0)) (Kd.R_base ho1)) (fun _ h_=>h_.1));replace HO_1:=aM (Kd.V_mono (Kd.V_told (Kd.V_told (Kd.V_old (vX HO_1.out) hb) (Kd.R_base ho0)) (Kd.R_base ho1)) (fun _ h_=>h_.1));replace HB:=aM (below_step pB hb);(try clear hb);(try clear hb2);(try clear hk);(try clear hi);(try clear ho0);(try clear ho1))));go_wp2_with (first|(go_at_call 78;(with_reducible refine(Czb.calls k2 _ _ x0_2 _ _ x1_2 t353 t354 _ ?side1 ?side2 ?side3 ?side4 A11.out).mono ?_);(case side1=>repeat(first|exact(Kd.V_reads' HO_0.out).2.2|(with_reducible refine Kd.C_alloc ?_ _)|(with_reducible refine Kd.C_drewN ?_ _)|(with_reducible refine Kd.C_drew ?_)));(case side2=>exact(Kd.V_reads' HO_0.out).2.1);(case side3=>repeat(first|exact(Kd.V_reads' HO_1.out).2.2|(with_reducible refine Kd.C_alloc ?_ _)|(with_reducible refine Kd.C_drewN ?_ _)|(with_reducible refine Kd.C_drew ?_)));(case side4=>exact(Kd.V_reads' HO_1.out).2.1);rintro e w14 ⟨v355,v357,rfl,ho0,ho1,hb⟩;have HO356:=aM (Kd.R_lower (Kd.R_newM (M:=fun k_=>(w.heap.size≤k_)) ho0 (below_size pB) (fun k_ h_=>h_)) (below_size pB));have HO358:=aM (Kd.R_lower (Kd.R_newM (M:=fun k_=>(w.heap.size≤k_)) ho1 (below_size pB) (fun k_ h_=>h_)) (below_size pB));replace HO_0:=aM (Kd.V_mono (Kd.V_told (Kd.V_told (Kd.V_old (vX HO_0.out) hb) (Kd.R_base ho0)) (Kd.R_base ho1)) (fun _ h_=>h_.1));replace HO_1:=aM (Kd.V_mono (Kd.V_told (Kd.V_told (Kd.V_old (vX HO_1.out) hb) (Kd.R_base ho0)) (Kd.R_base ho1)) (fun _ h_=>h_.1));replace HB:=aM (below_step pB hb);(try clear hb);(try clear hb2);(try clear hk);(try clear hi);(try clear ho0);(try clear ho1))))
         go_roundg k2
         case measure=>have:=HJ2.out;have:=HK2.out;omega
         case rel=>exact⟨(x1_2),(t354),H',⟨by have:=HJ2.out;have:=HK2.out;omega⟩,⟨by(with_reducible repeat(first|apply Kd.V_alloc|apply Kd.V_drewN|apply Kd.V_drew));exact Kd.V_mono HO_1.out (fun _ hk=>hk.1.1)⟩,⟨Kd.V_mono (Kd.R_V (rX (Kd.R_mono HO358.out (fun _ hk=>hk.1)))) (fun k_ hk=>by first|exact⟨(.inr (hk.1)),hk.2⟩|exact(.inr (hk)))⟩,⟨pB⟩⟩
        ·rw[if_neg c10] at H;have c10b0:decide (2 < (x0_2.length:Int))=false:=decide_eq_false c10;have c10b1:decide (2 < x0_2.length)=false:=decide_eq_false (by omega)
         clear c10;by_cases c15:(x1_2.length:Int) > 2
         ·rw[if_pos c15] at H;have c15b0:decide (2 < (x1_2.length:Int))=true:=dE c15;have c15b1:decide (2 < x1_2.length)=true:=dE (by omega)
          clear c15;replace H:=bS H;obtain⟨⟨t359,t360⟩,A160,H⟩:=H;(try dsimp only at H);have A16:=aM A160;clear A160;have H':=aM H;clear H;obtain⟨Ao17,co17,eo17⟩:=Kd.V_slice HO_1.out;subst eo17;obtain⟨Ao18,co18,eo18⟩:=Kd.V_slice HO_0.out;subst eo18;have fl_:True:=trivial;repeat((first|clear fl_|go_quiet (first|(go_at_call 78;(with_reducible refine(Czb.calls k2 _ _ x0_2 _ _ x1_2 t359 t360 _ ?side1 ?side2 ?side3 ?side4 A16.out).mono ?_);(case side1=>repeat(first|exact(Kd.V_reads' HO_0.out).2.2|(with_reducible refine Kd.C_alloc ?_ _)|(with_reducible refine Kd.C_drewN ?_ _)|(with_reducible refine Kd.C_drew ?_)));(case side2=>exact(Kd.V_reads' HO_0.out).2.1);(case side3=>repeat(first|exact(Kd.V_reads' HO_1.out).2.2|(with_reducible refine Kd.C_alloc ?_ _)|(with_reducible refine Kd.C_drewN ?_ _)|(with_reducible refine Kd.C_drew ?_)));(case side4=>exact(Kd.V_reads' HO_1.out).2.1);rintro e w19 ⟨v361,v363,rfl,ho0,ho1,hb⟩;have HO362:=aM (Kd.R_lower (Kd.R_newM (M:=fun k_=>(w.heap.size≤k_)) ho0 (below_size pB) (fun k_ h_=>h_)) (below_size pB));have HO364:=aM (Kd.R_lower (Kd.R_newM (M:=fun k_=>(w.heap.size≤k_)) ho1 (below_size pB) (fun k_ h_=>h_)) (below_size pB));replace HO_0:=aM (Kd.V_mono (Kd.V_told (Kd.V_told (Kd.V_old (vX HO_0.out) hb) (Kd.R_base ho0)) (Kd.R_base ho1)) (fun _ h_=>h_.1));replace HO_1:=aM (Kd.V_mono (Kd.V_told (Kd.V_told (Kd.V_old (vX HO_1.out) hb) (Kd.R_base ho0)) (Kd.R_base ho1)) (fun _ h_=>h_.1));replace HB:=aM (below_step pB hb);(try clear hb);(try clear hb2);(try clear hk);(try clear hi);(try clear ho0);(try clear ho1))));go_wp2_with (first|(go_at_call 78;(with_reducible refine(Czb.calls k2 _ _ x0_2 _ _ x1_2 t359 t360 _ ?side1 ?side2 ?side3 ?side4 A16.out).mono ?_);(case side1=>repeat(first|exact(Kd.V_reads' HO_0.out).2.2|(with_reducible refine Kd.C_alloc ?_ _)|(with_reducible refine Kd.C_drewN ?_ _)|(with_reducible refine Kd.C_drew ?_)));(case side2=>exact(Kd.V_reads' HO_0.out).2.1);(case side3=>repeat(first|exact(Kd.V_reads' HO_1.out).2.2|(with_reducible refine Kd.C_alloc ?_ _)|(with_reducible refine Kd.C_drewN ?_ _)|(with_reducible refine Kd.C_drew ?_)));(case side4=>exact(Kd.V_reads' HO_1.out).2.1);rintro e w19 ⟨v361,v363,rfl,ho0,ho1,hb⟩;have HO362:=aM (Kd.R_lower (Kd.R_newM (M:=fun k_=>(w.heap.size≤k_)) ho0 (below_size pB) (fun k_ h_=>h_)) (below_size pB));have HO364:=aM (Kd.R_lower (Kd.R_newM (M:=fun k_=>(w.heap.size≤k_)) ho1 (below_size pB) (fun k_ h_=>h_)) (below_size pB));replace HO_0:=aM (Kd.V_mono (Kd.V_told (Kd.V_told (Kd.V_old (vX HO_0.out) hb) (Kd.R_base ho0)) (Kd.R_base ho1)) (fun _ h_=>h_.1));replace HO_1:=aM (Kd.V_mono (Kd.V_told (Kd.V_told (Kd.V_old (vX HO_1.out) hb) (Kd.R_base ho0)) (Kd.R_base ho1)) (fun _ h_=>h_.1));replace HB:=aM (below_step pB hb);(try clear hb);(try clear hb2);(try clear hk);(try clear hi);(try clear ho0);(try clear ho1))))
          go_roundg k2
          case measure=>have:=HJ2.out;have:=HK2.out;omega
          case rel=>exact⟨(x1_2),(t360),H',⟨by have:=HJ2.out;have:=HK2.out;omega⟩,⟨by(with_reducible repeat(first|apply Kd.V_alloc|apply Kd.V_drewN|apply Kd.V_drew));exact Kd.V_mono HO_1.out (fun _ hk=>hk.1.1)⟩,⟨Kd.V_mono (Kd.R_V (rX (Kd.R_mono HO364.out (fun _ hk=>hk.1)))) (fun k_ hk=>by first|exact⟨(.inr (hk.1)),hk.2⟩|exact(.inr (hk)))⟩,⟨pB⟩⟩
         ·rw[if_neg c15] at H;have c15b0:decide (2 < (x1_2.length:Int))=false:=decide_eq_false c15;have c15b1:decide (2 < x1_2.length)=false:=decide_eq_false (by omega)
          clear c15;have H':=aM H;clear H;obtain⟨Ao20,co20,eo20⟩:=Kd.V_slice HO_1.out;subst eo20;obtain⟨Ao21,co21,eo21⟩:=Kd.V_slice HO_0.out;subst eo21;go_wp2
          repeat(go_quiet (fail);try go_wp2)
          go_meet
          case rel=>exact⟨_,(x0_2),(x1_2),H',⟨by have:=HJ2.out;have:=HK2.out;first|omega|exact Nat.le_refl _⟩,⟨vX HO_0.out⟩,⟨vX HO_1.out⟩,⟨pB⟩⟩
       ·rw[if_neg c9] at H;have c9b0:decide (0 < (x1_2.length:Int))=false:=decide_eq_false c9;have c9b1:decide (0 < x1_2.length)=false:=decide_eq_false (by omega)
        clear c9;(first|rw[c9b0]|(simp only[i64_w,i32_w];rw[c9b0])|skip)
        have H':=aM H;clear H;obtain⟨Ao22,co22,eo22⟩:=Kd.V_slice HO_1.out;subst eo22;go_wp2
        repeat(go_quiet (fail);try go_wp2)
        go_meet
        case rel=>exact⟨_,(x0_2),(x1_2),H',⟨by have:=HJ2.out;have:=HK2.out;first|omega|exact Nat.le_refl _⟩,⟨vX HO_0.out⟩,⟨vX HO_1.out⟩,⟨pB⟩⟩
    case rest =>
     clear HC8;try clear c1
     try clear p2
     try clear c5
     try clear c6
     try clear c7
     try clear c9
     try clear c9b0
     try clear c9b1
     try clear c10
     try clear c10b0
     try clear c10b1
     try clear c15
     try clear c15b0
     try clear c15b1
     try clear p2
     obtain⟨kq,x0_7,x1_7,HA,HJ7,HO_0,HO_1,HB⟩:=hcut;cases kq with
     | zero=>exact absurd HA.out (by simp [Bzk.j2])
     | succ kj7 =>
      have H:=HA.out;clear HA;simp only[Bzk.j2] at H;by_cases c23:(x1_7.length:Int)=0
      ·rw[if_pos c23] at H;have c23b0:((x1_7.length:Int) == 0)=true:=beq_iff_eq.mpr c23;have c23b1:((x1_7.length:Int) != 0)=false:=bne_eq_false_iff_eq.mpr c23;clear c23;replace H:=bS H;obtain⟨t365,A240,H⟩:=H;(try dsimp only at H);have A24:=aM A240;clear A240;replace H:=bS H;obtain⟨t368,A250,H⟩:=H;replace H:(some (t368,0))=some (r1,r2):=H;have A25:=aM A250;clear A250;simp only[Option.some.injEq,Prod.mk.injEq] at H;obtain⟨rfl,rfl⟩:=H;obtain⟨Ao26,co26,eo26⟩:=Kd.V_slice HO_1.out;subst eo26;obtain⟨Ao27,co27,eo27⟩:=Kd.V_slice HO_0.out;subst eo27;have fl_:True:=trivial;repeat((first|clear fl_|go_quiet (first|(go_at_call 69;(with_reducible refine(Dzm.calls _ _ x0_7 (x0_7.length:Int) t365 _ ?side1 ?side2 A24.out).mono ?_);(case side1=>repeat(first|exact(Kd.V_reads' HO_0.out).2.2|(with_reducible refine Kd.C_alloc ?_ _)|(with_reducible refine Kd.C_drewN ?_ _)|(with_reducible refine Kd.C_drew ?_)));(case side2=>exact(Kd.V_reads' HO_0.out).2.1);rintro e w28 ⟨v366,rfl,ho0,hb⟩;have HO367:=aM (Kd.R_lower (Kd.R_newM (M:=fun k_=>(w.heap.size≤k_)) ho0 (below_size pB) (fun k_ h_=>h_)) (below_size pB));replace HO_0:=aM (Kd.V_elder' (vX HO_0.out) (Kd.R_base ho0) hb);replace HO_1:=aM (Kd.V_elder' (vX HO_1.out) (Kd.R_base ho0) hb);replace HB:=aM (below_step pB hb);(try clear hb);(try clear hb2);(try clear hk);(try clear hi);(try clear ho0);obtain⟨Ao29,co29,eo29⟩:=Kd.R_slice HO367.out;subst eo29)|(go_at_call 72;(with_reducible refine(Bzw.calls kj7 (fun k_=>some k_=(.slice Ao29 t365.length co29:Value).ownBlock) (.slice Ao29 t365.length co29) t365 t368 w _ ?side1 ?side2 A25.out).mono ?_);(case side1=>repeat(first|(with_reducible first|exact HB.out|apply below_alloc|apply pw_below_drewN|apply below_drew1)|exact HB.out));(case side2=>exact Kd.R_tight rfl HO367.out);rintro e w30 ⟨v369,rfl,ho0,hb,hkp⟩;have HO370:=aM (Kd.R_mono (ok':=fun k_=>(w.heap.size≤k_)) ho0 (fun k_ hk_=>Or.elim hk_ (fun hs_=>(HO367.out.1 k_ (hs_).symm).1) (fun hn_=>(Nat.le_trans (below_size pB) hn_))));replace HO_0:=aM (Kd.V_mono (ok':=fun k_=>((P0_ k_∨P1_ k_)∨w.heap.size≤k_)∧some k_≠(v369:Value).ownBlock) (Kd.V_keptB (HO_0.out) hkp (fun k_ hk_ hs_=>(hk_.2) hs_)) (fun k_ hk_=>⟨hk_.1.1,fun e_=>Or.elim (ho0.1 k_ e_.symm) (fun hs_=>hk_.2.1 hs_) (fun hn_=>Nat.not_le.2 hk_.2.2 hn_)⟩));replace HO_1:=aM (Kd.V_mono (ok':=fun k_=>((P0_ k_∨P1_ k_)∨w.heap.size≤k_)∧some k_≠(v369:Value).ownBlock) (Kd.V_keptB (HO_1.out) hkp (fun k_ hk_ hs_=>(hk_.2) hs_)) (fun k_ hk_=>⟨hk_.1.1,fun e_=>Or.elim (ho0.1 k_ e_.symm) (fun hs_=>hk_.2.1 hs_) (fun hn_=>Nat.not_le.2 hk_.2.2 hn_)⟩));replace HB:=aM (hb);clear HO367;(try clear hb);(try clear hkp);(try clear ho0))));go_wp2_with (first|(go_at_call 69;(with_reducible refine(Dzm.calls _ _ x0_7 (x0_7.length:Int) t365 _ ?side1 ?side2 A24.out).mono ?_);(case side1=>repeat(first|exact(Kd.V_reads' HO_0.out).2.2|(with_reducible refine Kd.C_alloc ?_ _)|(with_reducible refine Kd.C_drewN ?_ _)|(with_reducible refine Kd.C_drew ?_)));(case side2=>exact(Kd.V_reads' HO_0.out).2.1);rintro e w28 ⟨v366,rfl,ho0,hb⟩;have HO367:=aM (Kd.R_lower (Kd.R_newM (M:=fun k_=>(w.heap.size≤k_)) ho0 (below_size pB) (fun k_ h_=>h_)) (below_size pB));replace HO_0:=aM (Kd.V_elder' (vX HO_0.out) (Kd.R_base ho0) hb);replace HO_1:=aM (Kd.V_elder' (vX HO_1.out) (Kd.R_base ho0) hb);replace HB:=aM (below_step pB hb);(try clear hb);(try clear hb2);(try clear hk);(try clear hi);(try clear ho0);obtain⟨Ao29,co29,eo29⟩:=Kd.R_slice HO367.out;subst eo29)|(go_at_call 72;(with_reducible refine(Bzw.calls kj7 (fun k_=>some k_=(.slice Ao29 t365.length co29:Value).ownBlock) (.slice Ao29 t365.length co29) t365 t368 w _ ?side1 ?side2 A25.out).mono ?_);(case side1=>repeat(first|(with_reducible first|exact HB.out|apply below_alloc|apply pw_below_drewN|apply below_drew1)|exact HB.out));(case side2=>exact Kd.R_tight rfl HO367.out);rintro e w30 ⟨v369,rfl,ho0,hb,hkp⟩;have HO370:=aM (Kd.R_mono (ok':=fun k_=>(w.heap.size≤k_)) ho0 (fun k_ hk_=>Or.elim hk_ (fun hs_=>(HO367.out.1 k_ (hs_).symm).1) (fun hn_=>(Nat.le_trans (below_size pB) hn_))));replace HO_0:=aM (Kd.V_mono (ok':=fun k_=>((P0_ k_∨P1_ k_)∨w.heap.size≤k_)∧some k_≠(v369:Value).ownBlock) (Kd.V_keptB (HO_0.out) hkp (fun k_ hk_ hs_=>(hk_.2) hs_)) (fun k_ hk_=>⟨hk_.1.1,fun e_=>Or.elim (ho0.1 k_ e_.symm) (fun hs_=>hk_.2.1 hs_) (fun hn_=>Nat.not_le.2 hk_.2.2 hn_)⟩));replace HO_1:=aM (Kd.V_mono (ok':=fun k_=>((P0_ k_∨P1_ k_)∨w.heap.size≤k_)∧some k_≠(v369:Value).ownBlock) (Kd.V_keptB (HO_1.out) hkp (fun k_ hk_ hs_=>(hk_.2) hs_)) (fun k_ hk_=>⟨hk_.1.1,fun e_=>Or.elim (ho0.1 k_ e_.symm) (fun hs_=>hk_.2.1 hs_) (fun hn_=>Nat.not_le.2 hk_.2.2 hn_)⟩));replace HB:=aM (hb);clear HO367;(try clear hb);(try clear hkp);(try clear ho0))))
       go_ret2
       exact⟨_,eW,rX HO370.out,pB⟩
      ·rw[if_neg c23] at H;have c23b0:((x1_7.length:Int) == 0)=false:=beq_eq_false_iff_ne.mpr c23;have c23b1:((x1_7.length:Int) != 0)=true:=bne_iff_ne.mpr c23;have c23b2:¬ (x1_7=[]):=fun h_=>c23 (by rw[h_];rfl)
       replace H:=bS H;obtain⟨t371,A310,H⟩:=H;(try dsimp only at H);have A31:=aM A310;clear A310;replace H:=bS H;obtain⟨t372,A320,H⟩:=H;(try dsimp only at H);have A32:=aM A320;clear A320;have H':=aM H;clear H;obtain⟨Ao33,co33,eo33⟩:=Kd.V_slice HO_1.out;subst eo33;obtain⟨Ao34,co34,eo34⟩:=Kd.V_slice HO_0.out;subst eo34;have fl_:True:=trivial;repeat((first|clear fl_|go_quiet (first|(go_at_call 79;(with_reducible refine(Czv.calls kj7 _ _ x0_7 t371 _ ?side1 ?side2 A31.out).mono ?_);(case side1=>repeat(first|exact(Kd.V_reads' HO_0.out).2.2|(with_reducible refine Kd.C_alloc ?_ _)|(with_reducible refine Kd.C_drewN ?_ _)|(with_reducible refine Kd.C_drew ?_)));(case side2=>exact(Kd.V_reads' HO_0.out).2.1);rintro e w' ⟨rfl,⟨nd,rfl⟩⟩;(try first|exact⟨rfl,_,World.drewN_drewN _ _ _⟩|exact⟨rfl,_,Eq.trans (World.drewN_drewN _ _ _) (congrArg (World.drewN _) (Nat.add_assoc _ _ _))⟩))|(go_at_call 79;(with_reducible refine(Czv.calls kj7 _ _ x1_7 t372 _ ?side1 ?side2 A32.out).mono ?_);(case side1=>repeat(first|exact(Kd.V_reads' HO_1.out).2.2|(with_reducible refine Kd.C_alloc ?_ _)|(with_reducible refine Kd.C_drewN ?_ _)|(with_reducible refine Kd.C_drew ?_)));(case side2=>exact(Kd.V_reads' HO_1.out).2.1);rintro e w' ⟨rfl,⟨nd,rfl⟩⟩;(try first|exact⟨rfl,_,World.drewN_drewN _ _ _⟩|exact⟨rfl,_,Eq.trans (World.drewN_drewN _ _ _) (congrArg (World.drewN _) (Nat.add_assoc _ _ _))⟩))));go_wp2_with (first|(go_at_call 79;(with_reducible refine(Czv.calls kj7 _ _ x0_7 t371 _ ?side1 ?side2 A31.out).mono ?_);(case side1=>repeat(first|exact(Kd.V_reads' HO_0.out).2.2|(with_reducible refine Kd.C_alloc ?_ _)|(with_reducible refine Kd.C_drewN ?_ _)|(with_reducible refine Kd.C_drew ?_)));(case side2=>exact(Kd.V_reads' HO_0.out).2.1);rintro e w' ⟨rfl,⟨nd,rfl⟩⟩;(try first|exact⟨rfl,_,World.drewN_drewN _ _ _⟩|exact⟨rfl,_,Eq.trans (World.drewN_drewN _ _ _) (congrArg (World.drewN _) (Nat.add_assoc _ _ _))⟩))|(go_at_call 79;(with_reducible refine(Czv.calls kj7 _ _ x1_7 t372 _ ?side1 ?side2 A32.out).mono ?_);(case side1=>repeat(first|exact(Kd.V_reads' HO_1.out).2.2|(with_reducible refine Kd.C_alloc ?_ _)|(with_reducible refine Kd.C_drewN ?_ _)|(with_reducible refine Kd.C_drew ?_)));(case side2=>exact(Kd.V_reads' HO_1.out).2.1);rintro e w' ⟨rfl,⟨nd,rfl⟩⟩;(try first|exact⟨rfl,_,World.drewN_drewN _ _ _⟩|exact⟨rfl,_,Eq.trans (World.drewN_drewN _ _ _) (congrArg (World.drewN _) (Nat.add_assoc _ _ _))⟩))))
       try simp only[Act.put,sA,sZ,sC]
       go_loopg [8,9] kj7 (fun kq v8 v9 w'=>∃ (x8_3:Int) (x9_3:Int),v8=.int .i64 x8_3∧v9=.int .i64 x9_3∧Aside0 (Bzk.l1 kq x8_3 x9_3=some (r1,r2))∧Aside0 (kq≤kj7)∧Aside0 (Below w.heap.size w w'))
       case atStart=>exact⟨(t371),(t372),sD,sD,H',⟨Nat.le_refl _⟩,⟨pB⟩⟩
       case round =>
        clear H';try clear c1
        try clear c2
        try clear p2
        try clear c5
        try clear c6
        try clear c7
        try clear c9
        try clear c9b0
        try clear c9b1
        try clear c10
        try clear c10b0
        try clear c10b1
        try clear c15
        try clear c15b0
        try clear c15b1
        try clear c23
        try clear c23b0
        try clear c23b1
        try clear c23b2
        try clear p2
        obtain⟨x8_3,x9_3,rfl,rfl,HA,HK3,HB⟩:=hrel;cases gk with
        | zero=>exact absurd HA.out (by simp [Bzk.l1])
        | succ k3 =>
         have H:=HA.out;clear HA;simp only[Bzk.l1] at H;by_cases c35:x9_3 > 0
         ·rw[if_pos c35] at H;have c35b0:decide (0 < x9_3)=true:=dE c35;clear c35;by_cases c36:x9_3=0
          ·rw[if_pos c36] at H;exact absurd H (by simp)
          ·rw[if_neg c36] at H;have c36b0:(x9_3 == 0)=false:=beq_eq_false_iff_ne.mpr c36;have c36b1:(x9_3 != 0)=true:=bne_iff_ne.mpr c36;have H':=aM H;clear H;go_wp2
           repeat(go_quiet (fail);try go_wp2)
           go_roundg k3
           case measure=>have:=HJ2.out;have:=HJ7.out;have:=HK3.out;omega
           case rel=>exact⟨(x9_3),(Int.tmod x8_3 x9_3),sD,sD,H',⟨by have:=HJ2.out;have:=HJ7.out;have:=HK3.out;omega⟩,⟨pB⟩⟩
         ·rw[if_neg c35] at H;have c35b0:decide (0 < x9_3)=false:=decide_eq_false c35;clear c35;replace H:=bS H;obtain⟨⟨t373,t374⟩,A370,H⟩:=H;replace H:(some (t373,t374))=some (r1,r2):=H;have A37:=aM A370;clear A370;simp only[Option.some.injEq,Prod.mk.injEq] at H;obtain⟨rfl,rfl⟩:=H;have fl_:True:=trivial;repeat((first|clear fl_|go_quiet (first|(go_at_call 77;(with_reducible refine(Dzq.calls k3 x8_3 t373 t374 _ A37.out).mono ?_);rintro e w38 ⟨v375,rfl,ho0,hb⟩;have HO376:=aM (Kd.R_lower (Kd.R_newM (M:=fun k_=>(w.heap.size≤k_)) ho0 (below_size pB) (fun k_ h_=>h_)) (below_size pB));replace HB:=aM (below_step pB hb);(try clear hb);(try clear hb2);(try clear hk);(try clear hi);(try clear ho0))));go_wp2_with (first|(go_at_call 77;(with_reducible refine(Dzq.calls k3 x8_3 t373 t374 _ A37.out).mono ?_);rintro e w38 ⟨v375,rfl,ho0,hb⟩;have HO376:=aM (Kd.R_lower (Kd.R_newM (M:=fun k_=>(w.heap.size≤k_)) ho0 (below_size pB) (fun k_ h_=>h_)) (below_size pB));replace HB:=aM (below_step pB hb);(try clear hb);(try clear hb2);(try clear hk);(try clear hi);(try clear ho0))))
          go_ret2
          exact⟨_,eW,by(with_reducible repeat(first|apply Kd.R_alloc|apply Kd.R_drewN|apply Kd.R_drew));exact Kd.R_mono HO376.out (fun _ hk=>hk.1),pB⟩

end Go.Proofs.Ytokkiljkgejnhaa.Print
