import Derived.Test.YtpnfdhhfdidlmaaPrint0
import Derived.Test.YtpnfdhhfdidlmaaPrint2
namespace Go.Proofs.Ytpnfdhhfdidlmaa.Print
open Go.RowKit Go.Proofs.YtpnfdhhfdidlmaaW.PrintWords Go.Proofs.YtpnfdhhfdidlmaaW.PrintLast Go.Proofs.YtpnfdhhfdidlmaaW.PrintMore
attribute [local go_sem] max2_int min2_int max_two min_two max_three min_three max_four min_four
set_option linter.unusedVariables false
set_option maxRecDepth 100000
set_option maxHeartbeats 8000000
set_option linter.unusedSimpArgs false

mutual
def Bzb.j0:Nat→Bool→Int→List (List Int)→Option (Int)
 | 0,_,_,_=>none
 | k+1,x14,x134000,x134001=>if x14=true then(some 1) else(if(x134001.length:Int)=0 then(some 10) else(if(x134001.length:Int) > 256 then(some 8) else(Bzb.l0 k 0 x134001 (x134001.length:Int) 0 x134000 x134001)))
def Bzb.l0:Nat→Int→List (List Int)→Int→Int→Int→List (List Int)→Option (Int)
 | 0,_,_,_,_,_,_=>none
 | k+1,x3,x24,x25,x26,x134000,x134001=>if x26 < x25 then(if 0≤x26 then(if x26 < (x24.length:Int) then(if 0 < (x134001.length:Int) then((Czm.f k (rd_L1 x24 x26) ((rd_L1 x134001 0).length:Int)).bind fun t136=>(if t136=0 then((Czk.f k (rd_L1 x24 x26)).bind fun t137=>(if t137=0 then(some 10) else((Czk.f k (rd_L1 x24 x26)).bind fun t138=>(Bzb.l0 k (wrap64 (x3+t138)) x24 x25 (wrap64 (x26+1)) x134000 x134001)))) else(some t136))) else(none)) else(none)) else(none)) else(if x3=x134000 then(some 0) else(some 39))
end
def Bzb.f (k:Nat) (a0_0:Int) (l0_1:List (List Int)):Option (Int):=if a0_0 < 1 then(Bzb.j0 k true a0_0 l0_1) else(Bzb.j0 k (decide (a0_0 > 1099511627776)) a0_0 l0_1)
theorem Bzb.mono_l:∀ k,(∀ y0 y1 y2,LeO (Bzb.j0 k y0 y1 y2) (Bzb.j0 (k+1) y0 y1 y2))∧(∀ y0 y1 y2 y3 y4 y5,LeO (Bzb.l0 k y0 y1 y2 y3 y4 y5) (Bzb.l0 (k+1) y0 y1 y2 y3 y4 y5))
 | 0=>⟨fun _ _ _ r h=>by simp [Bzb.j0] at h,fun _ _ _ _ _ _ r h=>by simp [Bzb.l0] at h⟩
 | k+1=>by
  obtain⟨ih0,ih1⟩:=Bzb.mono_l k;refine⟨?_,?_⟩
  ·intro y0 y1 y2;unfold Bzb.j0;with_reducible repeat' first|exact ih0 _ _ _|exact ih1 _ _ _ _ _ _|exact Czm.mono _ _ _|exact Czk.mono _ _|exact LeO.refl _|exact LeO.none _|refine LeO.ite ?_ ?_|refine LeO.bind ?_ (fun _=>?_)
  ·intro y0 y1 y2 y3 y4 y5;unfold Bzb.l0;with_reducible repeat' first|exact ih0 _ _ _|exact ih1 _ _ _ _ _ _|exact Czm.mono _ _ _|exact Czk.mono _ _|exact LeO.refl _|exact LeO.none _|refine LeO.ite ?_ ?_|refine LeO.bind ?_ (fun _=>?_)
theorem Bzb.mono:∀ a0 a1 k,LeO (Bzb.f k a0 a1) (Bzb.f (k+1) a0 a1):=by
 intro a0 a1 k;obtain⟨ih0,ih1⟩:=Bzb.mono_l k;unfold Bzb.f;with_reducible repeat' first|exact ih0 _ _ _|exact ih1 _ _ _ _ _ _|exact Czm.mono _ _ _|exact Czk.mono _ _|exact LeO.refl _|exact LeO.none _|refine LeO.ite ?_ ?_|refine LeO.bind ?_ (fun _=>?_)
theorem Bzb.calls (k:Nat) (a0_0:Int) (A0_1:Option Addr) (c0_1:Nat) (l0_1:List (List Int)) (r:Int) (w:World) (hr0_1:Kd.C (Kd.slice 3 (Kd.int .i64)) w A0_1 l0_1.length l0_1) (hc0_1:l0_1.length≤c0_1) (h:Bzb.f k a0_0 l0_1=some r) :
  Calls Try.prog 13 #[.agg #[.int .i64 a0_0,.slice A0_1 l0_1.length c0_1]] w fun e w'=>e=.returned (.int .i64 r)∧Below w.heap.size w w':=by
 have hu24:=Try.underlying24;have HR0_1:=aM hr0_1;have HC0_1:=aM hc0_1;clear hr0_1 hc0_1;have HB:=aM (Below.refl w.heap.size w);have H:(if a0_0 < 1 then(Bzb.j0 k true a0_0 l0_1) else(Bzb.j0 k (decide (a0_0 > 1099511627776)) a0_0 l0_1))=some r:=h
 clear h;have HC2:=aM H;clear H;go_enter Try.func13,Try.ntmps13
 go_upto_region 1 with (first|((with_reducible refine gate_dst (N:=1) rfl ?_);refine box_event ?hg (N:=1) ?hd (cs:=#[.int .i64 a0_0,.slice A0_1 l0_1.length c0_1]) (t:=24) ?hr ?_;(case hd=>rfl);(case hg=>rfl);(case hr=>first|(go_simp;done)|(go_simp;rfl));intro gb133 hg w3 hbox hb;have BK133:=aM (hbox);have GW133:=aM (gW hg:w.heap.size≤gb133);have GE133:=aM (gW hg:w.heap.size≤gb133);replace HB:=aM (below_step pB hb);clear hb hbox hg))
 (try simp only[Act.put,sA,sZ,sC])
 go_cut [14] (fun v14 wc=>∃ (kq:Nat) (x14_1:Bool),v14=.bool x14_1∧Aside0 (Bzb.j0 kq x14_1 a0_0 l0_1=some r)∧Aside0 (kq≤k)∧Aside0 (wc.heap[gb133]?=some (.cells #[.int .i64 a0_0,(.slice A0_1 l0_1.length c0_1)] 24 (0,0)))∧Aside0 (Below w.heap.size w wc))
 case first =>
  have H:=HC2.out;clear HC2;by_cases c4:a0_0 < 1
  ·rw[if_pos c4] at H;have c4b0:decide (a0_0 < 1)=true:=dE c4;clear c4;(first|rw[c4b0]|(simp only[i64_w,i32_w];rw[c4b0])|skip)
   have H':=aM H;clear H;obtain⟨hcz5_0,hcz5_1,hfz5_0,hfz5_1⟩:=bk2 BK133;go_wp2
   go_meet
   case rel=>exact⟨_,(true),sD,H',⟨by first|omega|exact Nat.le_refl _⟩,⟨by(with_reducible repeat(first|refine blk_drewN ?_ _|refine blk_drew ?_|refine blk_alloc ?_ _));exact BK133.out⟩,⟨pB⟩⟩
  ·rw[if_neg c4] at H;have c4b0:decide (a0_0 < 1)=false:=decide_eq_false c4;clear c4;(first|rw[c4b0]|(simp only[i64_w,i32_w];rw[c4b0])|skip)
   have H':=aM H;clear H;obtain⟨hcz6_0,hcz6_1,hfz6_0,hfz6_1⟩:=bk2 BK133;go_wp2
   go_meet
   case rel=>exact⟨_,(decide (a0_0 > 1099511627776)),sD,H',⟨by first|omega|exact Nat.le_refl _⟩,⟨by(with_reducible repeat(first|refine blk_drewN ?_ _|refine blk_drew ?_|refine blk_alloc ?_ _));exact BK133.out⟩,⟨pB⟩⟩
 case rest =>
  clear HC2;try clear c1
  try clear p2
  try clear c4
  try clear c4b0
  try clear hcz5_0
  try clear hcz5_1
  try clear hcz6_0
  try clear hcz6_1
  try clear hfz5_0
  try clear hfz5_1
  try clear hfz6_0
  try clear hfz6_1
  obtain⟨kq,x14_1,rfl,HA,HJ1,BK133,HB⟩:=hcut;cases kq with
  | zero=>exact absurd HA.out (by simp [Bzb.j0])
  | succ kj1 =>
   have H:=HA.out;clear HA;simp only[Bzb.j0] at H;by_cases c7:x14_1=true
   ·subst c7;rw[if_pos rfl] at H;obtain rfl:=Option.some.inj H;go_wp2
    go_ret
    exact⟨eW,pB⟩
   ·replace c7:=Bool.eq_false_iff.mpr c7;subst c7;rw[if_neg (show ¬ (false=true) by decide)] at H
    by_cases c8:(l0_1.length:Int)=0
    ·rw[if_pos c8] at H;have c8b0:((l0_1.length:Int) == 0)=true:=beq_iff_eq.mpr c8;have c8b1:((l0_1.length:Int) != 0)=false:=bne_eq_false_iff_eq.mpr c8;clear c8;obtain rfl:=Option.some.inj H;obtain⟨hcz9_0,hcz9_1,hfz9_0,hfz9_1⟩:=bk2 BK133;go_wp2
     go_ret
     exact⟨eW,pB⟩
    ·rw[if_neg c8] at H;have c8b0:((l0_1.length:Int) == 0)=false:=beq_eq_false_iff_ne.mpr c8;have c8b1:((l0_1.length:Int) != 0)=true:=bne_iff_ne.mpr c8;have c8b2:¬ (l0_1=[]):=fun h_=>c8 (by rw[h_];rfl)
     by_cases c10:(l0_1.length:Int) > 256
     ·rw[if_pos c10] at H;have c10b0:decide (256 < (l0_1.length:Int))=true:=dE c10;have c10b1:decide (256 < l0_1.length)=true:=dE (by omega)
      clear c10;obtain rfl:=Option.some.inj H;obtain⟨hcz11_0,hcz11_1,hfz11_0,hfz11_1⟩:=bk2 BK133;go_wp2
      go_ret
      exact⟨eW,pB⟩
     ·rw[if_neg c10] at H;have c10b0:decide (256 < (l0_1.length:Int))=false:=decide_eq_false c10;have c10b1:decide (256 < l0_1.length)=false:=decide_eq_false (by omega)
      clear c10;have H':=aM H;clear H;obtain⟨hcz12_0,hcz12_1,hfz12_0,hfz12_1⟩:=bk2 BK133;go_wp2
      go_loopg [3,26] kj1 (fun kq v3 v26 w'=>∃ (x3_2:Int) (x26_2:Int),v3=.int .i64 x3_2∧v26=.int .i64 x26_2∧Aside0 (Bzb.l0 kq x3_2 l0_1 (l0_1.length:Int) x26_2 a0_0 l0_1=some r)∧Aside0 (kq≤kj1)∧Aside0 (w'.heap[gb133]?=some (.cells #[.int .i64 a0_0,(.slice A0_1 l0_1.length c0_1)] 24 (0,0)))∧Aside0 (Below w.heap.size w w'))
      case atStart=>exact⟨(0),(0),sD,sD,H',⟨Nat.le_refl _⟩,⟨by(with_reducible repeat(first|refine blk_drewN ?_ _|refine blk_drew ?_|refine blk_alloc ?_ _));exact BK133.out⟩,⟨pB⟩⟩
      case round =>
       clear H';try clear c1
       try clear p2
       try clear c4
       try clear c4b0
       try clear c7
       try clear c8
       try clear c8b0
       try clear c8b1
       try clear c8b2
       try clear c10
       try clear c10b0
       try clear c10b1
       try clear hcz11_0
       try clear hcz11_1
       try clear hcz12_0
       try clear hcz12_1
       try clear hcz5_0
       try clear hcz5_1
       try clear hcz6_0
       try clear hcz6_1
       try clear hcz9_0
       try clear hcz9_1
       try clear hfz11_0
       try clear hfz11_1
       try clear hfz12_0
       try clear hfz12_1
       try clear hfz5_0
       try clear hfz5_1
       try clear hfz6_0
       try clear hfz6_1
       try clear hfz9_0
       try clear hfz9_1
       try clear p2
       obtain⟨x3_2,x26_2,rfl,rfl,HA,HK2,BK133,HB⟩:=hrel;cases gk with
       | zero=>exact absurd HA.out (by simp [Bzb.l0])
       | succ k2 =>
        have H:=HA.out;clear HA;simp only[Bzb.l0] at H;by_cases c13:x26_2 < (l0_1.length:Int)
        ·rw[if_pos c13] at H;have c13b0:decide (x26_2 < (l0_1.length:Int))=true:=dE c13;clear c13;by_cases c14:0≤x26_2
         ·rw[if_pos c14] at H;have c14b0:decide (0≤x26_2)=true:=dE c14;clear c14;by_cases c15:x26_2 < (l0_1.length:Int)
          ·rw[if_pos c15] at H;have c15b0:decide (x26_2 < (l0_1.length:Int))=true:=dE c15;clear c15;by_cases c16:0 < (l0_1.length:Int)
           ·rw[if_pos c16] at H;have c16b0:decide (0 < (l0_1.length:Int))=true:=dE c16;have c16b1:decide (0 < l0_1.length)=true:=dE (by omega)
            clear c16;replace H:=bS H;obtain⟨t136,A170,H⟩:=H;(try dsimp only at H);have A17:=aM A170;clear A170;by_cases c18:t136=0
            ·rw[if_pos c18] at H;have c18b0:(t136 == 0)=true:=beq_iff_eq.mpr c18;have c18b1:(t136 != 0)=false:=bne_eq_false_iff_eq.mpr c18;clear c18;replace H:=bS H;obtain⟨t137,A190,H⟩:=H;(try dsimp only at H);have A19:=aM A190;clear A190;by_cases c20:t137=0
             ·rw[if_pos c20] at H;have c20b0:(t137 == 0)=true:=beq_iff_eq.mpr c20;have c20b1:(t137 != 0)=false:=bne_eq_false_iff_eq.mpr c20;clear c20;obtain rfl:=Option.some.inj H;have p134:0≤(x26_2:Int):=oE aS
              have q134:x26_2 < (l0_1.length:Int):=oE aS
              obtain⟨ad134,A134_0,c134_0,e134,hx134_0,hl134_0,hi134_0⟩:=at_L1 HR0_1.out x26_2 p134 q134;cases e134
              replace hx134_0:=(HB.out.cell (World.block_lt_of_cell? w _ hx134_0)).trans hx134_0;have HR134_0:=aM hi134_0;have HC134_0:=aM hl134_0;clear hi134_0 hl134_0;replace p134:=eq_true p134;replace q134:=eq_true q134;obtain⟨hcz21_0,hcz21_1,hfz21_0,hfz21_1⟩:=bk2 BK133;have p135:0≤(0:Int):=(by omega)
              have q135:0 < (l0_1.length:Int):=oE aS
              obtain⟨ad135,A135_0,c135_0,e135,hx135_0,hl135_0,hi135_0⟩:=at_L1 HR0_1.out 0 p135 q135;obtain rfl:ad134=ad135:=(by injection e135)
              have qi135:(0 < l0_1.length)=True:=eq_true (by omega)
              (try rw[show((0:Int)).toNat=0 from rfl] at hx135_0)
              (try rw[Addr.add_zero'] at hx135_0)
              replace hx135_0:=(HB.out.cell (World.block_lt_of_cell? w _ hx135_0)).trans hx135_0;have HR135_0:=aM hi135_0;have HC135_0:=aM hl135_0;clear hi135_0 hl135_0;replace p135:=eq_true p135;replace q135:=eq_true q135;go_wp2_with (first|((with_reducible refine gate_callee (f:=26) rfl ?_);refine goesL_ (some 36) rfl rfl Try.func26 (by kernel_rfl) rfl #[.slice A134_0 (rd_L1 l0_1 x26_2).length c134_0,.int .i64 ((rd_L1 l0_1 0).length:Int)] rfl mA ?_;(with_reducible refine(Czm.calls k2 _ _ (rd_L1 l0_1 x26_2) ((rd_L1 l0_1 0).length:Int) t136 _ ?side1 ?side2 A17.out).mono ?_);(case side1=>exact cX (Kd.C_below HR134_0.out HB.out));(case side2=>exact HC134_0.out);rintro e w22 ⟨rfl,hb⟩;refine⟨_,rfl,?_⟩;replace BK133:=aM (kB BK133 hb);replace HB:=aM (below_step pB hb);(try clear hb);(try clear hb2);(try clear hk);(try clear hi))|((with_reducible refine gate_callee (f:=27) rfl ?_);refine goesL_ (some 41) rfl rfl Try.func27 (by kernel_rfl) rfl #[.slice A134_0 (rd_L1 l0_1 x26_2).length c134_0] rfl mA ?_;(with_reducible refine(Czk.calls k2 _ _ (rd_L1 l0_1 x26_2) t137 _ ?side1 ?side2 A19.out).mono ?_);(case side1=>exact cX (Kd.C_below HR134_0.out HB.out));(case side2=>exact HC134_0.out);rintro e w' ⟨rfl,⟨nd,rfl⟩⟩;refine⟨_,rfl,?_⟩))
              go_ret
              exact⟨eW,pB⟩
             ·rw[if_neg c20] at H;have c20b0:(t137 == 0)=false:=beq_eq_false_iff_ne.mpr c20;have c20b1:(t137 != 0)=true:=bne_iff_ne.mpr c20;replace H:=bS H;obtain⟨t138,A230,H⟩:=H;(try dsimp only at H);have A23:=aM A230;clear A230;have H':=aM H;clear H;have p134:0≤(x26_2:Int):=oE aS
              have q134:x26_2 < (l0_1.length:Int):=oE aS
              obtain⟨ad134,A134_0,c134_0,e134,hx134_0,hl134_0,hi134_0⟩:=at_L1 HR0_1.out x26_2 p134 q134;cases e134
              replace hx134_0:=(HB.out.cell (World.block_lt_of_cell? w _ hx134_0)).trans hx134_0;have HR134_0:=aM hi134_0;have HC134_0:=aM hl134_0;clear hi134_0 hl134_0;replace p134:=eq_true p134;replace q134:=eq_true q134;obtain⟨hcz24_0,hcz24_1,hfz24_0,hfz24_1⟩:=bk2 BK133;have p135:0≤(0:Int):=(by omega)
              have q135:0 < (l0_1.length:Int):=oE aS
              obtain⟨ad135,A135_0,c135_0,e135,hx135_0,hl135_0,hi135_0⟩:=at_L1 HR0_1.out 0 p135 q135;obtain rfl:ad134=ad135:=(by injection e135)
              have qi135:(0 < l0_1.length)=True:=eq_true (by omega)
              (try rw[show((0:Int)).toNat=0 from rfl] at hx135_0)
              (try rw[Addr.add_zero'] at hx135_0)
              replace hx135_0:=(HB.out.cell (World.block_lt_of_cell? w _ hx135_0)).trans hx135_0;have HR135_0:=aM hi135_0;have HC135_0:=aM hl135_0;clear hi135_0 hl135_0;replace p135:=eq_true p135;replace q135:=eq_true q135;go_wp2_with (first|((with_reducible refine gate_callee (f:=26) rfl ?_);refine goesL_ (some 36) rfl rfl Try.func26 (by kernel_rfl) rfl #[.slice A134_0 (rd_L1 l0_1 x26_2).length c134_0,.int .i64 ((rd_L1 l0_1 0).length:Int)] rfl mA ?_;(with_reducible refine(Czm.calls k2 _ _ (rd_L1 l0_1 x26_2) ((rd_L1 l0_1 0).length:Int) t136 _ ?side1 ?side2 A17.out).mono ?_);(case side1=>exact cX (Kd.C_below HR134_0.out HB.out));(case side2=>exact HC134_0.out);rintro e w25 ⟨rfl,hb⟩;refine⟨_,rfl,?_⟩;replace BK133:=aM (kB BK133 hb);replace HB:=aM (below_step pB hb);(try clear hb);(try clear hb2);(try clear hk);(try clear hi))|((with_reducible refine gate_callee (f:=27) rfl ?_);refine goesL_ (some 41) rfl rfl Try.func27 (by kernel_rfl) rfl #[.slice A134_0 (rd_L1 l0_1 x26_2).length c134_0] rfl mA ?_;(with_reducible refine(Czk.calls k2 _ _ (rd_L1 l0_1 x26_2) t137 _ ?side1 ?side2 A19.out).mono ?_);(case side1=>exact cX (Kd.C_below HR134_0.out HB.out));(case side2=>exact HC134_0.out);rintro e w' ⟨rfl,⟨nd,rfl⟩⟩;refine⟨_,rfl,?_⟩)|((with_reducible refine gate_callee (f:=27) rfl ?_);refine goesL_ (some 45) rfl rfl Try.func27 (by kernel_rfl) rfl #[.slice A134_0 (rd_L1 l0_1 x26_2).length c134_0] rfl mA ?_;(with_reducible refine(Czk.calls k2 _ _ (rd_L1 l0_1 x26_2) t138 _ ?side1 ?side2 A23.out).mono ?_);(case side1=>repeat(first|exact(Kd.C_below HR134_0.out pB)|(with_reducible refine Kd.C_alloc ?_ _)|(with_reducible refine Kd.C_drewN ?_ _)|(with_reducible refine Kd.C_drew ?_)));(case side2=>exact HC134_0.out);rintro e w' ⟨rfl,⟨nd,rfl⟩⟩;refine⟨_,rfl,?_⟩))
              go_roundg k2
              case measure=>have:=HJ1.out;have:=HK2.out;omega
              case rel=>exact⟨(wrap64 (x3_2+t138)),(wrap64 (x26_2+1)),sD,sD,H',⟨by have:=HJ1.out;have:=HK2.out;omega⟩,⟨by(with_reducible repeat(first|refine blk_drewN ?_ _|refine blk_drew ?_|refine blk_alloc ?_ _));exact BK133.out⟩,⟨pB⟩⟩
            ·rw[if_neg c18] at H;have c18b0:(t136 == 0)=false:=beq_eq_false_iff_ne.mpr c18;have c18b1:(t136 != 0)=true:=bne_iff_ne.mpr c18;obtain rfl:=Option.some.inj H;have p134:0≤(x26_2:Int):=oE aS
             have q134:x26_2 < (l0_1.length:Int):=oE aS
             obtain⟨ad134,A134_0,c134_0,e134,hx134_0,hl134_0,hi134_0⟩:=at_L1 HR0_1.out x26_2 p134 q134;cases e134
             replace hx134_0:=(HB.out.cell (World.block_lt_of_cell? w _ hx134_0)).trans hx134_0;have HR134_0:=aM hi134_0;have HC134_0:=aM hl134_0;clear hi134_0 hl134_0;replace p134:=eq_true p134;replace q134:=eq_true q134;obtain⟨hcz26_0,hcz26_1,hfz26_0,hfz26_1⟩:=bk2 BK133;have p135:0≤(0:Int):=(by omega)
             have q135:0 < (l0_1.length:Int):=oE aS
             obtain⟨ad135,A135_0,c135_0,e135,hx135_0,hl135_0,hi135_0⟩:=at_L1 HR0_1.out 0 p135 q135;obtain rfl:ad134=ad135:=(by injection e135)
             have qi135:(0 < l0_1.length)=True:=eq_true (by omega)
             (try rw[show((0:Int)).toNat=0 from rfl] at hx135_0)
             (try rw[Addr.add_zero'] at hx135_0)
             replace hx135_0:=(HB.out.cell (World.block_lt_of_cell? w _ hx135_0)).trans hx135_0;have HR135_0:=aM hi135_0;have HC135_0:=aM hl135_0;clear hi135_0 hl135_0;replace p135:=eq_true p135;replace q135:=eq_true q135;go_wp2_with (first|((with_reducible refine gate_callee (f:=26) rfl ?_);refine goesL_ (some 36) rfl rfl Try.func26 (by kernel_rfl) rfl #[.slice A134_0 (rd_L1 l0_1 x26_2).length c134_0,.int .i64 ((rd_L1 l0_1 0).length:Int)] rfl mA ?_;(with_reducible refine(Czm.calls k2 _ _ (rd_L1 l0_1 x26_2) ((rd_L1 l0_1 0).length:Int) t136 _ ?side1 ?side2 A17.out).mono ?_);(case side1=>exact cX (Kd.C_below HR134_0.out HB.out));(case side2=>exact HC134_0.out);rintro e w27 ⟨rfl,hb⟩;refine⟨_,rfl,?_⟩;replace BK133:=aM (kB BK133 hb);replace HB:=aM (below_step pB hb);(try clear hb);(try clear hb2);(try clear hk);(try clear hi)))
             go_ret
             exact⟨eW,pB⟩
           ·rw[if_neg c16] at H;exact absurd H (by simp)
          ·rw[if_neg c15] at H;exact absurd H (by simp)
         ·rw[if_neg c14] at H;exact absurd H (by simp)
        ·rw[if_neg c13] at H;have c13b0:decide (x26_2 < (l0_1.length:Int))=false:=decide_eq_false c13;clear c13;by_cases c28:x3_2=a0_0
         ·rw[if_pos c28] at H;have c28b0:(x3_2 == a0_0)=true:=beq_iff_eq.mpr c28;have c28b1:(x3_2 != a0_0)=false:=bne_eq_false_iff_eq.mpr c28;clear c28;obtain rfl:=Option.some.inj H;obtain⟨hcz29_0,hcz29_1,hfz29_0,hfz29_1⟩:=bk2 BK133;go_wp2
          go_ret
          exact⟨eW,pB⟩
         ·rw[if_neg c28] at H;have c28b0:(x3_2 == a0_0)=false:=beq_eq_false_iff_ne.mpr c28;have c28b1:(x3_2 != a0_0)=true:=bne_iff_ne.mpr c28;obtain rfl:=Option.some.inj H;obtain⟨hcz30_0,hcz30_1,hfz30_0,hfz30_1⟩:=bk2 BK133;go_wp2
          go_ret
          exact⟨eW,pB⟩

end Go.Proofs.Ytpnfdhhfdidlmaa.Print
