import Derived.Test.YtpnfdhhfdidlmaaPrint0
import Derived.Test.YtpnfdhhfdidlmaaPrint2
import Derived.Test.YtpnfdhhfdidlmaaPrint5
namespace Go.Proofs.Ytpnfdhhfdidlmaa.Print
open Go.RowKit Go.Proofs.YtpnfdhhfdidlmaaW.PrintWords Go.Proofs.YtpnfdhhfdidlmaaW.PrintLast Go.Proofs.YtpnfdhhfdidlmaaW.PrintMore
attribute [local go_sem] max2_int min2_int max_two min_two max_three min_three max_four min_four
set_option linter.unusedVariables false
set_option maxRecDepth 100000
set_option maxHeartbeats 8000000
set_option linter.unusedSimpArgs false

mutual
def Czx.j0:Nat→Int→Bool→Int→List (List Int)→Option (Int × Int)
 | 0,_,_,_,_=>none
 | k+1,x1,x23,x261000,x261001=>if x23=true then(some (0,7)) else(if 0≤(wrap64 (x1+1)) then(if(wrap64 (x1+1))≤(x261001.length:Int) then((some (x261001.take ((wrap64 (x1+1)):Int).toNat:List (List Int))).bind fun y262=>(Czx.l0 k 0 y262 (y262.length:Int) 0)) else(none)) else(none))
def Czx.l0:Nat→Int→List (List Int)→Int→Int→Option (Int × Int)
 | 0,_,_,_,_=>none
 | k+1,x7,x28,x29,x30=>if x30 < x29 then(if 0≤x30 then(if x30 < (x28.length:Int) then((Czk.f k (rd_L1 x28 x30)).bind fun t267=>(Czx.l0 k (wrap64 (x7+t267)) x28 x29 (wrap64 (x30+1)))) else(none)) else(none)) else(some (x7,0))
end
def Czx.f (k:Nat) (a0_0:Int) (l0_1:List (List Int)) (a1:Int):Option (Int × Int):=(Bzb.f k a0_0 l0_1).bind fun t261=>(if t261=0 then(if a1 < 0 then(Czx.j0 k a1 true a0_0 l0_1) else(Czx.j0 k a1 (decide (a1≥(l0_1.length:Int))) a0_0 l0_1)) else(some (0,t261)))
theorem Czx.mono_l:∀ k,(∀ y0 y1 y2 y3,LeO (Czx.j0 k y0 y1 y2 y3) (Czx.j0 (k+1) y0 y1 y2 y3))∧(∀ y0 y1 y2 y3,LeO (Czx.l0 k y0 y1 y2 y3) (Czx.l0 (k+1) y0 y1 y2 y3))
 | 0=>⟨fun _ _ _ _ r h=>by simp [Czx.j0] at h,fun _ _ _ _ r h=>by simp [Czx.l0] at h⟩
 | k+1=>by
  obtain⟨ih0,ih1⟩:=Czx.mono_l k;refine⟨?_,?_⟩
  ·intro y0 y1 y2 y3;unfold Czx.j0;with_reducible repeat' first|exact ih0 _ _ _ _|exact ih1 _ _ _ _|exact Bzb.mono _ _ _|exact Czk.mono _ _|exact LeO.refl _|exact LeO.none _|refine LeO.ite ?_ ?_|refine LeO.bind ?_ (fun _=>?_)
  ·intro y0 y1 y2 y3;unfold Czx.l0;with_reducible repeat' first|exact ih0 _ _ _ _|exact ih1 _ _ _ _|exact Bzb.mono _ _ _|exact Czk.mono _ _|exact LeO.refl _|exact LeO.none _|refine LeO.ite ?_ ?_|refine LeO.bind ?_ (fun _=>?_)
theorem Czx.mono:∀ a0 a1 a2 k,LeO (Czx.f k a0 a1 a2) (Czx.f (k+1) a0 a1 a2):=by
 intro a0 a1 a2 k;obtain⟨ih0,ih1⟩:=Czx.mono_l k;unfold Czx.f;with_reducible repeat' first|exact ih0 _ _ _ _|exact ih1 _ _ _ _|exact Bzb.mono _ _ _|exact Czk.mono _ _|exact LeO.refl _|exact LeO.none _|refine LeO.ite ?_ ?_|refine LeO.bind ?_ (fun _=>?_)
theorem Czx.calls (k:Nat) (a0_0:Int) (A0_1:Option Addr) (c0_1:Nat) (l0_1:List (List Int)) (a1:Int) (r1:Int) (r2:Int) (w:World) (hr0_1:Kd.C (Kd.slice 3 (Kd.int .i64)) w A0_1 l0_1.length l0_1) (hc0_1:l0_1.length≤c0_1) (h:Czx.f k a0_0 l0_1 a1=some (r1,r2)) :
  Calls Try.prog 22 #[.agg #[.int .i64 a0_0,.slice A0_1 l0_1.length c0_1],.int .i64 a1] w fun e w'=>e=.returned (.tuple #[.int .i64 r1,.int .i64 r2])∧Below w.heap.size w w':=by
 have hu24:=Try.underlying24;have HR0_1:=aM hr0_1;have HC0_1:=aM hc0_1;clear hr0_1 hc0_1;have HB:=aM (Below.refl w.heap.size w);have H:((Bzb.f k a0_0 l0_1).bind fun t261=>(if t261=0 then(if a1 < 0 then(Czx.j0 k a1 true a0_0 l0_1) else(Czx.j0 k a1 (decide (a1≥(l0_1.length:Int))) a0_0 l0_1)) else(some (0,t261))))=some (r1,r2):=h
 clear h;replace H:=bS H;obtain⟨t261,A30,H⟩:=H;(try dsimp only at H);have A3:=aM A30;clear A30;by_cases c4:t261=0
 ·rw[if_pos c4] at H;have c4b0:(t261 == 0)=true:=beq_iff_eq.mpr c4;have c4b1:(t261 != 0)=false:=bne_eq_false_iff_eq.mpr c4;clear c4;have HC5:=aM H;clear H;go_enter Try.func22,Try.ntmps22
  go_upto_region 4 with (first|((with_reducible refine gate_dst (N:=2) rfl ?_);(try(refine gate_guard (by rfl) ?_;dsimp only));refine box_event ?hg (N:=2) ?hd (cs:=#[.int .i64 a0_0,.slice A0_1 l0_1.length c0_1]) (t:=24) ?hr ?_;(case hd=>rfl);(case hg=>rfl);(case hr=>first|(go_simp;done)|(go_simp;rfl));intro gb260 hg w6 hbox hb;have BK260:=aM (hbox);have GW260:=aM (gW hg:w.heap.size≤gb260);have GE260:=aM (gW hg:w.heap.size≤gb260);replace HB:=aM (below_step pB hb);clear hb hbox hg;obtain⟨hcz7_0,hcz7_1,hfz7_0,hfz7_1⟩:=bk2 BK260)|((with_reducible refine gate_callee (f:=13) rfl ?_);refine goesL_ (some 11) rfl rfl Try.func13 (by kernel_rfl) rfl #[.agg #[.int .i64 a0_0,.slice A0_1 l0_1.length c0_1]] rfl mA ?_;(with_reducible refine(Bzb.calls k a0_0 _ _ l0_1 t261 _ ?side1 ?side2 A3.out).mono ?_);(case side1=>exact cX (Kd.C_below HR0_1.out HB.out));(case side2=>exact HC0_1.out);rintro e w8 ⟨rfl,hb⟩;refine⟨_,rfl,?_⟩;replace BK260:=aM (kB BK260 hb);replace HB:=aM (below_step pB hb);(try clear hb);(try clear hb2);(try clear hk);(try clear hi)))
  (try simp only[Act.put,sA,sZ,sC])
  go_cut [23] (fun v23 wc=>∃ (kq:Nat) (x23_4:Bool),v23=.bool x23_4∧Aside0 (Czx.j0 kq a1 x23_4 a0_0 l0_1=some (r1,r2))∧Aside0 (kq≤k)∧Aside0 (wc.heap[gb260]?=some (.cells #[.int .i64 a0_0,(.slice A0_1 l0_1.length c0_1)] 24 (0,0)))∧Aside0 (Below w.heap.size w wc))
  case first =>
   have H:=HC5.out;clear HC5;by_cases c9:a1 < 0
   ·rw[if_pos c9] at H;have c9b0:decide (a1 < 0)=true:=dE c9;clear c9;(first|rw[c9b0]|(simp only[i64_w,i32_w];rw[c9b0])|skip)
    have H':=aM H;clear H;go_wp2
    go_meet
    case rel=>exact⟨_,(true),sD,H',⟨by first|omega|exact Nat.le_refl _⟩,⟨by(with_reducible repeat(first|refine blk_drewN ?_ _|refine blk_drew ?_|refine blk_alloc ?_ _));exact BK260.out⟩,⟨pB⟩⟩
   ·rw[if_neg c9] at H;have c9b0:decide (a1 < 0)=false:=decide_eq_false c9;clear c9;(first|rw[c9b0]|(simp only[i64_w,i32_w];rw[c9b0])|skip)
    have H':=aM H;clear H;obtain⟨hcz10_0,hcz10_1,hfz10_0,hfz10_1⟩:=bk2 BK260;go_wp2
    go_meet
    case rel=>exact⟨_,(decide (a1≥(l0_1.length:Int))),sD,H',⟨by first|omega|exact Nat.le_refl _⟩,⟨by(with_reducible repeat(first|refine blk_drewN ?_ _|refine blk_drew ?_|refine blk_alloc ?_ _));exact BK260.out⟩,⟨pB⟩⟩
  case rest =>
   clear HC5;try clear c1
   try clear c2
   try clear p2
   try clear c4
   try clear c4b0
   try clear c4b1
   try clear c9
   try clear c9b0
   try clear hcz10_0
   try clear hcz10_1
   try clear hcz7_0
   try clear hcz7_1
   try clear hfz10_0
   try clear hfz10_1
   try clear hfz7_0
   try clear hfz7_1
   obtain⟨kq,x23_4,rfl,HA,HJ4,BK260,HB⟩:=hcut;cases kq with
   | zero=>exact absurd HA.out (by simp [Czx.j0])
   | succ kj4 =>
    have H:=HA.out;clear HA;simp only[Czx.j0] at H;by_cases c11:x23_4=true
    ·subst c11;rw[if_pos rfl] at H;simp only[Option.some.injEq,Prod.mk.injEq] at H;obtain⟨rfl,rfl⟩:=H;go_wp2
     go_ret2
     exact⟨eW,pB⟩
    ·replace c11:=Bool.eq_false_iff.mpr c11;subst c11;rw[if_neg (show ¬ (false=true) by decide)] at H
     obtain⟨ji12,hji12⟩:∃ j_:Int,(wrap64 (a1+1))=j_:=⟨_,rfl⟩;replace H:(if 0≤(ji12) then(if(ji12)≤(l0_1.length:Int) then((some (l0_1.take ((ji12):Int).toNat:List (List Int))).bind fun y262=>(Czx.l0 kj4 0 y262 (y262.length:Int) 0)) else(none)) else(none))=some (r1,r2):=by first|(rw[hji12] at H;exact H)|(simp only[hji12] at H ⊢;exact H)
     have hji12w:(IntKind.i64.wrap (a1+1))=ji12:=(i64_w _).trans hji12;by_cases c13:0≤(ji12)
     ·rw[if_pos c13] at H;have c13b0:=eq_true c13;have c13b1:decide (0≤(ji12))=true:=dE c13;clear c13;by_cases c14:(ji12)≤(l0_1.length:Int)
      ·rw[if_pos c14] at H;have c14b0:=eq_true c14;have c14b1:decide ((ji12)≤(l0_1.length:Int))=true:=dE c14;clear c14;obtain⟨y262,hy262⟩:∃ y_:List (List Int),y_=(l0_1.take ((ji12):Int).toNat):=⟨_,rfl⟩;replace H:(Czx.l0 kj4 0 y262 (y262.length:Int) 0)=some (r1,r2):=by first|(rw[hy262];with_reducible exact H)|(have H2_:=(Option.bind_some _ _).symm.trans H;rw[hy262];with_reducible exact H2_)|(have H2_:=(Option.bind_some _ _).symm.trans H;with_reducible exact H2_)|with_reducible exact H|(rw[hy262];exact H)|exact H
       have Ny262:=aM hy262;clear hy262;have H':=aM H;clear H;obtain⟨hcz15_0,hcz15_1,hfz15_0,hfz15_1⟩:=bk2 BK260;have q16:((ji12):Int)≤((l0_1.length:Int):Int):=oE aS
       obtain⟨i016,hi016,_,hsz16,_⟩:=info_parts info29;have hroom16:l0_1.length≤c0_1:=HC0_1.out;have hC16:Kd.C (Kd.slice 3 (Kd.int .i64)) _ A0_1 l0_1.length l0_1:=HR0_1.out;have hcut16:=cut_to (P:=Try.prog) 22 29 .i64 Try.underlying22 hi016 A0_1 l0_1.length c0_1 (ji12) (oE aS) q16 hroom16
       have hr16:=Kd.C_take (m:=((ji12):Int).toNat) hC16 (by omega)
       have hy16:y262.length=((ji12):Int).toNat:=(by rw[Ny262.out,List.length_take];omega)
       rw[← Ny262.out] at hr16;rw[← hy16] at hcut16;have HR265:=aM hr16;have HC265:=aM (show y262.length≤c0_1 from by omega)
       clear hr16 hC16 hroom16 hi016 hsz16;have KY16:=aM hy16;clear hy16;replace q16:=eq_true q16;go_wp2
       go_loopg [7,30] kj4 (fun kq v7 v30 w'=>∃ (x7_2:Int) (x30_2:Int),v7=.int .i64 x7_2∧v30=.int .i64 x30_2∧Aside0 (Czx.l0 kq x7_2 y262 (y262.length:Int) x30_2=some (r1,r2))∧Aside0 (kq≤kj4)∧Aside0 (w'.heap[gb260]?=some (.cells #[.int .i64 a0_0,(.slice A0_1 l0_1.length c0_1)] 24 (0,0)))∧Aside0 (Below w.heap.size w w'))
       case atStart=>exact⟨(0),(0),sD,sD,H',⟨Nat.le_refl _⟩,⟨by(with_reducible repeat(first|refine blk_drewN ?_ _|refine blk_drew ?_|refine blk_alloc ?_ _));exact BK260.out⟩,⟨pB⟩⟩
       case round =>
        clear H';try clear c1
        try clear q1
        try clear c2
        try clear p2
        try clear c4
        try clear c4b0
        try clear c4b1
        try clear p6
        try clear c9
        try clear c9b0
        try clear c11
        try clear c13
        try clear c13b0
        try clear c13b1
        try clear c14
        try clear c14b0
        try clear c14b1
        try clear q16
        try clear hcz10_0
        try clear hcz10_1
        try clear hcz15_0
        try clear hcz15_1
        try clear hcz7_0
        try clear hcz7_1
        try clear hfz10_0
        try clear hfz10_1
        try clear hfz15_0
        try clear hfz15_1
        try clear hfz7_0
        try clear hfz7_1
        try clear p2
        try clear q16
        obtain⟨x7_2,x30_2,rfl,rfl,HA,HK2,BK260,HB⟩:=hrel;cases gk with
        | zero=>exact absurd HA.out (by simp [Czx.l0])
        | succ k2 =>
         have H:=HA.out;clear HA;simp only[Czx.l0] at H;by_cases c17:x30_2 < (y262.length:Int)
         ·rw[if_pos c17] at H;have c17b0:decide (x30_2 < (y262.length:Int))=true:=dE c17;clear c17;by_cases c18:0≤x30_2
          ·rw[if_pos c18] at H;have c18b0:decide (0≤x30_2)=true:=dE c18;clear c18;by_cases c19:x30_2 < (y262.length:Int)
           ·rw[if_pos c19] at H;have c19b0:decide (x30_2 < (y262.length:Int))=true:=dE c19;clear c19;replace H:=bS H;obtain⟨t267,A200,H⟩:=H;(try dsimp only at H);have A20:=aM A200;clear A200;have H':=aM H;clear H;have p266:0≤(x30_2:Int):=oE aS
            have q266:x30_2 < (y262.length:Int):=oE aS
            obtain⟨ad266,A266_0,c266_0,e266,hx266_0,hl266_0,hi266_0⟩:=at_L1 HR265.out x30_2 p266 q266;cases e266
            replace hx266_0:=(HB.out.cell (World.block_lt_of_cell? w _ hx266_0)).trans hx266_0;have HR266_0:=aM hi266_0;have HC266_0:=aM hl266_0;clear hi266_0 hl266_0;replace p266:=eq_true p266;replace q266:=eq_true q266;go_wp2_with (first|((with_reducible refine gate_callee (f:=27) rfl ?_);refine goesL_ (some 36) rfl rfl Try.func27 (by kernel_rfl) rfl #[.slice A266_0 (rd_L1 y262 x30_2).length c266_0] rfl mA ?_;(with_reducible refine(Czk.calls k2 _ _ (rd_L1 y262 x30_2) t267 _ ?side1 ?side2 A20.out).mono ?_);(case side1=>exact cX (Kd.C_below HR266_0.out HB.out));(case side2=>exact HC266_0.out);rintro e w' ⟨rfl,⟨nd,rfl⟩⟩;refine⟨_,rfl,?_⟩))
            go_roundg k2
            case measure=>have:=HJ4.out;have:=HK2.out;omega
            case rel=>exact⟨(wrap64 (x7_2+t267)),(wrap64 (x30_2+1)),sD,sD,H',⟨by have:=HJ4.out;have:=HK2.out;omega⟩,⟨by(with_reducible repeat(first|refine blk_drewN ?_ _|refine blk_drew ?_|refine blk_alloc ?_ _));exact BK260.out⟩,⟨pB⟩⟩
           ·rw[if_neg c19] at H;exact absurd H (by simp)
          ·rw[if_neg c18] at H;exact absurd H (by simp)
         ·rw[if_neg c17] at H;have c17b0:decide (x30_2 < (y262.length:Int))=false:=decide_eq_false c17;clear c17;simp only[Option.some.injEq,Prod.mk.injEq] at H;obtain⟨rfl,rfl⟩:=H;go_wp2
          go_ret2
          exact⟨by first|rfl|(simp [errW_none,errW_some] <;> rfl)|(simp only[← hji12];first|rfl|(simp [errW_none,errW_some] <;> rfl))|(simp [*,errW_none,errW_some] <;> rfl),pB⟩
      ·rw[if_neg c14] at H;exact absurd H (by simp)
     ·rw[if_neg c13] at H;exact absurd H (by simp)
 ·rw[if_neg c4] at H;have c4b0:(t261 == 0)=false:=beq_eq_false_iff_ne.mpr c4;have c4b1:(t261 != 0)=true:=bne_iff_ne.mpr c4;simp only[Option.some.injEq,Prod.mk.injEq] at H;obtain⟨rfl,rfl⟩:=H;go_enter Try.func22,Try.ntmps22
  go_wp2_with (first|((with_reducible refine gate_dst (N:=2) rfl ?_);(try(refine gate_guard (by rfl) ?_;dsimp only));refine box_event ?hg (N:=2) ?hd (cs:=#[.int .i64 a0_0,.slice A0_1 l0_1.length c0_1]) (t:=24) ?hr ?_;(case hd=>rfl);(case hg=>rfl);(case hr=>first|(go_simp;done)|(go_simp;rfl));intro gb260 hg w21 hbox hb;have BK260:=aM (hbox);have GW260:=aM (gW hg:w.heap.size≤gb260);have GE260:=aM (gW hg:w.heap.size≤gb260);replace HB:=aM (below_step pB hb);clear hb hbox hg;obtain⟨hcz22_0,hcz22_1,hfz22_0,hfz22_1⟩:=bk2 BK260)|((with_reducible refine gate_callee (f:=13) rfl ?_);refine goesL_ (some 11) rfl rfl Try.func13 (by kernel_rfl) rfl #[.agg #[.int .i64 a0_0,.slice A0_1 l0_1.length c0_1]] rfl mA ?_;(with_reducible refine(Bzb.calls k a0_0 _ _ l0_1 t261 _ ?side1 ?side2 A3.out).mono ?_);(case side1=>exact cX (Kd.C_below HR0_1.out HB.out));(case side2=>exact HC0_1.out);rintro e w23 ⟨rfl,hb⟩;refine⟨_,rfl,?_⟩;replace BK260:=aM (kB BK260 hb);replace HB:=aM (below_step pB hb);(try clear hb);(try clear hb2);(try clear hk);(try clear hi)))
  go_ret2
  exact⟨eW,pB⟩

end Go.Proofs.Ytpnfdhhfdidlmaa.Print
