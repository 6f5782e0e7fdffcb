import Derived.Test.YtnklckihalhlmaaPrint0
import Derived.Test.YtnklckihalhlmaaPrint2
import Derived.Test.YtnklckihalhlmaaPrint7
import Derived.Test.YtnklckihalhlmaaPrint39
import Derived.Test.YtnklckihalhlmaaPrint42
import Derived.Test.YtnklckihalhlmaaPrint29
import Derived.Test.YtnklckihalhlmaaPrint38
namespace Go.Proofs.Ytnklckihalhlmaa.Print
open Go.RowKit Go.Proofs.YtnklckihalhlmaaW.PrintWords Go.Proofs.YtnklckihalhlmaaW.PrintLast Go.Proofs.YtnklckihalhlmaaW.PrintMore
attribute [local go_sem] max2_int min2_int max_two min_two max_three min_three max_four min_four
set_option linter.unusedVariables false
set_option maxRecDepth 100000
set_option maxHeartbeats 8000000
set_option linter.unusedSimpArgs false

def Dzq.l0:Nat→List (S46)→List Int→List (S31)→Int→Int→Option (List Int × Int)
 | 0,_,_,_,_,_=>none
 | k+1,x0,x7,x20,x21,x22=>if x22 < x21 then(if 0≤x22 then(if x22 < (x20.length:Int) then((Dzj.f k x0 ((rd_T31 x20 x22).f0) ((rd_T31 x20 x22).f1)).bind fun bt703=>(if bt703.2=0 then(if x7.length < 17592186044416 then(Dzq.l0 k x0 (x7 ++ [bt703.1]) x20 x21 (wrap64 (x22+1))) else(none)) else(some (([]:List Int),bt703.2)))) else(none)) else(none)) else(some (x7,0))
def Dzq.f (k:Nat) (l0:List (S46)) (l1:List (S31)):Option (List Int × Int):=(Bzj.f k l0).bind fun t700=>(if t700=0 then(if(l1.length:Int) > 512 then(some (([]:List Int),8)) else(Dzq.l0 k l0 ([]:List Int) l1 (l1.length:Int) 0)) else(some (([]:List Int),t700)))
theorem Dzq.mono_l:∀ k,(∀ y0 y1 y2 y3 y4,LeO (Dzq.l0 k y0 y1 y2 y3 y4) (Dzq.l0 (k+1) y0 y1 y2 y3 y4))
 | 0=>fun _ _ _ _ _ r h=>by simp [Dzq.l0] at h
 | k+1=>by
  have ih0:=Dzq.mono_l k
  ·intro y0 y1 y2 y3 y4;unfold Dzq.l0;with_reducible repeat' first|exact ih0 _ _ _ _ _|exact Bzj.mono _ _|exact Dzj.mono _ _ _ _|exact LeO.refl _|exact LeO.none _|refine LeO.ite ?_ ?_|refine LeO.bind ?_ (fun _=>?_)
theorem Dzq.mono:∀ a0 a1 k,LeO (Dzq.f k a0 a1) (Dzq.f (k+1) a0 a1):=by
 intro a0 a1 k;have ih0:=Dzq.mono_l k;unfold Dzq.f;with_reducible repeat' first|exact ih0 _ _ _ _ _|exact Bzj.mono _ _|exact Dzj.mono _ _ _ _|exact LeO.refl _|exact LeO.none _|refine LeO.ite ?_ ?_|refine LeO.bind ?_ (fun _=>?_)
theorem Dzq.calls (k:Nat) (A0:Option Addr) (c0:Nat) (l0:List (S46)) (A1:Option Addr) (c1:Nat) (l1:List (S31)) (r1:List Int) (r2:Int) (w:World) (hr0:Kd.C k46 w A0 l0.length l0) (hc0:l0.length≤c0) (hr1:Kd.C k31 w A1 l1.length l1) (hc1:l1.length≤c1) (h:Dzq.f k l0 l1=some (r1,r2)) :
  Calls Try.prog 28 #[.slice A0 l0.length c0,.slice A1 l1.length c1] w fun e w'=>∃ v0_:Value,e=.returned (.tuple #[v0_,.int .i64 r2])∧Kd.R (Kd.int .i64) 3 w' w.heap.size (fun _=>True) v0_ r1∧Below w.heap.size w w':=by
 have hu31:=Try.underlying31;have HR0:=aM hr0;have HC0:=aM hc0;clear hr0 hc0;have HR1:=aM hr1;have HC1:=aM hc1;clear hr1 hc1;have HB:=aM (Below.refl w.heap.size w);have H:((Bzj.f k l0).bind fun t700=>(if t700=0 then(if(l1.length:Int) > 512 then(some (([]:List Int),8)) else(Dzq.l0 k l0 ([]:List Int) l1 (l1.length:Int) 0)) else(some (([]:List Int),t700))))=some (r1,r2):=h
 clear h;replace H:=bS H;obtain⟨t700,A30,H⟩:=H;(try dsimp only at H);have A3:=aM A30;clear A30;by_cases c4:t700=0
 ·rw[if_pos c4] at H;have c4b0:(t700 == 0)=true:=beq_iff_eq.mpr c4;have c4b1:(t700 != 0)=false:=bne_eq_false_iff_eq.mpr c4;clear c4;by_cases c5:(l1.length:Int) > 512
  ·rw[if_pos c5] at H;have c5b0:decide (512 < (l1.length:Int))=true:=dE c5;have c5b1:decide (512 < l1.length)=true:=dE (by omega)
   clear c5;simp only[Option.some.injEq,Prod.mk.injEq] at H;obtain⟨rfl,rfl⟩:=H;go_enter Try.func28,Try.ntmps28
   go_wp2_with (first|((with_reducible refine gate_callee (f:=14) rfl ?_);refine goesL_ (some 13) rfl rfl Try.func14 (by kernel_rfl) rfl #[.slice A0 l0.length c0] rfl mA ?_;(with_reducible refine(Bzj.calls k _ _ l0 t700 _ ?side1 ?side2 A3.out).mono ?_);(case side1=>exact cX HR0.out);(case side2=>exact HC0.out);rintro e w6 ⟨rfl,hb⟩;refine⟨_,rfl,?_⟩;replace HB:=aM (below_step pB hb);(try clear hb);(try clear hb2);(try clear hk);(try clear hi)))
   go_ret2
   exact⟨_,eW,by first|exact Kd.R_nil _ _ _ _ _|exact Kd.N_nil _ _ _ _ _|exact Kd.V_nil _ _ _ _ _|exact Kd.Q_nil _ _ _ _ _|exact Kd.S_nil _ _ _ _ _,pB⟩
  ·rw[if_neg c5] at H;have c5b0:decide (512 < (l1.length:Int))=false:=decide_eq_false c5;have c5b1:decide (512 < l1.length)=false:=decide_eq_false (by omega)
   clear c5;have H':=aM H;clear H;go_enter Try.func28,Try.ntmps28
   go_wp2_with (first|((with_reducible refine gate_callee (f:=14) rfl ?_);refine goesL_ (some 13) rfl rfl Try.func14 (by kernel_rfl) rfl #[.slice A0 l0.length c0] rfl mA ?_;(with_reducible refine(Bzj.calls k _ _ l0 t700 _ ?side1 ?side2 A3.out).mono ?_);(case side1=>exact cX HR0.out);(case side2=>exact HC0.out);rintro e w7 ⟨rfl,hb⟩;refine⟨_,rfl,?_⟩;replace HB:=aM (below_step pB hb);(try clear hb);(try clear hb2);(try clear hk);(try clear hi)))
   try simp only[Act.put,sA,sZ,sC]
   go_loopg [7,22] k (fun kq v7 v22 w'=>∃ (x7_1:List Int) (x22_1:Int),v22=.int .i64 x22_1∧Aside0 (Dzq.l0 kq l0 x7_1 l1 (l1.length:Int) x22_1=some (r1,r2))∧Aside0 (kq≤k)∧Aside0 (Kd.R (Kd.int .i64) 3 w' w.heap.size (fun _=>True) v7 x7_1)∧Aside0 (Below w.heap.size w w'))
   case atStart=>exact⟨(([]:List Int)),(0),sD,H',⟨Nat.le_refl _⟩,⟨by first|exact Kd.R_nil _ _ _ _ _|exact Kd.N_nil _ _ _ _ _|exact Kd.V_nil _ _ _ _ _|exact Kd.Q_nil _ _ _ _ _|exact Kd.S_nil _ _ _ _ _⟩,⟨pB⟩⟩
   case round =>
    clear H';try clear c1
    try clear c2
    try clear p2
    try clear c4
    try clear c4b0
    try clear c4b1
    try clear c5
    try clear c5b0
    try clear c5b1
    obtain⟨x7_1,x22_1,rfl,HA,HK1,HO_7,HB⟩:=hrel;cases gk with
    | zero=>exact absurd HA.out (by simp [Dzq.l0])
    | succ k1 =>
     have H:=HA.out;clear HA;simp only[Dzq.l0] at H;by_cases c8:x22_1 < (l1.length:Int)
     ·rw[if_pos c8] at H;have c8b0:decide (x22_1 < (l1.length:Int))=true:=dE c8;clear c8;by_cases c9:0≤x22_1
      ·rw[if_pos c9] at H;have c9b0:decide (0≤x22_1)=true:=dE c9;clear c9;by_cases c10:x22_1 < (l1.length:Int)
       ·rw[if_pos c10] at H;have c10b0:decide (x22_1 < (l1.length:Int))=true:=dE c10;clear c10;replace H:=bS H;obtain⟨⟨t703,t704⟩,A110,H⟩:=H;(try dsimp only at H);have A11:=aM A110;clear A110;by_cases c12:t704=0
        ·rw[if_pos c12] at H;have c12b0:(t704 == 0)=true:=beq_iff_eq.mpr c12;have c12b1:(t704 != 0)=false:=bne_eq_false_iff_eq.mpr c12;clear c12;by_cases c13:x7_1.length < 17592186044416
         ·rw[if_pos c13] at H;have LMc13:=aM c13;clear c13;obtain⟨y705,hy705⟩:∃ y_:List Int,y_=(x7_1 ++ [t703]):=⟨_,rfl⟩;replace H:(Dzq.l0 k1 l0 y705 l1 (l1.length:Int) (wrap64 (x22_1+1)))=some (r1,r2):=by first|(rw[hy705];with_reducible exact H)|(have H2_:=(Option.bind_some _ _).symm.trans H;rw[hy705];with_reducible exact H2_)|(have H2_:=(Option.bind_some _ _).symm.trans H;with_reducible exact H2_)|with_reducible exact H|(rw[hy705];exact H)|exact H
          have Ny705:=aM hy705;clear hy705;have H':=aM H;clear H;have p701:0≤(x22_1:Int):=oE aS
          have q701:x22_1 < (l1.length:Int):=oE aS
          obtain⟨ad701,e701,hx701_0,hx701_1⟩:=at_T31 HR1.out x22_1 p701 q701;cases e701
          replace hx701_0:=(HB.out.cell (World.block_lt_of_cell? w _ hx701_0)).trans hx701_0;replace hx701_1:=(HB.out.cell (World.block_lt_of_cell? w _ hx701_1)).trans hx701_1;replace p701:=eq_true p701;replace q701:=eq_true q701;go_wp2_with (first|((with_reducible refine gate_dst (N:=9) rfl ?_);refine box_event ?hg (N:=9) ?hd (cs:=#[.int .i64 0,.int .i64 0]) (t:=31) ?hr ?_;(case hd=>rfl);(case hg=>rfl);(case hr=>first|(go_simp;done)|(go_simp;rfl));intro gb702 hg w14 hbox hb;have BK702:=aM (hbox);have GW702:=aM (gW hg:w.heap.size≤gb702);have GE702:=aM (gW hg:w.heap.size≤gb702);replace HO_7:=aM (Kd.R_below (rX HO_7.out) hb);replace HB:=aM (below_step pB hb);clear hb hbox hg;obtain⟨hcz15_0,hcz15_1,hfz15_0,hfz15_1⟩:=bk2 BK702)|((with_reducible refine gate_callee (f:=35) rfl ?_);refine goesL_ (some 29) rfl rfl Try.func35 (by kernel_rfl) rfl #[.slice A0 l0.length c0,.agg #[.int .i64 ((rd_T31 l1 x22_1).f0),.int .i64 ((rd_T31 l1 x22_1).f1)]] rfl mA ?_;(with_reducible refine(Dzj.calls k1 _ _ l0 ((rd_T31 l1 x22_1).f0) ((rd_T31 l1 x22_1).f1) t703 t704 _ ?side1 ?side2 A11.out).mono ?_);(case side1=>exact Kd.C_below HR0.out pB);(case side2=>exact HC0.out);rintro e w16 ⟨rfl,hb⟩;refine⟨_,rfl,?_⟩;replace HO_7:=aM (Kd.R_below (rX (Kd.R_mono (Kd.R_far (p:=⟨gb702,1,none⟩) (Kd.R_far (p:=⟨gb702,0,none⟩) (Kd.R_types HO_7.out BK702.out (by decide)) (fun _ hk=>hk.2) (.int .i64 ((rd_T31 l1 x22_1).f0))) (fun _ hk=>hk.2) (.int .i64 ((rd_T31 l1 x22_1).f1))) (fun _ h_=>h_.1))) hb);replace BK702:=aM (blk_below (g:=gb702) (o:=.cells #[.int .i64 ((rd_T31 l1 x22_1).f0),.int .i64 ((rd_T31 l1 x22_1).f1)] 31 (0,0)) (by refine bD ?_;refine blk_put (cs:=#[.int .i64 ((rd_T31 l1 x22_1).f0),.int .i64 0]) ?_ 1 _ rfl;refine bD ?_;refine blk_put (cs:=#[.int .i64 0,.int .i64 0]) ?_ 0 _ rfl;(with_reducible repeat(first|refine blk_drewN ?_ _|refine blk_drew ?_|refine blk_alloc ?_ _));exact BK702.out) hb);replace HB:=aM (below_step pB hb);(try clear hb);(try clear hb2);(try clear hk);(try clear hi))|((with_reducible refine gate_builtin (b:=.append) (xs:=#[.tmp 35,.tmp 37]) rfl ?_);at_builtin;refine Kd.R_append (Kd.int .i64) (w0:=w) w.heap.size rfl (.tmp 35) (.tmp 37) 34 3 (.int .i64 0) 8 rfl Try.underlying34 info3 rfl (by decide) (by omega) u7 x7_1 t703 [.int .i64 t703] (fun _=>True) (fun _=>False) rfl rfl ?aP (fun _ hk=>hk.elim) ?aF ?aO ?aB ?aS ?aL ?_;(case aP=>exact rfl);(case aB=>exact pB);(case aF=>exact(fun _ _=>trivial));(case aO=>exact(rX HO_7.out));(case aS=>exact(below_size pB));(case aL=>have:=LMc13.out;omega);intro v706 w17 ho hb hg hat;rw[← Ny705.out] at ho;have HO707:=aM (ho);replace BK702:=aM (blk_grown (g:=gb702) (o:=.cells #[.int .i64 ((rd_T31 l1 x22_1).f0),.int .i64 ((rd_T31 l1 x22_1).f1)] 31 (0,0)) (kW BK702) hg (Kd.R_ne HO_7.out BK702.out (by decide)));replace HB:=aM (hb);clear HO_7;clear ho hb hg hat))
          go_roundg k1
          case measure=>have:=HK1.out;omega
          case rel=>exact⟨(y705),(wrap64 (x22_1+1)),sD,H',⟨by have:=HK1.out;omega⟩,⟨rX HO707.out⟩,⟨pB⟩⟩
         ·rw[if_neg c13] at H;exact absurd H (by simp)
        ·rw[if_neg c12] at H;have c12b0:(t704 == 0)=false:=beq_eq_false_iff_ne.mpr c12;have c12b1:(t704 != 0)=true:=bne_iff_ne.mpr c12;simp only[Option.some.injEq,Prod.mk.injEq] at H;obtain⟨rfl,rfl⟩:=H;have p701:0≤(x22_1:Int):=oE aS
         have q701:x22_1 < (l1.length:Int):=oE aS
         obtain⟨ad701,e701,hx701_0,hx701_1⟩:=at_T31 HR1.out x22_1 p701 q701;cases e701
         replace hx701_0:=(HB.out.cell (World.block_lt_of_cell? w _ hx701_0)).trans hx701_0;replace hx701_1:=(HB.out.cell (World.block_lt_of_cell? w _ hx701_1)).trans hx701_1;replace p701:=eq_true p701;replace q701:=eq_true q701;go_wp2_with (first|((with_reducible refine gate_dst (N:=9) rfl ?_);refine box_event ?hg (N:=9) ?hd (cs:=#[.int .i64 0,.int .i64 0]) (t:=31) ?hr ?_;(case hd=>rfl);(case hg=>rfl);(case hr=>first|(go_simp;done)|(go_simp;rfl));intro gb702 hg w18 hbox hb;have BK702:=aM (hbox);have GW702:=aM (gW hg:w.heap.size≤gb702);have GE702:=aM (gW hg:w.heap.size≤gb702);replace HO_7:=aM (Kd.R_below (rX HO_7.out) hb);replace HB:=aM (below_step pB hb);clear hb hbox hg;obtain⟨hcz19_0,hcz19_1,hfz19_0,hfz19_1⟩:=bk2 BK702)|((with_reducible refine gate_callee (f:=35) rfl ?_);refine goesL_ (some 29) rfl rfl Try.func35 (by kernel_rfl) rfl #[.slice A0 l0.length c0,.agg #[.int .i64 ((rd_T31 l1 x22_1).f0),.int .i64 ((rd_T31 l1 x22_1).f1)]] rfl mA ?_;(with_reducible refine(Dzj.calls k1 _ _ l0 ((rd_T31 l1 x22_1).f0) ((rd_T31 l1 x22_1).f1) t703 t704 _ ?side1 ?side2 A11.out).mono ?_);(case side1=>exact Kd.C_below HR0.out pB);(case side2=>exact HC0.out);rintro e w20 ⟨rfl,hb⟩;refine⟨_,rfl,?_⟩;replace HO_7:=aM (Kd.R_below (rX (Kd.R_mono (Kd.R_far (p:=⟨gb702,1,none⟩) (Kd.R_far (p:=⟨gb702,0,none⟩) (Kd.R_types HO_7.out BK702.out (by decide)) (fun _ hk=>hk.2) (.int .i64 ((rd_T31 l1 x22_1).f0))) (fun _ hk=>hk.2) (.int .i64 ((rd_T31 l1 x22_1).f1))) (fun _ h_=>h_.1))) hb);replace BK702:=aM (blk_below (g:=gb702) (o:=.cells #[.int .i64 ((rd_T31 l1 x22_1).f0),.int .i64 ((rd_T31 l1 x22_1).f1)] 31 (0,0)) (by refine bD ?_;refine blk_put (cs:=#[.int .i64 ((rd_T31 l1 x22_1).f0),.int .i64 0]) ?_ 1 _ rfl;refine bD ?_;refine blk_put (cs:=#[.int .i64 0,.int .i64 0]) ?_ 0 _ rfl;(with_reducible repeat(first|refine blk_drewN ?_ _|refine blk_drew ?_|refine blk_alloc ?_ _));exact BK702.out) hb);replace HB:=aM (below_step pB hb);(try clear hb);(try clear hb2);(try clear hk);(try clear hi)))
         go_ret2
         exact⟨_,eW,by first|exact Kd.R_nil _ _ _ _ _|exact Kd.N_nil _ _ _ _ _|exact Kd.V_nil _ _ _ _ _|exact Kd.Q_nil _ _ _ _ _|exact Kd.S_nil _ _ _ _ _,pB⟩
       ·rw[if_neg c10] at H;exact absurd H (by simp)
      ·rw[if_neg c9] at H;exact absurd H (by simp)
     ·rw[if_neg c8] at H;have c8b0:decide (x22_1 < (l1.length:Int))=false:=decide_eq_false c8;clear c8;simp only[Option.some.injEq,Prod.mk.injEq] at H;obtain⟨rfl,rfl⟩:=H;go_wp2
      go_ret2
      exact⟨_,eW,rX HO_7.out,pB⟩
 ·rw[if_neg c4] at H;have c4b0:(t700 == 0)=false:=beq_eq_false_iff_ne.mpr c4;have c4b1:(t700 != 0)=true:=bne_iff_ne.mpr c4;simp only[Option.some.injEq,Prod.mk.injEq] at H;obtain⟨rfl,rfl⟩:=H;go_enter Try.func28,Try.ntmps28
  go_wp2_with (first|((with_reducible refine gate_callee (f:=14) rfl ?_);refine goesL_ (some 13) rfl rfl Try.func14 (by kernel_rfl) rfl #[.slice A0 l0.length c0] rfl mA ?_;(with_reducible refine(Bzj.calls k _ _ l0 t700 _ ?side1 ?side2 A3.out).mono ?_);(case side1=>exact cX HR0.out);(case side2=>exact HC0.out);rintro e w21 ⟨rfl,hb⟩;refine⟨_,rfl,?_⟩;replace HB:=aM (below_step pB hb);(try clear hb);(try clear hb2);(try clear hk);(try clear hi)))
  go_ret2
  exact⟨_,eW,by first|exact Kd.R_nil _ _ _ _ _|exact Kd.N_nil _ _ _ _ _|exact Kd.V_nil _ _ _ _ _|exact Kd.Q_nil _ _ _ _ _|exact Kd.S_nil _ _ _ _ _,pB⟩

def Czy.l0:Nat→List (S46)→List (S31)→List Int→Int→Option (List Int × Int)
 | 0,_,_,_,_=>none
 | k+1,x0,x1,x7,x8=>if x8 < (x1.length:Int) then(if 0≤x8 then((Bzx.f k x0 ((rd_T31 x1 x8).f0) ((rd_T31 x1 x8).f1)).bind fun bt710=>(if bt710.2=0 then(if x7.length < 17592186044416 then(Czy.l0 k x0 x1 (x7 ++ [bt710.1]) (wrap64 (x8+1))) else(none)) else(some (([]:List Int),bt710.2)))) else(none)) else(some (x7,0))
def Czy.f (k:Nat) (l0:List (S46)) (l1:List (S31)):Option (List Int × Int):=(Azp.f k l0).bind fun t708=>(if t708=0 then(if(l1.length:Int) > 512 then(some (([]:List Int),8)) else(Czy.l0 k l0 l1 ([]:List Int) 0)) else(some (([]:List Int),t708)))
theorem Czy.mono_l:∀ k,(∀ y0 y1 y2 y3,LeO (Czy.l0 k y0 y1 y2 y3) (Czy.l0 (k+1) y0 y1 y2 y3))
 | 0=>fun _ _ _ _ r h=>by simp [Czy.l0] at h
 | k+1=>by
  have ih0:=Czy.mono_l k
  ·intro y0 y1 y2 y3;unfold Czy.l0;with_reducible repeat' first|exact ih0 _ _ _ _|exact Azp.mono _ _|exact Bzx.mono _ _ _ _|exact LeO.refl _|exact LeO.none _|refine LeO.ite ?_ ?_|refine LeO.bind ?_ (fun _=>?_)
theorem Czy.mono:∀ a0 a1 k,LeO (Czy.f k a0 a1) (Czy.f (k+1) a0 a1):=by
 intro a0 a1 k;have ih0:=Czy.mono_l k;unfold Czy.f;with_reducible repeat' first|exact ih0 _ _ _ _|exact Azp.mono _ _|exact Bzx.mono _ _ _ _|exact LeO.refl _|exact LeO.none _|refine LeO.ite ?_ ?_|refine LeO.bind ?_ (fun _=>?_)
theorem Czy.calls (k:Nat) (A0:Option Addr) (c0:Nat) (l0:List (S46)) (A1:Option Addr) (c1:Nat) (l1:List (S31)) (r1:List Int) (r2:Int) (w:World) (hr0:Kd.C k46 w A0 l0.length l0) (hc0:l0.length≤c0) (hr1:Kd.C k31 w A1 l1.length l1) (hc1:l1.length≤c1) (h:Czy.f k l0 l1=some (r1,r2)) :
  Calls Try.prog 29 #[.slice A0 l0.length c0,.slice A1 l1.length c1] w fun e w'=>∃ v0_:Value,e=.returned (.tuple #[v0_,.int .i64 r2])∧Kd.R (Kd.int .i64) 3 w' w.heap.size (fun _=>True) v0_ r1∧Below w.heap.size w w':=by
 have hu31:=Try.underlying31;have HR0:=aM hr0;have HC0:=aM hc0;clear hr0 hc0;have HR1:=aM hr1;have HC1:=aM hc1;clear hr1 hc1;have HB:=aM (Below.refl w.heap.size w);have H:((Azp.f k l0).bind fun t708=>(if t708=0 then(if(l1.length:Int) > 512 then(some (([]:List Int),8)) else(Czy.l0 k l0 l1 ([]:List Int) 0)) else(some (([]:List Int),t708))))=some (r1,r2):=h
 clear h;replace H:=bS H;obtain⟨t708,A30,H⟩:=H;(try dsimp only at H);have A3:=aM A30;clear A30;by_cases c4:t708=0
 ·rw[if_pos c4] at H;have c4b0:(t708 == 0)=true:=beq_iff_eq.mpr c4;have c4b1:(t708 != 0)=false:=bne_eq_false_iff_eq.mpr c4;clear c4;by_cases c5:(l1.length:Int) > 512
  ·rw[if_pos c5] at H;have c5b0:decide (512 < (l1.length:Int))=true:=dE c5;have c5b1:decide (512 < l1.length)=true:=dE (by omega)
   clear c5;simp only[Option.some.injEq,Prod.mk.injEq] at H;obtain⟨rfl,rfl⟩:=H;go_enter Try.func29,Try.ntmps29
   go_wp2_with (first|((with_reducible refine gate_callee (f:=15) rfl ?_);refine goesL_ (some 12) rfl rfl Try.func15 (by kernel_rfl) rfl #[.slice A0 l0.length c0] rfl mA ?_;(with_reducible refine(Azp.calls k _ _ l0 t708 _ ?side1 ?side2 A3.out).mono ?_);(case side1=>exact cX HR0.out);(case side2=>exact HC0.out);rintro e w' ⟨rfl,⟨nd,rfl⟩⟩;refine⟨_,rfl,?_⟩))
   go_ret2
   exact⟨_,eW,by first|exact Kd.R_nil _ _ _ _ _|exact Kd.N_nil _ _ _ _ _|exact Kd.V_nil _ _ _ _ _|exact Kd.Q_nil _ _ _ _ _|exact Kd.S_nil _ _ _ _ _,pB⟩
  ·rw[if_neg c5] at H;have c5b0:decide (512 < (l1.length:Int))=false:=decide_eq_false c5;have c5b1:decide (512 < l1.length)=false:=decide_eq_false (by omega)
   clear c5;have H':=aM H;clear H;go_enter Try.func29,Try.ntmps29
   go_wp2_with (first|((with_reducible refine gate_callee (f:=15) rfl ?_);refine goesL_ (some 12) rfl rfl Try.func15 (by kernel_rfl) rfl #[.slice A0 l0.length c0] rfl mA ?_;(with_reducible refine(Azp.calls k _ _ l0 t708 _ ?side1 ?side2 A3.out).mono ?_);(case side1=>exact cX HR0.out);(case side2=>exact HC0.out);rintro e w' ⟨rfl,⟨nd,rfl⟩⟩;refine⟨_,rfl,?_⟩))
   try simp only[Act.put,sA,sZ,sC]
   go_loopg [7,8] k (fun kq v7 v8 w'=>∃ (x7_1:List Int) (x8_1:Int),v8=.int .i64 x8_1∧Aside0 (Czy.l0 kq l0 l1 x7_1 x8_1=some (r1,r2))∧Aside0 (kq≤k)∧Aside0 (Kd.R (Kd.int .i64) 3 w' w.heap.size (fun _=>True) v7 x7_1)∧Aside0 (Below w.heap.size w w'))
   case atStart=>exact⟨(([]:List Int)),(0),sD,H',⟨Nat.le_refl _⟩,⟨by first|exact Kd.R_nil _ _ _ _ _|exact Kd.N_nil _ _ _ _ _|exact Kd.V_nil _ _ _ _ _|exact Kd.Q_nil _ _ _ _ _|exact Kd.S_nil _ _ _ _ _⟩,⟨pB⟩⟩
   case round =>
    clear H';try clear c1
    try clear c2
    try clear p2
    try clear c4
    try clear c4b0
    try clear c4b1
    try clear c5
    try clear c5b0
    try clear c5b1
    obtain⟨x7_1,x8_1,rfl,HA,HK1,HO_7,HB⟩:=hrel;cases gk with
    | zero=>exact absurd HA.out (by simp [Czy.l0])
    | succ k1 =>
     have H:=HA.out;clear HA;simp only[Czy.l0] at H;by_cases c6:x8_1 < (l1.length:Int)
     ·rw[if_pos c6] at H;have c6b0:decide (x8_1 < (l1.length:Int))=true:=dE c6;clear c6;by_cases c7:0≤x8_1
      ·rw[if_pos c7] at H;have c7b0:decide (0≤x8_1)=true:=dE c7;clear c7;replace H:=bS H;obtain⟨⟨t710,t711⟩,A80,H⟩:=H;(try dsimp only at H);have A8:=aM A80;clear A80;by_cases c9:t711=0
       ·rw[if_pos c9] at H;have c9b0:(t711 == 0)=true:=beq_iff_eq.mpr c9;have c9b1:(t711 != 0)=false:=bne_eq_false_iff_eq.mpr c9;clear c9;by_cases c10:x7_1.length < 17592186044416
        ·rw[if_pos c10] at H;have LMc10:=aM c10;clear c10;obtain⟨y712,hy712⟩:∃ y_:List Int,y_=(x7_1 ++ [t710]):=⟨_,rfl⟩;replace H:(Czy.l0 k1 l0 l1 y712 (wrap64 (x8_1+1)))=some (r1,r2):=by first|(rw[hy712];with_reducible exact H)|(have H2_:=(Option.bind_some _ _).symm.trans H;rw[hy712];with_reducible exact H2_)|(have H2_:=(Option.bind_some _ _).symm.trans H;with_reducible exact H2_)|with_reducible exact H|(rw[hy712];exact H)|exact H
         have Ny712:=aM hy712;clear hy712;have H':=aM H;clear H;have p709:0≤(x8_1:Int):=oE aS
         have q709:x8_1 < (l1.length:Int):=oE aS
         obtain⟨ad709,e709,hx709_0,hx709_1⟩:=at_T31 HR1.out x8_1 p709 q709;cases e709
         replace hx709_0:=(HB.out.cell (World.block_lt_of_cell? w _ hx709_0)).trans hx709_0;replace hx709_1:=(HB.out.cell (World.block_lt_of_cell? w _ hx709_1)).trans hx709_1;replace p709:=eq_true p709;replace q709:=eq_true q709;go_wp2_with (first|((with_reducible refine gate_callee (f:=17) rfl ?_);refine goesL_ (some 31) rfl rfl Try.func17 (by kernel_rfl) rfl #[.slice A0 l0.length c0,.agg #[.int .i64 ((rd_T31 l1 x8_1).f0),.int .i64 ((rd_T31 l1 x8_1).f1)]] rfl mA ?_;(with_reducible refine(Bzx.calls k1 _ _ l0 ((rd_T31 l1 x8_1).f0) ((rd_T31 l1 x8_1).f1) t710 t711 _ ?side1 ?side2 A8.out).mono ?_);(case side1=>exact cX (Kd.C_below HR0.out HB.out));(case side2=>exact HC0.out);rintro e w11 ⟨rfl,hb⟩;refine⟨_,rfl,?_⟩;replace HO_7:=aM (Kd.R_below (rX HO_7.out) hb);replace HB:=aM (below_step pB hb);(try clear hb);(try clear hb2);(try clear hk);(try clear hi))|((with_reducible refine gate_builtin (b:=.append) (xs:=#[.tmp 37,.tmp 39]) rfl ?_);at_builtin;refine Kd.R_append (Kd.int .i64) (w0:=w) w.heap.size rfl (.tmp 37) (.tmp 39) 34 3 (.int .i64 0) 8 rfl Try.underlying34 info3 rfl (by decide) (by omega) u7 x7_1 t710 [.int .i64 t710] (fun _=>True) (fun _=>False) rfl rfl ?aP (fun _ hk=>hk.elim) ?aF ?aO ?aB ?aS ?aL ?_;(case aP=>exact rfl);(case aB=>exact pB);(case aF=>exact(fun _ _=>trivial));(case aO=>exact(rX HO_7.out));(case aS=>exact(below_size pB));(case aL=>have:=LMc10.out;omega);intro v713 w12 ho hb hg hat;rw[← Ny712.out] at ho;have HO714:=aM (ho);replace HB:=aM (hb);clear HO_7;clear ho hb hg hat))
         go_roundg k1
         case measure=>have:=HK1.out;omega
         case rel=>exact⟨(y712),(wrap64 (x8_1+1)),sD,H',⟨by have:=HK1.out;omega⟩,⟨rX HO714.out⟩,⟨pB⟩⟩
        ·rw[if_neg c10] at H;exact absurd H (by simp)
       ·rw[if_neg c9] at H;have c9b0:(t711 == 0)=false:=beq_eq_false_iff_ne.mpr c9;have c9b1:(t711 != 0)=true:=bne_iff_ne.mpr c9;simp only[Option.some.injEq,Prod.mk.injEq] at H;obtain⟨rfl,rfl⟩:=H;have p709:0≤(x8_1:Int):=oE aS
        have q709:x8_1 < (l1.length:Int):=oE aS
        obtain⟨ad709,e709,hx709_0,hx709_1⟩:=at_T31 HR1.out x8_1 p709 q709;cases e709
        replace hx709_0:=(HB.out.cell (World.block_lt_of_cell? w _ hx709_0)).trans hx709_0;replace hx709_1:=(HB.out.cell (World.block_lt_of_cell? w _ hx709_1)).trans hx709_1;replace p709:=eq_true p709;replace q709:=eq_true q709;go_wp2_with (first|((with_reducible refine gate_callee (f:=17) rfl ?_);refine goesL_ (some 31) rfl rfl Try.func17 (by kernel_rfl) rfl #[.slice A0 l0.length c0,.agg #[.int .i64 ((rd_T31 l1 x8_1).f0),.int .i64 ((rd_T31 l1 x8_1).f1)]] rfl mA ?_;(with_reducible refine(Bzx.calls k1 _ _ l0 ((rd_T31 l1 x8_1).f0) ((rd_T31 l1 x8_1).f1) t710 t711 _ ?side1 ?side2 A8.out).mono ?_);(case side1=>exact cX (Kd.C_below HR0.out HB.out));(case side2=>exact HC0.out);rintro e w13 ⟨rfl,hb⟩;refine⟨_,rfl,?_⟩;replace HO_7:=aM (Kd.R_below (rX HO_7.out) hb);replace HB:=aM (below_step pB hb);(try clear hb);(try clear hb2);(try clear hk);(try clear hi)))
        go_ret2
        exact⟨_,eW,by first|exact Kd.R_nil _ _ _ _ _|exact Kd.N_nil _ _ _ _ _|exact Kd.V_nil _ _ _ _ _|exact Kd.Q_nil _ _ _ _ _|exact Kd.S_nil _ _ _ _ _,pB⟩
      ·rw[if_neg c7] at H;exact absurd H (by simp)
     ·rw[if_neg c6] at H;have c6b0:decide (x8_1 < (l1.length:Int))=false:=decide_eq_false c6;clear c6;simp only[Option.some.injEq,Prod.mk.injEq] at H;obtain⟨rfl,rfl⟩:=H;go_wp2
      go_ret2
      exact⟨_,eW,rX HO_7.out,pB⟩
 ·rw[if_neg c4] at H;have c4b0:(t708 == 0)=false:=beq_eq_false_iff_ne.mpr c4;have c4b1:(t708 != 0)=true:=bne_iff_ne.mpr c4;simp only[Option.some.injEq,Prod.mk.injEq] at H;obtain⟨rfl,rfl⟩:=H;go_enter Try.func29,Try.ntmps29
  go_wp2_with (first|((with_reducible refine gate_callee (f:=15) rfl ?_);refine goesL_ (some 12) rfl rfl Try.func15 (by kernel_rfl) rfl #[.slice A0 l0.length c0] rfl mA ?_;(with_reducible refine(Azp.calls k _ _ l0 t708 _ ?side1 ?side2 A3.out).mono ?_);(case side1=>exact cX HR0.out);(case side2=>exact HC0.out);rintro e w' ⟨rfl,⟨nd,rfl⟩⟩;refine⟨_,rfl,?_⟩))
  go_ret2
  exact⟨_,eW,by first|exact Kd.R_nil _ _ _ _ _|exact Kd.N_nil _ _ _ _ _|exact Kd.V_nil _ _ _ _ _|exact Kd.Q_nil _ _ _ _ _|exact Kd.S_nil _ _ _ _ _,pB⟩


def Bzw.j0:Nat→List (S46)→List (S31)→Bool→Option (Bool)
 | 0,_,_,_=>none
 | k+1,x0,x1,x26=>if x26=true then((Azb.f k).bind fun t715=>(some t715)) else((Dzq.f k x0 x1).bind fun bt716=>((Czy.f k x0 x1).bind fun bt720=>((Czv.f k bt716.1 bt720.1).bind fun t724=>(if t724=true then(if bt716.2=bt720.2 then((Azb.f k).bind fun t725=>(some t725)) else(none)) else(none)))))
def Bzw.f (k:Nat) (l0:List (S46)) (l1:List (S31)):Option (Bool):=if(l0.length:Int) > 60 then(Bzw.j0 k l0 l1 true) else(if(l1.length:Int) > 40 then(if(l1.length:Int)≤512 then(Bzw.j0 k l0 l1 true) else(Bzw.j0 k l0 l1 (decide ((l1.length:Int) > 600)))) else(Bzw.j0 k l0 l1 (decide ((l1.length:Int) > 600))))
theorem Bzw.mono_l:∀ k,(∀ y0 y1 y2,LeO (Bzw.j0 k y0 y1 y2) (Bzw.j0 (k+1) y0 y1 y2))
 | 0=>fun _ _ _ r h=>by simp [Bzw.j0] at h
 | k+1=>by
  have ih0:=Bzw.mono_l k
  ·intro y0 y1 y2;unfold Bzw.j0;with_reducible repeat' first|exact ih0 _ _ _|exact Dzq.mono _ _ _|exact Azb.mono _|exact Czv.mono _ _ _|exact Czy.mono _ _ _|exact LeO.refl _|exact LeO.none _|refine LeO.ite ?_ ?_|refine LeO.bind ?_ (fun _=>?_)
theorem Bzw.mono:∀ a0 a1 k,LeO (Bzw.f k a0 a1) (Bzw.f (k+1) a0 a1):=by
 intro a0 a1 k;have ih0:=Bzw.mono_l k;unfold Bzw.f;with_reducible repeat' first|exact ih0 _ _ _|exact Dzq.mono _ _ _|exact Azb.mono _|exact Czv.mono _ _ _|exact Czy.mono _ _ _|exact LeO.refl _|exact LeO.none _|refine LeO.ite ?_ ?_|refine LeO.bind ?_ (fun _=>?_)
theorem Bzw.calls (k:Nat) (A0:Option Addr) (c0:Nat) (l0:List (S46)) (A1:Option Addr) (c1:Nat) (l1:List (S31)) (r:Bool) (w:World) (hr0:Kd.C k46 w A0 l0.length l0) (hc0:l0.length≤c0) (hr1:Kd.C k31 w A1 l1.length l1) (hc1:l1.length≤c1) (h:Bzw.f k l0 l1=some r) :
  Calls Try.prog 8 #[.slice A0 l0.length c0,.slice A1 l1.length c1] w fun e w'=>e=.returned (.bool r)∧Below w.heap.size w w':=by
 have HR0:=aM hr0;have HC0:=aM hc0;clear hr0 hc0;have HR1:=aM hr1;have HC1:=aM hc1;clear hr1 hc1;have HB:=aM (Below.refl w.heap.size w);have H:(if(l0.length:Int) > 60 then(Bzw.j0 k l0 l1 true) else(if(l1.length:Int) > 40 then(if(l1.length:Int)≤512 then(Bzw.j0 k l0 l1 true) else(Bzw.j0 k l0 l1 (decide ((l1.length:Int) > 600)))) else(Bzw.j0 k l0 l1 (decide ((l1.length:Int) > 600)))))=some r:=h
 clear h;have HC3:=aM H;clear H;go_enter Try.func8,Try.ntmps8
 go_upto_region 1 with (fail)
 go_cut [26] (fun v26 wc=>∃ (kq:Nat) (x26_2:Bool),v26=.bool x26_2∧Aside0 (Bzw.j0 kq l0 l1 x26_2=some r)∧Aside0 (kq≤k)∧Aside0 (Below w.heap.size w wc))
 case first =>
  have H:=HC3.out;clear HC3;by_cases c4:(l0.length:Int) > 60
  ·rw[if_pos c4] at H;have c4b0:decide (60 < (l0.length:Int))=true:=dE c4;have c4b1:decide (60 < l0.length)=true:=dE (by omega)
   clear c4;(first|rw[c4b0]|(simp only[i64_w,i32_w];rw[c4b0])|skip)
   have H':=aM H;clear H;go_wp2
   go_meet
   case rel=>exact⟨_,(true),sD,H',⟨by first|omega|exact Nat.le_refl _⟩,⟨pB⟩⟩
  ·rw[if_neg c4] at H;have c4b0:decide (60 < (l0.length:Int))=false:=decide_eq_false c4;have c4b1:decide (60 < l0.length)=false:=decide_eq_false (by omega)
   clear c4;(first|rw[c4b0]|(simp only[i64_w,i32_w];rw[c4b0])|skip)
   by_cases c5:(l1.length:Int) > 40
   ·rw[if_pos c5] at H;have c5b0:decide (40 < (l1.length:Int))=true:=dE c5;have c5b1:decide (40 < l1.length)=true:=dE (by omega)
    clear c5;by_cases c6:(l1.length:Int)≤512
    ·rw[if_pos c6] at H;have c6b0:decide ((l1.length:Int)≤512)=true:=dE c6;have c6b1:decide (l1.length≤512)=true:=dE (by omega)
     clear c6;have H':=aM H;clear H;go_wp2
     go_meet
     case rel=>exact⟨_,(true),sD,H',⟨by first|omega|exact Nat.le_refl _⟩,⟨pB⟩⟩
    ·rw[if_neg c6] at H;have c6b0:decide ((l1.length:Int)≤512)=false:=decide_eq_false c6;have c6b1:decide (l1.length≤512)=false:=decide_eq_false (by omega)
     clear c6;have H':=aM H;clear H;go_wp2
     go_meet
     case rel=>exact⟨_,(decide ((l1.length:Int) > 600)),sD,H',⟨by first|omega|exact Nat.le_refl _⟩,⟨pB⟩⟩
   ·rw[if_neg c5] at H;have c5b0:decide (40 < (l1.length:Int))=false:=decide_eq_false c5;have c5b1:decide (40 < l1.length)=false:=decide_eq_false (by omega)
    clear c5;have H':=aM H;clear H;go_wp2
    go_meet
    case rel=>exact⟨_,(decide ((l1.length:Int) > 600)),sD,H',⟨by first|omega|exact Nat.le_refl _⟩,⟨pB⟩⟩
 case rest =>
  clear HC3;try clear c1
  try clear p2
  try clear c4
  try clear c4b0
  try clear c4b1
  try clear c5
  try clear c5b0
  try clear c5b1
  try clear c6
  try clear c6b0
  try clear c6b1
  obtain⟨kq,x26_2,rfl,HA,HJ2,HB⟩:=hcut;cases kq with
  | zero=>exact absurd HA.out (by simp [Bzw.j0])
  | succ kj2 =>
   have H:=HA.out;clear HA;simp only[Bzw.j0] at H;by_cases c7:x26_2=true
   ·subst c7;rw[if_pos rfl] at H;replace H:=bS H;obtain⟨t715,A80,H⟩:=H;replace H:(some t715)=some r:=H;have A8:=aM A80;clear A80;obtain rfl:=Option.some.inj H;go_wp2_with (first|((with_reducible refine gate_callee (f:=11) rfl ?_);refine goesL_ (some 27) rfl rfl Try.func11 (by kernel_rfl) rfl #[] rfl mA ?_;(with_reducible refine(Azb.calls kj2  t715 _ A8.out).mono ?_);rintro e w9 ⟨rfl,hb⟩;refine⟨_,rfl,?_⟩;replace HB:=aM (below_step pB hb);(try clear hb);(try clear hb2);(try clear hk);(try clear hi)))
    go_ret
    exact⟨eW,pB⟩
   ·replace c7:=Bool.eq_false_iff.mpr c7;subst c7;rw[if_neg (show ¬ (false=true) by decide)] at H
    replace H:=bS H;obtain⟨⟨t716,t717⟩,A100,H⟩:=H;(try dsimp only at H);have A10:=aM A100;clear A100;replace H:=bS H;obtain⟨⟨t720,t721⟩,A110,H⟩:=H;(try dsimp only at H);have A11:=aM A110;clear A110;replace H:=bS H;obtain⟨t724,A120,H⟩:=H;(try dsimp only at H);have A12:=aM A120;clear A120;by_cases c13:t724=true
    ·subst c13;rw[if_pos rfl] at H;by_cases c14:t717=t721
     ·rw[if_pos c14] at H;have c14b0:(t717 == t721)=true:=beq_iff_eq.mpr c14;have c14b1:(t717 != t721)=false:=bne_eq_false_iff_eq.mpr c14;clear c14;replace H:=bS H;obtain⟨t725,A150,H⟩:=H;replace H:(some t725)=some r:=H;have A15:=aM A150;clear A150;obtain rfl:=Option.some.inj H;go_wp2_with (first|((with_reducible refine gate_callee (f:=28) rfl ?_);refine goesL_ (some 31) rfl rfl Try.func28 (by kernel_rfl) rfl #[.slice A0 l0.length c0,.slice A1 l1.length c1] rfl mA ?_;(with_reducible refine(Dzq.calls kj2 _ _ l0 _ _ l1 t716 t717 _ ?side1 ?side2 ?side3 ?side4 A10.out).mono ?_);(case side1=>exact cX (Kd.C_below HR0.out HB.out));(case side2=>exact HC0.out);(case side3=>exact cX (Kd.C_below HR1.out HB.out));(case side4=>exact HC1.out);rintro e w16 ⟨v718,rfl,ho0,hb⟩;refine⟨_,rfl,?_⟩;have HO719:=aM (Kd.R_lower ho0 (below_size pB));replace HB:=aM (below_step pB hb);(try clear hb);(try clear hb2);(try clear hk);(try clear hi);(try clear ho0))|((with_reducible refine gate_callee (f:=29) rfl ?_);refine goesL_ (some 37) rfl rfl Try.func29 (by kernel_rfl) rfl #[.slice A0 l0.length c0,.slice A1 l1.length c1] rfl mA ?_;(with_reducible refine(Czy.calls kj2 _ _ l0 _ _ l1 t720 t721 _ ?side1 ?side2 ?side3 ?side4 A11.out).mono ?_);(case side1=>exact cX (Kd.C_below HR0.out HB.out));(case side2=>exact HC0.out);(case side3=>exact cX (Kd.C_below HR1.out HB.out));(case side4=>exact HC1.out);rintro e w17 ⟨v722,rfl,ho0,hb⟩;refine⟨_,rfl,?_⟩;have HO723:=aM (Kd.R_lower (Kd.R_new' ho0 (Kd.R_lt (rX HO719.out))) (below_size pB));replace HO719:=aM (Kd.R_elder' (rX HO719.out) (Kd.R_base ho0) hb);replace HB:=aM (below_step pB hb);(try clear hb);(try clear hb2);(try clear hk);(try clear hi);(try clear ho0);obtain⟨Ao18,co18,eo18⟩:=Kd.R_slice HO719.out;subst eo18;obtain⟨Ao19,co19,eo19⟩:=Kd.R_slice HO723.out;subst eo19)|((with_reducible refine gate_callee (f:=22) rfl ?_);refine goesL_ (some 42) rfl rfl Try.func22 (by kernel_rfl) rfl #[.slice Ao18 t716.length co18,.slice Ao19 t720.length co19] rfl mA ?_;(with_reducible refine(Czv.calls kj2 _ _ t716 _ _ t720 true _ ?side1 ?side2 ?side3 ?side4 A12.out).mono ?_);(case side1=>repeat(first|exact(Kd.R_reads' HO719.out).2.2|(with_reducible refine Kd.C_alloc ?_ _)|(with_reducible refine Kd.C_drewN ?_ _)|(with_reducible refine Kd.C_drew ?_)));(case side2=>exact(Kd.R_reads' HO719.out).2.1);(case side3=>repeat(first|exact(Kd.R_reads' HO723.out).2.2|(with_reducible refine Kd.C_alloc ?_ _)|(with_reducible refine Kd.C_drewN ?_ _)|(with_reducible refine Kd.C_drew ?_)));(case side4=>exact(Kd.R_reads' HO723.out).2.1);rintro e w' ⟨rfl,⟨nd,rfl⟩⟩;refine⟨_,rfl,?_⟩)|(go_at_call 11;(with_reducible refine(Azb.calls kj2  t725 _ A15.out).mono ?_);rintro e w20 ⟨rfl,hb⟩;replace HO719:=aM (Kd.R_below (rX HO719.out) hb);replace HO723:=aM (Kd.R_below (rX HO723.out) hb);replace HB:=aM (below_step pB hb);(try clear hb);(try clear hb2);(try clear hk);(try clear hi)))
      go_ret
      exact⟨eW,pB⟩
     ·rw[if_neg c14] at H;exact absurd H (by simp)
    ·replace c13:=Bool.eq_false_iff.mpr c13;subst c13;rw[if_neg (show ¬ (false=true) by decide)] at H
     exact absurd H (by simp)

/-- THE ONE PURE STATEMENT of Bzw: yours. -/
def Bzw.Pure:Prop:=∀ (l0:List (S46)) (l1:List (S31)),l0.length≤maxLen→l0.length * 16≤140737488351232→(∀ x_ ∈ l0,((Lit.int .i64 x_.f0).wf=true)∧((Lit.int .i64 x_.f1).wf=true))→l1.length≤maxLen→l1.length * 16≤140737488351232→(∀ x_ ∈ l1,((Lit.int .i64 x_.f0).wf=true)∧((Lit.int .i64 x_.f1).wf=true))→∃ k,Bzw.f k l0 l1=some true

end Go.Proofs.Ytnklckihalhlmaa.Print
