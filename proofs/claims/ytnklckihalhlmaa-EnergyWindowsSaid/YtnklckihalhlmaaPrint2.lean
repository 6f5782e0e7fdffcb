import Derived.Test.YtnklckihalhlmaaPrint0
namespace Go.Proofs.Ytnklckihalhlmaa.Print
open Go.RowKit Go.Proofs.YtnklckihalhlmaaW.PrintWords Go.Proofs.YtnklckihalhlmaaW.PrintLast Go.Proofs.YtnklckihalhlmaaW.PrintMore
attribute [local go_sem] max2_int min2_int max_two min_two max_three min_three max_four min_four
set_option linter.unusedVariables false
set_option maxRecDepth 100000
set_option maxHeartbeats 8000000
set_option linter.unusedSimpArgs false

mutual
def Bzj.l0:Nat→List (S46)→List (S46)→Int→Int→Option (Int)
 | 0,_,_,_,_=>none
 | k+1,x0,x12,x13,x14=>if x14 < x13 then(if 0≤x14 then(if x14 < (x12.length:Int) then(if((rd_T46 x12 x14).f0) < 0 then(some 1) else(if((rd_T46 x12 x14).f0) > 2147483647 then(some 1) else(if((rd_T46 x12 x14).f1) < 0 then(some 1) else(if((rd_T46 x12 x14).f1) > 1125899906842624 then(some 1) else(Bzj.l0 k x0 x12 x13 (wrap64 (x14+1))))))) else(none)) else(none)) else(Bzj.l1 k x0 1)
def Bzj.l1:Nat→List (S46)→Int→Option (Int)
 | 0,_,_=>none
 | k+1,x0,x5=>if x5 < (x0.length:Int) then(if 0≤x5 then(if 0≤(wrap64 (x5 - 1)) then(if(wrap64 (x5 - 1)) < (x0.length:Int) then(if((rd_T46 x0 x5).f0)≤((rd_T46 x0 (wrap64 (x5 - 1))).f0) then(some 9) else(if((rd_T46 x0 x5).f1) < ((rd_T46 x0 (wrap64 (x5 - 1))).f1) then(some 9) else(Bzj.l1 k x0 (wrap64 (x5+1))))) else(none)) else(none)) else(none)) else(some 0)
end
def Bzj.f (k:Nat) (l0:List (S46)):Option (Int):=if(l0.length:Int) < 2 then(some 10) else(if(l0.length:Int) > 512 then(some 8) else(Bzj.l0 k l0 l0 (l0.length:Int) 0))
theorem Bzj.mono_l:∀ k,(∀ y0 y1 y2 y3,LeO (Bzj.l0 k y0 y1 y2 y3) (Bzj.l0 (k+1) y0 y1 y2 y3))∧(∀ y0 y1,LeO (Bzj.l1 k y0 y1) (Bzj.l1 (k+1) y0 y1))
 | 0=>⟨fun _ _ _ _ r h=>by simp [Bzj.l0] at h,fun _ _ r h=>by simp [Bzj.l1] at h⟩
 | k+1=>by
  obtain⟨ih0,ih1⟩:=Bzj.mono_l k;refine⟨?_,?_⟩
  ·intro y0 y1 y2 y3;unfold Bzj.l0;with_reducible repeat' first|exact ih0 _ _ _ _|exact ih1 _ _|exact LeO.refl _|exact LeO.none _|refine LeO.ite ?_ ?_|refine LeO.bind ?_ (fun _=>?_)
  ·intro y0 y1;unfold Bzj.l1;with_reducible repeat' first|exact ih0 _ _ _ _|exact ih1 _ _|exact LeO.refl _|exact LeO.none _|refine LeO.ite ?_ ?_|refine LeO.bind ?_ (fun _=>?_)
theorem Bzj.mono:∀ a0 k,LeO (Bzj.f k a0) (Bzj.f (k+1) a0):=by
 intro a0 k;obtain⟨ih0,ih1⟩:=Bzj.mono_l k;unfold Bzj.f;with_reducible repeat' first|exact ih0 _ _ _ _|exact ih1 _ _|exact LeO.refl _|exact LeO.none _|refine LeO.ite ?_ ?_|refine LeO.bind ?_ (fun _=>?_)
theorem Bzj.calls (k:Nat) (A0:Option Addr) (c0:Nat) (l0:List (S46)) (r:Int) (w:World) (hr0:Kd.C k46 w A0 l0.length l0) (hc0:l0.length≤c0) (h:Bzj.f k l0=some r) :
  Calls Try.prog 14 #[.slice A0 l0.length c0] w fun e w'=>e=.returned (.int .i64 r)∧Below w.heap.size w w':=by
 have hu46:=Try.underlying46;have HR0:=aM hr0;have HC0:=aM hc0;clear hr0 hc0;have HB:=aM (Below.refl w.heap.size w);have H:(if(l0.length:Int) < 2 then(some 10) else(if(l0.length:Int) > 512 then(some 8) else(Bzj.l0 k l0 l0 (l0.length:Int) 0)))=some r:=h
 clear h;by_cases c2:(l0.length:Int) < 2
 ·rw[if_pos c2] at H;have c2b0:decide ((l0.length:Int) < 2)=true:=dE c2;have c2b1:decide (l0.length < 2)=true:=dE (by omega)
  clear c2;obtain rfl:=Option.some.inj H;go_enter Try.func14,Try.ntmps14
  go_wp2
  repeat(go_quiet (fail);try go_wp2)
  go_ret
  exact⟨eW,pB⟩
 ·rw[if_neg c2] at H;have c2b0:decide ((l0.length:Int) < 2)=false:=decide_eq_false c2;have c2b1:decide (l0.length < 2)=false:=decide_eq_false (by omega)
  clear c2;by_cases c3:(l0.length:Int) > 512
  ·rw[if_pos c3] at H;have c3b0:decide (512 < (l0.length:Int))=true:=dE c3;have c3b1:decide (512 < l0.length)=true:=dE (by omega)
   clear c3;obtain rfl:=Option.some.inj H;go_enter Try.func14,Try.ntmps14
   go_wp2
   repeat(go_quiet (fail);try go_wp2)
   go_ret
   exact⟨eW,pB⟩
  ·rw[if_neg c3] at H;have c3b0:decide (512 < (l0.length:Int))=false:=decide_eq_false c3;have c3b1:decide (512 < l0.length)=false:=decide_eq_false (by omega)
   clear c3;have H':=aM H;clear H;go_enter Try.func14,Try.ntmps14
   go_wp2
   repeat(go_quiet (fail);try go_wp2)
   go_loopg [14] k (fun kq v14 w'=>∃ (x14_1:Int),v14=.int .i64 x14_1∧Aside0 (Bzj.l0 kq l0 l0 (l0.length:Int) x14_1=some r)∧Aside0 (kq≤k)∧Aside0 (Below w.heap.size w w'))
   case atStart=>exact⟨(0),sD,H',⟨Nat.le_refl _⟩,⟨pB⟩⟩
   case round =>
    clear H';try clear c1
    try clear c2
    try clear c2b0
    try clear c2b1
    try clear p2
    try clear c3
    try clear c3b0
    try clear c3b1
    obtain⟨x14_1,rfl,HA,HK1,HB⟩:=hrel;cases gk with
    | zero=>exact absurd HA.out (by simp [Bzj.l0])
    | succ k1 =>
     have H:=HA.out;clear HA;simp only[Bzj.l0] at H;by_cases c4:x14_1 < (l0.length:Int)
     ·rw[if_pos c4] at H;have c4b0:decide (x14_1 < (l0.length:Int))=true:=dE c4;clear c4;by_cases c5:0≤x14_1
      ·rw[if_pos c5] at H;have c5b0:decide (0≤x14_1)=true:=dE c5;clear c5;by_cases c6:x14_1 < (l0.length:Int)
       ·rw[if_pos c6] at H;have c6b0:decide (x14_1 < (l0.length:Int))=true:=dE c6;clear c6;by_cases c7:((rd_T46 l0 x14_1).f0) < 0
        ·rw[if_pos c7] at H;have c7b0:decide (((rd_T46 l0 x14_1).f0) < 0)=true:=dE c7;clear c7;obtain rfl:=Option.some.inj H;have p101:0≤(x14_1:Int):=oE aS
         have q101:x14_1 < (l0.length:Int):=oE aS
         obtain⟨ad101,e101,hx101_0,hx101_1⟩:=at_T46 HR0.out x14_1 p101 q101;cases e101
         replace hx101_0:=(HB.out.cell (World.block_lt_of_cell? w _ hx101_0)).trans hx101_0;replace hx101_1:=(HB.out.cell (World.block_lt_of_cell? w _ hx101_1)).trans hx101_1;replace p101:=eq_true p101;replace q101:=eq_true q101;have fl_:True:=trivial;repeat((first|clear fl_|go_quiet (first|((with_reducible refine gate_dst (N:=4) rfl ?_);refine box_event ?hg (N:=4) ?hd (cs:=#[.int .i64 0,.int .i64 0]) (t:=46) ?hr ?_;(case hd=>rfl);(case hg=>rfl);(case hr=>first|(go_simp;done)|(go_simp;rfl));intro gb102 hg w8 hbox hb;have BK102:=aM (hbox);have GW102:=aM (gW hg:w.heap.size≤gb102);have GE102:=aM (gW hg:w.heap.size≤gb102);replace HB:=aM (below_step pB hb);clear hb hbox hg;obtain⟨hcz9_0,hcz9_1,hfz9_0,hfz9_1⟩:=bk2 BK102)));go_wp2_with (first|((with_reducible refine gate_dst (N:=4) rfl ?_);refine box_event ?hg (N:=4) ?hd (cs:=#[.int .i64 0,.int .i64 0]) (t:=46) ?hr ?_;(case hd=>rfl);(case hg=>rfl);(case hr=>first|(go_simp;done)|(go_simp;rfl));intro gb102 hg w8 hbox hb;have BK102:=aM (hbox);have GW102:=aM (gW hg:w.heap.size≤gb102);have GE102:=aM (gW hg:w.heap.size≤gb102);replace HB:=aM (below_step pB hb);clear hb hbox hg;obtain⟨hcz9_0,hcz9_1,hfz9_0,hfz9_1⟩:=bk2 BK102)))
         go_ret
         exact⟨eW,pB⟩
        ·rw[if_neg c7] at H;have c7b0:decide (((rd_T46 l0 x14_1).f0) < 0)=false:=decide_eq_false c7;clear c7;by_cases c10:((rd_T46 l0 x14_1).f0) > 2147483647
         ·rw[if_pos c10] at H;have c10b0:decide (2147483647 < ((rd_T46 l0 x14_1).f0))=true:=dE c10;clear c10;obtain rfl:=Option.some.inj H;have p101:0≤(x14_1:Int):=oE aS
          have q101:x14_1 < (l0.length:Int):=oE aS
          obtain⟨ad101,e101,hx101_0,hx101_1⟩:=at_T46 HR0.out x14_1 p101 q101;cases e101
          replace hx101_0:=(HB.out.cell (World.block_lt_of_cell? w _ hx101_0)).trans hx101_0;replace hx101_1:=(HB.out.cell (World.block_lt_of_cell? w _ hx101_1)).trans hx101_1;replace p101:=eq_true p101;replace q101:=eq_true q101;have fl_:True:=trivial;repeat((first|clear fl_|go_quiet (first|((with_reducible refine gate_dst (N:=4) rfl ?_);refine box_event ?hg (N:=4) ?hd (cs:=#[.int .i64 0,.int .i64 0]) (t:=46) ?hr ?_;(case hd=>rfl);(case hg=>rfl);(case hr=>first|(go_simp;done)|(go_simp;rfl));intro gb102 hg w11 hbox hb;have BK102:=aM (hbox);have GW102:=aM (gW hg:w.heap.size≤gb102);have GE102:=aM (gW hg:w.heap.size≤gb102);replace HB:=aM (below_step pB hb);clear hb hbox hg;obtain⟨hcz12_0,hcz12_1,hfz12_0,hfz12_1⟩:=bk2 BK102)));go_wp2_with (first|((with_reducible refine gate_dst (N:=4) rfl ?_);refine box_event ?hg (N:=4) ?hd (cs:=#[.int .i64 0,.int .i64 0]) (t:=46) ?hr ?_;(case hd=>rfl);(case hg=>rfl);(case hr=>first|(go_simp;done)|(go_simp;rfl));intro gb102 hg w11 hbox hb;have BK102:=aM (hbox);have GW102:=aM (gW hg:w.heap.size≤gb102);have GE102:=aM (gW hg:w.heap.size≤gb102);replace HB:=aM (below_step pB hb);clear hb hbox hg;obtain⟨hcz12_0,hcz12_1,hfz12_0,hfz12_1⟩:=bk2 BK102)))
          go_ret
          exact⟨eW,pB⟩
         ·rw[if_neg c10] at H;have c10b0:decide (2147483647 < ((rd_T46 l0 x14_1).f0))=false:=decide_eq_false c10;clear c10;by_cases c13:((rd_T46 l0 x14_1).f1) < 0
          ·rw[if_pos c13] at H;have c13b0:decide (((rd_T46 l0 x14_1).f1) < 0)=true:=dE c13;clear c13;obtain rfl:=Option.some.inj H;have p101:0≤(x14_1:Int):=oE aS
           have q101:x14_1 < (l0.length:Int):=oE aS
           obtain⟨ad101,e101,hx101_0,hx101_1⟩:=at_T46 HR0.out x14_1 p101 q101;cases e101
           replace hx101_0:=(HB.out.cell (World.block_lt_of_cell? w _ hx101_0)).trans hx101_0;replace hx101_1:=(HB.out.cell (World.block_lt_of_cell? w _ hx101_1)).trans hx101_1;replace p101:=eq_true p101;replace q101:=eq_true q101;have fl_:True:=trivial;repeat((first|clear fl_|go_quiet (first|((with_reducible refine gate_dst (N:=4) rfl ?_);refine box_event ?hg (N:=4) ?hd (cs:=#[.int .i64 0,.int .i64 0]) (t:=46) ?hr ?_;(case hd=>rfl);(case hg=>rfl);(case hr=>first|(go_simp;done)|(go_simp;rfl));intro gb102 hg w14 hbox hb;have BK102:=aM (hbox);have GW102:=aM (gW hg:w.heap.size≤gb102);have GE102:=aM (gW hg:w.heap.size≤gb102);replace HB:=aM (below_step pB hb);clear hb hbox hg;obtain⟨hcz15_0,hcz15_1,hfz15_0,hfz15_1⟩:=bk2 BK102)));go_wp2_with (first|((with_reducible refine gate_dst (N:=4) rfl ?_);refine box_event ?hg (N:=4) ?hd (cs:=#[.int .i64 0,.int .i64 0]) (t:=46) ?hr ?_;(case hd=>rfl);(case hg=>rfl);(case hr=>first|(go_simp;done)|(go_simp;rfl));intro gb102 hg w14 hbox hb;have BK102:=aM (hbox);have GW102:=aM (gW hg:w.heap.size≤gb102);have GE102:=aM (gW hg:w.heap.size≤gb102);replace HB:=aM (below_step pB hb);clear hb hbox hg;obtain⟨hcz15_0,hcz15_1,hfz15_0,hfz15_1⟩:=bk2 BK102)))
           go_ret
           exact⟨eW,pB⟩
          ·rw[if_neg c13] at H;have c13b0:decide (((rd_T46 l0 x14_1).f1) < 0)=false:=decide_eq_false c13;clear c13;by_cases c16:((rd_T46 l0 x14_1).f1) > 1125899906842624
           ·rw[if_pos c16] at H;have c16b0:decide (1125899906842624 < ((rd_T46 l0 x14_1).f1))=true:=dE c16;clear c16;obtain rfl:=Option.some.inj H;have p101:0≤(x14_1:Int):=oE aS
            have q101:x14_1 < (l0.length:Int):=oE aS
            obtain⟨ad101,e101,hx101_0,hx101_1⟩:=at_T46 HR0.out x14_1 p101 q101;cases e101
            replace hx101_0:=(HB.out.cell (World.block_lt_of_cell? w _ hx101_0)).trans hx101_0;replace hx101_1:=(HB.out.cell (World.block_lt_of_cell? w _ hx101_1)).trans hx101_1;replace p101:=eq_true p101;replace q101:=eq_true q101;have fl_:True:=trivial;repeat((first|clear fl_|go_quiet (first|((with_reducible refine gate_dst (N:=4) rfl ?_);refine box_event ?hg (N:=4) ?hd (cs:=#[.int .i64 0,.int .i64 0]) (t:=46) ?hr ?_;(case hd=>rfl);(case hg=>rfl);(case hr=>first|(go_simp;done)|(go_simp;rfl));intro gb102 hg w17 hbox hb;have BK102:=aM (hbox);have GW102:=aM (gW hg:w.heap.size≤gb102);have GE102:=aM (gW hg:w.heap.size≤gb102);replace HB:=aM (below_step pB hb);clear hb hbox hg;obtain⟨hcz18_0,hcz18_1,hfz18_0,hfz18_1⟩:=bk2 BK102)));go_wp2_with (first|((with_reducible refine gate_dst (N:=4) rfl ?_);refine box_event ?hg (N:=4) ?hd (cs:=#[.int .i64 0,.int .i64 0]) (t:=46) ?hr ?_;(case hd=>rfl);(case hg=>rfl);(case hr=>first|(go_simp;done)|(go_simp;rfl));intro gb102 hg w17 hbox hb;have BK102:=aM (hbox);have GW102:=aM (gW hg:w.heap.size≤gb102);have GE102:=aM (gW hg:w.heap.size≤gb102);replace HB:=aM (below_step pB hb);clear hb hbox hg;obtain⟨hcz18_0,hcz18_1,hfz18_0,hfz18_1⟩:=bk2 BK102)))
            go_ret
            exact⟨eW,pB⟩
           ·rw[if_neg c16] at H;have c16b0:decide (1125899906842624 < ((rd_T46 l0 x14_1).f1))=false:=decide_eq_false c16;clear c16;have H':=aM H;clear H;have p101:0≤(x14_1:Int):=oE aS
            have q101:x14_1 < (l0.length:Int):=oE aS
            obtain⟨ad101,e101,hx101_0,hx101_1⟩:=at_T46 HR0.out x14_1 p101 q101;cases e101
            replace hx101_0:=(HB.out.cell (World.block_lt_of_cell? w _ hx101_0)).trans hx101_0;replace hx101_1:=(HB.out.cell (World.block_lt_of_cell? w _ hx101_1)).trans hx101_1;replace p101:=eq_true p101;replace q101:=eq_true q101;have fl_:True:=trivial;repeat((first|clear fl_|go_quiet (first|((with_reducible refine gate_dst (N:=4) rfl ?_);refine box_event ?hg (N:=4) ?hd (cs:=#[.int .i64 0,.int .i64 0]) (t:=46) ?hr ?_;(case hd=>rfl);(case hg=>rfl);(case hr=>first|(go_simp;done)|(go_simp;rfl));intro gb102 hg w19 hbox hb;have BK102:=aM (hbox);have GW102:=aM (gW hg:w.heap.size≤gb102);have GE102:=aM (gW hg:w.heap.size≤gb102);replace HB:=aM (below_step pB hb);clear hb hbox hg;obtain⟨hcz20_0,hcz20_1,hfz20_0,hfz20_1⟩:=bk2 BK102)));go_wp2_with (first|((with_reducible refine gate_dst (N:=4) rfl ?_);refine box_event ?hg (N:=4) ?hd (cs:=#[.int .i64 0,.int .i64 0]) (t:=46) ?hr ?_;(case hd=>rfl);(case hg=>rfl);(case hr=>first|(go_simp;done)|(go_simp;rfl));intro gb102 hg w19 hbox hb;have BK102:=aM (hbox);have GW102:=aM (gW hg:w.heap.size≤gb102);have GE102:=aM (gW hg:w.heap.size≤gb102);replace HB:=aM (below_step pB hb);clear hb hbox hg;obtain⟨hcz20_0,hcz20_1,hfz20_0,hfz20_1⟩:=bk2 BK102)))
            go_roundg k1
            case measure=>have:=HK1.out;omega
            case rel=>exact⟨(wrap64 (x14_1+1)),sD,H',⟨by have:=HK1.out;omega⟩,⟨pB⟩⟩
       ·rw[if_neg c6] at H;exact absurd H (by simp)
      ·rw[if_neg c5] at H;exact absurd H (by simp)
     ·rw[if_neg c4] at H;have c4b0:decide (x14_1 < (l0.length:Int))=false:=decide_eq_false c4;clear c4;have H':=aM H;clear H;go_wp2
      repeat(go_quiet (fail);try go_wp2)
      go_loopg [5] k1 (fun kq v5 w'=>∃ (x5_2:Int),v5=.int .i64 x5_2∧Aside0 (Bzj.l1 kq l0 x5_2=some r)∧Aside0 (kq≤k1)∧Aside0 (Below w.heap.size w w'))
      case atStart=>exact⟨(1),sD,H',⟨Nat.le_refl _⟩,⟨pB⟩⟩
      case round =>
       clear H';try clear c1
       try clear p1
       try clear q1
       try clear hx1
       try clear c2
       try clear c2b0
       try clear c2b1
       try clear p2
       try clear c3
       try clear c3b0
       try clear c3b1
       try clear c4
       try clear c4b0
       try clear c5
       try clear c5b0
       try clear c6
       try clear c6b0
       try clear p6
       try clear c7
       try clear c7b0
       try clear c10
       try clear c10b0
       try clear p10
       try clear q10
       try clear hx10
       try clear c13
       try clear c13b0
       try clear c14
       try clear c16
       try clear c16b0
       try clear hcz12_0
       try clear hcz12_1
       try clear hcz15_0
       try clear hcz15_1
       try clear hcz18_0
       try clear hcz18_1
       try clear hcz20_0
       try clear hcz20_1
       try clear hcz9_0
       try clear hcz9_1
       try clear hfz12_0
       try clear hfz12_1
       try clear hfz15_0
       try clear hfz15_1
       try clear hfz18_0
       try clear hfz18_1
       try clear hfz20_0
       try clear hfz20_1
       try clear hfz9_0
       try clear hfz9_1
       try clear hx101_0
       try clear hx101_1
       try clear p101
       try clear p2
       try clear q101
       obtain⟨x5_2,rfl,HA,HK2,HB⟩:=hrel;cases gk with
       | zero=>exact absurd HA.out (by simp [Bzj.l1])
       | succ k2 =>
        have H:=HA.out;clear HA;simp only[Bzj.l1] at H;by_cases c21:x5_2 < (l0.length:Int)
        ·rw[if_pos c21] at H;have c21b0:decide (x5_2 < (l0.length:Int))=true:=dE c21;clear c21;by_cases c22:0≤x5_2
         ·rw[if_pos c22] at H;have c22b0:decide (0≤x5_2)=true:=dE c22;clear c22;obtain⟨ji23,hji23⟩:∃ j_:Int,(wrap64 (x5_2 - 1))=j_:=⟨_,rfl⟩;replace H:(if 0≤(ji23) then(if(ji23) < (l0.length:Int) then(if((rd_T46 l0 x5_2).f0)≤((rd_T46 l0 (ji23)).f0) then(some 9) else(if((rd_T46 l0 x5_2).f1) < ((rd_T46 l0 (ji23)).f1) then(some 9) else(Bzj.l1 k2 l0 (wrap64 (x5_2+1))))) else(none)) else(none))=some r:=by first|(rw[hji23] at H;exact H)|(simp only[hji23] at H ⊢;exact H)
          have hji23w:(IntKind.i64.wrap (x5_2 - 1))=ji23:=(i64_w _).trans hji23;by_cases c24:0≤(ji23)
          ·rw[if_pos c24] at H;have c24b0:decide (0≤(ji23))=true:=dE c24;clear c24;by_cases c25:(ji23) < (l0.length:Int)
           ·rw[if_pos c25] at H;have c25b0:decide ((ji23) < (l0.length:Int))=true:=dE c25;clear c25;by_cases c26:((rd_T46 l0 x5_2).f0)≤((rd_T46 l0 (ji23)).f0)
            ·rw[if_pos c26] at H;have c26b0:decide (((rd_T46 l0 x5_2).f0)≤((rd_T46 l0 (ji23)).f0))=true:=dE c26;clear c26;obtain rfl:=Option.some.inj H;have p103:0≤(x5_2:Int):=oE aS
             have q103:x5_2 < (l0.length:Int):=oE aS
             obtain⟨ad103,e103,hx103_0,hx103_1⟩:=at_T46 HR0.out x5_2 p103 q103;cases e103
             replace hx103_0:=(HB.out.cell (World.block_lt_of_cell? w _ hx103_0)).trans hx103_0;replace hx103_1:=(HB.out.cell (World.block_lt_of_cell? w _ hx103_1)).trans hx103_1;replace p103:=eq_true p103;replace q103:=eq_true q103;have p104:0≤((ji23):Int):=oE aS
             have q104:(ji23) < (l0.length:Int):=oE aS
             obtain⟨ad104,e104,hx104_0,hx104_1⟩:=at_T46 HR0.out (ji23) p104 q104;obtain rfl:ad103=ad104:=(by injection e104)
             replace hx104_0:=(HB.out.cell (World.block_lt_of_cell? w _ hx104_0)).trans hx104_0;replace hx104_1:=(HB.out.cell (World.block_lt_of_cell? w _ hx104_1)).trans hx104_1;replace p104:=eq_true p104;replace q104:=eq_true q104;go_wp2
             repeat(go_quiet (fail);try go_wp2)
             go_ret
             exact⟨by first|rfl|(simp [errW_none,errW_some] <;> rfl)|(simp only[← hji23];first|rfl|(simp [errW_none,errW_some] <;> rfl))|(simp [*,errW_none,errW_some] <;> rfl),pB⟩
            ·rw[if_neg c26] at H;have c26b0:decide (((rd_T46 l0 x5_2).f0)≤((rd_T46 l0 (ji23)).f0))=false:=decide_eq_false c26;clear c26;by_cases c27:((rd_T46 l0 x5_2).f1) < ((rd_T46 l0 (ji23)).f1)
             ·rw[if_pos c27] at H;have c27b0:decide (((rd_T46 l0 x5_2).f1) < ((rd_T46 l0 (ji23)).f1))=true:=dE c27;clear c27;obtain rfl:=Option.some.inj H;have p103:0≤(x5_2:Int):=oE aS
              have q103:x5_2 < (l0.length:Int):=oE aS
              obtain⟨ad103,e103,hx103_0,hx103_1⟩:=at_T46 HR0.out x5_2 p103 q103;cases e103
              replace hx103_0:=(HB.out.cell (World.block_lt_of_cell? w _ hx103_0)).trans hx103_0;replace hx103_1:=(HB.out.cell (World.block_lt_of_cell? w _ hx103_1)).trans hx103_1;replace p103:=eq_true p103;replace q103:=eq_true q103;have p104:0≤((ji23):Int):=oE aS
              have q104:(ji23) < (l0.length:Int):=oE aS
              obtain⟨ad104,e104,hx104_0,hx104_1⟩:=at_T46 HR0.out (ji23) p104 q104;obtain rfl:ad103=ad104:=(by injection e104)
              replace hx104_0:=(HB.out.cell (World.block_lt_of_cell? w _ hx104_0)).trans hx104_0;replace hx104_1:=(HB.out.cell (World.block_lt_of_cell? w _ hx104_1)).trans hx104_1;replace p104:=eq_true p104;replace q104:=eq_true q104;have p105:0≤(x5_2:Int):=oE aS
              have q105:x5_2 < (l0.length:Int):=oE aS
              obtain⟨ad105,e105,hx105_0,hx105_1⟩:=at_T46 HR0.out x5_2 p105 q105;obtain rfl:ad103=ad105:=(by injection e105)
              replace hx105_0:=(HB.out.cell (World.block_lt_of_cell? w _ hx105_0)).trans hx105_0;replace hx105_1:=(HB.out.cell (World.block_lt_of_cell? w _ hx105_1)).trans hx105_1;replace p105:=eq_true p105;replace q105:=eq_true q105;have p106:0≤((ji23):Int):=oE aS
              have q106:(ji23) < (l0.length:Int):=oE aS
              obtain⟨ad106,e106,hx106_0,hx106_1⟩:=at_T46 HR0.out (ji23) p106 q106;obtain rfl:ad103=ad106:=(by injection e106)
              replace hx106_0:=(HB.out.cell (World.block_lt_of_cell? w _ hx106_0)).trans hx106_0;replace hx106_1:=(HB.out.cell (World.block_lt_of_cell? w _ hx106_1)).trans hx106_1;replace p106:=eq_true p106;replace q106:=eq_true q106;go_wp2
              repeat(go_quiet (fail);try go_wp2)
              go_ret
              exact⟨by first|rfl|(simp [errW_none,errW_some] <;> rfl)|(simp only[← hji23];first|rfl|(simp [errW_none,errW_some] <;> rfl))|(simp [*,errW_none,errW_some] <;> rfl),pB⟩
             ·rw[if_neg c27] at H;have c27b0:decide (((rd_T46 l0 x5_2).f1) < ((rd_T46 l0 (ji23)).f1))=false:=decide_eq_false c27;clear c27;have H':=aM H;clear H;have p103:0≤(x5_2:Int):=oE aS
              have q103:x5_2 < (l0.length:Int):=oE aS
              obtain⟨ad103,e103,hx103_0,hx103_1⟩:=at_T46 HR0.out x5_2 p103 q103;cases e103
              replace hx103_0:=(HB.out.cell (World.block_lt_of_cell? w _ hx103_0)).trans hx103_0;replace hx103_1:=(HB.out.cell (World.block_lt_of_cell? w _ hx103_1)).trans hx103_1;replace p103:=eq_true p103;replace q103:=eq_true q103;have p104:0≤((ji23):Int):=oE aS
              have q104:(ji23) < (l0.length:Int):=oE aS
              obtain⟨ad104,e104,hx104_0,hx104_1⟩:=at_T46 HR0.out (ji23) p104 q104;obtain rfl:ad103=ad104:=(by injection e104)
              replace hx104_0:=(HB.out.cell (World.block_lt_of_cell? w _ hx104_0)).trans hx104_0;replace hx104_1:=(HB.out.cell (World.block_lt_of_cell? w _ hx104_1)).trans hx104_1;replace p104:=eq_true p104;replace q104:=eq_true q104;have p105:0≤(x5_2:Int):=oE aS
              have q105:x5_2 < (l0.length:Int):=oE aS
              obtain⟨ad105,e105,hx105_0,hx105_1⟩:=at_T46 HR0.out x5_2 p105 q105;obtain rfl:ad103=ad105:=(by injection e105)
              replace hx105_0:=(HB.out.cell (World.block_lt_of_cell? w _ hx105_0)).trans hx105_0;replace hx105_1:=(HB.out.cell (World.block_lt_of_cell? w _ hx105_1)).trans hx105_1;replace p105:=eq_true p105;replace q105:=eq_true q105;have p106:0≤((ji23):Int):=oE aS
              have q106:(ji23) < (l0.length:Int):=oE aS
              obtain⟨ad106,e106,hx106_0,hx106_1⟩:=at_T46 HR0.out (ji23) p106 q106;obtain rfl:ad103=ad106:=(by injection e106)
              replace hx106_0:=(HB.out.cell (World.block_lt_of_cell? w _ hx106_0)).trans hx106_0;replace hx106_1:=(HB.out.cell (World.block_lt_of_cell? w _ hx106_1)).trans hx106_1;replace p106:=eq_true p106;replace q106:=eq_true q106;go_wp2
              repeat(go_quiet (fail);try go_wp2)
              go_roundg k2
              case measure=>have:=HK1.out;have:=HK2.out;omega
              case rel=>exact⟨(wrap64 (x5_2+1)),sD,H',⟨by have:=HK1.out;have:=HK2.out;omega⟩,⟨pB⟩⟩
           ·rw[if_neg c25] at H;exact absurd H (by simp)
          ·rw[if_neg c24] at H;exact absurd H (by simp)
         ·rw[if_neg c22] at H;exact absurd H (by simp)
        ·rw[if_neg c21] at H;have c21b0:decide (x5_2 < (l0.length:Int))=false:=decide_eq_false c21;clear c21;obtain rfl:=Option.some.inj H;go_wp2
         repeat(go_quiet (fail);try go_wp2)
         go_ret
         exact⟨eW,pB⟩

end Go.Proofs.Ytnklckihalhlmaa.Print
