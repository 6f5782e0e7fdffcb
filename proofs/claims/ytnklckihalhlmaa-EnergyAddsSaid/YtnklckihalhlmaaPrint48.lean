import Derived.Test.YtnklckihalhlmaaPrint0
import Derived.Test.YtnklckihalhlmaaPrint7
import Derived.Test.YtnklckihalhlmaaPrint38
import Derived.Test.YtnklckihalhlmaaPrint46
namespace Go.Proofs.Ytnklckihalhlmaa.Print
open Go.RowKit Go.Proofs.YtnklckihalhlmaaW.PrintWords Go.Proofs.YtnklckihalhlmaaW.PrintLast Go.Proofs.YtnklckihalhlmaaW.PrintMore
attribute [local go_sem] max2_int min2_int max_two min_two max_three min_three max_four min_four
set_option linter.unusedVariables false
set_option maxRecDepth 100000
set_option maxHeartbeats 8000000
set_option linter.unusedSimpArgs false

def Bzq.j0:Nat→List (S46)→Int→Int→Bool→Int→Int→Option (Bool)
 | 0,_,_,_,_,_,_=>none
 | k+1,x0,x2,x7,x39,x727000,x727001=>if x39=true then((Azb.f k).bind fun t732=>(some t732)) else((Dzq.f k x0 (([(⟨x727000,x2⟩:S31),(⟨x2,x727001⟩:S31)]:List (S31)))).bind fun bt736=>(if bt736.2=0 then(if(bt736.1.length:Int)=2 then(if 0 < (bt736.1.length:Int) then(if(rd bt736.1 0)≥0 then(if 1 < (bt736.1.length:Int) then(if(rd bt736.1 1)≥0 then(if(wrap64 ((rd bt736.1 0)+(rd bt736.1 1)))=x7 then((Azb.f k).bind fun t744=>(some t744)) else(none)) else(none)) else(none)) else(none)) else(none)) else(none)) else(none)))
def Bzq.f (k:Nat) (l0:List (S46)) (a1_0:Int) (a1_1:Int) (a2:Int):Option (Bool):=(Dzw.f l0).bind fun t727=>(if t727=true then((Ezq.f k l0 a1_0 a1_1).bind fun bt729=>(if bt729.2=0 then(if bt729.1 < 0 then(none) else(if a2 < a1_0 then(Bzq.j0 k l0 a2 bt729.1 true a1_0 a1_1) else(Bzq.j0 k l0 a2 bt729.1 (decide (a2 > a1_1)) a1_0 a1_1))) else(if bt729.1=0 then((Azb.f k).bind fun t731=>(some t731)) else(none)))) else((Azb.f k).bind fun t728=>(some t728)))
theorem Bzq.mono_l:∀ k,(∀ y0 y1 y2 y3 y4 y5,LeO (Bzq.j0 k y0 y1 y2 y3 y4 y5) (Bzq.j0 (k+1) y0 y1 y2 y3 y4 y5))
 | 0=>fun _ _ _ _ _ _ r h=>by simp [Bzq.j0] at h
 | k+1=>by
  have ih0:=Bzq.mono_l k
  ·intro y0 y1 y2 y3 y4 y5;unfold Bzq.j0;with_reducible repeat' first|exact ih0 _ _ _ _ _ _|exact Ezq.mono _ _ _ _|exact Dzq.mono _ _ _|exact Azb.mono _|exact LeO.refl _|exact LeO.none _|refine LeO.ite ?_ ?_|refine LeO.bind ?_ (fun _=>?_)
theorem Bzq.mono:∀ a0 a1 a2 a3 k,LeO (Bzq.f k a0 a1 a2 a3) (Bzq.f (k+1) a0 a1 a2 a3):=by
 intro a0 a1 a2 a3 k;have ih0:=Bzq.mono_l k;unfold Bzq.f;with_reducible repeat' first|exact ih0 _ _ _ _ _ _|exact Ezq.mono _ _ _ _|exact Dzq.mono _ _ _|exact Azb.mono _|exact LeO.refl _|exact LeO.none _|refine LeO.ite ?_ ?_|refine LeO.bind ?_ (fun _=>?_)
def Bzq.T11:Bool × List (List Nat × List Nat):=(true,[([],[]),([0],[0]),([1],[1]),([2],[2]),([3,2],[2,3]),([4,2],[2,4]),([2,5],[2,5]),([6,2],[6]),([7],[7]),([8,7],[7,8]),([9,7],[7,9]),([10,7],[7,10]),([7,11],[7,11]),([12,7],[12]),([13],[13]),([14,13],[13,14]),([15,13],[13,15]),([16,13],[13,16]),([13,17],[13,17]),([18,13],[18]),([19],[19]),([20,19],[19,20]),([21,19],[19,21]),([19],[19]),([23,19],[19,23]),([24,19],[19,24]),([22,25,19],[19,22,25]),([19],[19]),([26,27,19],[19,26,27]),([19,28],[19,28]),([29,19],[29]),([30,30],[30]),([30,31],[30,31]),([32,31,0,1,2,3,4,5,6,7,8,9,10,11,12,13,14,15,16,17,18,19,20,21,22,23,24,25,26,27,28,29,30,31,32],[32])])
def Bzq.B11:List Nat:=[0,1,3,7,15,31,63,127,255,511,1023,2047,4095,8191,16383,32767,65535,131071,262143,524287,1048575,2097151,4194303,1048575,9437183,26214399,67108863,1048575,268435455,536870911,1073741823,2147483647,4294967295,8589934591]
theorem Bzq.tab11:rtab .any (opsOf Try.f9 11)=Bzq.T11:=by kernel_rfl
theorem Bzq.bits11:waitsOk Bzq.T11.2 Bzq.B11=true:=by kernel_rfl
theorem Bzq.calls (k:Nat) (A0:Option Addr) (c0:Nat) (l0:List (S46)) (a1_0:Int) (a1_1:Int) (a2:Int) (r:Bool) (w:World) (hr0:Kd.C k46 w A0 l0.length l0) (hc0:l0.length≤c0) (h:Bzq.f k l0 a1_0 a1_1 a2=some r) :
  Calls Try.prog 9 #[.slice A0 l0.length c0,.agg #[.int .i64 a1_0,.int .i64 a1_1],.int .i64 a2] w fun e w'=>e=.returned (.bool r)∧Below w.heap.size w w':=by
 have hu31:=Try.underlying31;have HR0:=aM hr0;have HC0:=aM hc0;clear hr0 hc0;have HB:=aM (Below.refl w.heap.size w);have H:((Dzw.f l0).bind fun t727=>(if t727=true then((Ezq.f k l0 a1_0 a1_1).bind fun bt729=>(if bt729.2=0 then(if bt729.1 < 0 then(none) else(if a2 < a1_0 then(Bzq.j0 k l0 a2 bt729.1 true a1_0 a1_1) else(Bzq.j0 k l0 a2 bt729.1 (decide (a2 > a1_1)) a1_0 a1_1))) else(if bt729.1=0 then((Azb.f k).bind fun t731=>(some t731)) else(none)))) else((Azb.f k).bind fun t728=>(some t728))))=some r:=h
 clear h;replace H:=bS H;obtain⟨t727,A40,H⟩:=H;(try dsimp only at H);have A4:=aM A40;clear A40;by_cases c5:t727=true
 ·subst c5;rw[if_pos rfl] at H;replace H:=bS H;obtain⟨⟨t729,t730⟩,A60,H⟩:=H;(try dsimp only at H);have A6:=aM A60;clear A60;by_cases c7:t730=0
  ·rw[if_pos c7] at H;have c7b0:(t730 == 0)=true:=beq_iff_eq.mpr c7;have c7b1:(t730 != 0)=false:=bne_eq_false_iff_eq.mpr c7;clear c7;by_cases c8:t729 < 0
   ·rw[if_pos c8] at H;exact absurd H (by simp)
   ·rw[if_neg c8] at H;have c8b0:decide (t729 < 0)=false:=decide_eq_false c8;clear c8;have HC9:=aM H;clear H;go_enter Try.func9,Try.ntmps9
    go_upto_region 8 with (first|((with_reducible refine gate_dst (N:=4) rfl ?_);(try(refine gate_guard (by rfl) ?_;dsimp only));refine box_event ?hg (N:=4) ?hd (cs:=#[.int .i64 a1_0,.int .i64 a1_1]) (t:=31) ?hr ?_;(case hd=>rfl);(case hg=>rfl);(case hr=>first|(go_simp;done)|(go_simp;rfl));intro gb726 hg w10 hbox hb;have BK726:=aM (hbox);have GW726:=aM (gW hg:w.heap.size≤gb726);have GE726:=aM (gW hg:w.heap.size≤gb726);replace HB:=aM (below_step pB hb);clear hb hbox hg)|((with_reducible refine gate_callee (f:=10) rfl ?_);refine goesL_ (some 12) rfl rfl Try.func10 (by kernel_rfl) rfl #[.slice A0 l0.length c0] rfl mA ?_;(with_reducible refine(Dzw.calls _ _ l0 true _ ?side1 ?side2 A4.out).mono ?_);(case side1=>exact cX (Kd.C_below HR0.out HB.out));(case side2=>exact HC0.out);rintro e w' ⟨rfl,⟨nd,rfl⟩⟩;refine⟨_,rfl,?_⟩;obtain⟨hcz11_0,hcz11_1,hfz11_0,hfz11_1⟩:=bk2 BK726)|((with_reducible refine gate_callee (f:=16) rfl ?_);refine goesL_ (some 18) rfl rfl Try.func16 (by kernel_rfl) rfl #[.slice A0 l0.length c0,.agg #[.int .i64 a1_0,.int .i64 a1_1]] rfl mA ?_;(with_reducible refine(Ezq.calls k _ _ l0 a1_0 a1_1 t729 t730 _ ?side1 ?side2 A6.out).mono ?_);(case side1=>repeat(first|exact(Kd.C_below HR0.out pB)|(with_reducible refine Kd.C_alloc ?_ _)|(with_reducible refine Kd.C_drewN ?_ _)|(with_reducible refine Kd.C_drew ?_)));(case side2=>exact HC0.out);rintro e w12 ⟨rfl,hb⟩;refine⟨_,rfl,?_⟩;replace BK726:=aM (kB BK726 hb);replace HB:=aM (below_step pB hb);(try clear hb);(try clear hb2);(try clear hk);(try clear hi)))
    (try simp only[Act.put,sA,sZ,sC])
    go_cut [39] (fun v39 wc=>∃ (kq:Nat) (x39_8:Bool),v39=.bool x39_8∧Aside0 (Bzq.j0 kq l0 a2 t729 x39_8 a1_0 a1_1=some r)∧Aside0 (kq≤k)∧Aside0 (wc.heap[gb726]?=some (.cells #[.int .i64 a1_0,.int .i64 a1_1] 31 (0,0)))∧Aside0 (Below w.heap.size w wc))
    case first =>
     have H:=HC9.out;clear HC9;by_cases c13:a2 < a1_0
     ·rw[if_pos c13] at H;have c13b0:decide (a2 < a1_0)=true:=dE c13;clear c13;(first|rw[c13b0]|(simp only[i64_w,i32_w];rw[c13b0])|skip)
      have H':=aM H;clear H;obtain⟨hcz14_0,hcz14_1,hfz14_0,hfz14_1⟩:=bk2 BK726;go_wp2
      go_meet
      case rel=>exact⟨_,(true),sD,H',⟨by first|omega|exact Nat.le_refl _⟩,⟨by(with_reducible repeat(first|refine blk_drewN ?_ _|refine blk_drew ?_|refine blk_alloc ?_ _));exact BK726.out⟩,⟨pB⟩⟩
     ·rw[if_neg c13] at H;have c13b0:decide (a2 < a1_0)=false:=decide_eq_false c13;clear c13;(first|rw[c13b0]|(simp only[i64_w,i32_w];rw[c13b0])|skip)
      have H':=aM H;clear H;obtain⟨hcz15_0,hcz15_1,hfz15_0,hfz15_1⟩:=bk2 BK726;go_wp2
      go_meet
      case rel=>exact⟨_,(decide (a2 > a1_1)),sD,H',⟨by first|omega|exact Nat.le_refl _⟩,⟨by(with_reducible repeat(first|refine blk_drewN ?_ _|refine blk_drew ?_|refine blk_alloc ?_ _));exact BK726.out⟩,⟨pB⟩⟩
    case rest =>
     clear HC9;try clear c1
     try clear p2
     try clear c5
     try clear c7
     try clear c7b0
     try clear c7b1
     try clear c8
     try clear c8b0
     try clear c9
     try clear c10
     try clear c13
     try clear c13b0
     try clear hcz11_0
     try clear hcz11_1
     try clear hcz14_0
     try clear hcz14_1
     try clear hcz15_0
     try clear hcz15_1
     try clear hfz11_0
     try clear hfz11_1
     try clear hfz14_0
     try clear hfz14_1
     try clear hfz15_0
     try clear hfz15_1
     obtain⟨kq,x39_8,rfl,HA,HJ8,BK726,HB⟩:=hcut;cases kq with
     | zero=>exact absurd HA.out (by simp [Bzq.j0])
     | succ kj8 =>
      have H:=HA.out;clear HA;simp only[Bzq.j0] at H;by_cases c16:x39_8=true
      ·subst c16;rw[if_pos rfl] at H;replace H:=bS H;obtain⟨t732,A170,H⟩:=H;replace H:(some t732)=some r:=H;have A17:=aM A170;clear A170;obtain rfl:=Option.some.inj H;go_wp2_with (first|((with_reducible refine gate_callee (f:=11) rfl ?_);refine goesL_ (some 40) rfl rfl Try.func11 (by kernel_rfl) rfl #[] rfl mA ?_;(with_reducible refine(Azb.calls kj8  t732 _ A17.out).mono ?_);rintro e w18 ⟨rfl,hb⟩;refine⟨_,rfl,?_⟩;replace BK726:=aM (kB BK726 hb);replace HB:=aM (below_step pB hb);(try clear hb);(try clear hb2);(try clear hk);(try clear hi)))
       go_ret
       exact⟨eW,pB⟩
      ·replace c16:=Bool.eq_false_iff.mpr c16;subst c16;rw[if_neg (show ¬ (false=true) by decide)] at H
       obtain⟨y733,hy733⟩:∃ y_:List (S31),y_=(([(⟨a1_0,a2⟩:S31),(⟨a2,a1_1⟩:S31)]:List (S31))):=⟨_,rfl⟩;replace H:((Dzq.f kj8 l0 y733).bind fun bt736=>(if bt736.2=0 then(if(bt736.1.length:Int)=2 then(if 0 < (bt736.1.length:Int) then(if(rd bt736.1 0)≥0 then(if 1 < (bt736.1.length:Int) then(if(rd bt736.1 1)≥0 then(if(wrap64 ((rd bt736.1 0)+(rd bt736.1 1)))=t729 then((Azb.f kj8).bind fun t744=>(some t744)) else(none)) else(none)) else(none)) else(none)) else(none)) else(none)) else(none)))=some r:=by first|(rw[hy733];with_reducible exact H)|(have H2_:=(Option.bind_some _ _).symm.trans H;rw[hy733];with_reducible exact H2_)|(have H2_:=(Option.bind_some _ _).symm.trans H;with_reducible exact H2_)|with_reducible exact H|(rw[hy733];exact H)|exact H
       have Ny733:=aM hy733;clear hy733;replace H:=bS H;obtain⟨⟨t736,t737⟩,A190,H⟩:=H;(try dsimp only at H);have A19:=aM A190;clear A190;by_cases c20:t737=0
       ·rw[if_pos c20] at H;have c20b0:(t737 == 0)=true:=beq_iff_eq.mpr c20;have c20b1:(t737 != 0)=false:=bne_eq_false_iff_eq.mpr c20;clear c20;by_cases c21:(t736.length:Int)=2
        ·rw[if_pos c21] at H;have c21b0:((t736.length:Int) == 2)=true:=beq_iff_eq.mpr c21;have c21b1:((t736.length:Int) != 2)=false:=bne_eq_false_iff_eq.mpr c21;clear c21;by_cases c22:0 < (t736.length:Int)
         ·rw[if_pos c22] at H;have c22b0:decide (0 < (t736.length:Int))=true:=dE c22;have c22b1:decide (0 < t736.length)=true:=dE (by omega)
          clear c22;by_cases c23:(rd t736 0)≥0
          ·rw[if_pos c23] at H;have c23b0:decide (0≤(rd t736 0))=true:=dE c23;clear c23;by_cases c24:1 < (t736.length:Int)
           ·rw[if_pos c24] at H;have c24b0:decide (1 < (t736.length:Int))=true:=dE c24;have c24b1:decide (1 < t736.length)=true:=dE (by omega)
            clear c24;by_cases c25:(rd t736 1)≥0
            ·rw[if_pos c25] at H;have c25b0:decide (0≤(rd t736 1))=true:=dE c25;clear c25;by_cases c26:(wrap64 ((rd t736 0)+(rd t736 1)))=t729
             ·rw[if_pos c26] at H;have c26b0:((wrap64 ((rd t736 0)+(rd t736 1))) == t729)=true:=beq_iff_eq.mpr c26;have c26b1:((wrap64 ((rd t736 0)+(rd t736 1))) != t729)=false:=bne_eq_false_iff_eq.mpr c26;clear c26;replace H:=bS H;obtain⟨t744,A270,H⟩:=H;replace H:(some t744)=some r:=H;have A27:=aM A270;clear A270;obtain rfl:=Option.some.inj H;obtain⟨hcz28_0,hcz28_1,hfz28_0,hfz28_1⟩:=bk2 BK726;try go_wp2_with (first|((with_reducible refine gate_dst (N:=51) rfl ?_);(try(refine gate_guard (by rfl) ?_;dsimp only));refine Kd.R_lit k31 _ 31 ?hg (N:=51) ?hd (xs:=([(⟨a1_0,a2⟩:S31),(⟨a2,a1_1⟩:S31)]:List (S31))) (inner:=[.int .i64 a1_0,.int .i64 a2,.int .i64 a2,.int .i64 a1_1]) (ok:=fun _=>True) (okp:=fun _=>True) ?hr ?hp (fun _ hk=>hk) trivial (Below.refl _ _) (Nat.le_refl _) (by simp) ?_;(case hd=>rfl);(case hg=>rfl);(case hr=>first|(go_simp;done)|(go_simp;rfl));(case hp=>exact(Reps.c2 (show Kd.M k31 _ _ _ (⟨a1_0,a2⟩:S31) [.int .i64 a1_0,.int .i64 a2] from(k31_mkM _ _ _ (⟨a1_0,a2⟩:S31) )) (Reps.c2 (show Kd.M k31 _ _ _ (⟨a2,a1_1⟩:S31) [.int .i64 a2,.int .i64 a1_1] from(k31_mkM _ _ _ (⟨a2,a1_1⟩:S31) )) (Reps.none _ _))));intro v734 w29 ho30 hb hg_ hnew_;clear hg_ hnew_;(first|rw[← Ny733.out] at ho30|(simp only[Int.reduceToNat] at ho30;rw[← Ny733.out] at ho30));have HO735:=aM (Kd.R_lower (Kd.R_newB ho30 (g:=gb726) (o:=.cells #[.int .i64 a1_0,.int .i64 a1_1] 31 (0,0)) (kW BK726)) (below_size pB));replace BK726:=aM (kB BK726 hb);replace HB:=aM (below_step pB hb);clear hb ho30;obtain⟨Ao31,co31,eo31⟩:=Kd.R_slice HO735.out;subst eo31)|((with_reducible refine gate_callee (f:=28) rfl ?_);refine goesL_ (some 52) rfl rfl Try.func28 (by kernel_rfl) rfl #[.slice A0 l0.length c0,.slice Ao31 y733.length co31] rfl mA ?_;(with_reducible refine(Dzq.calls kj8 _ _ l0 _ _ y733 t736 t737 _ ?side1 ?side2 ?side3 ?side4 A19.out).mono ?_);(case side1=>exact cX (Kd.C_below HR0.out HB.out));(case side2=>exact HC0.out);(case side3=>repeat(first|exact(Kd.R_reads' HO735.out).2.2|(with_reducible refine Kd.C_alloc ?_ _)|(with_reducible refine Kd.C_drewN ?_ _)|(with_reducible refine Kd.C_drew ?_)));(case side4=>exact(Kd.R_reads' HO735.out).2.1);rintro e w32 ⟨v738,rfl,ho0,hb⟩;refine⟨_,rfl,?_⟩;have HO739:=aM (Kd.R_lower ho0 (below_size pB));replace HO735:=aM (Kd.R_below (rX HO735.out) hb);replace BK726:=aM (kB BK726 hb);replace HB:=aM (below_step pB hb);(try clear hb);(try clear hb2);(try clear hk);(try clear hi);(try clear ho0)))
              have n0_:=aM (Kd.R_drew HO735.out);have n1_:=aM (Kd.R_drew HO739.out);have n2_:=aM (blk_drew BK726.out);have n3_:=aM (below_drew1 HB.out);clear HO735;clear HO739;clear BK726;clear HB;have HO735:=n0_;have HO739:=n1_;have BK726:=n2_;have HB:=n3_;clear n0_ n1_ n2_ n3_;obtain⟨Ao34,co34,eo34⟩:=Kd.R_slice HO739.out;(first|subst eo34|(injection eo34 with f1_ f2_ f3_;have f4_:=f1_.symm;have f5_:=f3_.symm;clear f1_ f2_ f3_;subst f4_;subst f5_))
              have p740:0≤(0:Int):=(by omega)
              have q740:0 < (t736.length:Int):=oE aS
              obtain⟨ad740,e740,hx740_0⟩:=Kd.at_int (Kd.R_reads' HO739.out).2.2 0 p740 q740;cases e740
              have qi740:(0 < t736.length)=True:=eq_true (by omega)
              (try rw[show((0:Int)).toNat=0 from rfl] at hx740_0)
              (try rw[Addr.add_zero'] at hx740_0)
              replace p740:=eq_true p740;replace q740:=eq_true q740;have p741:0≤(1:Int):=(by omega)
              have q741:1 < (t736.length:Int):=oE aS
              obtain⟨ad741,e741,hx741_0⟩:=Kd.at_int (Kd.R_reads' HO739.out).2.2 1 p741 q741;obtain rfl:ad740=ad741:=(by injection e741)
              (try simp only[show(1:Int).toNat=1 from rfl,Nat.reduceMul,Nat.reduceEqDiff,Go.Addr.add,↓reduceIte] at hx741_0)
              have qi741:(1 < t736.length)=True:=eq_true (by omega)
              (try rw[show((1:Int)).toNat=1 from rfl] at hx741_0)
              replace p741:=eq_true p741;replace q741:=eq_true q741;have p742:0≤(0:Int):=(by omega)
              have q742:0 < (t736.length:Int):=oE aS
              obtain⟨ad742,e742,hx742_0⟩:=Kd.at_int (Kd.R_reads' HO739.out).2.2 0 p742 q742;obtain rfl:ad740=ad742:=(by injection e742)
              have qi742:(0 < t736.length)=True:=eq_true (by omega)
              (try rw[show((0:Int)).toNat=0 from rfl] at hx742_0)
              (try rw[Addr.add_zero'] at hx742_0)
              replace p742:=eq_true p742;replace q742:=eq_true q742;have p743:0≤(1:Int):=(by omega)
              have q743:1 < (t736.length:Int):=oE aS
              obtain⟨ad743,e743,hx743_0⟩:=Kd.at_int (Kd.R_reads' HO739.out).2.2 1 p743 q743;obtain rfl:ad740=ad743:=(by injection e743)
              (try simp only[show(1:Int).toNat=1 from rfl,Nat.reduceMul,Nat.reduceEqDiff,Go.Addr.add,↓reduceIte] at hx743_0)
              have qi743:(1 < t736.length)=True:=eq_true (by omega)
              (try rw[show((1:Int)).toNat=1 from rfl] at hx743_0)
              replace p743:=eq_true p743;replace q743:=eq_true q743;refine start_ (n:=34) (S:=fun w'=>w'.cell? ad740=some (.int .i64 (rd t736 0))∧w'.cell? ⟨ad740.block,ad740.off+1,none⟩=some (.int .i64 (rd t736 1))∧w'.cell? ad740=some (.int .i64 (rd t736 0))∧w'.cell? ⟨ad740.block,ad740.off+1,none⟩=some (.int .i64 (rd t736 1))) (ds:=[]) #[false,false,false,false,false,false,false,false,false,false,false,false,false,false,false,false,false,false,false,false,false,false,false,false,false,false,false,false,false,false,false,false,false,false] (by kernel_rfl) rfl rfl ⟨hx740_0,hx741_0,hx742_0,hx743_0⟩ (fun hHeld=>?_);refine with_tabW Bzq.tab11 Bzq.bits11 (fun HT_ HW_=>?_)
              generalize w32.drew=w33 at HO735 HO739 BK726 HB hx740_0 hx741_0 hx742_0 hx743_0 hHeld ⊢;refine pU (i:=0) (N:=some 55) HT_ #[true,false,false,false,false,false,false,false,false,false,false,false,false,false,false,false,false,false,false,false,false,false,false,false,false,false,false,false,false,false,false,false,false,false] ?_;refine pU (i:=1) (N:=some 56) HT_ #[true,true,false,false,false,false,false,false,false,false,false,false,false,false,false,false,false,false,false,false,false,false,false,false,false,false,false,false,false,false,false,false,false,false] ?_;refine pU (i:=2) (N:=some 57) HT_ #[true,true,true,false,false,false,false,false,false,false,false,false,false,false,false,false,false,false,false,false,false,false,false,false,false,false,false,false,false,false,false,false,false,false] ?_;refine pU (i:=3) (N:=some 58) HT_ #[true,true,true,true,false,false,false,false,false,false,false,false,false,false,false,false,false,false,false,false,false,false,false,false,false,false,false,false,false,false,false,false,false,false] ?_;refine pU (i:=4) (N:=some 59) HT_ #[true,true,true,true,true,false,false,false,false,false,false,false,false,false,false,false,false,false,false,false,false,false,false,false,false,false,false,false,false,false,false,false,false,false] ?_;refine pU (i:=5) (N:=some 60) HT_ #[true,true,true,true,true,true,false,false,false,false,false,false,false,false,false,false,false,false,false,false,false,false,false,false,false,false,false,false,false,false,false,false,false,false] ?_;refine pU (i:=6) (N:=some 61) HT_ #[true,true,true,true,true,true,true,false,false,false,false,false,false,false,false,false,false,false,false,false,false,false,false,false,false,false,false,false,false,false,false,false,false,false] ?_;refine pU (i:=7) (N:=some 62) HT_ #[true,true,true,true,true,true,true,true,false,false,false,false,false,false,false,false,false,false,false,false,false,false,false,false,false,false,false,false,false,false,false,false,false,false] ?_;refine pU (i:=8) (N:=some 63) HT_ #[true,true,true,true,true,true,true,true,true,false,false,false,false,false,false,false,false,false,false,false,false,false,false,false,false,false,false,false,false,false,false,false,false,false] ?_;refine pU (i:=9) (N:=some 64) HT_ #[true,true,true,true,true,true,true,true,true,true,false,false,false,false,false,false,false,false,false,false,false,false,false,false,false,false,false,false,false,false,false,false,false,false] ?_;refine take_ (i:=10) (N:=some 65) (v:=?_) (a':=?_) #[true,true,true,true,true,true,true,true,true,true,true,false,false,false,false,false,false,false,false,false,false,false,false,false,false,false,false,false,false,false,false,false,false,false] rfl rfl (take_ofW HT_.out HW_.out (by kernel_rfl)) (fun _ _ _ h=>h) (Or.inl ⟨by rfl,?_⟩) hHeld ?_ ?_
              rotate_left
              ·rintro w' ⟨s0,s1,s2,s3⟩;go_simp
               with_reducible rfl
              rotate_left
              ·simp only[Act.put,sA,sZ,sC,i64_w,i32_w];rfl
              refine pU (i:=11) (N:=some 66) HT_ #[true,true,true,true,true,true,true,true,true,true,true,true,false,false,false,false,false,false,false,false,false,false,false,false,false,false,false,false,false,false,false,false,false,false] ?_;refine pU (i:=12) (N:=some 67) HT_ #[true,true,true,true,true,true,true,true,true,true,true,true,true,false,false,false,false,false,false,false,false,false,false,false,false,false,false,false,false,false,false,false,false,false] ?_;refine pU (i:=13) (N:=some 68) HT_ #[true,true,true,true,true,true,true,true,true,true,true,true,true,true,false,false,false,false,false,false,false,false,false,false,false,false,false,false,false,false,false,false,false,false] ?_;refine pU (i:=14) (N:=some 69) HT_ #[true,true,true,true,true,true,true,true,true,true,true,true,true,true,true,false,false,false,false,false,false,false,false,false,false,false,false,false,false,false,false,false,false,false] ?_;refine pU (i:=15) (N:=some 70) HT_ #[true,true,true,true,true,true,true,true,true,true,true,true,true,true,true,true,false,false,false,false,false,false,false,false,false,false,false,false,false,false,false,false,false,false] ?_;refine take_ (i:=16) (N:=some 71) (v:=?_) (a':=?_) #[true,true,true,true,true,true,true,true,true,true,true,true,true,true,true,true,true,false,false,false,false,false,false,false,false,false,false,false,false,false,false,false,false,false] rfl rfl (take_ofW HT_.out HW_.out (by kernel_rfl)) (fun _ _ _ h=>h) (Or.inl ⟨by rfl,?_⟩) hHeld ?_ ?_
              rotate_left
              ·rintro w' ⟨s0,s1,s2,s3⟩;go_simp
               with_reducible rfl
              rotate_left
              ·simp only[Act.put,sA,sZ,sC,i64_w,i32_w];rfl
              refine pU (i:=17) (N:=some 72) HT_ #[true,true,true,true,true,true,true,true,true,true,true,true,true,true,true,true,true,true,false,false,false,false,false,false,false,false,false,false,false,false,false,false,false,false] ?_;refine pU (i:=18) (N:=some 73) HT_ #[true,true,true,true,true,true,true,true,true,true,true,true,true,true,true,true,true,true,true,false,false,false,false,false,false,false,false,false,false,false,false,false,false,false] ?_;refine pU (i:=19) (N:=some 74) HT_ #[true,true,true,true,true,true,true,true,true,true,true,true,true,true,true,true,true,true,true,true,false,false,false,false,false,false,false,false,false,false,false,false,false,false] ?_;refine pU (i:=20) (N:=some 75) HT_ #[true,true,true,true,true,true,true,true,true,true,true,true,true,true,true,true,true,true,true,true,true,false,false,false,false,false,false,false,false,false,false,false,false,false] ?_;refine pU (i:=21) (N:=some 76) HT_ #[true,true,true,true,true,true,true,true,true,true,true,true,true,true,true,true,true,true,true,true,true,true,false,false,false,false,false,false,false,false,false,false,false,false] ?_;refine pU (i:=23) (N:=some 78) HT_ #[true,true,true,true,true,true,true,true,true,true,true,true,true,true,true,true,true,true,true,true,true,true,false,true,false,false,false,false,false,false,false,false,false,false] ?_;refine pU (i:=24) (N:=some 79) HT_ #[true,true,true,true,true,true,true,true,true,true,true,true,true,true,true,true,true,true,true,true,true,true,false,true,true,false,false,false,false,false,false,false,false,false] ?_;refine pU (i:=27) (N:=some 82) HT_ #[true,true,true,true,true,true,true,true,true,true,true,true,true,true,true,true,true,true,true,true,true,true,false,true,true,false,false,true,false,false,false,false,false,false] ?_;refine take_ (i:=22) (N:=some 77) (v:=?_) (a':=?_) #[true,true,true,true,true,true,true,true,true,true,true,true,true,true,true,true,true,true,true,true,true,true,true,true,true,false,false,true,false,false,false,false,false,false] rfl rfl (take_ofW HT_.out HW_.out (by kernel_rfl)) (fun _ _ _ h=>h) (Or.inl ⟨by rfl,?_⟩) hHeld ?_ ?_
              rotate_left
              ·rintro w' ⟨s0,s1,s2,s3⟩;go_simp
               with_reducible rfl
              rotate_left
              ·simp only[Act.put,sA,sZ,sC,i64_w,i32_w];rfl
              refine take_ (i:=25) (N:=some 80) (v:=?_) (a':=?_) #[true,true,true,true,true,true,true,true,true,true,true,true,true,true,true,true,true,true,true,true,true,true,true,true,true,true,false,true,false,false,false,false,false,false] rfl rfl (take_ofW HT_.out HW_.out (by kernel_rfl)) (fun _ _ _ h=>h) (Or.inl ⟨by rfl,?_⟩) hHeld ?_ ?_
              rotate_left
              ·rintro w' ⟨s0,s1,s2,s3⟩;go_simp
               with_reducible rfl
              rotate_left
              ·simp only[Act.put,sA,sZ,sC,i64_w,i32_w];rfl
              refine pU (i:=26) (N:=some 81) HT_ #[true,true,true,true,true,true,true,true,true,true,true,true,true,true,true,true,true,true,true,true,true,true,true,true,true,true,true,true,false,false,false,false,false,false] ?_;refine pU (i:=28) (N:=some 83) HT_ #[true,true,true,true,true,true,true,true,true,true,true,true,true,true,true,true,true,true,true,true,true,true,true,true,true,true,true,true,true,false,false,false,false,false] ?_;refine pU (i:=29) (N:=some 84) HT_ #[true,true,true,true,true,true,true,true,true,true,true,true,true,true,true,true,true,true,true,true,true,true,true,true,true,true,true,true,true,true,false,false,false,false] ?_;refine pU (i:=30) (N:=some 85) HT_ #[true,true,true,true,true,true,true,true,true,true,true,true,true,true,true,true,true,true,true,true,true,true,true,true,true,true,true,true,true,true,true,false,false,false] ?_;refine one_ (i:=31) (N:=some 86) #[true,true,true,true,true,true,true,true,true,true,true,true,true,true,true,true,true,true,true,true,true,true,true,true,true,true,true,true,true,true,true,true,false,false] rfl rfl (one_of HT_.out (by kernel_rfl)) (by decide) (fun K hK=>?_)
              refine goes_ Try.func11 (by kernel_rfl) rfl #[] (by rfl) rfl rfl mA ?_
              with_reducible refine(Azb.calls kj8  t744 _ A27.out).mono ?_
              rintro e w35 ⟨rfl,hb⟩;have HS0_:=(hb.cell (World.block_lt_of_cell? _ _ (hHeld.1))).trans (hHeld.1);have HS1_:=(hb.cell (World.block_lt_of_cell? _ _ (hHeld.2.1))).trans (hHeld.2.1);have HS2_:=(hb.cell (World.block_lt_of_cell? _ _ (hHeld.2.2.1))).trans (hHeld.2.2.1);have HS3_:=(hb.cell (World.block_lt_of_cell? _ _ (hHeld.2.2.2))).trans (hHeld.2.2.2);refine⟨_,rfl,?_⟩;have n0_:=aM (Kd.R_below (rX HO735.out) hb);have n1_:=aM (Kd.R_below (rX HO739.out) hb);have n2_:=aM (kB BK726 hb);have n3_:=aM (below_step pB hb);clear HO735;clear HO739;clear BK726;clear HB;have HO735:=n0_;have HO739:=n1_;have BK726:=n2_;have HB:=n3_;clear n0_ n1_ n2_ n3_;(try clear hb)
              (try clear hb2)
              (try clear hk)
              (try clear hi)
              refine hK.out _ _ ⟨HS0_,HS1_,HS2_,HS3_⟩ (fun hHeld=>?_)
              clear hK K;refine norm_ (a':=?_) ?_ ?_;rotate_left
              ·show Act.put _ (some 86) _=_
               simp only[Act.put,sA,sZ,sC,i64_w,i32_w];rfl
              refine pU (i:=32) (N:=some 87) HT_ #[true,true,true,true,true,true,true,true,true,true,true,true,true,true,true,true,true,true,true,true,true,true,true,true,true,true,true,true,true,true,true,true,true,false] ?_;refine pU (i:=33) (N:=some 6) HT_ #[true,true,true,true,true,true,true,true,true,true,true,true,true,true,true,true,true,true,true,true,true,true,true,true,true,true,true,true,true,true,true,true,true,true] ?_;refine done_ (done_of HT_.out (by kernel_rfl)) ?_
              try go_wp2
              go_ret
              exact⟨eW,pB⟩
             ·rw[if_neg c26] at H;have c26b0:((wrap64 ((rd t736 0)+(rd t736 1))) == t729)=false:=beq_eq_false_iff_ne.mpr c26;have c26b1:((wrap64 ((rd t736 0)+(rd t736 1))) != t729)=true:=bne_iff_ne.mpr c26;exact absurd H (by simp)
            ·rw[if_neg c25] at H;have c25b0:decide (0≤(rd t736 1))=false:=decide_eq_false c25;clear c25;exact absurd H (by simp)
           ·rw[if_neg c24] at H;exact absurd H (by simp)
          ·rw[if_neg c23] at H;have c23b0:decide (0≤(rd t736 0))=false:=decide_eq_false c23;clear c23;exact absurd H (by simp)
         ·rw[if_neg c22] at H;exact absurd H (by simp)
        ·rw[if_neg c21] at H;have c21b0:((t736.length:Int) == 2)=false:=beq_eq_false_iff_ne.mpr c21;have c21b1:((t736.length:Int) != 2)=true:=bne_iff_ne.mpr c21;exact absurd H (by simp)
       ·rw[if_neg c20] at H;have c20b0:(t737 == 0)=false:=beq_eq_false_iff_ne.mpr c20;have c20b1:(t737 != 0)=true:=bne_iff_ne.mpr c20;exact absurd H (by simp)
  ·rw[if_neg c7] at H;have c7b0:(t730 == 0)=false:=beq_eq_false_iff_ne.mpr c7;have c7b1:(t730 != 0)=true:=bne_iff_ne.mpr c7;by_cases c36:t729=0
   ·rw[if_pos c36] at H;have c36b0:(t729 == 0)=true:=beq_iff_eq.mpr c36;have c36b1:(t729 != 0)=false:=bne_eq_false_iff_eq.mpr c36;clear c36;replace H:=bS H;obtain⟨t731,A370,H⟩:=H;replace H:(some t731)=some r:=H;have A37:=aM A370;clear A370;obtain rfl:=Option.some.inj H;go_enter Try.func9,Try.ntmps9
    go_wp2_with (first|((with_reducible refine gate_dst (N:=4) rfl ?_);(try(refine gate_guard (by rfl) ?_;dsimp only));refine box_event ?hg (N:=4) ?hd (cs:=#[.int .i64 a1_0,.int .i64 a1_1]) (t:=31) ?hr ?_;(case hd=>rfl);(case hg=>rfl);(case hr=>first|(go_simp;done)|(go_simp;rfl));intro gb726 hg w38 hbox hb;have BK726:=aM (hbox);have GW726:=aM (gW hg:w.heap.size≤gb726);have GE726:=aM (gW hg:w.heap.size≤gb726);replace HB:=aM (below_step pB hb);clear hb hbox hg)|((with_reducible refine gate_callee (f:=10) rfl ?_);refine goesL_ (some 12) rfl rfl Try.func10 (by kernel_rfl) rfl #[.slice A0 l0.length c0] rfl mA ?_;(with_reducible refine(Dzw.calls _ _ l0 true _ ?side1 ?side2 A4.out).mono ?_);(case side1=>exact cX (Kd.C_below HR0.out HB.out));(case side2=>exact HC0.out);rintro e w' ⟨rfl,⟨nd,rfl⟩⟩;refine⟨_,rfl,?_⟩;obtain⟨hcz39_0,hcz39_1,hfz39_0,hfz39_1⟩:=bk2 BK726)|((with_reducible refine gate_callee (f:=16) rfl ?_);refine goesL_ (some 18) rfl rfl Try.func16 (by kernel_rfl) rfl #[.slice A0 l0.length c0,.agg #[.int .i64 a1_0,.int .i64 a1_1]] rfl mA ?_;(with_reducible refine(Ezq.calls k _ _ l0 a1_0 a1_1 t729 t730 _ ?side1 ?side2 A6.out).mono ?_);(case side1=>repeat(first|exact(Kd.C_below HR0.out pB)|(with_reducible refine Kd.C_alloc ?_ _)|(with_reducible refine Kd.C_drewN ?_ _)|(with_reducible refine Kd.C_drew ?_)));(case side2=>exact HC0.out);rintro e w40 ⟨rfl,hb⟩;refine⟨_,rfl,?_⟩;replace BK726:=aM (kB BK726 hb);replace HB:=aM (below_step pB hb);(try clear hb);(try clear hb2);(try clear hk);(try clear hi))|(go_at_call 11;(with_reducible refine(Azb.calls k  t731 _ A37.out).mono ?_);rintro e w41 ⟨rfl,hb⟩;replace BK726:=aM (kB BK726 hb);replace HB:=aM (below_step pB hb);(try clear hb);(try clear hb2);(try clear hk);(try clear hi)))
    go_ret
    exact⟨eW,pB⟩
   ·rw[if_neg c36] at H;exact absurd H (by simp)
 ·replace c5:=Bool.eq_false_iff.mpr c5;subst c5;rw[if_neg (show ¬ (false=true) by decide)] at H
  replace H:=bS H;obtain⟨t728,A420,H⟩:=H;replace H:(some t728)=some r:=H;have A42:=aM A420;clear A420;obtain rfl:=Option.some.inj H;go_enter Try.func9,Try.ntmps9
  go_wp2_with (first|((with_reducible refine gate_dst (N:=4) rfl ?_);(try(refine gate_guard (by rfl) ?_;dsimp only));refine box_event ?hg (N:=4) ?hd (cs:=#[.int .i64 a1_0,.int .i64 a1_1]) (t:=31) ?hr ?_;(case hd=>rfl);(case hg=>rfl);(case hr=>first|(go_simp;done)|(go_simp;rfl));intro gb726 hg w43 hbox hb;have BK726:=aM (hbox);have GW726:=aM (gW hg:w.heap.size≤gb726);have GE726:=aM (gW hg:w.heap.size≤gb726);replace HB:=aM (below_step pB hb);clear hb hbox hg)|((with_reducible refine gate_callee (f:=10) rfl ?_);refine goesL_ (some 12) rfl rfl Try.func10 (by kernel_rfl) rfl #[.slice A0 l0.length c0] rfl mA ?_;(with_reducible refine(Dzw.calls _ _ l0 false _ ?side1 ?side2 A4.out).mono ?_);(case side1=>exact cX (Kd.C_below HR0.out HB.out));(case side2=>exact HC0.out);rintro e w' ⟨rfl,⟨nd,rfl⟩⟩;refine⟨_,rfl,?_⟩)|((with_reducible refine gate_callee (f:=11) rfl ?_);refine goesL_ (some 14) rfl rfl Try.func11 (by kernel_rfl) rfl #[] rfl mA ?_;(with_reducible refine(Azb.calls k  t728 _ A42.out).mono ?_);rintro e w44 ⟨rfl,hb⟩;refine⟨_,rfl,?_⟩;replace BK726:=aM (kB BK726 hb);replace HB:=aM (below_step pB hb);(try clear hb);(try clear hb2);(try clear hk);(try clear hi)))
  go_ret
  exact⟨eW,pB⟩

/-- THE ONE PURE STATEMENT of Bzq: yours. -/
def Bzq.Pure:Prop:=∀ (l0:List (S46)) (a1_0:Int) (a1_1:Int) (a2:Int),l0.length≤maxLen→l0.length * 16≤140737488351232→(∀ x_ ∈ l0,((Lit.int .i64 x_.f0).wf=true)∧((Lit.int .i64 x_.f1).wf=true))→(Lit.int .i64 a1_0).wf=true→(Lit.int .i64 a1_1).wf=true→(Lit.int .i64 a2).wf=true→∃ k,Bzq.f k l0 a1_0 a1_1 a2=some true

end Go.Proofs.Ytnklckihalhlmaa.Print
