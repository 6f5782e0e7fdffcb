import Derived.Test.YtnklckihalhlmaaPrint0
import Derived.Test.YtnklckihalhlmaaPrint2
import Derived.Test.YtnklckihalhlmaaPrint7
import Derived.Test.YtnklckihalhlmaaPrint38
import Derived.Test.YtnklckihalhlmaaPrint39
import Derived.Test.YtnklckihalhlmaaPrint41
namespace Go.Proofs.Ytnklckihalhlmaa.Print
open Go.RowKit Go.Proofs.YtnklckihalhlmaaW.PrintWords Go.Proofs.YtnklckihalhlmaaW.PrintLast Go.Proofs.YtnklckihalhlmaaW.PrintMore
attribute [local go_sem] max2_int min2_int max_two min_two max_three min_three max_four min_four
set_option linter.unusedVariables false
set_option maxRecDepth 100000
set_option maxHeartbeats 8000000
set_option linter.unusedSimpArgs false

def Fzq.f (k:Nat) (l0:List (S46)) (a1:Int):Option (Int × Int):=(Azp.f k l0).bind fun t653=>(if t653=0 then((Dzb.f l0 a1).bind fun t654=>(if t654=true then((Azm.f k l0 a1).bind fun t655=>(some (t655,0))) else(some (0,1)))) else(some (0,t653)))
theorem Fzq.mono:∀ a0 a1 k,LeO (Fzq.f k a0 a1) (Fzq.f (k+1) a0 a1):=by
 intro a0 a1 k;unfold Fzq.f;with_reducible repeat' first|exact Azp.mono _ _|exact Azm.mono _ _ _|exact LeO.refl _|exact LeO.none _|refine LeO.ite ?_ ?_|refine LeO.bind ?_ (fun _=>?_)
theorem Fzq.calls (k:Nat) (A0:Option Addr) (c0:Nat) (l0:List (S46)) (a1:Int) (r1:Int) (r2:Int) (w:World) (hr0:Kd.C k46 w A0 l0.length l0) (hc0:l0.length≤c0) (h:Fzq.f k l0 a1=some (r1,r2)) :
  Calls Try.prog 13 #[.slice A0 l0.length c0,.int .i64 a1] w fun e w'=>e=.returned (.tuple #[.int .i64 r1,.int .i64 r2])∧Below w.heap.size w w':=by
 have HR0:=aM hr0;have HC0:=aM hc0;clear hr0 hc0;have HB:=aM (Below.refl w.heap.size w);have H:((Azp.f k l0).bind fun t653=>(if t653=0 then((Dzb.f l0 a1).bind fun t654=>(if t654=true then((Azm.f k l0 a1).bind fun t655=>(some (t655,0))) else(some (0,1)))) else(some (0,t653))))=some (r1,r2):=h
 clear h;replace H:=bS H;obtain⟨t653,A30,H⟩:=H;(try dsimp only at H);have A3:=aM A30;clear A30;by_cases c4:t653=0
 ·rw[if_pos c4] at H;have c4b0:(t653 == 0)=true:=beq_iff_eq.mpr c4;have c4b1:(t653 != 0)=false:=bne_eq_false_iff_eq.mpr c4;clear c4;replace H:=bS H;obtain⟨t654,A50,H⟩:=H;(try dsimp only at H);have A5:=aM A50;clear A50;by_cases c6:t654=true
  ·subst c6;rw[if_pos rfl] at H;replace H:=bS H;obtain⟨t655,A70,H⟩:=H;replace H:(some (t655,0))=some (r1,r2):=H;have A7:=aM A70;clear A70;simp only[Option.some.injEq,Prod.mk.injEq] at H;obtain⟨rfl,rfl⟩:=H;go_enter Try.func13,Try.ntmps13
   go_wp2_with (first|((with_reducible refine gate_callee (f:=15) rfl ?_);refine goesL_ (some 8) rfl rfl Try.func15 (by kernel_rfl) rfl #[.slice A0 l0.length c0] rfl mA ?_;(with_reducible refine(Azp.calls k _ _ l0 t653 _ ?side1 ?side2 A3.out).mono ?_);(case side1=>exact cX HR0.out);(case side2=>exact HC0.out);rintro e w' ⟨rfl,⟨nd,rfl⟩⟩;refine⟨_,rfl,?_⟩)|((with_reducible refine gate_callee (f:=33) rfl ?_);refine goesL_ (some 14) rfl rfl Try.func33 (by kernel_rfl) rfl #[.slice A0 l0.length c0,.int .i64 a1] rfl mA ?_;(with_reducible refine(Dzb.calls _ _ l0 a1 true _ ?side1 ?side2 A5.out).mono ?_);(case side1=>exact cX HR0.out);(case side2=>exact HC0.out);rintro e w' ⟨rfl,⟨nd,rfl⟩⟩;refine⟨_,rfl,?_⟩)|((with_reducible refine gate_callee (f:=34) rfl ?_);refine goesL_ (some 18) rfl rfl Try.func34 (by kernel_rfl) rfl #[.slice A0 l0.length c0,.int .i64 a1] rfl mA ?_;(with_reducible refine(Azm.calls k _ _ l0 a1 t655 _ ?side1 ?side2 A7.out).mono ?_);(case side1=>exact cX HR0.out);(case side2=>exact HC0.out);rintro e w8 ⟨rfl,hb⟩;refine⟨_,rfl,?_⟩;replace HB:=aM (below_step pB hb);(try clear hb);(try clear hb2);(try clear hk);(try clear hi)))
   go_ret2
   exact⟨eW,pB⟩
  ·replace c6:=Bool.eq_false_iff.mpr c6;subst c6;rw[if_neg (show ¬ (false=true) by decide)] at H
   simp only[Option.some.injEq,Prod.mk.injEq] at H;obtain⟨rfl,rfl⟩:=H;go_enter Try.func13,Try.ntmps13
   go_wp2_with (first|((with_reducible refine gate_callee (f:=15) rfl ?_);refine goesL_ (some 8) rfl rfl Try.func15 (by kernel_rfl) rfl #[.slice A0 l0.length c0] rfl mA ?_;(with_reducible refine(Azp.calls k _ _ l0 t653 _ ?side1 ?side2 A3.out).mono ?_);(case side1=>exact cX HR0.out);(case side2=>exact HC0.out);rintro e w' ⟨rfl,⟨nd,rfl⟩⟩;refine⟨_,rfl,?_⟩)|((with_reducible refine gate_callee (f:=33) rfl ?_);refine goesL_ (some 14) rfl rfl Try.func33 (by kernel_rfl) rfl #[.slice A0 l0.length c0,.int .i64 a1] rfl mA ?_;(with_reducible refine(Dzb.calls _ _ l0 a1 false _ ?side1 ?side2 A5.out).mono ?_);(case side1=>exact cX HR0.out);(case side2=>exact HC0.out);rintro e w' ⟨rfl,⟨nd,rfl⟩⟩;refine⟨_,rfl,?_⟩))
   go_ret2
   exact⟨eW,pB⟩
 ·rw[if_neg c4] at H;have c4b0:(t653 == 0)=false:=beq_eq_false_iff_ne.mpr c4;have c4b1:(t653 != 0)=true:=bne_iff_ne.mpr c4;simp only[Option.some.injEq,Prod.mk.injEq] at H;obtain⟨rfl,rfl⟩:=H;go_enter Try.func13,Try.ntmps13
  go_wp2_with (first|((with_reducible refine gate_callee (f:=15) rfl ?_);refine goesL_ (some 8) rfl rfl Try.func15 (by kernel_rfl) rfl #[.slice A0 l0.length c0] rfl mA ?_;(with_reducible refine(Azp.calls k _ _ l0 t653 _ ?side1 ?side2 A3.out).mono ?_);(case side1=>exact cX HR0.out);(case side2=>exact HC0.out);rintro e w' ⟨rfl,⟨nd,rfl⟩⟩;refine⟨_,rfl,?_⟩))
  go_ret2
  exact⟨eW,pB⟩

def Ezk.f (k:Nat) (l0:List (S46)) (a1:Int):Option (Bool):=(Dzw.f l0).bind fun t656=>(if t656=true then((Ezj.f k l0 a1).bind fun bt658=>((Fzq.f k l0 a1).bind fun bt660=>((Bzj.f k l0).bind fun t662=>((Azp.f k l0).bind fun t663=>(if t662=t663 then(if bt658.1=bt660.1 then(if bt658.2=bt660.2 then((Azb.f k).bind fun t664=>(some t664)) else(none)) else(none)) else(none)))))) else((Azb.f k).bind fun t657=>(some t657)))
theorem Ezk.mono:∀ a0 a1 k,LeO (Ezk.f k a0 a1) (Ezk.f (k+1) a0 a1):=by
 intro a0 a1 k;unfold Ezk.f;with_reducible repeat' first|exact Bzj.mono _ _|exact Ezj.mono _ _ _|exact Azb.mono _|exact Azp.mono _ _|exact Fzq.mono _ _ _|exact LeO.refl _|exact LeO.none _|refine LeO.ite ?_ ?_|refine LeO.bind ?_ (fun _=>?_)
theorem Ezk.calls (k:Nat) (A0:Option Addr) (c0:Nat) (l0:List (S46)) (a1:Int) (r:Bool) (w:World) (hr0:Kd.C k46 w A0 l0.length l0) (hc0:l0.length≤c0) (h:Ezk.f k l0 a1=some r) :
  Calls Try.prog 3 #[.slice A0 l0.length c0,.int .i64 a1] w fun e w'=>e=.returned (.bool r)∧Below w.heap.size w w':=by
 have HR0:=aM hr0;have HC0:=aM hc0;clear hr0 hc0;have HB:=aM (Below.refl w.heap.size w);have H:((Dzw.f l0).bind fun t656=>(if t656=true then((Ezj.f k l0 a1).bind fun bt658=>((Fzq.f k l0 a1).bind fun bt660=>((Bzj.f k l0).bind fun t662=>((Azp.f k l0).bind fun t663=>(if t662=t663 then(if bt658.1=bt660.1 then(if bt658.2=bt660.2 then((Azb.f k).bind fun t664=>(some t664)) else(none)) else(none)) else(none)))))) else((Azb.f k).bind fun t657=>(some t657))))=some r:=h
 clear h;replace H:=bS H;obtain⟨t656,A30,H⟩:=H;(try dsimp only at H);have A3:=aM A30;clear A30;by_cases c4:t656=true
 ·subst c4;rw[if_pos rfl] at H;replace H:=bS H;obtain⟨⟨t658,t659⟩,A50,H⟩:=H;(try dsimp only at H);have A5:=aM A50;clear A50;replace H:=bS H;obtain⟨⟨t660,t661⟩,A60,H⟩:=H;(try dsimp only at H);have A6:=aM A60;clear A60;replace H:=bS H;obtain⟨t662,A70,H⟩:=H;(try dsimp only at H);have A7:=aM A70;clear A70;replace H:=bS H;obtain⟨t663,A80,H⟩:=H;(try dsimp only at H);have A8:=aM A80;clear A80;by_cases c9:t662=t663
  ·rw[if_pos c9] at H;have c9b0:(t662 == t663)=true:=beq_iff_eq.mpr c9;have c9b1:(t662 != t663)=false:=bne_eq_false_iff_eq.mpr c9;clear c9;by_cases c10:t658=t660
   ·rw[if_pos c10] at H;have c10b0:(t658 == t660)=true:=beq_iff_eq.mpr c10;have c10b1:(t658 != t660)=false:=bne_eq_false_iff_eq.mpr c10;clear c10;by_cases c11:t659=t661
    ·rw[if_pos c11] at H;have c11b0:(t659 == t661)=true:=beq_iff_eq.mpr c11;have c11b1:(t659 != t661)=false:=bne_eq_false_iff_eq.mpr c11;clear c11;replace H:=bS H;obtain⟨t664,A120,H⟩:=H;replace H:(some t664)=some r:=H;have A12:=aM A120;clear A120;obtain rfl:=Option.some.inj H;go_enter Try.func3,Try.ntmps3
     go_wp2_with (first|((with_reducible refine gate_callee (f:=10) rfl ?_);refine goesL_ (some 10) rfl rfl Try.func10 (by kernel_rfl) rfl #[.slice A0 l0.length c0] rfl mA ?_;(with_reducible refine(Dzw.calls _ _ l0 true _ ?side1 ?side2 A3.out).mono ?_);(case side1=>exact cX HR0.out);(case side2=>exact HC0.out);rintro e w' ⟨rfl,⟨nd,rfl⟩⟩;refine⟨_,rfl,?_⟩)|((with_reducible refine gate_callee (f:=12) rfl ?_);refine goesL_ (some 16) rfl rfl Try.func12 (by kernel_rfl) rfl #[.slice A0 l0.length c0,.int .i64 a1] rfl mA ?_;(with_reducible refine(Ezj.calls k _ _ l0 a1 t658 t659 _ ?side1 ?side2 A5.out).mono ?_);(case side1=>exact cX HR0.out);(case side2=>exact HC0.out);rintro e w13 ⟨rfl,hb⟩;refine⟨_,rfl,?_⟩;replace HB:=aM (below_step pB hb);(try clear hb);(try clear hb2);(try clear hk);(try clear hi))|((with_reducible refine gate_callee (f:=13) rfl ?_);refine goesL_ (some 22) rfl rfl Try.func13 (by kernel_rfl) rfl #[.slice A0 l0.length c0,.int .i64 a1] rfl mA ?_;(with_reducible refine(Fzq.calls k _ _ l0 a1 t660 t661 _ ?side1 ?side2 A6.out).mono ?_);(case side1=>exact cX (Kd.C_below HR0.out HB.out));(case side2=>exact HC0.out);rintro e w14 ⟨rfl,hb⟩;refine⟨_,rfl,?_⟩;replace HB:=aM (below_step pB hb);(try clear hb);(try clear hb2);(try clear hk);(try clear hi))|((with_reducible refine gate_callee (f:=14) rfl ?_);refine goesL_ (some 26) rfl rfl Try.func14 (by kernel_rfl) rfl #[.slice A0 l0.length c0] rfl mA ?_;(with_reducible refine(Bzj.calls k _ _ l0 t662 _ ?side1 ?side2 A7.out).mono ?_);(case side1=>exact cX (Kd.C_below HR0.out HB.out));(case side2=>exact HC0.out);rintro e w15 ⟨rfl,hb⟩;refine⟨_,rfl,?_⟩;replace HB:=aM (below_step pB hb);(try clear hb);(try clear hb2);(try clear hk);(try clear hi))|((with_reducible refine gate_callee (f:=15) rfl ?_);refine goesL_ (some 28) rfl rfl Try.func15 (by kernel_rfl) rfl #[.slice A0 l0.length c0] rfl mA ?_;(with_reducible refine(Azp.calls k _ _ l0 t663 _ ?side1 ?side2 A8.out).mono ?_);(case side1=>exact cX (Kd.C_below HR0.out HB.out));(case side2=>exact HC0.out);rintro e w' ⟨rfl,⟨nd,rfl⟩⟩;refine⟨_,rfl,?_⟩)|(go_at_call 11;(with_reducible refine(Azb.calls k  t664 _ A12.out).mono ?_);rintro e w16 ⟨rfl,hb⟩;replace HB:=aM (below_step pB hb);(try clear hb);(try clear hb2);(try clear hk);(try clear hi)))
     go_ret
     exact⟨eW,pB⟩
    ·rw[if_neg c11] at H;exact absurd H (by simp)
   ·rw[if_neg c10] at H;exact absurd H (by simp)
  ·rw[if_neg c9] at H;exact absurd H (by simp)
 ·replace c4:=Bool.eq_false_iff.mpr c4;subst c4;rw[if_neg (show ¬ (false=true) by decide)] at H
  replace H:=bS H;obtain⟨t657,A170,H⟩:=H;replace H:(some t657)=some r:=H;have A17:=aM A170;clear A170;obtain rfl:=Option.some.inj H;go_enter Try.func3,Try.ntmps3
  go_wp2_with (first|((with_reducible refine gate_callee (f:=10) rfl ?_);refine goesL_ (some 10) rfl rfl Try.func10 (by kernel_rfl) rfl #[.slice A0 l0.length c0] rfl mA ?_;(with_reducible refine(Dzw.calls _ _ l0 false _ ?side1 ?side2 A3.out).mono ?_);(case side1=>exact cX HR0.out);(case side2=>exact HC0.out);rintro e w' ⟨rfl,⟨nd,rfl⟩⟩;refine⟨_,rfl,?_⟩)|((with_reducible refine gate_callee (f:=11) rfl ?_);refine goesL_ (some 12) rfl rfl Try.func11 (by kernel_rfl) rfl #[] rfl mA ?_;(with_reducible refine(Azb.calls k  t657 _ A17.out).mono ?_);rintro e w18 ⟨rfl,hb⟩;refine⟨_,rfl,?_⟩;replace HB:=aM (below_step pB hb);(try clear hb);(try clear hb2);(try clear hk);(try clear hi)))
  go_ret
  exact⟨eW,pB⟩

/-- THE ONE PURE STATEMENT of Ezk: yours. -/
def Ezk.Pure:Prop:=∀ (l0:List (S46)) (a1:Int),l0.length≤maxLen→l0.length * 16≤140737488351232→(∀ x_ ∈ l0,((Lit.int .i64 x_.f0).wf=true)∧((Lit.int .i64 x_.f1).wf=true))→(Lit.int .i64 a1).wf=true→∃ k,Ezk.f k l0 a1=some true


def Bzx.j0:Nat→List (S46)→Bool→Int→Int→Option (Int × Int)
 | 0,_,_,_,_=>none
 | k+1,x0,x23,x666000,x666001=>if x23=true then(some (0,1)) else(if x666000 > x666001 then(some (0,9)) else((Azm.f k x0 x666001).bind fun t669=>((Azm.f k x0 x666000).bind fun t670=>(some (wrap64 (t669 - t670),0)))))
def Bzx.f (k:Nat) (l0:List (S46)) (a1_0:Int) (a1_1:Int):Option (Int × Int):=(Azp.f k l0).bind fun t666=>(if t666=0 then((Dzb.f l0 a1_0).bind fun t667=>(if t667=true then((Dzb.f l0 a1_1).bind fun t668=>(Bzx.j0 k l0 (!t668) a1_0 a1_1)) else(Bzx.j0 k l0 true a1_0 a1_1))) else(some (0,t666)))
theorem Bzx.mono_l:∀ k,(∀ y0 y1 y2 y3,LeO (Bzx.j0 k y0 y1 y2 y3) (Bzx.j0 (k+1) y0 y1 y2 y3))
 | 0=>fun _ _ _ _ r h=>by simp [Bzx.j0] at h
 | k+1=>by
  have ih0:=Bzx.mono_l k
  ·intro y0 y1 y2 y3;unfold Bzx.j0;with_reducible repeat' first|exact ih0 _ _ _ _|exact Azp.mono _ _|exact Azm.mono _ _ _|exact LeO.refl _|exact LeO.none _|refine LeO.ite ?_ ?_|refine LeO.bind ?_ (fun _=>?_)
theorem Bzx.mono:∀ a0 a1 a2 k,LeO (Bzx.f k a0 a1 a2) (Bzx.f (k+1) a0 a1 a2):=by
 intro a0 a1 a2 k;have ih0:=Bzx.mono_l k;unfold Bzx.f;with_reducible repeat' first|exact ih0 _ _ _ _|exact Azp.mono _ _|exact Azm.mono _ _ _|exact LeO.refl _|exact LeO.none _|refine LeO.ite ?_ ?_|refine LeO.bind ?_ (fun _=>?_)
def Bzx.T8:Bool × List (List Nat × List Nat):=(true,[([],[]),([],[]),([1],[1]),([0,2],[0,2]),([],[]),([],[]),([5],[5]),([4,6,3],[4,6]),([3,7],[3,7]),([8,7,0,1,2,3,4,5,6,7,8],[8]),([9,0,1,2,3,4,5,6,7,8,9],[])])
def Bzx.B8:List Nat:=[0,0,2,7,0,0,32,127,255,511,1023]
theorem Bzx.tab8:rtab .any (opsOf Try.f17 8)=Bzx.T8:=by kernel_rfl
theorem Bzx.bits8:waitsOk Bzx.T8.2 Bzx.B8=true:=by kernel_rfl
theorem Bzx.calls (k:Nat) (A0:Option Addr) (c0:Nat) (l0:List (S46)) (a1_0:Int) (a1_1:Int) (r1:Int) (r2:Int) (w:World) (hr0:Kd.C k46 w A0 l0.length l0) (hc0:l0.length≤c0) (h:Bzx.f k l0 a1_0 a1_1=some (r1,r2)) :
  Calls Try.prog 17 #[.slice A0 l0.length c0,.agg #[.int .i64 a1_0,.int .i64 a1_1]] w fun e w'=>e=.returned (.tuple #[.int .i64 r1,.int .i64 r2])∧Below w.heap.size w w':=by
 have hu31:=Try.underlying31;have HR0:=aM hr0;have HC0:=aM hc0;clear hr0 hc0;have HB:=aM (Below.refl w.heap.size w);have H:((Azp.f k l0).bind fun t666=>(if t666=0 then((Dzb.f l0 a1_0).bind fun t667=>(if t667=true then((Dzb.f l0 a1_1).bind fun t668=>(Bzx.j0 k l0 (!t668) a1_0 a1_1)) else(Bzx.j0 k l0 true a1_0 a1_1))) else(some (0,t666))))=some (r1,r2):=h
 clear h;replace H:=bS H;obtain⟨t666,A30,H⟩:=H;(try dsimp only at H);have A3:=aM A30;clear A30;by_cases c4:t666=0
 ·rw[if_pos c4] at H;have c4b0:(t666 == 0)=true:=beq_iff_eq.mpr c4;have c4b1:(t666 != 0)=false:=bne_eq_false_iff_eq.mpr c4;clear c4;have HC5:=aM H;clear H;go_enter Try.func17,Try.ntmps17
  go_upto_region 4 with (first|((with_reducible refine gate_dst (N:=3) rfl ?_);refine box_event ?hg (N:=3) ?hd (cs:=#[.int .i64 a1_0,.int .i64 a1_1]) (t:=31) ?hr ?_;(case hd=>rfl);(case hg=>rfl);(case hr=>first|(go_simp;done)|(go_simp;rfl));intro gb665 hg w6 hbox hb;have BK665:=aM (hbox);have GW665:=aM (gW hg:w.heap.size≤gb665);have GE665:=aM (gW hg:w.heap.size≤gb665);replace HB:=aM (below_step pB hb);clear hb hbox hg)|((with_reducible refine gate_callee (f:=15) rfl ?_);refine goesL_ (some 8) rfl rfl Try.func15 (by kernel_rfl) rfl #[.slice A0 l0.length c0] rfl mA ?_;(with_reducible refine(Azp.calls k _ _ l0 t666 _ ?side1 ?side2 A3.out).mono ?_);(case side1=>exact cX (Kd.C_below HR0.out HB.out));(case side2=>exact HC0.out);rintro e w' ⟨rfl,⟨nd,rfl⟩⟩;refine⟨_,rfl,?_⟩))
  (try simp only[Act.put,sA,sZ,sC])
  go_cut [23] (fun v23 wc=>∃ (kq:Nat) (x23_4:Bool),v23=.bool x23_4∧Aside0 (Bzx.j0 kq l0 x23_4 a1_0 a1_1=some (r1,r2))∧Aside0 (kq≤k)∧Aside0 (wc.heap[gb665]?=some (.cells #[.int .i64 a1_0,.int .i64 a1_1] 31 (0,0)))∧Aside0 (Below w.heap.size w wc))
  case first =>
   have H:=HC5.out;clear HC5;replace H:=bS H;obtain⟨t667,A70,H⟩:=H;(try dsimp only at H);have A7:=aM A70;clear A70;by_cases c8:t667=true
   ·subst c8;rw[if_pos rfl] at H;replace H:=bS H;obtain⟨t668,A90,H⟩:=H;(try dsimp only at H);have A9:=aM A90;clear A90;have H':=aM H;clear H;obtain⟨hcz10_0,hcz10_1,hfz10_0,hfz10_1⟩:=bk2 BK665;go_wp2_with (first|((with_reducible refine gate_callee (f:=33) rfl ?_);refine goesL_ (some 15) rfl rfl Try.func33 (by kernel_rfl) rfl #[.slice A0 l0.length c0,.int .i64 a1_0] rfl mA ?_;(with_reducible refine(Dzb.calls _ _ l0 a1_0 true _ ?side1 ?side2 A7.out).mono ?_);(case side1=>exact cX (Kd.C_below HR0.out HB.out));(case side2=>exact HC0.out);rintro e w' ⟨rfl,⟨nd,rfl⟩⟩;refine⟨_,rfl,?_⟩)|(go_at_call 33;(with_reducible refine(Dzb.calls _ _ l0 a1_1 t668 _ ?side1 ?side2 A9.out).mono ?_);(case side1=>repeat(first|exact(Kd.C_below HR0.out pB)|(with_reducible refine Kd.C_alloc ?_ _)|(with_reducible refine Kd.C_drewN ?_ _)|(with_reducible refine Kd.C_drew ?_)));(case side2=>exact HC0.out);rintro e w' ⟨rfl,⟨nd,rfl⟩⟩))
    go_meet
    case rel=>exact⟨_,(!t668),sD,H',⟨by first|omega|exact Nat.le_refl _⟩,⟨by(with_reducible repeat(first|refine blk_drewN ?_ _|refine blk_drew ?_|refine blk_alloc ?_ _));exact BK665.out⟩,⟨pB⟩⟩
   ·replace c8:=Bool.eq_false_iff.mpr c8;subst c8;rw[if_neg (show ¬ (false=true) by decide)] at H
    have H':=aM H;clear H;obtain⟨hcz11_0,hcz11_1,hfz11_0,hfz11_1⟩:=bk2 BK665;go_wp2_with (first|((with_reducible refine gate_callee (f:=33) rfl ?_);refine goesL_ (some 15) rfl rfl Try.func33 (by kernel_rfl) rfl #[.slice A0 l0.length c0,.int .i64 a1_0] rfl mA ?_;(with_reducible refine(Dzb.calls _ _ l0 a1_0 false _ ?side1 ?side2 A7.out).mono ?_);(case side1=>exact cX (Kd.C_below HR0.out HB.out));(case side2=>exact HC0.out);rintro e w' ⟨rfl,⟨nd,rfl⟩⟩;refine⟨_,rfl,?_⟩))
    go_meet
    case rel=>exact⟨_,(true),sD,H',⟨by first|omega|exact Nat.le_refl _⟩,⟨by(with_reducible repeat(first|refine blk_drewN ?_ _|refine blk_drew ?_|refine blk_alloc ?_ _));exact BK665.out⟩,⟨pB⟩⟩
  case rest =>
   clear HC5;try clear c1
   try clear p2
   try clear c3
   try clear c4
   try clear c4b0
   try clear c4b1
   try clear c8
   try clear hcz10_0
   try clear hcz10_1
   try clear hcz11_0
   try clear hcz11_1
   try clear hfz10_0
   try clear hfz10_1
   try clear hfz11_0
   try clear hfz11_1
   obtain⟨kq,x23_4,rfl,HA,HJ4,BK665,HB⟩:=hcut;cases kq with
   | zero=>exact absurd HA.out (by simp [Bzx.j0])
   | succ kj4 =>
    have H:=HA.out;clear HA;simp only[Bzx.j0] at H;by_cases c12:x23_4=true
    ·subst c12;rw[if_pos rfl] at H;simp only[Option.some.injEq,Prod.mk.injEq] at H;obtain⟨rfl,rfl⟩:=H;go_wp2
     go_ret2
     exact⟨eW,pB⟩
    ·replace c12:=Bool.eq_false_iff.mpr c12;subst c12;rw[if_neg (show ¬ (false=true) by decide)] at H
     by_cases c13:a1_0 > a1_1
     ·rw[if_pos c13] at H;have c13b0:decide (a1_1 < a1_0)=true:=dE c13;clear c13;simp only[Option.some.injEq,Prod.mk.injEq] at H;obtain⟨rfl,rfl⟩:=H;obtain⟨hcz14_0,hcz14_1,hfz14_0,hfz14_1⟩:=bk2 BK665;go_wp2
      go_ret2
      exact⟨eW,pB⟩
     ·rw[if_neg c13] at H;have c13b0:decide (a1_1 < a1_0)=false:=decide_eq_false c13;clear c13;replace H:=bS H;obtain⟨t669,A150,H⟩:=H;(try dsimp only at H);have A15:=aM A150;clear A150;replace H:=bS H;obtain⟨t670,A160,H⟩:=H;replace H:(some (wrap64 (t669 - t670),0))=some (r1,r2):=H;have A16:=aM A160;clear A160;simp only[Option.some.injEq,Prod.mk.injEq] at H;obtain⟨rfl,rfl⟩:=H;obtain⟨hcz17_0,hcz17_1,hfz17_0,hfz17_1⟩:=bk2 BK665;try go_wp2
      have n0_:=aM (blk_drew BK665.out);have n1_:=aM (below_drew1 HB.out);clear BK665;clear HB;have BK665:=n0_;have HB:=n1_;clear n0_ n1_;refine start_ (n:=11) (S:=fun w'=>w'.cell? ⟨gb665,0,none⟩=some (.int .i64 a1_0)∧w'.cell? ⟨gb665,1,none⟩=some (.int .i64 a1_1)) (ds:=[]) #[false,false,false,false,false,false,false,false,false,false,false] (by kernel_rfl) rfl rfl ⟨(blk_cell BK665.out 0).trans rfl,(blk_cell BK665.out 1).trans rfl⟩ (fun hHeld=>?_);refine with_tabW Bzx.tab8 Bzx.bits8 (fun HT_ HW_=>?_)
      generalize wc.drew=w18 at BK665 HB hHeld ⊢;refine pU (i:=0) (N:=some 29) HT_ #[true,false,false,false,false,false,false,false,false,false,false] ?_;refine pU (i:=1) (N:=some 30) HT_ #[true,true,false,false,false,false,false,false,false,false,false] ?_;refine pU (i:=4) (N:=some 33) HT_ #[true,true,false,false,true,false,false,false,false,false,false] ?_;refine pU (i:=5) (N:=some 34) HT_ #[true,true,false,false,true,true,false,false,false,false,false] ?_;refine take_ (i:=2) (N:=some 31) (v:=?_) (a':=?_) #[true,true,true,false,true,true,false,false,false,false,false] rfl rfl (take_ofW HT_.out HW_.out (by kernel_rfl)) (fun _ _ _ h=>h) (Or.inl ⟨by rfl,?_⟩) hHeld ?_ ?_
      rotate_left
      ·rintro w' ⟨s0,s1⟩;go_simp
       with_reducible rfl
      rotate_left
      ·simp only[Act.put,sA,sZ,sC,i64_w,i32_w];rfl
      refine take_ (i:=6) (N:=some 35) (v:=?_) (a':=?_) #[true,true,true,false,true,true,true,false,false,false,false] rfl rfl (take_ofW HT_.out HW_.out (by kernel_rfl)) (fun _ _ _ h=>h) (Or.inl ⟨by rfl,?_⟩) hHeld ?_ ?_
      rotate_left
      ·rintro w' ⟨s0,s1⟩;go_simp
       with_reducible rfl
      rotate_left
      ·simp only[Act.put,sA,sZ,sC,i64_w,i32_w];rfl
      refine one_ (i:=3) (N:=some 32) #[true,true,true,true,true,true,true,false,false,false,false] rfl rfl (one_of HT_.out (by kernel_rfl)) (by decide) (fun K hK=>?_)
      refine goes_ Try.func34 (by kernel_rfl) rfl #[.slice A0 l0.length c0,.int .i64 a1_1] (by rfl) rfl rfl mA ?_
      with_reducible refine(Azm.calls kj4 _ _ l0 a1_1 t669 _ ?side1 ?side2 A15.out).mono ?_
      (case side1=>exact cX (Kd.C_below HR0.out HB.out))
      (case side2=>exact HC0.out)
      rintro e w19 ⟨rfl,hb⟩;refine⟨_,rfl,?_⟩;have n0_:=aM (kB BK665 hb);have n1_:=aM (below_step pB hb);clear BK665;clear HB;have BK665:=n0_;have HB:=n1_;clear n0_ n1_;(try clear hb)
      (try clear hb2)
      (try clear hk)
      (try clear hi)
      refine hK.out _ _ ⟨(blk_cell BK665.out 0).trans rfl,(blk_cell BK665.out 1).trans rfl⟩ (fun hHeld=>?_)
      clear hK K;refine norm_ (a':=?_) ?_ ?_;rotate_left
      ·show Act.put _ (some 32) _=_
       simp only[Act.put,sA,sZ,sC,i64_w,i32_w];rfl
      refine one_ (i:=7) (N:=some 36) #[true,true,true,true,true,true,true,true,false,false,false] rfl rfl (one_of HT_.out (by kernel_rfl)) (by decide) (fun K hK=>?_)
      refine goes_ Try.func34 (by kernel_rfl) rfl #[.slice A0 l0.length c0,.int .i64 a1_0] (by rfl) rfl rfl mA ?_
      with_reducible refine(Azm.calls kj4 _ _ l0 a1_0 t670 _ ?side1 ?side2 A16.out).mono ?_
      (case side1=>exact cX (Kd.C_below HR0.out HB.out))
      (case side2=>exact HC0.out)
      rintro e w20 ⟨rfl,hb⟩;refine⟨_,rfl,?_⟩;have n0_:=aM (kB BK665 hb);have n1_:=aM (below_step pB hb);clear BK665;clear HB;have BK665:=n0_;have HB:=n1_;clear n0_ n1_;(try clear hb)
      (try clear hb2)
      (try clear hk)
      (try clear hi)
      refine hK.out _ _ ⟨(blk_cell BK665.out 0).trans rfl,(blk_cell BK665.out 1).trans rfl⟩ (fun hHeld=>?_)
      clear hK K;refine norm_ (a':=?_) ?_ ?_;rotate_left
      ·show Act.put _ (some 36) _=_
       simp only[Act.put,sA,sZ,sC,i64_w,i32_w];rfl
      refine pU (i:=8) (N:=some 37) HT_ #[true,true,true,true,true,true,true,true,true,false,false] ?_;refine pU (i:=9) (N:=some 4) HT_ #[true,true,true,true,true,true,true,true,true,true,false] ?_;refine pU (i:=10) (N:=some 5) HT_ #[true,true,true,true,true,true,true,true,true,true,true] ?_;refine done_ (done_of HT_.out (by kernel_rfl)) ?_
      try go_wp2
      go_ret2
      exact⟨eW,pB⟩
 ·rw[if_neg c4] at H;have c4b0:(t666 == 0)=false:=beq_eq_false_iff_ne.mpr c4;have c4b1:(t666 != 0)=true:=bne_iff_ne.mpr c4;simp only[Option.some.injEq,Prod.mk.injEq] at H;obtain⟨rfl,rfl⟩:=H;go_enter Try.func17,Try.ntmps17
  go_wp2_with (first|((with_reducible refine gate_dst (N:=3) rfl ?_);refine box_event ?hg (N:=3) ?hd (cs:=#[.int .i64 a1_0,.int .i64 a1_1]) (t:=31) ?hr ?_;(case hd=>rfl);(case hg=>rfl);(case hr=>first|(go_simp;done)|(go_simp;rfl));intro gb665 hg w21 hbox hb;have BK665:=aM (hbox);have GW665:=aM (gW hg:w.heap.size≤gb665);have GE665:=aM (gW hg:w.heap.size≤gb665);replace HB:=aM (below_step pB hb);clear hb hbox hg)|((with_reducible refine gate_callee (f:=15) rfl ?_);refine goesL_ (some 8) rfl rfl Try.func15 (by kernel_rfl) rfl #[.slice A0 l0.length c0] rfl mA ?_;(with_reducible refine(Azp.calls k _ _ l0 t666 _ ?side1 ?side2 A3.out).mono ?_);(case side1=>exact cX (Kd.C_below HR0.out HB.out));(case side2=>exact HC0.out);rintro e w' ⟨rfl,⟨nd,rfl⟩⟩;refine⟨_,rfl,?_⟩))
  go_ret2
  exact⟨eW,pB⟩


def Ezb.f (k:Nat) (l0:List (S46)) (a1_0:Int) (a1_1:Int):Option (Bool):=(Dzw.f l0).bind fun t672=>(if t672=true then((Ezq.f k l0 a1_0 a1_1).bind fun bt673=>((Bzx.f k l0 a1_0 a1_1).bind fun bt675=>(if bt673.1=bt675.1 then(if bt673.2=bt675.2 then((Azb.f k).bind fun t677=>(some t677)) else(none)) else(none)))) else((Azb.f k).bind fun t678=>(some t678)))
theorem Ezb.mono:∀ a0 a1 a2 k,LeO (Ezb.f k a0 a1 a2) (Ezb.f (k+1) a0 a1 a2):=by
 intro a0 a1 a2 k;unfold Ezb.f;with_reducible repeat' first|exact Ezq.mono _ _ _ _|exact Azb.mono _|exact Bzx.mono _ _ _ _|exact LeO.refl _|exact LeO.none _|refine LeO.ite ?_ ?_|refine LeO.bind ?_ (fun _=>?_)
theorem Ezb.calls (k:Nat) (A0:Option Addr) (c0:Nat) (l0:List (S46)) (a1_0:Int) (a1_1:Int) (r:Bool) (w:World) (hr0:Kd.C k46 w A0 l0.length l0) (hc0:l0.length≤c0) (h:Ezb.f k l0 a1_0 a1_1=some r) :
  Calls Try.prog 4 #[.slice A0 l0.length c0,.agg #[.int .i64 a1_0,.int .i64 a1_1]] w fun e w'=>e=.returned (.bool r)∧Below w.heap.size w w':=by
 have hu31:=Try.underlying31;have HR0:=aM hr0;have HC0:=aM hc0;clear hr0 hc0;have HB:=aM (Below.refl w.heap.size w);have H:((Dzw.f l0).bind fun t672=>(if t672=true then((Ezq.f k l0 a1_0 a1_1).bind fun bt673=>((Bzx.f k l0 a1_0 a1_1).bind fun bt675=>(if bt673.1=bt675.1 then(if bt673.2=bt675.2 then((Azb.f k).bind fun t677=>(some t677)) else(none)) else(none)))) else((Azb.f k).bind fun t678=>(some t678))))=some r:=h
 clear h;replace H:=bS H;obtain⟨t672,A30,H⟩:=H;(try dsimp only at H);have A3:=aM A30;clear A30;by_cases c4:t672=true
 ·subst c4;rw[if_pos rfl] at H;replace H:=bS H;obtain⟨⟨t673,t674⟩,A50,H⟩:=H;(try dsimp only at H);have A5:=aM A50;clear A50;replace H:=bS H;obtain⟨⟨t675,t676⟩,A60,H⟩:=H;(try dsimp only at H);have A6:=aM A60;clear A60;by_cases c7:t673=t675
  ·rw[if_pos c7] at H;have c7b0:(t673 == t675)=true:=beq_iff_eq.mpr c7;have c7b1:(t673 != t675)=false:=bne_eq_false_iff_eq.mpr c7;clear c7;by_cases c8:t674=t676
   ·rw[if_pos c8] at H;have c8b0:(t674 == t676)=true:=beq_iff_eq.mpr c8;have c8b1:(t674 != t676)=false:=bne_eq_false_iff_eq.mpr c8;clear c8;replace H:=bS H;obtain⟨t677,A90,H⟩:=H;replace H:(some t677)=some r:=H;have A9:=aM A90;clear A90;obtain rfl:=Option.some.inj H;go_enter Try.func4,Try.ntmps4
    go_wp2_with (first|((with_reducible refine gate_dst (N:=3) rfl ?_);refine box_event ?hg (N:=3) ?hd (cs:=#[.int .i64 a1_0,.int .i64 a1_1]) (t:=31) ?hr ?_;(case hd=>rfl);(case hg=>rfl);(case hr=>first|(go_simp;done)|(go_simp;rfl));intro gb671 hg w10 hbox hb;have BK671:=aM (hbox);have GW671:=aM (gW hg:w.heap.size≤gb671);have GE671:=aM (gW hg:w.heap.size≤gb671);replace HB:=aM (below_step pB hb);clear hb hbox hg)|((with_reducible refine gate_callee (f:=10) rfl ?_);refine goesL_ (some 10) rfl rfl Try.func10 (by kernel_rfl) rfl #[.slice A0 l0.length c0] rfl mA ?_;(with_reducible refine(Dzw.calls _ _ l0 true _ ?side1 ?side2 A3.out).mono ?_);(case side1=>exact cX (Kd.C_below HR0.out HB.out));(case side2=>exact HC0.out);rintro e w' ⟨rfl,⟨nd,rfl⟩⟩;refine⟨_,rfl,?_⟩;obtain⟨hcz11_0,hcz11_1,hfz11_0,hfz11_1⟩:=bk2 BK671)|((with_reducible refine gate_callee (f:=16) rfl ?_);refine goesL_ (some 16) rfl rfl Try.func16 (by kernel_rfl) rfl #[.slice A0 l0.length c0,.agg #[.int .i64 a1_0,.int .i64 a1_1]] rfl mA ?_;(with_reducible refine(Ezq.calls k _ _ l0 a1_0 a1_1 t673 t674 _ ?side1 ?side2 A5.out).mono ?_);(case side1=>repeat(first|exact(Kd.C_below HR0.out pB)|(with_reducible refine Kd.C_alloc ?_ _)|(with_reducible refine Kd.C_drewN ?_ _)|(with_reducible refine Kd.C_drew ?_)));(case side2=>exact HC0.out);rintro e w12 ⟨rfl,hb⟩;refine⟨_,rfl,?_⟩;replace BK671:=aM (kB BK671 hb);replace HB:=aM (below_step pB hb);(try clear hb);(try clear hb2);(try clear hk);(try clear hi);obtain⟨hcz13_0,hcz13_1,hfz13_0,hfz13_1⟩:=bk2 BK671)|((with_reducible refine gate_callee (f:=17) rfl ?_);refine goesL_ (some 22) rfl rfl Try.func17 (by kernel_rfl) rfl #[.slice A0 l0.length c0,.agg #[.int .i64 a1_0,.int .i64 a1_1]] rfl mA ?_;(with_reducible refine(Bzx.calls k _ _ l0 a1_0 a1_1 t675 t676 _ ?side1 ?side2 A6.out).mono ?_);(case side1=>exact cX (Kd.C_below HR0.out HB.out));(case side2=>exact HC0.out);rintro e w14 ⟨rfl,hb⟩;refine⟨_,rfl,?_⟩;replace BK671:=aM (kB BK671 hb);replace HB:=aM (below_step pB hb);(try clear hb);(try clear hb2);(try clear hk);(try clear hi))|(go_at_call 11;(with_reducible refine(Azb.calls k  t677 _ A9.out).mono ?_);rintro e w15 ⟨rfl,hb⟩;replace BK671:=aM (kB BK671 hb);replace HB:=aM (below_step pB hb);(try clear hb);(try clear hb2);(try clear hk);(try clear hi)))
    go_ret
    exact⟨eW,pB⟩
   ·rw[if_neg c8] at H;exact absurd H (by simp)
  ·rw[if_neg c7] at H;exact absurd H (by simp)
 ·replace c4:=Bool.eq_false_iff.mpr c4;subst c4;rw[if_neg (show ¬ (false=true) by decide)] at H
  replace H:=bS H;obtain⟨t678,A160,H⟩:=H;replace H:(some t678)=some r:=H;have A16:=aM A160;clear A160;obtain rfl:=Option.some.inj H;go_enter Try.func4,Try.ntmps4
  go_wp2_with (first|((with_reducible refine gate_dst (N:=3) rfl ?_);refine box_event ?hg (N:=3) ?hd (cs:=#[.int .i64 a1_0,.int .i64 a1_1]) (t:=31) ?hr ?_;(case hd=>rfl);(case hg=>rfl);(case hr=>first|(go_simp;done)|(go_simp;rfl));intro gb671 hg w17 hbox hb;have BK671:=aM (hbox);have GW671:=aM (gW hg:w.heap.size≤gb671);have GE671:=aM (gW hg:w.heap.size≤gb671);replace HB:=aM (below_step pB hb);clear hb hbox hg)|((with_reducible refine gate_callee (f:=10) rfl ?_);refine goesL_ (some 10) rfl rfl Try.func10 (by kernel_rfl) rfl #[.slice A0 l0.length c0] rfl mA ?_;(with_reducible refine(Dzw.calls _ _ l0 false _ ?side1 ?side2 A3.out).mono ?_);(case side1=>exact cX (Kd.C_below HR0.out HB.out));(case side2=>exact HC0.out);rintro e w' ⟨rfl,⟨nd,rfl⟩⟩;refine⟨_,rfl,?_⟩)|((with_reducible refine gate_callee (f:=11) rfl ?_);refine goesL_ (some 12) rfl rfl Try.func11 (by kernel_rfl) rfl #[] rfl mA ?_;(with_reducible refine(Azb.calls k  t678 _ A16.out).mono ?_);rintro e w18 ⟨rfl,hb⟩;refine⟨_,rfl,?_⟩;replace BK671:=aM (kB BK671 hb);replace HB:=aM (below_step pB hb);(try clear hb);(try clear hb2);(try clear hk);(try clear hi)))
  go_ret
  exact⟨eW,pB⟩

/-- THE ONE PURE STATEMENT of Ezb: yours. -/
def Ezb.Pure:Prop:=∀ (l0:List (S46)) (a1_0:Int) (a1_1:Int),l0.length≤maxLen→l0.length * 16≤140737488351232→(∀ x_ ∈ l0,((Lit.int .i64 x_.f0).wf=true)∧((Lit.int .i64 x_.f1).wf=true))→(Lit.int .i64 a1_0).wf=true→(Lit.int .i64 a1_1).wf=true→∃ k,Ezb.f k l0 a1_0 a1_1=some true

end Go.Proofs.Ytnklckihalhlmaa.Print
