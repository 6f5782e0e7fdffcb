import Derived.Test.YtnklckihalhlmaaPrint0
import Derived.Test.YtnklckihalhlmaaPrint2
import Derived.Test.YtnklckihalhlmaaPrint3
import Derived.Test.YtnklckihalhlmaaPrint6
namespace Go.Proofs.Ytnklckihalhlmaa.Print
open Go.RowKit Go.Proofs.YtnklckihalhlmaaW.PrintWords Go.Proofs.YtnklckihalhlmaaW.PrintLast Go.Proofs.YtnklckihalhlmaaW.PrintMore
attribute [local go_sem] max2_int min2_int max_two min_two max_three min_three max_four min_four
set_option linter.unusedVariables false
set_option maxRecDepth 100000
set_option maxHeartbeats 8000000
set_option linter.unusedSimpArgs false

def Ezj.f (k:Nat) (l0:List (S46)) (a1:Int):Option (Int × Int):=(Bzj.f k l0).bind fun t112=>(if t112=0 then((Fzz.f l0 a1).bind fun t113=>(if t113=true then((Dzm.f l0 a1).bind fun t114=>(some (t114,0))) else(some (0,1)))) else(some (0,t112)))
theorem Ezj.mono:∀ a0 a1 k,LeO (Ezj.f k a0 a1) (Ezj.f (k+1) a0 a1):=by
 intro a0 a1 k;unfold Ezj.f;with_reducible repeat' first|exact Bzj.mono _ _|exact LeO.refl _|exact LeO.none _|refine LeO.ite ?_ ?_|refine LeO.bind ?_ (fun _=>?_)
theorem Ezj.calls (k:Nat) (A0:Option Addr) (c0:Nat) (l0:List (S46)) (a1:Int) (r1:Int) (r2:Int) (w:World) (hr0:Kd.C k46 w A0 l0.length l0) (hc0:l0.length≤c0) (h:Ezj.f k l0 a1=some (r1,r2)) :
  Calls Try.prog 12 #[.slice A0 l0.length c0,.int .i64 a1] w fun e w'=>e=.returned (.tuple #[.int .i64 r1,.int .i64 r2])∧Below w.heap.size w w':=by
 have HR0:=aM hr0;have HC0:=aM hc0;clear hr0 hc0;have HB:=aM (Below.refl w.heap.size w);have H:((Bzj.f k l0).bind fun t112=>(if t112=0 then((Fzz.f l0 a1).bind fun t113=>(if t113=true then((Dzm.f l0 a1).bind fun t114=>(some (t114,0))) else(some (0,1)))) else(some (0,t112))))=some (r1,r2):=h
 clear h;replace H:=bS H;obtain⟨t112,A30,H⟩:=H;(try dsimp only at H);have A3:=aM A30;clear A30;by_cases c4:t112=0
 ·rw[if_pos c4] at H;have c4b0:(t112 == 0)=true:=beq_iff_eq.mpr c4;have c4b1:(t112 != 0)=false:=bne_eq_false_iff_eq.mpr c4;clear c4;replace H:=bS H;obtain⟨t113,A50,H⟩:=H;(try dsimp only at H);have A5:=aM A50;clear A50;by_cases c6:t113=true
  ·subst c6;rw[if_pos rfl] at H;replace H:=bS H;obtain⟨t114,A70,H⟩:=H;replace H:(some (t114,0))=some (r1,r2):=H;have A7:=aM A70;clear A70;simp only[Option.some.injEq,Prod.mk.injEq] at H;obtain⟨rfl,rfl⟩:=H;go_enter Try.func12,Try.ntmps12
   go_wp2_with (first|((with_reducible refine gate_callee (f:=14) rfl ?_);refine goesL_ (some 8) rfl rfl Try.func14 (by kernel_rfl) rfl #[.slice A0 l0.length c0] rfl mA ?_;(with_reducible refine(Bzj.calls k _ _ l0 t112 _ ?side1 ?side2 A3.out).mono ?_);(case side1=>exact cX HR0.out);(case side2=>exact HC0.out);rintro e w8 ⟨rfl,hb⟩;refine⟨_,rfl,?_⟩;replace HB:=aM (below_step pB hb);(try clear hb);(try clear hb2);(try clear hk);(try clear hi))|((with_reducible refine gate_callee (f:=31) rfl ?_);refine goesL_ (some 14) rfl rfl Try.func31 (by kernel_rfl) rfl #[.slice A0 l0.length c0,.int .i64 a1] rfl mA ?_;(with_reducible refine(Fzz.calls _ _ l0 a1 true _ ?side1 ?side2 A5.out).mono ?_);(case side1=>exact cX (Kd.C_below HR0.out HB.out));(case side2=>exact HC0.out);rintro e w' ⟨rfl,⟨nd,rfl⟩⟩;refine⟨_,rfl,?_⟩)|((with_reducible refine gate_callee (f:=32) rfl ?_);refine goesL_ (some 18) rfl rfl Try.func32 (by kernel_rfl) rfl #[.slice A0 l0.length c0,.int .i64 a1] rfl mA ?_;(with_reducible refine(Dzm.calls _ _ l0 a1 t114 _ ?side1 ?side2 A7.out).mono ?_);(case side1=>repeat(first|exact(Kd.C_below HR0.out pB)|(with_reducible refine Kd.C_alloc ?_ _)|(with_reducible refine Kd.C_drewN ?_ _)|(with_reducible refine Kd.C_drew ?_)));(case side2=>exact HC0.out);rintro e w9 ⟨rfl,hb⟩;refine⟨_,rfl,?_⟩;replace HB:=aM (below_step pB hb);(try clear hb);(try clear hb2);(try clear hk);(try clear hi)))
   go_ret2
   exact⟨eW,pB⟩
  ·replace c6:=Bool.eq_false_iff.mpr c6;subst c6;rw[if_neg (show ¬ (false=true) by decide)] at H
   simp only[Option.some.injEq,Prod.mk.injEq] at H;obtain⟨rfl,rfl⟩:=H;go_enter Try.func12,Try.ntmps12
   go_wp2_with (first|((with_reducible refine gate_callee (f:=14) rfl ?_);refine goesL_ (some 8) rfl rfl Try.func14 (by kernel_rfl) rfl #[.slice A0 l0.length c0] rfl mA ?_;(with_reducible refine(Bzj.calls k _ _ l0 t112 _ ?side1 ?side2 A3.out).mono ?_);(case side1=>exact cX HR0.out);(case side2=>exact HC0.out);rintro e w10 ⟨rfl,hb⟩;refine⟨_,rfl,?_⟩;replace HB:=aM (below_step pB hb);(try clear hb);(try clear hb2);(try clear hk);(try clear hi))|((with_reducible refine gate_callee (f:=31) rfl ?_);refine goesL_ (some 14) rfl rfl Try.func31 (by kernel_rfl) rfl #[.slice A0 l0.length c0,.int .i64 a1] rfl mA ?_;(with_reducible refine(Fzz.calls _ _ l0 a1 false _ ?side1 ?side2 A5.out).mono ?_);(case side1=>exact cX (Kd.C_below HR0.out HB.out));(case side2=>exact HC0.out);rintro e w' ⟨rfl,⟨nd,rfl⟩⟩;refine⟨_,rfl,?_⟩))
   go_ret2
   exact⟨eW,pB⟩
 ·rw[if_neg c4] at H;have c4b0:(t112 == 0)=false:=beq_eq_false_iff_ne.mpr c4;have c4b1:(t112 != 0)=true:=bne_iff_ne.mpr c4;simp only[Option.some.injEq,Prod.mk.injEq] at H;obtain⟨rfl,rfl⟩:=H;go_enter Try.func12,Try.ntmps12
  go_wp2_with (first|((with_reducible refine gate_callee (f:=14) rfl ?_);refine goesL_ (some 8) rfl rfl Try.func14 (by kernel_rfl) rfl #[.slice A0 l0.length c0] rfl mA ?_;(with_reducible refine(Bzj.calls k _ _ l0 t112 _ ?side1 ?side2 A3.out).mono ?_);(case side1=>exact cX HR0.out);(case side2=>exact HC0.out);rintro e w11 ⟨rfl,hb⟩;refine⟨_,rfl,?_⟩;replace HB:=aM (below_step pB hb);(try clear hb);(try clear hb2);(try clear hk);(try clear hi)))
  go_ret2
  exact⟨eW,pB⟩

def Dzj.j0:Nat→List (S46)→Bool→Int→Int→Option (Int × Int)
 | 0,_,_,_,_=>none
 | k+1,x0,x17,x116000,x116001=>if x17=true then(some (0,1)) else(if x116000 > x116001 then(some (0,9)) else((Dzm.f x0 x116001).bind fun t118=>((Dzm.f x0 x116000).bind fun t119=>(some (wrap64 (t118 - t119),0)))))
def Dzj.f (k:Nat) (l0:List (S46)) (a1_0:Int) (a1_1:Int):Option (Int × Int):=(Fzz.f l0 a1_0).bind fun t116=>(if t116=true then((Fzz.f l0 a1_1).bind fun t117=>(Dzj.j0 k l0 (!t117) a1_0 a1_1)) else(Dzj.j0 k l0 true a1_0 a1_1))
theorem Dzj.mono_l:∀ k,(∀ y0 y1 y2 y3,LeO (Dzj.j0 k y0 y1 y2 y3) (Dzj.j0 (k+1) y0 y1 y2 y3))
 | 0=>fun _ _ _ _ r h=>by simp [Dzj.j0] at h
 | k+1=>by
  have ih0:=Dzj.mono_l k
  ·intro y0 y1 y2 y3;unfold Dzj.j0;with_reducible repeat' first|exact ih0 _ _ _ _|exact LeO.refl _|exact LeO.none _|refine LeO.ite ?_ ?_|refine LeO.bind ?_ (fun _=>?_)
theorem Dzj.mono:∀ a0 a1 a2 k,LeO (Dzj.f k a0 a1 a2) (Dzj.f (k+1) a0 a1 a2):=by
 intro a0 a1 a2 k;have ih0:=Dzj.mono_l k;unfold Dzj.f;with_reducible repeat' first|exact ih0 _ _ _ _|exact LeO.refl _|exact LeO.none _|refine LeO.ite ?_ ?_|refine LeO.bind ?_ (fun _=>?_)
def Dzj.T5:Bool × List (List Nat × List Nat):=(true,[([],[]),([],[]),([1],[1]),([0,2],[0,2]),([],[]),([],[]),([5],[5]),([4,6,3],[4,6]),([3,7],[3,7]),([8,7,0,1,2,3,4,5,6,7,8],[8]),([9,0,1,2,3,4,5,6,7,8,9],[])])
def Dzj.B5:List Nat:=[0,0,2,7,0,0,32,127,255,511,1023]
theorem Dzj.tab5:rtab .any (opsOf Try.f35 5)=Dzj.T5:=by kernel_rfl
theorem Dzj.bits5:waitsOk Dzj.T5.2 Dzj.B5=true:=by kernel_rfl
theorem Dzj.calls (k:Nat) (A0:Option Addr) (c0:Nat) (l0:List (S46)) (a1_0:Int) (a1_1:Int) (r1:Int) (r2:Int) (w:World) (hr0:Kd.C k46 w A0 l0.length l0) (hc0:l0.length≤c0) (h:Dzj.f k l0 a1_0 a1_1=some (r1,r2)) :
  Calls Try.prog 35 #[.slice A0 l0.length c0,.agg #[.int .i64 a1_0,.int .i64 a1_1]] w fun e w'=>e=.returned (.tuple #[.int .i64 r1,.int .i64 r2])∧Below w.heap.size w w':=by
 have hu31:=Try.underlying31;have HR0:=aM hr0;have HC0:=aM hc0;clear hr0 hc0;have HB:=aM (Below.refl w.heap.size w);have H:((Fzz.f l0 a1_0).bind fun t116=>(if t116=true then((Fzz.f l0 a1_1).bind fun t117=>(Dzj.j0 k l0 (!t117) a1_0 a1_1)) else(Dzj.j0 k l0 true a1_0 a1_1)))=some (r1,r2):=h
 clear h;have HC3:=aM H;clear H;go_enter Try.func35,Try.ntmps35
 go_upto_region 1 with (first|((with_reducible refine gate_dst (N:=3) rfl ?_);refine box_event ?hg (N:=3) ?hd (cs:=#[.int .i64 a1_0,.int .i64 a1_1]) (t:=31) ?hr ?_;(case hd=>rfl);(case hg=>rfl);(case hr=>first|(go_simp;done)|(go_simp;rfl));intro gb115 hg w4 hbox hb;have BK115:=aM (hbox);have GW115:=aM (gW hg:w.heap.size≤gb115);have GE115:=aM (gW hg:w.heap.size≤gb115);replace HB:=aM (below_step pB hb);clear hb hbox hg))
 (try simp only[Act.put,sA,sZ,sC])
 go_cut [17] (fun v17 wc=>∃ (kq:Nat) (x17_2:Bool),v17=.bool x17_2∧Aside0 (Dzj.j0 kq l0 x17_2 a1_0 a1_1=some (r1,r2))∧Aside0 (kq≤k)∧Aside0 (wc.heap[gb115]?=some (.cells #[.int .i64 a1_0,.int .i64 a1_1] 31 (0,0)))∧Aside0 (Below w.heap.size w wc))
 case first =>
  have H:=HC3.out;clear HC3;replace H:=bS H;obtain⟨t116,A50,H⟩:=H;(try dsimp only at H);have A5:=aM A50;clear A50;by_cases c6:t116=true
  ·subst c6;rw[if_pos rfl] at H;replace H:=bS H;obtain⟨t117,A70,H⟩:=H;(try dsimp only at H);have A7:=aM A70;clear A70;have H':=aM H;clear H;obtain⟨hcz8_0,hcz8_1,hfz8_0,hfz8_1⟩:=bk2 BK115;go_wp2_with (first|((with_reducible refine gate_callee (f:=31) rfl ?_);refine goesL_ (some 9) rfl rfl Try.func31 (by kernel_rfl) rfl #[.slice A0 l0.length c0,.int .i64 a1_0] rfl mA ?_;(with_reducible refine(Fzz.calls _ _ l0 a1_0 true _ ?side1 ?side2 A5.out).mono ?_);(case side1=>exact cX (Kd.C_below HR0.out HB.out));(case side2=>exact HC0.out);rintro e w' ⟨rfl,⟨nd,rfl⟩⟩;refine⟨_,rfl,?_⟩)|(go_at_call 31;(with_reducible refine(Fzz.calls _ _ l0 a1_1 t117 _ ?side1 ?side2 A7.out).mono ?_);(case side1=>repeat(first|exact(Kd.C_below HR0.out pB)|(with_reducible refine Kd.C_alloc ?_ _)|(with_reducible refine Kd.C_drewN ?_ _)|(with_reducible refine Kd.C_drew ?_)));(case side2=>exact HC0.out);rintro e w' ⟨rfl,⟨nd,rfl⟩⟩))
   go_meet
   case rel=>exact⟨_,(!t117),sD,H',⟨by first|omega|exact Nat.le_refl _⟩,⟨by(with_reducible repeat(first|refine blk_drewN ?_ _|refine blk_drew ?_|refine blk_alloc ?_ _));exact BK115.out⟩,⟨pB⟩⟩
  ·replace c6:=Bool.eq_false_iff.mpr c6;subst c6;rw[if_neg (show ¬ (false=true) by decide)] at H
   have H':=aM H;clear H;obtain⟨hcz9_0,hcz9_1,hfz9_0,hfz9_1⟩:=bk2 BK115;go_wp2_with (first|((with_reducible refine gate_callee (f:=31) rfl ?_);refine goesL_ (some 9) rfl rfl Try.func31 (by kernel_rfl) rfl #[.slice A0 l0.length c0,.int .i64 a1_0] rfl mA ?_;(with_reducible refine(Fzz.calls _ _ l0 a1_0 false _ ?side1 ?side2 A5.out).mono ?_);(case side1=>exact cX (Kd.C_below HR0.out HB.out));(case side2=>exact HC0.out);rintro e w' ⟨rfl,⟨nd,rfl⟩⟩;refine⟨_,rfl,?_⟩))
   go_meet
   case rel=>exact⟨_,(true),sD,H',⟨by first|omega|exact Nat.le_refl _⟩,⟨by(with_reducible repeat(first|refine blk_drewN ?_ _|refine blk_drew ?_|refine blk_alloc ?_ _));exact BK115.out⟩,⟨pB⟩⟩
 case rest =>
  clear HC3;try clear p2
  try clear c3
  try clear c6
  try clear hcz8_0
  try clear hcz8_1
  try clear hcz9_0
  try clear hcz9_1
  try clear hfz8_0
  try clear hfz8_1
  try clear hfz9_0
  try clear hfz9_1
  obtain⟨kq,x17_2,rfl,HA,HJ2,BK115,HB⟩:=hcut;cases kq with
  | zero=>exact absurd HA.out (by simp [Dzj.j0])
  | succ kj2 =>
   have H:=HA.out;clear HA;simp only[Dzj.j0] at H;by_cases c10:x17_2=true
   ·subst c10;rw[if_pos rfl] at H;simp only[Option.some.injEq,Prod.mk.injEq] at H;obtain⟨rfl,rfl⟩:=H;go_wp2
    go_ret2
    exact⟨eW,pB⟩
   ·replace c10:=Bool.eq_false_iff.mpr c10;subst c10;rw[if_neg (show ¬ (false=true) by decide)] at H
    by_cases c11:a1_0 > a1_1
    ·rw[if_pos c11] at H;have c11b0:decide (a1_1 < a1_0)=true:=dE c11;clear c11;simp only[Option.some.injEq,Prod.mk.injEq] at H;obtain⟨rfl,rfl⟩:=H;obtain⟨hcz12_0,hcz12_1,hfz12_0,hfz12_1⟩:=bk2 BK115;go_wp2
     go_ret2
     exact⟨eW,pB⟩
    ·rw[if_neg c11] at H;have c11b0:decide (a1_1 < a1_0)=false:=decide_eq_false c11;clear c11;replace H:=bS H;obtain⟨t118,A130,H⟩:=H;(try dsimp only at H);have A13:=aM A130;clear A130;replace H:=bS H;obtain⟨t119,A140,H⟩:=H;replace H:(some (wrap64 (t118 - t119),0))=some (r1,r2):=H;have A14:=aM A140;clear A140;simp only[Option.some.injEq,Prod.mk.injEq] at H;obtain⟨rfl,rfl⟩:=H;obtain⟨hcz15_0,hcz15_1,hfz15_0,hfz15_1⟩:=bk2 BK115;try go_wp2
     have n0_:=aM (blk_drew BK115.out);have n1_:=aM (below_drew1 HB.out);clear BK115;clear HB;have BK115:=n0_;have HB:=n1_;clear n0_ n1_;refine start_ (n:=11) (S:=fun w'=>w'.cell? ⟨gb115,0,none⟩=some (.int .i64 a1_0)∧w'.cell? ⟨gb115,1,none⟩=some (.int .i64 a1_1)) (ds:=[]) #[false,false,false,false,false,false,false,false,false,false,false] (by kernel_rfl) rfl rfl ⟨(blk_cell BK115.out 0).trans rfl,(blk_cell BK115.out 1).trans rfl⟩ (fun hHeld=>?_);refine with_tabW Dzj.tab5 Dzj.bits5 (fun HT_ HW_=>?_)
     generalize wc.drew=w16 at BK115 HB hHeld ⊢;refine pU (i:=0) (N:=some 23) HT_ #[true,false,false,false,false,false,false,false,false,false,false] ?_;refine pU (i:=1) (N:=some 24) HT_ #[true,true,false,false,false,false,false,false,false,false,false] ?_;refine pU (i:=4) (N:=some 27) HT_ #[true,true,false,false,true,false,false,false,false,false,false] ?_;refine pU (i:=5) (N:=some 28) HT_ #[true,true,false,false,true,true,false,false,false,false,false] ?_;refine take_ (i:=2) (N:=some 25) (v:=?_) (a':=?_) #[true,true,true,false,true,true,false,false,false,false,false] rfl rfl (take_ofW HT_.out HW_.out (by kernel_rfl)) (fun _ _ _ h=>h) (Or.inl ⟨by rfl,?_⟩) hHeld ?_ ?_
     rotate_left
     ·rintro w' ⟨s0,s1⟩;go_simp
      with_reducible rfl
     rotate_left
     ·simp only[Act.put,sA,sZ,sC,i64_w,i32_w];rfl
     refine take_ (i:=6) (N:=some 29) (v:=?_) (a':=?_) #[true,true,true,false,true,true,true,false,false,false,false] rfl rfl (take_ofW HT_.out HW_.out (by kernel_rfl)) (fun _ _ _ h=>h) (Or.inl ⟨by rfl,?_⟩) hHeld ?_ ?_
     rotate_left
     ·rintro w' ⟨s0,s1⟩;go_simp
      with_reducible rfl
     rotate_left
     ·simp only[Act.put,sA,sZ,sC,i64_w,i32_w];rfl
     refine one_ (i:=3) (N:=some 26) #[true,true,true,true,true,true,true,false,false,false,false] rfl rfl (one_of HT_.out (by kernel_rfl)) (by decide) (fun K hK=>?_)
     refine goes_ Try.func32 (by kernel_rfl) rfl #[.slice A0 l0.length c0,.int .i64 a1_1] (by rfl) rfl rfl mA ?_
     with_reducible refine(Dzm.calls _ _ l0 a1_1 t118 _ ?side1 ?side2 A13.out).mono ?_
     (case side1=>exact cX (Kd.C_below HR0.out HB.out))
     (case side2=>exact HC0.out)
     rintro e w17 ⟨rfl,hb⟩;refine⟨_,rfl,?_⟩;have n0_:=aM (kB BK115 hb);have n1_:=aM (below_step pB hb);clear BK115;clear HB;have BK115:=n0_;have HB:=n1_;clear n0_ n1_;(try clear hb)
     (try clear hb2)
     (try clear hk)
     (try clear hi)
     refine hK.out _ _ ⟨(blk_cell BK115.out 0).trans rfl,(blk_cell BK115.out 1).trans rfl⟩ (fun hHeld=>?_)
     clear hK K;refine norm_ (a':=?_) ?_ ?_;rotate_left
     ·show Act.put _ (some 26) _=_
      simp only[Act.put,sA,sZ,sC,i64_w,i32_w];rfl
     refine one_ (i:=7) (N:=some 30) #[true,true,true,true,true,true,true,true,false,false,false] rfl rfl (one_of HT_.out (by kernel_rfl)) (by decide) (fun K hK=>?_)
     refine goes_ Try.func32 (by kernel_rfl) rfl #[.slice A0 l0.length c0,.int .i64 a1_0] (by rfl) rfl rfl mA ?_
     with_reducible refine(Dzm.calls _ _ l0 a1_0 t119 _ ?side1 ?side2 A14.out).mono ?_
     (case side1=>exact cX (Kd.C_below HR0.out HB.out))
     (case side2=>exact HC0.out)
     rintro e w18 ⟨rfl,hb⟩;refine⟨_,rfl,?_⟩;have n0_:=aM (kB BK115 hb);have n1_:=aM (below_step pB hb);clear BK115;clear HB;have BK115:=n0_;have HB:=n1_;clear n0_ n1_;(try clear hb)
     (try clear hb2)
     (try clear hk)
     (try clear hi)
     refine hK.out _ _ ⟨(blk_cell BK115.out 0).trans rfl,(blk_cell BK115.out 1).trans rfl⟩ (fun hHeld=>?_)
     clear hK K;refine norm_ (a':=?_) ?_ ?_;rotate_left
     ·show Act.put _ (some 30) _=_
      simp only[Act.put,sA,sZ,sC,i64_w,i32_w];rfl
     refine pU (i:=8) (N:=some 31) HT_ #[true,true,true,true,true,true,true,true,true,false,false] ?_;refine pU (i:=9) (N:=some 4) HT_ #[true,true,true,true,true,true,true,true,true,true,false] ?_;refine pU (i:=10) (N:=some 5) HT_ #[true,true,true,true,true,true,true,true,true,true,true] ?_;refine done_ (done_of HT_.out (by kernel_rfl)) ?_
     try go_wp2
     go_ret2
     exact⟨eW,pB⟩


def Ezq.f (k:Nat) (l0:List (S46)) (a1_0:Int) (a1_1:Int):Option (Int × Int):=(Bzj.f k l0).bind fun t121=>(if t121=0 then((Dzj.f k l0 a1_0 a1_1).bind fun bt122=>(some (bt122.1,bt122.2))) else(some (0,t121)))
theorem Ezq.mono:∀ a0 a1 a2 k,LeO (Ezq.f k a0 a1 a2) (Ezq.f (k+1) a0 a1 a2):=by
 intro a0 a1 a2 k;unfold Ezq.f;with_reducible repeat' first|exact Bzj.mono _ _|exact Dzj.mono _ _ _ _|exact LeO.refl _|exact LeO.none _|refine LeO.ite ?_ ?_|refine LeO.bind ?_ (fun _=>?_)
theorem Ezq.calls (k:Nat) (A0:Option Addr) (c0:Nat) (l0:List (S46)) (a1_0:Int) (a1_1:Int) (r1:Int) (r2:Int) (w:World) (hr0:Kd.C k46 w A0 l0.length l0) (hc0:l0.length≤c0) (h:Ezq.f k l0 a1_0 a1_1=some (r1,r2)) :
  Calls Try.prog 16 #[.slice A0 l0.length c0,.agg #[.int .i64 a1_0,.int .i64 a1_1]] w fun e w'=>e=.returned (.tuple #[.int .i64 r1,.int .i64 r2])∧Below w.heap.size w w':=by
 have hu31:=Try.underlying31;have HR0:=aM hr0;have HC0:=aM hc0;clear hr0 hc0;have HB:=aM (Below.refl w.heap.size w);have H:((Bzj.f k l0).bind fun t121=>(if t121=0 then((Dzj.f k l0 a1_0 a1_1).bind fun bt122=>(some (bt122.1,bt122.2))) else(some (0,t121))))=some (r1,r2):=h
 clear h;replace H:=bS H;obtain⟨t121,A30,H⟩:=H;(try dsimp only at H);have A3:=aM A30;clear A30;by_cases c4:t121=0
 ·rw[if_pos c4] at H;have c4b0:(t121 == 0)=true:=beq_iff_eq.mpr c4;have c4b1:(t121 != 0)=false:=bne_eq_false_iff_eq.mpr c4;clear c4;replace H:=bS H;obtain⟨⟨t122,t123⟩,A50,H⟩:=H;replace H:(some (t122,t123))=some (r1,r2):=H;have A5:=aM A50;clear A50;simp only[Option.some.injEq,Prod.mk.injEq] at H;obtain⟨rfl,rfl⟩:=H;go_enter Try.func16,Try.ntmps16
  go_wp2_with (first|((with_reducible refine gate_dst (N:=3) rfl ?_);refine box_event ?hg (N:=3) ?hd (cs:=#[.int .i64 a1_0,.int .i64 a1_1]) (t:=31) ?hr ?_;(case hd=>rfl);(case hg=>rfl);(case hr=>first|(go_simp;done)|(go_simp;rfl));intro gb120 hg w6 hbox hb;have BK120:=aM (hbox);have GW120:=aM (gW hg:w.heap.size≤gb120);have GE120:=aM (gW hg:w.heap.size≤gb120);replace HB:=aM (below_step pB hb);clear hb hbox hg)|((with_reducible refine gate_callee (f:=14) rfl ?_);refine goesL_ (some 8) rfl rfl Try.func14 (by kernel_rfl) rfl #[.slice A0 l0.length c0] rfl mA ?_;(with_reducible refine(Bzj.calls k _ _ l0 t121 _ ?side1 ?side2 A3.out).mono ?_);(case side1=>exact cX (Kd.C_below HR0.out HB.out));(case side2=>exact HC0.out);rintro e w7 ⟨rfl,hb⟩;refine⟨_,rfl,?_⟩;replace BK120:=aM (kB BK120 hb);replace HB:=aM (below_step pB hb);(try clear hb);(try clear hb2);(try clear hk);(try clear hi);obtain⟨hcz8_0,hcz8_1,hfz8_0,hfz8_1⟩:=bk2 BK120)|((with_reducible refine gate_callee (f:=35) rfl ?_);refine goesL_ (some 14) rfl rfl Try.func35 (by kernel_rfl) rfl #[.slice A0 l0.length c0,.agg #[.int .i64 a1_0,.int .i64 a1_1]] rfl mA ?_;(with_reducible refine(Dzj.calls k _ _ l0 a1_0 a1_1 t122 t123 _ ?side1 ?side2 A5.out).mono ?_);(case side1=>exact cX (Kd.C_below HR0.out HB.out));(case side2=>exact HC0.out);rintro e w9 ⟨rfl,hb⟩;refine⟨_,rfl,?_⟩;replace BK120:=aM (kB BK120 hb);replace HB:=aM (below_step pB hb);(try clear hb);(try clear hb2);(try clear hk);(try clear hi)))
  go_ret2
  exact⟨eW,pB⟩
 ·rw[if_neg c4] at H;have c4b0:(t121 == 0)=false:=beq_eq_false_iff_ne.mpr c4;have c4b1:(t121 != 0)=true:=bne_iff_ne.mpr c4;simp only[Option.some.injEq,Prod.mk.injEq] at H;obtain⟨rfl,rfl⟩:=H;go_enter Try.func16,Try.ntmps16
  go_wp2_with (first|((with_reducible refine gate_dst (N:=3) rfl ?_);refine box_event ?hg (N:=3) ?hd (cs:=#[.int .i64 a1_0,.int .i64 a1_1]) (t:=31) ?hr ?_;(case hd=>rfl);(case hg=>rfl);(case hr=>first|(go_simp;done)|(go_simp;rfl));intro gb120 hg w10 hbox hb;have BK120:=aM (hbox);have GW120:=aM (gW hg:w.heap.size≤gb120);have GE120:=aM (gW hg:w.heap.size≤gb120);replace HB:=aM (below_step pB hb);clear hb hbox hg)|((with_reducible refine gate_callee (f:=14) rfl ?_);refine goesL_ (some 8) rfl rfl Try.func14 (by kernel_rfl) rfl #[.slice A0 l0.length c0] rfl mA ?_;(with_reducible refine(Bzj.calls k _ _ l0 t121 _ ?side1 ?side2 A3.out).mono ?_);(case side1=>exact cX (Kd.C_below HR0.out HB.out));(case side2=>exact HC0.out);rintro e w11 ⟨rfl,hb⟩;refine⟨_,rfl,?_⟩;replace BK120:=aM (kB BK120 hb);replace HB:=aM (below_step pB hb);(try clear hb);(try clear hb2);(try clear hk);(try clear hi)))
  go_ret2
  exact⟨eW,pB⟩



def Gzv.f (a0:Int):Option (Bool):=if a0 < 0 then(some true) else(some (decide (a0 > 1125899906842624)))
theorem Gzv.calls (a0:Int) (r:Bool) (w:World) (h:Gzv.f a0=some r) :
  Calls Try.prog 74 #[.int .i64 a0] w fun e w'=>e=.returned (.bool r)∧Drawn0 w w':=by
 have H:(if a0 < 0 then(some true) else(some (decide (a0 > 1125899906842624))))=some r:=h
 clear h;by_cases c2:a0 < 0
 ·rw[if_pos c2] at H;have c2b0:decide (a0 < 0)=true:=dE c2;clear c2;obtain rfl:=Option.some.inj H;go_enter Try.func74,Try.ntmps74
  go_wp2
  go_ret
  exact⟨by first|rfl|(simp;done)|(simp [*];done),by repeat(first|exact Drawn0.refl _|apply Drawn0.step)⟩
 ·rw[if_neg c2] at H;have c2b0:decide (a0 < 0)=false:=decide_eq_false c2;clear c2;obtain rfl:=Option.some.inj H;go_enter Try.func74,Try.ntmps74
  go_wp2
  go_ret
  exact⟨by first|rfl|(simp;done)|(simp [*];done),by repeat(first|exact Drawn0.refl _|apply Drawn0.step)⟩

def Gzz.f (k:Nat) (a0:Int):Option (Int × Int):=(Czf.f k (([a0]:List Int))).bind fun t127=>(if t127=true then(some (a0,0)) else(some (0,2)))
theorem Gzz.mono:∀ a0 k,LeO (Gzz.f k a0) (Gzz.f (k+1) a0):=by
 intro a0 k;unfold Gzz.f;with_reducible repeat' first|exact Czf.mono _ _|exact LeO.refl _|exact LeO.none _|refine LeO.ite ?_ ?_|refine LeO.bind ?_ (fun _=>?_)
theorem Gzz.calls (k:Nat) (a0:Int) (r1:Int) (r2:Int) (w:World) (h:Gzz.f k a0=some (r1,r2)) :
  Calls Try.prog 87 #[.int .i64 a0] w fun e w'=>e=.returned (.tuple #[.int .i64 r1,.int .i64 r2])∧Below w.heap.size w w':=by
 have HB:=aM (Below.refl w.heap.size w);have H:((Czf.f k (([a0]:List Int))).bind fun t127=>(if t127=true then(some (a0,0)) else(some (0,2))))=some (r1,r2):=h
 clear h;obtain⟨y124,hy124⟩:∃ y_:List Int,y_=(([a0]:List Int)):=⟨_,rfl⟩;replace H:((Czf.f k y124).bind fun t127=>(if t127=true then(some (a0,0)) else(some (0,2))))=some (r1,r2):=by first|(rw[hy124];with_reducible exact H)|(have H2_:=(Option.bind_some _ _).symm.trans H;rw[hy124];with_reducible exact H2_)|(have H2_:=(Option.bind_some _ _).symm.trans H;with_reducible exact H2_)|with_reducible exact H|(rw[hy124];exact H)|exact H
 have Ny124:=aM hy124;clear hy124;replace H:=bS H;obtain⟨t127,A20,H⟩:=H;(try dsimp only at H);have A2:=aM A20;clear A20;by_cases c3:t127=true
 ·subst c3;rw[if_pos rfl] at H;simp only[Option.some.injEq,Prod.mk.injEq] at H;obtain⟨rfl,rfl⟩:=H;go_enter Try.func87,Try.ntmps87
  go_wp2_with (first|((with_reducible refine gate_dst (N:=5) rfl ?_);refine Kd.R_lit (Kd.int .i64) _ 3 ?hg (N:=5) ?hd (xs:=([a0]:List Int)) (inner:=[.int .i64 a0]) (ok:=fun _=>True) (okp:=fun _=>True) ?hr ?hp (fun _ hk=>hk) trivial (Below.refl _ _) (Nat.le_refl _) (by simp) ?_;(case hd=>rfl);(case hg=>rfl);(case hr=>first|(go_simp;done)|(go_simp;rfl));(case hp=>exact(Reps.one (show Kd.M (Kd.int .i64) _ _ _ a0 [.int .i64 a0] from rfl) (Reps.none _ _)));intro v125 w4 ho5 hb hg_ hnew_;clear hg_ hnew_;(first|rw[← Ny124.out] at ho5|(simp only[Int.reduceToNat] at ho5;rw[← Ny124.out] at ho5));have HO126:=aM (Kd.R_lower ho5 (below_size pB));replace HB:=aM (below_step pB hb);clear hb ho5;obtain⟨Ao6,co6,eo6⟩:=Kd.R_slice HO126.out;subst eo6)|((with_reducible refine gate_callee (f:=69) rfl ?_);refine goesL_ (some 6) rfl rfl Try.func69 (by kernel_rfl) rfl #[.slice Ao6 y124.length co6] rfl mA ?_;(with_reducible refine(Czf.calls k _ _ y124 true _ ?side1 ?side2 A2.out).mono ?_);(case side1=>repeat(first|exact(Kd.R_reads' HO126.out).2.2|(with_reducible refine Kd.C_alloc ?_ _)|(with_reducible refine Kd.C_drewN ?_ _)|(with_reducible refine Kd.C_drew ?_)));(case side2=>exact(Kd.R_reads' HO126.out).2.1);rintro e w' ⟨rfl,⟨nd,rfl⟩⟩;refine⟨_,rfl,?_⟩))
  go_ret2
  exact⟨eW,pB⟩
 ·replace c3:=Bool.eq_false_iff.mpr c3;subst c3;rw[if_neg (show ¬ (false=true) by decide)] at H
  simp only[Option.some.injEq,Prod.mk.injEq] at H;obtain⟨rfl,rfl⟩:=H;go_enter Try.func87,Try.ntmps87
  go_wp2_with (first|((with_reducible refine gate_dst (N:=5) rfl ?_);refine Kd.R_lit (Kd.int .i64) _ 3 ?hg (N:=5) ?hd (xs:=([a0]:List Int)) (inner:=[.int .i64 a0]) (ok:=fun _=>True) (okp:=fun _=>True) ?hr ?hp (fun _ hk=>hk) trivial (Below.refl _ _) (Nat.le_refl _) (by simp) ?_;(case hd=>rfl);(case hg=>rfl);(case hr=>first|(go_simp;done)|(go_simp;rfl));(case hp=>exact(Reps.one (show Kd.M (Kd.int .i64) _ _ _ a0 [.int .i64 a0] from rfl) (Reps.none _ _)));intro v125 w7 ho8 hb hg_ hnew_;clear hg_ hnew_;(first|rw[← Ny124.out] at ho8|(simp only[Int.reduceToNat] at ho8;rw[← Ny124.out] at ho8));have HO126:=aM (Kd.R_lower ho8 (below_size pB));replace HB:=aM (below_step pB hb);clear hb ho8;obtain⟨Ao9,co9,eo9⟩:=Kd.R_slice HO126.out;subst eo9)|((with_reducible refine gate_callee (f:=69) rfl ?_);refine goesL_ (some 6) rfl rfl Try.func69 (by kernel_rfl) rfl #[.slice Ao9 y124.length co9] rfl mA ?_;(with_reducible refine(Czf.calls k _ _ y124 false _ ?side1 ?side2 A2.out).mono ?_);(case side1=>repeat(first|exact(Kd.R_reads' HO126.out).2.2|(with_reducible refine Kd.C_alloc ?_ _)|(with_reducible refine Kd.C_drewN ?_ _)|(with_reducible refine Kd.C_drew ?_)));(case side2=>exact(Kd.R_reads' HO126.out).2.1);rintro e w' ⟨rfl,⟨nd,rfl⟩⟩;refine⟨_,rfl,?_⟩))
  go_ret2
  exact⟨eW,pB⟩

def Fzw.l0:Nat→Int→Int→List Int→Int→Int→Option (Int × Int)
 | 0,_,_,_,_,_=>none
 | k+1,x4,x5,x14,x15,x16=>if x16 < x15 then(if 0≤x16 then(if x16 < (x14.length:Int) then(Fzw.l0 k (wrap64 (x4+(wrap64 (Int.tdiv (rd x14 x16) 33554432)))) (wrap64 (x5+(Int.tmod (rd x14 x16) 33554432))) x14 x15 (wrap64 (x16+1))) else(none)) else(none)) else(if(wrap64 (x4+(wrap64 (Int.tdiv x5 33554432)))) > 33554433 then(some (0,2)) else(if(wrap64 (x4+(wrap64 (Int.tdiv x5 33554432)))) < (-33554433) then(some (0,2)) else((Gzz.f k (wrap64 ((wrap64 ((wrap64 (x4+(wrap64 (Int.tdiv x5 33554432)))) * 33554432))+(Int.tmod x5 33554432)))).bind fun bt130=>(some (bt130.1,bt130.2)))))
def Fzw.f (k:Nat) (l0:List Int):Option (Int × Int):=if(l0.length:Int) > 65536 then(some (0,8)) else((Czf.f k l0).bind fun t128=>(if t128=true then(Fzw.l0 k 0 0 l0 (l0.length:Int) 0) else(some (0,1))))
theorem Fzw.mono_l:∀ k,(∀ y0 y1 y2 y3 y4,LeO (Fzw.l0 k y0 y1 y2 y3 y4) (Fzw.l0 (k+1) y0 y1 y2 y3 y4))
 | 0=>fun _ _ _ _ _ r h=>by simp [Fzw.l0] at h
 | k+1=>by
  have ih0:=Fzw.mono_l k
  ·intro y0 y1 y2 y3 y4;unfold Fzw.l0;with_reducible repeat' first|exact ih0 _ _ _ _ _|exact Czf.mono _ _|exact Gzz.mono _ _|exact LeO.refl _|exact LeO.none _|refine LeO.ite ?_ ?_|refine LeO.bind ?_ (fun _=>?_)
theorem Fzw.mono:∀ a0 k,LeO (Fzw.f k a0) (Fzw.f (k+1) a0):=by
 intro a0 k;have ih0:=Fzw.mono_l k;unfold Fzw.f;with_reducible repeat' first|exact ih0 _ _ _ _ _|exact Czf.mono _ _|exact Gzz.mono _ _|exact LeO.refl _|exact LeO.none _|refine LeO.ite ?_ ?_|refine LeO.bind ?_ (fun _=>?_)
theorem Fzw.calls (k:Nat) (A0:Option Addr) (c0:Nat) (l0:List Int) (r1:Int) (r2:Int) (w:World) (hr0:Kd.C (Kd.int .i64) w A0 l0.length l0) (hc0:l0.length≤c0) (h:Fzw.f k l0=some (r1,r2)) :
  Calls Try.prog 75 #[.slice A0 l0.length c0] w fun e w'=>e=.returned (.tuple #[.int .i64 r1,.int .i64 r2])∧Below w.heap.size w w':=by
 have HR0:=aM hr0;have HC0:=aM hc0;clear hr0 hc0;have HB:=aM (Below.refl w.heap.size w);have H:(if(l0.length:Int) > 65536 then(some (0,8)) else((Czf.f k l0).bind fun t128=>(if t128=true then(Fzw.l0 k 0 0 l0 (l0.length:Int) 0) else(some (0,1)))))=some (r1,r2):=h
 clear h;by_cases c2:(l0.length:Int) > 65536
 ·rw[if_pos c2] at H;have c2b0:decide (65536 < (l0.length:Int))=true:=dE c2;have c2b1:decide (65536 < l0.length)=true:=dE (by omega)
  clear c2;simp only[Option.some.injEq,Prod.mk.injEq] at H;obtain⟨rfl,rfl⟩:=H;go_enter Try.func75,Try.ntmps75
  go_wp2
  go_ret2
  exact⟨eW,pB⟩
 ·rw[if_neg c2] at H;have c2b0:decide (65536 < (l0.length:Int))=false:=decide_eq_false c2;have c2b1:decide (65536 < l0.length)=false:=decide_eq_false (by omega)
  clear c2;replace H:=bS H;obtain⟨t128,A30,H⟩:=H;(try dsimp only at H);have A3:=aM A30;clear A30;by_cases c4:t128=true
  ·subst c4;rw[if_pos rfl] at H;have H':=aM H;clear H;go_enter Try.func75,Try.ntmps75
   go_wp2_with (first|((with_reducible refine gate_callee (f:=69) rfl ?_);refine goesL_ (some 12) rfl rfl Try.func69 (by kernel_rfl) rfl #[.slice A0 l0.length c0] rfl mA ?_;(with_reducible refine(Czf.calls k _ _ l0 true _ ?side1 ?side2 A3.out).mono ?_);(case side1=>exact cX HR0.out);(case side2=>exact HC0.out);rintro e w' ⟨rfl,⟨nd,rfl⟩⟩;refine⟨_,rfl,?_⟩))
   try simp only[Act.put,sA,sZ,sC]
   go_loopg [4,5,16] k (fun kq v4 v5 v16 w'=>∃ (x4_1:Int) (x5_1:Int) (x16_1:Int),v4=.int .i64 x4_1∧v5=.int .i64 x5_1∧v16=.int .i64 x16_1∧Aside0 (Fzw.l0 kq x4_1 x5_1 l0 (l0.length:Int) x16_1=some (r1,r2))∧Aside0 (kq≤k)∧Aside0 (Below w.heap.size w w'))
   case atStart=>exact⟨(0),(0),(0),sD,sD,sD,H',⟨Nat.le_refl _⟩,⟨pB⟩⟩
   case round =>
    clear H';try clear c2
    try clear c2b0
    try clear c2b1
    try clear p2
    try clear c4
    obtain⟨x4_1,x5_1,x16_1,rfl,rfl,rfl,HA,HK1,HB⟩:=hrel;cases gk with
    | zero=>exact absurd HA.out (by simp [Fzw.l0])
    | succ k1 =>
     have H:=HA.out;clear HA;simp only[Fzw.l0] at H;by_cases c5:x16_1 < (l0.length:Int)
     ·rw[if_pos c5] at H;have c5b0:decide (x16_1 < (l0.length:Int))=true:=dE c5;clear c5;by_cases c6:0≤x16_1
      ·rw[if_pos c6] at H;have c6b0:decide (0≤x16_1)=true:=dE c6;clear c6;by_cases c7:x16_1 < (l0.length:Int)
       ·rw[if_pos c7] at H;have c7b0:decide (x16_1 < (l0.length:Int))=true:=dE c7;clear c7;have H':=aM H;clear H;have p129:0≤(x16_1:Int):=oE aS
        have q129:x16_1 < (l0.length:Int):=oE aS
        obtain⟨ad129,e129,hx129_0⟩:=Kd.at_int HR0.out x16_1 p129 q129;cases e129
        replace hx129_0:=(HB.out.cell (World.block_lt_of_cell? w _ hx129_0)).trans hx129_0;replace p129:=eq_true p129;replace q129:=eq_true q129;go_wp2
        go_roundg k1
        case measure=>have:=HK1.out;omega
        case rel=>exact⟨(wrap64 (x4_1+(wrap64 (Int.tdiv (rd l0 x16_1) 33554432)))),(wrap64 (x5_1+(Int.tmod (rd l0 x16_1) 33554432))),(wrap64 (x16_1+1)),sD,sD,sD,H',⟨by have:=HK1.out;omega⟩,⟨pB⟩⟩
       ·rw[if_neg c7] at H;exact absurd H (by simp)
      ·rw[if_neg c6] at H;exact absurd H (by simp)
     ·rw[if_neg c5] at H;have c5b0:decide (x16_1 < (l0.length:Int))=false:=decide_eq_false c5;clear c5;by_cases c8:(wrap64 (x4_1+(wrap64 (Int.tdiv x5_1 33554432)))) > 33554433
      ·rw[if_pos c8] at H;have c8b0:decide (33554433 < (wrap64 (x4_1+(wrap64 (Int.tdiv x5_1 33554432)))))=true:=dE c8;have c8b0w:decide (33554433 < (IntKind.i64.wrap (x4_1+(IntKind.i64.wrap (Int.tdiv x5_1 33554432)))))=true:=by have h_:=c8b0;first|exact h_|(simp only[i64_w];exact h_)
       clear c8;simp only[Option.some.injEq,Prod.mk.injEq] at H;obtain⟨rfl,rfl⟩:=H;go_wp2
       go_ret2
       exact⟨eW,pB⟩
      ·rw[if_neg c8] at H;have c8b0:decide (33554433 < (wrap64 (x4_1+(wrap64 (Int.tdiv x5_1 33554432)))))=false:=decide_eq_false c8;have c8b0w:decide (33554433 < (IntKind.i64.wrap (x4_1+(IntKind.i64.wrap (Int.tdiv x5_1 33554432)))))=false:=by have h_:=c8b0;first|exact h_|(simp only[i64_w];exact h_)
       clear c8;by_cases c9:(wrap64 (x4_1+(wrap64 (Int.tdiv x5_1 33554432)))) < (-33554433)
       ·rw[if_pos c9] at H;have c9b0:decide ((wrap64 (x4_1+(wrap64 (Int.tdiv x5_1 33554432)))) < (-33554433))=true:=dE c9;have c9b0w:decide ((IntKind.i64.wrap (x4_1+(IntKind.i64.wrap (Int.tdiv x5_1 33554432)))) < (-33554433))=true:=by have h_:=c9b0;first|exact h_|(simp only[i64_w];exact h_)
        clear c9;simp only[Option.some.injEq,Prod.mk.injEq] at H;obtain⟨rfl,rfl⟩:=H;go_wp2
        go_ret2
        exact⟨eW,pB⟩
       ·rw[if_neg c9] at H;have c9b0:decide ((wrap64 (x4_1+(wrap64 (Int.tdiv x5_1 33554432)))) < (-33554433))=false:=decide_eq_false c9;have c9b0w:decide ((IntKind.i64.wrap (x4_1+(IntKind.i64.wrap (Int.tdiv x5_1 33554432)))) < (-33554433))=false:=by have h_:=c9b0;first|exact h_|(simp only[i64_w];exact h_)
        clear c9;replace H:=bS H;obtain⟨⟨t130,t131⟩,A100,H⟩:=H;replace H:(some (t130,t131))=some (r1,r2):=H;have A10:=aM A100;clear A100;simp only[Option.some.injEq,Prod.mk.injEq] at H;obtain⟨rfl,rfl⟩:=H;go_wp2_with (first|((with_reducible refine gate_callee (f:=87) rfl ?_);refine goesL_ (some 45) rfl rfl Try.func87 (by kernel_rfl) rfl #[.int .i64 (wrap64 ((wrap64 ((wrap64 (x4_1+(wrap64 (Int.tdiv x5_1 33554432)))) * 33554432))+(Int.tmod x5_1 33554432)))] rfl mA ?_;(with_reducible refine(Gzz.calls k1 (wrap64 ((wrap64 ((wrap64 (x4_1+(wrap64 (Int.tdiv x5_1 33554432)))) * 33554432))+(Int.tmod x5_1 33554432))) t130 t131 _ A10.out).mono ?_);rintro e w11 ⟨rfl,hb⟩;refine⟨_,rfl,?_⟩;replace HB:=aM (below_step pB hb);(try clear hb);(try clear hb2);(try clear hk);(try clear hi)))
        go_ret2
        exact⟨eW,pB⟩
  ·replace c4:=Bool.eq_false_iff.mpr c4;subst c4;rw[if_neg (show ¬ (false=true) by decide)] at H
   simp only[Option.some.injEq,Prod.mk.injEq] at H;obtain⟨rfl,rfl⟩:=H;go_enter Try.func75,Try.ntmps75
   go_wp2_with (first|((with_reducible refine gate_callee (f:=69) rfl ?_);refine goesL_ (some 12) rfl rfl Try.func69 (by kernel_rfl) rfl #[.slice A0 l0.length c0] rfl mA ?_;(with_reducible refine(Czf.calls k _ _ l0 false _ ?side1 ?side2 A3.out).mono ?_);(case side1=>exact cX HR0.out);(case side2=>exact HC0.out);rintro e w' ⟨rfl,⟨nd,rfl⟩⟩;refine⟨_,rfl,?_⟩))
   go_ret2
   exact⟨eW,pB⟩

end Go.Proofs.Ytnklckihalhlmaa.Print
