import Derived.Test.YtnklckihalhlmaaPrint0
import Derived.Test.YtnklckihalhlmaaPrint2
import Derived.Test.YtnklckihalhlmaaPrint5
namespace Go.Proofs.Ytnklckihalhlmaa.Print
open Go.RowKit Go.Proofs.YtnklckihalhlmaaW.PrintWords Go.Proofs.YtnklckihalhlmaaW.PrintLast Go.Proofs.YtnklckihalhlmaaW.PrintMore
attribute [local go_sem] max2_int min2_int max_two min_two max_three min_three max_four min_four
set_option linter.unusedVariables false
set_option maxRecDepth 100000
set_option maxHeartbeats 8000000
set_option linter.unusedSimpArgs false

def Fzf.f (k:Nat) (l0:List (S46)) (a1:Int):Option (Int × Int):=(Czv.f k l0).bind fun t112=>(if t112=0 then((Ezf.f l0 a1).bind fun t113=>(if t113=true then((Ezj.f l0 a1).bind fun t114=>(some (t114,0))) else(some (0,1)))) else(some (0,t112)))
theorem Fzf.mono:∀ a0 a1 k,LeO (Fzf.f k a0 a1) (Fzf.f (k+1) a0 a1):=by
 intro a0 a1 k;unfold Fzf.f;have i0:=@Czv.mono;exact mM
theorem Fzf.calls (k:Nat) (A0:Option Addr) (c0:Nat) (l0:List (S46)) (a1:Int) (r1:Int) (r2:Int) (w:World) (hr0:Kd.C k46 w A0 l0.length l0) (hc0:l0.length≤c0) (h:Fzf.f k l0 a1=some (r1,r2)) :
  Calls Try.prog 12 #[.slice A0 l0.length c0,.int .i64 a1] w fun e w'=>e=.returned (.tuple #[.int .i64 r1,.int .i64 r2])∧Below w.heap.size w w':=by
 have HR0:=aM hr0;have HC0:=aM hc0;clear hr0 hc0;have HB:=aM (Below.refl w.heap.size w);have H:((Czv.f k l0).bind fun t112=>(if t112=0 then((Ezf.f l0 a1).bind fun t113=>(if t113=true then((Ezj.f l0 a1).bind fun t114=>(some (t114,0))) else(some (0,1)))) else(some (0,t112))))=some (r1,r2):=h
 clear h;obtain⟨t112,A3,H⟩:=bT H;(try dsimp only at H);by_cases c4:t112=0
 ·rw[if_pos c4] at H;have c4b0:(t112 == 0)=true:=beq_iff_eq.mpr c4;have c4b1:(t112 != 0)=false:=bne_eq_false_iff_eq.mpr c4;clear c4;obtain⟨t113,A5,H⟩:=bT H;(try dsimp only at H);by_cases c6:t113=true
  ·subst c6;rw[if_pos rfl] at H;replace H:=bS H;obtain⟨t114,A70,H⟩:=H;replace H:(some (t114,0))=some (r1,r2):=H;have A7:=aM A70;clear A70;obtain⟨rfl,rfl⟩:=q2 H;go_enter Try.func12,Try.ntmps12
   go_wp2_with (first|((with_reducible refine gc 14 rfl ?_);refine gC 14 (some 8) Try.func14 #[.slice A0 l0.length c0] ?_;(with_reducible refine(Czv.calls k _ _ l0 t112 _ ?side1 ?side2 A3.out).mono ?_);(case side1=>exact cX HR0.out);(case side2=>exact HC0.out);rintro e w8 ⟨rfl,hb⟩;refine⟨_,rfl,?_⟩;replace HB:=bB hb;clear hb)|((with_reducible refine gc 31 rfl ?_);refine gC 31 (some 14) Try.func31 #[.slice A0 l0.length c0,.int .i64 a1] ?_;(with_reducible refine(Ezf.calls _ _ l0 a1 true _ ?side1 ?side2 A5.out).mono ?_);(case side1=>exact cB HR0);(case side2=>exact HC0.out);rintro e w' ⟨rfl,⟨nd,rfl⟩⟩;refine⟨_,rfl,?_⟩)|((with_reducible refine gc 32 rfl ?_);refine gC 32 (some 18) Try.func32 #[.slice A0 l0.length c0,.int .i64 a1] ?_;(with_reducible refine(Ezj.calls _ _ l0 a1 t114 _ ?side1 ?side2 A7.out).mono ?_);(case side1=>exact cB HR0);(case side2=>exact HC0.out);rintro e w9 ⟨rfl,hb⟩;refine⟨_,rfl,?_⟩;replace HB:=bB hb;clear hb))
   go_ret2
   exact⟨eW,pB⟩
  ·obtain rfl:=bN c6;rw[if_neg nF] at H
   obtain⟨rfl,rfl⟩:=q2 H;go_enter Try.func12,Try.ntmps12
   go_wp2_with (first|((with_reducible refine gc 14 rfl ?_);refine gC 14 (some 8) Try.func14 #[.slice A0 l0.length c0] ?_;(with_reducible refine(Czv.calls k _ _ l0 t112 _ ?side1 ?side2 A3.out).mono ?_);(case side1=>exact cX HR0.out);(case side2=>exact HC0.out);rintro e w10 ⟨rfl,hb⟩;refine⟨_,rfl,?_⟩;replace HB:=bB hb;clear hb)|((with_reducible refine gc 31 rfl ?_);refine gC 31 (some 14) Try.func31 #[.slice A0 l0.length c0,.int .i64 a1] ?_;(with_reducible refine(Ezf.calls _ _ l0 a1 false _ ?side1 ?side2 A5.out).mono ?_);(case side1=>exact cB HR0);(case side2=>exact HC0.out);rintro e w' ⟨rfl,⟨nd,rfl⟩⟩;refine⟨_,rfl,?_⟩))
   go_ret2
   exact⟨eW,pB⟩
 ·rw[if_neg c4] at H;have c4b0:(t112 == 0)=false:=beq_eq_false_iff_ne.mpr c4;have c4b1:(t112 != 0)=true:=bne_iff_ne.mpr c4;obtain⟨rfl,rfl⟩:=q2 H;go_enter Try.func12,Try.ntmps12
  go_wp2_with (first|((with_reducible refine gc 14 rfl ?_);refine gC 14 (some 8) Try.func14 #[.slice A0 l0.length c0] ?_;(with_reducible refine(Czv.calls k _ _ l0 t112 _ ?side1 ?side2 A3.out).mono ?_);(case side1=>exact cX HR0.out);(case side2=>exact HC0.out);rintro e w11 ⟨rfl,hb⟩;refine⟨_,rfl,?_⟩;replace HB:=bB hb;clear hb))
  go_ret2
  exact⟨eW,pB⟩

def Dzb.j0:Nat→List (S46)→Bool→Int→Int→Option (Int × Int)
 | 0,_,_,_,_=>none
 | k+1,x0,x17,x116000,x116001=>if x17=true then(some (0,1)) else(if x116000 > x116001 then(some (0,9)) else((Ezj.f x0 x116001).bind fun t118=>((Ezj.f x0 x116000).bind fun t119=>(some (wrap64 (t118 - t119),0)))))
def Dzb.f (k:Nat) (l0:List (S46)) (a1_0:Int) (a1_1:Int):Option (Int × Int):=(Ezf.f l0 a1_0).bind fun t116=>(if t116=true then((Ezf.f l0 a1_1).bind fun t117=>(Dzb.j0 k l0 (!t117) a1_0 a1_1)) else(Dzb.j0 k l0 true a1_0 a1_1))
theorem Dzb.mono_l:∀ k,(∀ y0 y1 y2 y3,LeO (Dzb.j0 k y0 y1 y2 y3) (Dzb.j0 (k+1) y0 y1 y2 y3))
 | 0=>fun _ _ _ _ r h=>by simp [Dzb.j0] at h
 | k+1=>by
  have ih0:=Dzb.mono_l k
  ·intro y0 y1 y2 y3;unfold Dzb.j0;exact mM
theorem Dzb.mono:∀ a0 a1 a2 k,LeO (Dzb.f k a0 a1 a2) (Dzb.f (k+1) a0 a1 a2):=by
 intro a0 a1 a2 k;have ih0:=Dzb.mono_l k;unfold Dzb.f;exact mM
def Dzb.T5:Bool × List (List Nat × List Nat):=(true,[([],[]),([],[]),([1],[1]),([0,2],[0,2]),([],[]),([],[]),([5],[5]),([4,6,3],[4,6]),([3,7],[3,7]),([8,7,0,1,2,3,4,5,6,7,8],[8]),([9,0,1,2,3,4,5,6,7,8,9],[])])
def Dzb.B5:List Nat:=[0,0,2,7,0,0,32,127,255,511,1023]
theorem Dzb.tab5:rtab .any (opsOf Try.f35 5)=Dzb.T5:=by kernel_rfl
theorem Dzb.bits5:waitsOk Dzb.T5.2 Dzb.B5=true:=by kernel_rfl
theorem Dzb.calls (k:Nat) (A0:Option Addr) (c0:Nat) (l0:List (S46)) (a1_0:Int) (a1_1:Int) (r1:Int) (r2:Int) (w:World) (hr0:Kd.C k46 w A0 l0.length l0) (hc0:l0.length≤c0) (h:Dzb.f k l0 a1_0 a1_1=some (r1,r2)) :
  Calls Try.prog 35 #[.slice A0 l0.length c0,.agg #[.int .i64 a1_0,.int .i64 a1_1]] w fun e w'=>e=.returned (.tuple #[.int .i64 r1,.int .i64 r2])∧Below w.heap.size w w':=by
 have hu31:=Try.underlying31;have HR0:=aM hr0;have HC0:=aM hc0;clear hr0 hc0;have HB:=aM (Below.refl w.heap.size w);have H:((Ezf.f l0 a1_0).bind fun t116=>(if t116=true then((Ezf.f l0 a1_1).bind fun t117=>(Dzb.j0 k l0 (!t117) a1_0 a1_1)) else(Dzb.j0 k l0 true a1_0 a1_1)))=some (r1,r2):=h
 clear h;have HC3:=aM H;clear H;go_enter Try.func35,Try.ntmps35
 go_upto_region 1 with (first|((with_reducible refine gd 3 rfl ?_);refine bx #[.int .i64 a1_0,.int .i64 a1_1] 31 ?_;intro gb115 hg w4 BK115 hb;have GW115:=gA w hg;have GE115:=gA w hg;replace HB:=bB hb;clear hb hg))
 (try simp only[Act.put,sA,sZ,sC])
 go_cut [17] (fun v17 wc=>∃ (kq:Nat) (x17_2:Bool),v17=.bool x17_2∧Aside0 (Dzb.j0 kq l0 x17_2 a1_0 a1_1=some (r1,r2))∧Aside0 (kq≤k)∧Aside0 (wc.heap[gb115]?=some (.cells #[.int .i64 a1_0,.int .i64 a1_1] 31 (0,0)))∧Aside0 (Below w.heap.size w wc))
 case first =>
  have H:=HC3.out;clear HC3;obtain⟨t116,A5,H⟩:=bT H;(try dsimp only at H);by_cases c6:t116=true
  ·subst c6;rw[if_pos rfl] at H;obtain⟨t117,A7,H⟩:=bT H;(try dsimp only at H);have H':=aM H;clear H;obtain⟨hcz8_0,hcz8_1,hfz8_0,hfz8_1⟩:=bk2 BK115;go_wp2_with (first|((with_reducible refine gc 31 rfl ?_);refine gC 31 (some 9) Try.func31 #[.slice A0 l0.length c0,.int .i64 a1_0] ?_;(with_reducible refine(Ezf.calls _ _ l0 a1_0 true _ ?side1 ?side2 A5.out).mono ?_);(case side1=>exact cB HR0);(case side2=>exact HC0.out);rintro e w' ⟨rfl,⟨nd,rfl⟩⟩;refine⟨_,rfl,?_⟩)|(go_at_call 31;(with_reducible refine(Ezf.calls _ _ l0 a1_1 t117 _ ?side1 ?side2 A7.out).mono ?_);(case side1=>exact cB HR0);(case side2=>exact HC0.out);rintro e w' ⟨rfl,⟨nd,rfl⟩⟩))
   go_meet
   case rel=>exact⟨_,(!t117),sD,H',⟨by first|omega|exact Nat.le_refl _⟩,⟨by(with_reducible repeat(first|refine blk_drewN ?_ _|refine blk_drew ?_|refine blk_alloc ?_ _));exact BK115.out⟩,⟨pB⟩⟩
  ·obtain rfl:=bN c6;rw[if_neg nF] at H
   have H':=aM H;clear H;obtain⟨hcz9_0,hcz9_1,hfz9_0,hfz9_1⟩:=bk2 BK115;go_wp2_with (first|((with_reducible refine gc 31 rfl ?_);refine gC 31 (some 9) Try.func31 #[.slice A0 l0.length c0,.int .i64 a1_0] ?_;(with_reducible refine(Ezf.calls _ _ l0 a1_0 false _ ?side1 ?side2 A5.out).mono ?_);(case side1=>exact cB HR0);(case side2=>exact HC0.out);rintro e w' ⟨rfl,⟨nd,rfl⟩⟩;refine⟨_,rfl,?_⟩))
   go_meet
   case rel=>exact⟨_,(true),sD,H',⟨by first|omega|exact Nat.le_refl _⟩,⟨by(with_reducible repeat(first|refine blk_drewN ?_ _|refine blk_drew ?_|refine blk_alloc ?_ _));exact BK115.out⟩,⟨pB⟩⟩
 case rest =>
  clear HC3;try clear p2
  try clear c3
  try clear c6
  try clear hcz8_0
  try clear hcz8_1
  try clear hcz9_0
  try clear hcz9_1
  try clear hfz8_0
  try clear hfz8_1
  try clear hfz9_0
  try clear hfz9_1
  obtain⟨kq,x17_2,rfl,HA,HJ2,BK115,HB⟩:=hcut;cases kq with
  | zero=>exact absurd HA.out (by simp [Dzb.j0])
  | succ kj2 =>
   have H:=HA.out;clear HA;simp only[Dzb.j0] at H;by_cases c10:x17_2=true
   ·subst c10;rw[if_pos rfl] at H;obtain⟨rfl,rfl⟩:=q2 H;go_wp2
    go_ret2
    exact⟨eW,pB⟩
   ·obtain rfl:=bN c10;rw[if_neg nF] at H
    by_cases c11:a1_0 > a1_1
    ·rw[if_pos c11] at H;have c11b0:decide (a1_1 < a1_0)=true:=dE c11;clear c11;obtain⟨rfl,rfl⟩:=q2 H;obtain⟨hcz12_0,hcz12_1,hfz12_0,hfz12_1⟩:=bk2 BK115;go_wp2
     go_ret2
     exact⟨eW,pB⟩
    ·rw[if_neg c11] at H;have c11b0:decide (a1_1 < a1_0)=false:=decide_eq_false c11;clear c11;obtain⟨t118,A13,H⟩:=bT H;(try dsimp only at H);replace H:=bS H;obtain⟨t119,A140,H⟩:=H;replace H:(some (wrap64 (t118 - t119),0))=some (r1,r2):=H;have A14:=aM A140;clear A140;obtain⟨rfl,rfl⟩:=q2 H;obtain⟨hcz15_0,hcz15_1,hfz15_0,hfz15_1⟩:=bk2 BK115;try go_wp2
     have n0_:=aM (blk_drew BK115.out);have n1_:=aM (below_drew1 HB.out);clear BK115;clear HB;have BK115:=n0_;have HB:=n1_;clear n0_ n1_;refine start_ (n:=11) (S:=fun w'=>w'.cell? ⟨gb115,0,none⟩=some (.int .i64 a1_0)∧w'.cell? ⟨gb115,1,none⟩=some (.int .i64 a1_1)) (ds:=[]) (bA 11 0) (by kernel_rfl) rfl rfl ⟨(blk_cell BK115.out 0).trans rfl,(blk_cell BK115.out 1).trans rfl⟩ (fun hHeld=>?_);refine with_tabW Dzb.tab5 Dzb.bits5 (fun HT_ HW_=>?_)
     generalize wc.drew=w16 at BK115 HB hHeld ⊢;refine pS 0 23 HT_ ?_;refine pS 1 24 HT_ ?_;refine pS 4 27 HT_ ?_;refine pS 5 28 HT_ ?_;refine tU 2 25 HT_ HW_ hHeld ?_;refine tU 6 29 HT_ HW_ hHeld ?_;refine oU 3 (some 26) HT_ fun K hK=>?_
     refine goes_ Try.func32 (by kernel_rfl) rfl #[.slice A0 l0.length c0,.int .i64 a1_1] (by rfl) rfl rfl mA ?_
     with_reducible refine(Ezj.calls _ _ l0 a1_1 t118 _ ?side1 ?side2 A13.out).mono ?_
     (case side1=>exact cB HR0)
     (case side2=>exact HC0.out)
     rintro e w17 ⟨rfl,hb⟩;refine⟨_,rfl,?_⟩;have n0_:=kb BK115 hb;have n1_:=bB hb;clear BK115;clear HB;have BK115:=n0_;have HB:=n1_;clear n0_ n1_;clear hb
     (try clear hb2)
     (try clear hk)
     (try clear hi)
     refine hK.out _ _ ⟨(blk_cell BK115.out 0).trans rfl,(blk_cell BK115.out 1).trans rfl⟩ (fun hHeld=>?_)
     clear hK K;refine nm 26 ?_;refine oU 7 (some 30) HT_ fun K hK=>?_
     refine goes_ Try.func32 (by kernel_rfl) rfl #[.slice A0 l0.length c0,.int .i64 a1_0] (by rfl) rfl rfl mA ?_
     with_reducible refine(Ezj.calls _ _ l0 a1_0 t119 _ ?side1 ?side2 A14.out).mono ?_
     (case side1=>exact cB HR0)
     (case side2=>exact HC0.out)
     rintro e w18 ⟨rfl,hb⟩;refine⟨_,rfl,?_⟩;have n0_:=kb BK115 hb;have n1_:=bB hb;clear BK115;clear HB;have BK115:=n0_;have HB:=n1_;clear n0_ n1_;clear hb
     (try clear hb2)
     (try clear hk)
     (try clear hi)
     refine hK.out _ _ ⟨(blk_cell BK115.out 0).trans rfl,(blk_cell BK115.out 1).trans rfl⟩ (fun hHeld=>?_)
     clear hK K;refine nm 30 ?_;refine pS 8 31 HT_ ?_;refine pS 9 4 HT_ ?_;refine pS 10 5 HT_ ?_;refine done_ (done_of HT_.out (by kernel_rfl)) ?_
     try go_wp2
     go_ret2
     exact⟨eW,pB⟩


def Gzq.f (k:Nat) (l0:List (S46)) (a1_0:Int) (a1_1:Int):Option (Int × Int):=(Czv.f k l0).bind fun t121=>(if t121=0 then((Dzb.f k l0 a1_0 a1_1).bind fun bt122=>(some (bt122.1,bt122.2))) else(some (0,t121)))
theorem Gzq.mono:∀ a0 a1 a2 k,LeO (Gzq.f k a0 a1 a2) (Gzq.f (k+1) a0 a1 a2):=by
 intro a0 a1 a2 k;unfold Gzq.f;have i0:=@Czv.mono;have i1:=@Dzb.mono;exact mM
theorem Gzq.calls (k:Nat) (A0:Option Addr) (c0:Nat) (l0:List (S46)) (a1_0:Int) (a1_1:Int) (r1:Int) (r2:Int) (w:World) (hr0:Kd.C k46 w A0 l0.length l0) (hc0:l0.length≤c0) (h:Gzq.f k l0 a1_0 a1_1=some (r1,r2)) :
  Calls Try.prog 16 #[.slice A0 l0.length c0,.agg #[.int .i64 a1_0,.int .i64 a1_1]] w fun e w'=>e=.returned (.tuple #[.int .i64 r1,.int .i64 r2])∧Below w.heap.size w w':=by
 have hu31:=Try.underlying31;have HR0:=aM hr0;have HC0:=aM hc0;clear hr0 hc0;have HB:=aM (Below.refl w.heap.size w);have H:((Czv.f k l0).bind fun t121=>(if t121=0 then((Dzb.f k l0 a1_0 a1_1).bind fun bt122=>(some (bt122.1,bt122.2))) else(some (0,t121))))=some (r1,r2):=h
 clear h;obtain⟨t121,A3,H⟩:=bT H;(try dsimp only at H);by_cases c4:t121=0
 ·rw[if_pos c4] at H;have c4b0:(t121 == 0)=true:=beq_iff_eq.mpr c4;have c4b1:(t121 != 0)=false:=bne_eq_false_iff_eq.mpr c4;clear c4;replace H:=bS H;obtain⟨⟨t122,t123⟩,A50,H⟩:=H;replace H:(some (t122,t123))=some (r1,r2):=H;have A5:=aM A50;clear A50;obtain⟨rfl,rfl⟩:=q2 H;go_enter Try.func16,Try.ntmps16
  go_wp2_with (first|((with_reducible refine gd 3 rfl ?_);refine bx #[.int .i64 a1_0,.int .i64 a1_1] 31 ?_;intro gb120 hg w6 BK120 hb;have GW120:=gA w hg;have GE120:=gA w hg;replace HB:=bB hb;clear hb hg)|((with_reducible refine gc 14 rfl ?_);refine gC 14 (some 8) Try.func14 #[.slice A0 l0.length c0] ?_;(with_reducible refine(Czv.calls k _ _ l0 t121 _ ?side1 ?side2 A3.out).mono ?_);(case side1=>exact cB HR0);(case side2=>exact HC0.out);rintro e w7 ⟨rfl,hb⟩;refine⟨_,rfl,?_⟩;replace BK120:=kb BK120 hb;replace HB:=bB hb;clear hb;obtain⟨hcz8_0,hcz8_1,hfz8_0,hfz8_1⟩:=bk2 BK120)|((with_reducible refine gc 35 rfl ?_);refine gC 35 (some 14) Try.func35 #[.slice A0 l0.length c0,.agg #[.int .i64 a1_0,.int .i64 a1_1]] ?_;(with_reducible refine(Dzb.calls k _ _ l0 a1_0 a1_1 t122 t123 _ ?side1 ?side2 A5.out).mono ?_);(case side1=>exact cB HR0);(case side2=>exact HC0.out);rintro e w9 ⟨rfl,hb⟩;refine⟨_,rfl,?_⟩;replace BK120:=kb BK120 hb;replace HB:=bB hb;clear hb))
  go_ret2
  exact⟨eW,pB⟩
 ·rw[if_neg c4] at H;have c4b0:(t121 == 0)=false:=beq_eq_false_iff_ne.mpr c4;have c4b1:(t121 != 0)=true:=bne_iff_ne.mpr c4;obtain⟨rfl,rfl⟩:=q2 H;go_enter Try.func16,Try.ntmps16
  go_wp2_with (first|((with_reducible refine gd 3 rfl ?_);refine bx #[.int .i64 a1_0,.int .i64 a1_1] 31 ?_;intro gb120 hg w10 BK120 hb;have GW120:=gA w hg;have GE120:=gA w hg;replace HB:=bB hb;clear hb hg)|((with_reducible refine gc 14 rfl ?_);refine gC 14 (some 8) Try.func14 #[.slice A0 l0.length c0] ?_;(with_reducible refine(Czv.calls k _ _ l0 t121 _ ?side1 ?side2 A3.out).mono ?_);(case side1=>exact cB HR0);(case side2=>exact HC0.out);rintro e w11 ⟨rfl,hb⟩;refine⟨_,rfl,?_⟩;replace BK120:=kb BK120 hb;replace HB:=bB hb;clear hb))
  go_ret2
  exact⟨eW,pB⟩



def Gzk.f (a0:Int):Option (Bool):=if a0 < 0 then(some true) else(some (decide (a0 > 1125899906842624)))
theorem Gzk.calls (a0:Int) (r:Bool) (w:World) (h:Gzk.f a0=some r) :
  Calls Try.prog 74 #[.int .i64 a0] w fun e w'=>e=.returned (.bool r)∧Drawn0 w w':=by
 have H:(if a0 < 0 then(some true) else(some (decide (a0 > 1125899906842624))))=some r:=h
 clear h;by_cases c2:a0 < 0
 ·rw[if_pos c2] at H;have c2b0:=dE c2;clear c2;obtain rfl:=Option.some.inj H;go_enter Try.func74,Try.ntmps74
  go_wp2
  go_ret
  exact⟨sD,dR⟩
 ·rw[if_neg c2] at H;have c2b0:decide (a0 < 0)=false:=decide_eq_false c2;clear c2;obtain rfl:=Option.some.inj H;go_enter Try.func74,Try.ntmps74
  go_wp2
  go_ret
  exact⟨sD,dR⟩

def Gzj.f (k:Nat) (a0:Int):Option (Int × Int):=(Dzz.f k (([a0]:List Int))).bind fun t127=>(if t127=true then(some (a0,0)) else(some (0,2)))
theorem Gzj.mono:∀ a0 k,LeO (Gzj.f k a0) (Gzj.f (k+1) a0):=by
 intro a0 k;unfold Gzj.f;have i0:=@Dzz.mono;exact mM
theorem Gzj.calls (k:Nat) (a0:Int) (r1:Int) (r2:Int) (w:World) (h:Gzj.f k a0=some (r1,r2)) :
  Calls Try.prog 87 #[.int .i64 a0] w fun e w'=>e=.returned (.tuple #[.int .i64 r1,.int .i64 r2])∧Below w.heap.size w w':=by
 have HB:=aM (Below.refl w.heap.size w);have H:((Dzz.f k (([a0]:List Int))).bind fun t127=>(if t127=true then(some (a0,0)) else(some (0,2))))=some (r1,r2):=h
 clear h;obtain⟨y124,hy124⟩:∃ y_:List Int,y_=(([a0]:List Int)):=⟨_,rfl⟩;replace H:((Dzz.f k y124).bind fun t127=>(if t127=true then(some (a0,0)) else(some (0,2))))=some (r1,r2):=yE hy124 H
 have Ny124:=aM hy124;clear hy124;obtain⟨t127,A2,H⟩:=bT H;(try dsimp only at H);by_cases c3:t127=true
 ·subst c3;rw[if_pos rfl] at H;obtain⟨rfl,rfl⟩:=q2 H;go_enter Try.func87,Try.ntmps87
  go_wp2_with (first|((with_reducible refine gd 5 rfl ?_);refine iL 5 [a0] ?_;intro v125 w4 ho5 hb;replace ho5:=rY Ny124 ho5;have HO126:=rL ho5;replace HB:=bB hb;clear hb ho5;obtain⟨Ao6,co6,rfl⟩:=Kd.R_slice HO126.out)|((with_reducible refine gc 69 rfl ?_);refine gC 69 (some 6) Try.func69 #[.slice Ao6 y124.length co6] ?_;(with_reducible refine(Dzz.calls k _ _ y124 true _ ?side1 ?side2 A2.out).mono ?_);(case side1=>exact cR HO126);(case side2=>exact lR HO126);rintro e w' ⟨rfl,⟨nd,rfl⟩⟩;refine⟨_,rfl,?_⟩))
  go_ret2
  exact⟨eW,pB⟩
 ·obtain rfl:=bN c3;rw[if_neg nF] at H
  obtain⟨rfl,rfl⟩:=q2 H;go_enter Try.func87,Try.ntmps87
  go_wp2_with (first|((with_reducible refine gd 5 rfl ?_);refine iL 5 [a0] ?_;intro v125 w7 ho8 hb;replace ho8:=rY Ny124 ho8;have HO126:=rL ho8;replace HB:=bB hb;clear hb ho8;obtain⟨Ao9,co9,rfl⟩:=Kd.R_slice HO126.out)|((with_reducible refine gc 69 rfl ?_);refine gC 69 (some 6) Try.func69 #[.slice Ao9 y124.length co9] ?_;(with_reducible refine(Dzz.calls k _ _ y124 false _ ?side1 ?side2 A2.out).mono ?_);(case side1=>exact cR HO126);(case side2=>exact lR HO126);rintro e w' ⟨rfl,⟨nd,rfl⟩⟩;refine⟨_,rfl,?_⟩))
  go_ret2
  exact⟨eW,pB⟩

def Fzj.l0:Nat→Int→Int→List Int→Int→Int→Option (Int × Int)
 | 0,_,_,_,_,_=>none
 | k+1,x4,x5,x14,x15,x16=>if x16 < x15 then(if 0≤x16 then(if x16 < (x14.length:Int) then(Fzj.l0 k (wrap64 (x4+(wrap64 (Int.tdiv (rd x14 x16) 33554432)))) (wrap64 (x5+(Int.tmod (rd x14 x16) 33554432))) x14 x15 (wrap64 (x16+1))) else(none)) else(none)) else(if(wrap64 (x4+(wrap64 (Int.tdiv x5 33554432)))) > 33554433 then(some (0,2)) else(if(wrap64 (x4+(wrap64 (Int.tdiv x5 33554432)))) < (-33554433) then(some (0,2)) else((Gzj.f k (wrap64 ((wrap64 ((wrap64 (x4+(wrap64 (Int.tdiv x5 33554432)))) * 33554432))+(Int.tmod x5 33554432)))).bind fun bt130=>(some (bt130.1,bt130.2)))))
def Fzj.f (k:Nat) (l0:List Int):Option (Int × Int):=if(l0.length:Int) > 65536 then(some (0,8)) else((Dzz.f k l0).bind fun t128=>(if t128=true then(Fzj.l0 k 0 0 l0 (l0.length:Int) 0) else(some (0,1))))
theorem Fzj.mono_l:∀ k,(∀ y0 y1 y2 y3 y4,LeO (Fzj.l0 k y0 y1 y2 y3 y4) (Fzj.l0 (k+1) y0 y1 y2 y3 y4))
 | 0=>fun _ _ _ _ _ r h=>by simp [Fzj.l0] at h
 | k+1=>by
  have ih0:=Fzj.mono_l k
  ·intro y0 y1 y2 y3 y4;unfold Fzj.l0;have i0:=@Dzz.mono;have i1:=@Gzj.mono;exact mM
theorem Fzj.mono:∀ a0 k,LeO (Fzj.f k a0) (Fzj.f (k+1) a0):=by
 intro a0 k;have ih0:=Fzj.mono_l k;unfold Fzj.f;have i0:=@Dzz.mono;have i1:=@Gzj.mono;exact mM
theorem Fzj.calls (k:Nat) (A0:Option Addr) (c0:Nat) (l0:List Int) (r1:Int) (r2:Int) (w:World) (hr0:Kd.C (Kd.int .i64) w A0 l0.length l0) (hc0:l0.length≤c0) (h:Fzj.f k l0=some (r1,r2)) :
  Calls Try.prog 75 #[.slice A0 l0.length c0] w fun e w'=>e=.returned (.tuple #[.int .i64 r1,.int .i64 r2])∧Below w.heap.size w w':=by
 have HR0:=aM hr0;have HC0:=aM hc0;clear hr0 hc0;have HB:=aM (Below.refl w.heap.size w);have H:(if(l0.length:Int) > 65536 then(some (0,8)) else((Dzz.f k l0).bind fun t128=>(if t128=true then(Fzj.l0 k 0 0 l0 (l0.length:Int) 0) else(some (0,1)))))=some (r1,r2):=h
 clear h;by_cases c2:(l0.length:Int) > 65536
 ·rw[if_pos c2] at H;have c2b0:decide (65536 < (l0.length:Int))=true:=dE c2;have c2b1:decide (65536 < l0.length)=true:=dE (by omega)
  clear c2;obtain⟨rfl,rfl⟩:=q2 H;go_enter Try.func75,Try.ntmps75
  go_wp2
  go_ret2
  exact⟨eW,pB⟩
 ·rw[if_neg c2] at H;have c2b0:decide (65536 < (l0.length:Int))=false:=decide_eq_false c2;have c2b1:decide (65536 < l0.length)=false:=decide_eq_false (by omega)
  clear c2;obtain⟨t128,A3,H⟩:=bT H;(try dsimp only at H);by_cases c4:t128=true
  ·subst c4;rw[if_pos rfl] at H;have H':=aM H;clear H;go_enter Try.func75,Try.ntmps75
   go_wp2_with (first|((with_reducible refine gc 69 rfl ?_);refine gC 69 (some 12) Try.func69 #[.slice A0 l0.length c0] ?_;(with_reducible refine(Dzz.calls k _ _ l0 true _ ?side1 ?side2 A3.out).mono ?_);(case side1=>exact cX HR0.out);(case side2=>exact HC0.out);rintro e w' ⟨rfl,⟨nd,rfl⟩⟩;refine⟨_,rfl,?_⟩))
   try simp only[Act.put,sA,sZ,sC]
   go_loopg [4,5,16] k (fun kq v4 v5 v16 w'=>∃ (x4_1:Int) (x5_1:Int) (x16_1:Int),v4=.int .i64 x4_1∧v5=.int .i64 x5_1∧v16=.int .i64 x16_1∧Aside0 (Fzj.l0 kq x4_1 x5_1 l0 (l0.length:Int) x16_1=some (r1,r2))∧Aside0 (kq≤k)∧Aside0 (Below w.heap.size w w'))
   case atStart=>exact⟨(0),(0),(0),sD,sD,sD,H',⟨Nat.le_refl _⟩,⟨pB⟩⟩
   case round =>
    clear H';try clear c2
    try clear c2b0
    try clear c2b1
    try clear p2
    try clear c4
    obtain⟨x4_1,x5_1,x16_1,rfl,rfl,rfl,HA,HK1,HB⟩:=hrel;cases gk with
    | zero=>exact absurd HA.out (by simp [Fzj.l0])
    | succ k1 =>
     have H:=HA.out;clear HA;simp only[Fzj.l0] at H;by_cases c5:x16_1 < (l0.length:Int)
     ·rw[if_pos c5] at H;have c5b0:=dE c5;clear c5;obtain⟨c6b0,H⟩:=iN H;obtain⟨c7b0,H⟩:=iN H;have H':=aM H;clear H;obtain⟨ad129,e129,hx129_0,p129,q129⟩:=aI HR0.out x16_1;cases e129
      replace hx129_0:=hB HB hx129_0;go_wp2
      go_roundg k1
      case measure=>have:=HK1.out;omega
      case rel=>exact⟨(wrap64 (x4_1+(wrap64 (Int.tdiv (rd l0 x16_1) 33554432)))),(wrap64 (x5_1+(Int.tmod (rd l0 x16_1) 33554432))),(wrap64 (x16_1+1)),sD,sD,sD,H',⟨by have:=HK1.out;omega⟩,⟨pB⟩⟩
     ·rw[if_neg c5] at H;have c5b0:decide (x16_1 < (l0.length:Int))=false:=decide_eq_false c5;clear c5;by_cases c8:(wrap64 (x4_1+(wrap64 (Int.tdiv x5_1 33554432)))) > 33554433
      ·rw[if_pos c8] at H;have c8b0:decide (33554433 < (wrap64 (x4_1+(wrap64 (Int.tdiv x5_1 33554432)))))=true:=dE c8;have c8b0w:decide (33554433 < (IntKind.i64.wrap (x4_1+(IntKind.i64.wrap (Int.tdiv x5_1 33554432)))))=true:=by have h_:=c8b0;first|exact h_|(simp only[i64_w];exact h_)
       clear c8;obtain⟨rfl,rfl⟩:=q2 H;go_wp2
       go_ret2
       exact⟨eW,pB⟩
      ·rw[if_neg c8] at H;have c8b0:decide (33554433 < (wrap64 (x4_1+(wrap64 (Int.tdiv x5_1 33554432)))))=false:=decide_eq_false c8;have c8b0w:decide (33554433 < (IntKind.i64.wrap (x4_1+(IntKind.i64.wrap (Int.tdiv x5_1 33554432)))))=false:=by have h_:=c8b0;first|exact h_|(simp only[i64_w];exact h_)
       clear c8;by_cases c9:(wrap64 (x4_1+(wrap64 (Int.tdiv x5_1 33554432)))) < (-33554433)
       ·rw[if_pos c9] at H;have c9b0:decide ((wrap64 (x4_1+(wrap64 (Int.tdiv x5_1 33554432)))) < (-33554433))=true:=dE c9;have c9b0w:decide ((IntKind.i64.wrap (x4_1+(IntKind.i64.wrap (Int.tdiv x5_1 33554432)))) < (-33554433))=true:=by have h_:=c9b0;first|exact h_|(simp only[i64_w];exact h_)
        clear c9;obtain⟨rfl,rfl⟩:=q2 H;go_wp2
        go_ret2
        exact⟨eW,pB⟩
       ·rw[if_neg c9] at H;have c9b0:decide ((wrap64 (x4_1+(wrap64 (Int.tdiv x5_1 33554432)))) < (-33554433))=false:=decide_eq_false c9;have c9b0w:decide ((IntKind.i64.wrap (x4_1+(IntKind.i64.wrap (Int.tdiv x5_1 33554432)))) < (-33554433))=false:=by have h_:=c9b0;first|exact h_|(simp only[i64_w];exact h_)
        clear c9;replace H:=bS H;obtain⟨⟨t130,t131⟩,A100,H⟩:=H;replace H:(some (t130,t131))=some (r1,r2):=H;have A10:=aM A100;clear A100;obtain⟨rfl,rfl⟩:=q2 H;go_wp2_with (first|((with_reducible refine gc 87 rfl ?_);refine gC 87 (some 45) Try.func87 #[.int .i64 (wrap64 ((wrap64 ((wrap64 (x4_1+(wrap64 (Int.tdiv x5_1 33554432)))) * 33554432))+(Int.tmod x5_1 33554432)))] ?_;(with_reducible refine(Gzj.calls k1 (wrap64 ((wrap64 ((wrap64 (x4_1+(wrap64 (Int.tdiv x5_1 33554432)))) * 33554432))+(Int.tmod x5_1 33554432))) t130 t131 _ A10.out).mono ?_);rintro e w11 ⟨rfl,hb⟩;refine⟨_,rfl,?_⟩;replace HB:=bB hb;clear hb))
        go_ret2
        exact⟨eW,pB⟩
  ·obtain rfl:=bN c4;rw[if_neg nF] at H
   obtain⟨rfl,rfl⟩:=q2 H;go_enter Try.func75,Try.ntmps75
   go_wp2_with (first|((with_reducible refine gc 69 rfl ?_);refine gC 69 (some 12) Try.func69 #[.slice A0 l0.length c0] ?_;(with_reducible refine(Dzz.calls k _ _ l0 false _ ?side1 ?side2 A3.out).mono ?_);(case side1=>exact cX HR0.out);(case side2=>exact HC0.out);rintro e w' ⟨rfl,⟨nd,rfl⟩⟩;refine⟨_,rfl,?_⟩))
   go_ret2
   exact⟨eW,pB⟩

end Go.Proofs.Ytnklckihalhlmaa.Print
