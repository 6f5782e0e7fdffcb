import Derived.Test.YtnklckihalhlmaaPrint0
import Derived.Test.YtnklckihalhlmaaPrint38
import Derived.Test.YtnklckihalhlmaaPrint39
import Derived.Test.YtnklckihalhlmaaPrint40
namespace Go.Proofs.Ytnklckihalhlmaa.Print
open Go.RowKit Go.Proofs.YtnklckihalhlmaaW.PrintWords Go.Proofs.YtnklckihalhlmaaW.PrintLast Go.Proofs.YtnklckihalhlmaaW.PrintMore
attribute [local go_sem] max2_int min2_int max_two min_two max_three min_three max_four min_four
set_option linter.unusedVariables false
set_option maxRecDepth 100000
set_option maxHeartbeats 8000000
set_option linter.unusedSimpArgs false

def Czx.j0:Nat→Bool→Bool→List Int→List Int→Bool→List Int→List Int→Option (Bool × List Int × List Int × Int)
 | 0,_,_,_,_,_,_,_=>none
 | k+1,x17,x660000,x660001,x660002,x661000,x661001,x661002=>if x17=true then(some (false,([]:List Int),([]:List Int),3)) else((Czy.f k x660001 x661001).bind fun bt664=>((Czy.f k x660002 x661002).bind fun bt668=>(if bt664.2=0 then(if bt668.2=0 then((Dzp.f k (x660000 != x661000) bt664.1 bt668.1).bind fun bt672=>(some (bt672.1,bt672.2.1,bt672.2.2,0))) else(some (false,([]:List Int),([]:List Int),2))) else(some (false,([]:List Int),([]:List Int),2)))))
def Czx.f (k:Nat) (a0_0:Bool) (l0_1:List Int) (l0_2:List Int) (a1_0:Bool) (l1_1:List Int) (l1_2:List Int):Option (Bool × List Int × List Int × Int):=(Azf.f k a0_0 l0_1 l0_2).bind fun t662=>(if t662=true then((Azf.f k a1_0 l1_1 l1_2).bind fun t663=>(Czx.j0 k (!t663) a0_0 l0_1 l0_2 a1_0 l1_1 l1_2)) else(Czx.j0 k true a0_0 l0_1 l0_2 a1_0 l1_1 l1_2))
theorem Czx.mono_l:∀ k,(∀ y0 y1 y2 y3 y4 y5 y6,LeO (Czx.j0 k y0 y1 y2 y3 y4 y5 y6) (Czx.j0 (k+1) y0 y1 y2 y3 y4 y5 y6))
 | 0=>fun _ _ _ _ _ _ _ r h=>by simp [Czx.j0] at h
 | k+1=>by
  have ih0:=Czx.mono_l k
  ·intro y0 y1 y2 y3 y4 y5 y6;unfold Czx.j0;have i0:=@Czy.mono;have i1:=@Dzp.mono;have i2:=@Azf.mono;exact mM
theorem Czx.mono:∀ a0 a1 a2 a3 a4 a5 k,LeO (Czx.f k a0 a1 a2 a3 a4 a5) (Czx.f (k+1) a0 a1 a2 a3 a4 a5):=by
 intro a0 a1 a2 a3 a4 a5 k;have ih0:=Czx.mono_l k;unfold Czx.f;have i0:=@Czy.mono;have i1:=@Dzp.mono;have i2:=@Azf.mono;exact mM
theorem Czx.calls (k:Nat) (a0_0:Bool) (A0_1:Option Addr) (c0_1:Nat) (l0_1:List Int) (A0_2:Option Addr) (c0_2:Nat) (l0_2:List Int) (a1_0:Bool) (A1_1:Option Addr) (c1_1:Nat) (l1_1:List Int) (A1_2:Option Addr) (c1_2:Nat) (l1_2:List Int) (r1:Bool) (r2:List Int) (r3:List Int) (r4:Int) (w:World) (hr0_1:Kd.C (Kd.int .i64) w A0_1 l0_1.length l0_1) (hc0_1:l0_1.length≤c0_1) (hr0_2:Kd.C (Kd.int .i64) w A0_2 l0_2.length l0_2) (hc0_2:l0_2.length≤c0_2) (hr1_1:Kd.C (Kd.int .i64) w A1_1 l1_1.length l1_1) (hc1_1:l1_1.length≤c1_1) (hr1_2:Kd.C (Kd.int .i64) w A1_2 l1_2.length l1_2) (hc1_2:l1_2.length≤c1_2) (h:Czx.f k a0_0 l0_1 l0_2 a1_0 l1_1 l1_2=some (r1,r2,r3,r4)) :
  Calls Try.prog 26 #[.agg #[.bool a0_0,.slice A0_1 l0_1.length c0_1,.slice A0_2 l0_2.length c0_2],.agg #[.bool a1_0,.slice A1_1 l1_1.length c1_1,.slice A1_2 l1_2.length c1_2]] w fun e w'=>∃ v1_ v2_:Value,e=.returned (.tuple #[.agg #[.bool r1,v1_,v2_],.int .i64 r4])∧Kd.R (Kd.int .i64) 3 w' w.heap.size (fun k_=>some k_≠(v2_:Value).ownBlock) v1_ r2∧Kd.R (Kd.int .i64) 3 w' w.heap.size (fun k_=>some k_≠(v1_:Value).ownBlock) v2_ r3∧Below w.heap.size w w':=by
 have hu39:=Try.underlying39;have HR0_1:=aM hr0_1;have HC0_1:=aM hc0_1;clear hr0_1 hc0_1;have HR0_2:=aM hr0_2;have HC0_2:=aM hc0_2;clear hr0_2 hc0_2;have HR1_1:=aM hr1_1;have HC1_1:=aM hc1_1;clear hr1_1 hc1_1;have HR1_2:=aM hr1_2;have HC1_2:=aM hc1_2;clear hr1_2 hc1_2;have HB:=aM (Below.refl w.heap.size w);have H:((Azf.f k a0_0 l0_1 l0_2).bind fun t662=>(if t662=true then((Azf.f k a1_0 l1_1 l1_2).bind fun t663=>(Czx.j0 k (!t663) a0_0 l0_1 l0_2 a1_0 l1_1 l1_2)) else(Czx.j0 k true a0_0 l0_1 l0_2 a1_0 l1_1 l1_2)))=some (r1,r2,r3,r4):=h
 clear h;have HC3:=aM H;clear H;go_enter Try.func26,Try.ntmps26
 go_upto_region 1 with (first|((with_reducible refine gd 2 rfl ?_);refine bx #[.bool a0_0,.slice A0_1 l0_1.length c0_1,.slice A0_2 l0_2.length c0_2] 39 ?_;intro gb659 hg w4 BK659 hb;have GW659:=gA w hg;have GE659:=gA w hg;replace HB:=bB hb;clear hb hg)|((with_reducible refine gd 3 rfl ?_);refine bx #[.bool a1_0,.slice A1_1 l1_1.length c1_1,.slice A1_2 l1_2.length c1_2] 39 ?_;intro gb660 hg w5 BK660 hb;have GW660:=gA w hg;have GE660:=gA w hg;have NB659_660:=nl hg BK659;have NB660_659:=ng hg BK659;replace BK659:=kb BK659 hb;replace HB:=bB hb;clear hb hg)|((with_reducible refine gd 4 rfl ?_);refine bx #[.bool false,.slice none 0 0,.slice none 0 0] 39 ?_;intro gb661 hg w6 BK661 hb;have GW661:=gA w hg;have GE661:=gA w hg;have NB659_661:=nl hg BK659;have NB661_659:=ng hg BK659;have NB660_661:=nl hg BK660;have NB661_660:=ng hg BK660;replace BK659:=kb BK659 hb;replace BK660:=kb BK660 hb;replace HB:=bB hb;clear hb hg))
 (try simp only[Act.put,sA,sZ,sC])
 go_cut [17] (fun v17 wc=>∃ (kq:Nat) (x17_2:Bool),v17=.bool x17_2∧Aside0 (Czx.j0 kq x17_2 a0_0 l0_1 l0_2 a1_0 l1_1 l1_2=some (r1,r2,r3,r4))∧Aside0 (kq≤k)∧Aside0 (wc.heap[gb659]?=some (.cells #[.bool a0_0,(.slice A0_1 l0_1.length c0_1),(.slice A0_2 l0_2.length c0_2)] 39 (0,0)))∧Aside0 (wc.heap[gb660]?=some (.cells #[.bool a1_0,(.slice A1_1 l1_1.length c1_1),(.slice A1_2 l1_2.length c1_2)] 39 (0,0)))∧Aside0 (wc.heap[gb661]?=some (.cells #[.bool false,(.slice none 0 0),(.slice none 0 0)] 39 (0,0)))∧Aside0 (Below w.heap.size w wc))
 case first =>
  have H:=HC3.out;clear HC3;obtain⟨t662,A7,H⟩:=bT H;(try dsimp only at H);by_cases c8:t662=true
  ·subst c8;rw[if_pos rfl] at H;obtain⟨t663,A9,H⟩:=bT H;(try dsimp only at H);have H':=aM H;clear H;have hnb10:=NB659_660.out;have hnc10:=NB660_659.out;have hnb11:=NB659_661.out;have hnc11:=NB661_659.out;obtain⟨hcz12_0,hcz12_1,hcz12_2,hfz12_0,hfz12_1,hfz12_2⟩:=bk3 BK659;go_wp2_with (first|((with_reducible refine gc 24 rfl ?_);refine gC 24 (some 11) Try.func24 #[.agg #[.bool a0_0,.slice A0_1 l0_1.length c0_1,.slice A0_2 l0_2.length c0_2]] ?_;(with_reducible refine(Azf.calls k a0_0 _ _ l0_1 _ _ l0_2 true _ ?side1 ?side2 ?side3 ?side4 A7.out).mono ?_);(case side1=>exact cB HR0_1);(case side2=>exact HC0_1.out);(case side3=>exact cB HR0_2);(case side4=>exact HC0_2.out);rintro e w13 ⟨rfl,hb⟩;refine⟨_,rfl,?_⟩;replace BK659:=kb BK659 hb;replace BK660:=kb BK660 hb;replace BK661:=kb BK661 hb;replace HB:=bB hb;clear hb;have hnb14:=NB660_661.out;have hnc14:=NB661_660.out;obtain⟨hcz15_0,hcz15_1,hcz15_2,hfz15_0,hfz15_1,hfz15_2⟩:=bk3 BK660)|(go_at_call 24;(with_reducible refine(Azf.calls k a1_0 _ _ l1_1 _ _ l1_2 t663 _ ?side1 ?side2 ?side3 ?side4 A9.out).mono ?_);(case side1=>exact cB HR1_1);(case side2=>exact HC1_1.out);(case side3=>exact cB HR1_2);(case side4=>exact HC1_2.out);rintro e w16 ⟨rfl,hb⟩;replace BK659:=kb BK659 hb;replace BK660:=kb BK660 hb;replace BK661:=kb BK661 hb;replace HB:=bB hb;clear hb))
   go_meet
   case rel=>exact⟨_,(!t663),sD,H',⟨by first|omega|exact Nat.le_refl _⟩,⟨by(with_reducible repeat(first|refine blk_drewN ?_ _|refine blk_drew ?_|refine blk_alloc ?_ _));exact BK659.out⟩,⟨by(with_reducible repeat(first|refine blk_drewN ?_ _|refine blk_drew ?_|refine blk_alloc ?_ _));exact BK660.out⟩,⟨by(with_reducible repeat(first|refine blk_drewN ?_ _|refine blk_drew ?_|refine blk_alloc ?_ _));exact BK661.out⟩,⟨pB⟩⟩
  ·obtain rfl:=bN c8;rw[if_neg nF] at H
   have H':=aM H;clear H;have hnb17:=NB659_660.out;have hnc17:=NB660_659.out;have hnb18:=NB659_661.out;have hnc18:=NB661_659.out;obtain⟨hcz19_0,hcz19_1,hcz19_2,hfz19_0,hfz19_1,hfz19_2⟩:=bk3 BK659;go_wp2_with (first|((with_reducible refine gc 24 rfl ?_);refine gC 24 (some 11) Try.func24 #[.agg #[.bool a0_0,.slice A0_1 l0_1.length c0_1,.slice A0_2 l0_2.length c0_2]] ?_;(with_reducible refine(Azf.calls k a0_0 _ _ l0_1 _ _ l0_2 false _ ?side1 ?side2 ?side3 ?side4 A7.out).mono ?_);(case side1=>exact cB HR0_1);(case side2=>exact HC0_1.out);(case side3=>exact cB HR0_2);(case side4=>exact HC0_2.out);rintro e w20 ⟨rfl,hb⟩;refine⟨_,rfl,?_⟩;replace BK659:=kb BK659 hb;replace BK660:=kb BK660 hb;replace BK661:=kb BK661 hb;replace HB:=bB hb;clear hb))
   go_meet
   case rel=>exact⟨_,(true),sD,H',⟨by first|omega|exact Nat.le_refl _⟩,⟨by(with_reducible repeat(first|refine blk_drewN ?_ _|refine blk_drew ?_|refine blk_alloc ?_ _));exact BK659.out⟩,⟨by(with_reducible repeat(first|refine blk_drewN ?_ _|refine blk_drew ?_|refine blk_alloc ?_ _));exact BK660.out⟩,⟨by(with_reducible repeat(first|refine blk_drewN ?_ _|refine blk_drew ?_|refine blk_alloc ?_ _));exact BK661.out⟩,⟨pB⟩⟩
 case rest =>
  clear HC3;try clear c1
  try clear c2
  try clear p2
  try clear c8
  try clear c10
  try clear c11
  try clear c14
  try clear c17
  try clear c18
  try clear hcz12_0
  try clear hcz12_1
  try clear hcz12_2
  try clear hcz15_0
  try clear hcz15_1
  try clear hcz15_2
  try clear hcz19_0
  try clear hcz19_1
  try clear hcz19_2
  try clear hfz12_0
  try clear hfz12_1
  try clear hfz12_2
  try clear hfz15_0
  try clear hfz15_1
  try clear hfz15_2
  try clear hfz19_0
  try clear hfz19_1
  try clear hfz19_2
  obtain⟨kq,x17_2,rfl,HA,HJ2,BK659,BK660,BK661,HB⟩:=hcut;cases kq with
  | zero=>exact absurd HA.out (by simp [Czx.j0])
  | succ kj2 =>
   have H:=HA.out;clear HA;simp only[Czx.j0] at H;by_cases c21:x17_2=true
   ·subst c21;rw[if_pos rfl] at H;obtain⟨rfl,rfl,rfl,rfl⟩:=q4 H;have hnb22:=NB661_659.out;have hnc22:=NB659_661.out;have hnb23:=NB661_660.out;have hnc23:=NB660_661.out;obtain⟨hcz24_0,hcz24_1,hcz24_2,hfz24_0,hfz24_1,hfz24_2⟩:=bk3 BK661;go_wp2
    refine bodyPost_ret (results_ct rfl _ _ gb661 39 #[.bool false,.slice none 0 0,.slice none 0 0] (0,0) _ rfl (kQ BK661) Try.underlying39 rfl (by kernel_rfl)) rfl ?_
    exact⟨_,_,eW,nK,nK,pB⟩
   ·obtain rfl:=bN c21;rw[if_neg nF] at H
    obtain⟨⟨t664,t665⟩,A25,H⟩:=bT H;(try dsimp only at H);obtain⟨⟨t668,t669⟩,A26,H⟩:=bT H;(try dsimp only at H);by_cases c27:t665=0
    ·rw[if_pos c27] at H;have c27b0:(t665 == 0)=true:=beq_iff_eq.mpr c27;have c27b1:(t665 != 0)=false:=bne_eq_false_iff_eq.mpr c27;clear c27;by_cases c28:t669=0
     ·rw[if_pos c28] at H;have c28b0:(t669 == 0)=true:=beq_iff_eq.mpr c28;have c28b1:(t669 != 0)=false:=bne_eq_false_iff_eq.mpr c28;clear c28;replace H:=bS H;obtain⟨⟨t672,t673,t676⟩,A290,H⟩:=H;replace H:(some (t672,t673,t676,0))=some (r1,r2,r3,r4):=H;have A29:=aM A290;clear A290;obtain⟨rfl,rfl,rfl,rfl⟩:=q4 H;have hnb30:=NB659_660.out;have hnc30:=NB660_659.out;have hnb31:=NB659_661.out;have hnc31:=NB661_659.out;obtain⟨hcz32_0,hcz32_1,hcz32_2,hfz32_0,hfz32_1,hfz32_2⟩:=bk3 BK659;have hnb33:=NB660_661.out;have hnc33:=NB661_660.out;obtain⟨hcz34_0,hcz34_1,hcz34_2,hfz34_0,hfz34_1,hfz34_2⟩:=bk3 BK660;go_wp2_with (first|((with_reducible refine gc 47 rfl ?_);refine gC 47 (some 24) Try.func47 #[.slice A0_1 l0_1.length c0_1,.slice A1_1 l1_1.length c1_1] ?_;(with_reducible refine(Czy.calls kj2 _ _ l0_1 _ _ l1_1 t664 t665 _ ?side1 ?side2 ?side3 ?side4 A25.out).mono ?_);(case side1=>exact cB HR0_1);(case side2=>exact HC0_1.out);(case side3=>exact cB HR1_1);(case side4=>exact HC1_1.out);rintro e w35 ⟨v666,rfl,ho0,hb⟩;refine⟨_,rfl,?_⟩;have HO667:=rL ho0;replace BK659:=kb BK659 hb;replace BK660:=kb BK660 hb;replace BK661:=kb BK661 hb;replace HB:=bB hb;clear hb ho0;obtain⟨hcz36_0,hcz36_1,hcz36_2,hfz36_0,hfz36_1,hfz36_2⟩:=bk3 BK659;obtain⟨hcz37_0,hcz37_1,hcz37_2,hfz37_0,hfz37_1,hfz37_2⟩:=bk3 BK660)|((with_reducible refine gc 47 rfl ?_);refine gC 47 (some 32) Try.func47 #[.slice A0_2 l0_2.length c0_2,.slice A1_2 l1_2.length c1_2] ?_;(with_reducible refine(Czy.calls kj2 _ _ l0_2 _ _ l1_2 t668 t669 _ ?side1 ?side2 ?side3 ?side4 A26.out).mono ?_);(case side1=>exact cB HR0_2);(case side2=>exact HC0_2.out);(case side3=>exact cB HR1_2);(case side4=>exact HC1_2.out);rintro e w38 ⟨v670,rfl,ho0,hb⟩;refine⟨_,rfl,?_⟩;have HO671:=rL (rn ho0 HO667);replace HO667:=rE HO667 ho0 hb;replace BK659:=kb BK659 hb;replace BK660:=kb BK660 hb;replace BK661:=kb BK661 hb;replace HB:=bB hb;clear hb ho0;obtain⟨hcz39_0,hcz39_1,hcz39_2,hfz39_0,hfz39_1,hfz39_2⟩:=bk3 BK659;obtain⟨hcz40_0,hcz40_1,hcz40_2,hfz40_0,hfz40_1,hfz40_2⟩:=bk3 BK660;obtain⟨Ao41,co41,rfl⟩:=Kd.R_slice HO667.out;obtain⟨Ao42,co42,rfl⟩:=Kd.R_slice HO671.out)|((with_reducible refine gc 46 rfl ?_);refine gC 46 (some 49) Try.func46 #[.bool (a0_0 != a1_0),.slice Ao41 t664.length co41,.slice Ao42 t668.length co42] ?_;(with_reducible refine(Dzp.calls kj2 (a0_0 != a1_0) _ _ t664 _ _ t668 t672 t673 t676 _ ?side1 ?side2 ?side3 ?side4 A29.out).mono ?_);(case side1=>exact cR HO667);(case side2=>exact lR HO667);(case side3=>exact cR HO671);(case side4=>exact lR HO671);rintro e w43 ⟨v674,v677,rfl,ho0,ho1,hb⟩;refine⟨_,rfl,?_⟩;have HO675:=rL (rn (rn ho0 HO667) HO671);have HO678:=rL (rn (rn ho1 HO667) HO671);replace HO667:=rO HO667 hb ho0 ho1;replace HO671:=rO HO671 hb ho0 ho1;replace BK659:=kb BK659 hb;replace BK660:=kb BK660 hb;replace BK661:=kb BK661 hb;replace HB:=bB hb;clear hb ho0 ho1;obtain⟨hcz44_0,hcz44_1,hcz44_2,hfz44_0,hfz44_1,hfz44_2⟩:=bk3 BK661;obtain⟨Ao45,co45,rfl⟩:=Kd.R_slice HO675.out;obtain⟨Ao46,co46,rfl⟩:=Kd.R_slice HO678.out))
      refine bodyPost_ret (results_ct rfl _ _ gb661 39 #[.bool t672,.slice Ao45 t673.length co45,.slice Ao46 t676.length co46] (0,0) _ rfl (kQ BK661) Try.underlying39 rfl (by kernel_rfl)) rfl ?_
      exact⟨_,_,eW,by exact Kd.R_mono (rT HO675 BK661) (fun _ hk=>hk.1.1),by exact Kd.R_mono (rT HO678 BK661) (fun _ hk=>hk.1.1),pB⟩
     ·rw[if_neg c28] at H;have c28b0:(t669 == 0)=false:=beq_eq_false_iff_ne.mpr c28;have c28b1:(t669 != 0)=true:=bne_iff_ne.mpr c28;obtain⟨rfl,rfl,rfl,rfl⟩:=q4 H;have hnb47:=NB659_660.out;have hnc47:=NB660_659.out;have hnb48:=NB659_661.out;have hnc48:=NB661_659.out;obtain⟨hcz49_0,hcz49_1,hcz49_2,hfz49_0,hfz49_1,hfz49_2⟩:=bk3 BK659;have hnb50:=NB660_661.out;have hnc50:=NB661_660.out;obtain⟨hcz51_0,hcz51_1,hcz51_2,hfz51_0,hfz51_1,hfz51_2⟩:=bk3 BK660;go_wp2_with (first|((with_reducible refine gc 47 rfl ?_);refine gC 47 (some 24) Try.func47 #[.slice A0_1 l0_1.length c0_1,.slice A1_1 l1_1.length c1_1] ?_;(with_reducible refine(Czy.calls kj2 _ _ l0_1 _ _ l1_1 t664 t665 _ ?side1 ?side2 ?side3 ?side4 A25.out).mono ?_);(case side1=>exact cB HR0_1);(case side2=>exact HC0_1.out);(case side3=>exact cB HR1_1);(case side4=>exact HC1_1.out);rintro e w52 ⟨v666,rfl,ho0,hb⟩;refine⟨_,rfl,?_⟩;have HO667:=rL ho0;replace BK659:=kb BK659 hb;replace BK660:=kb BK660 hb;replace BK661:=kb BK661 hb;replace HB:=bB hb;clear hb ho0;obtain⟨hcz53_0,hcz53_1,hcz53_2,hfz53_0,hfz53_1,hfz53_2⟩:=bk3 BK659;obtain⟨hcz54_0,hcz54_1,hcz54_2,hfz54_0,hfz54_1,hfz54_2⟩:=bk3 BK660)|((with_reducible refine gc 47 rfl ?_);refine gC 47 (some 32) Try.func47 #[.slice A0_2 l0_2.length c0_2,.slice A1_2 l1_2.length c1_2] ?_;(with_reducible refine(Czy.calls kj2 _ _ l0_2 _ _ l1_2 t668 t669 _ ?side1 ?side2 ?side3 ?side4 A26.out).mono ?_);(case side1=>exact cB HR0_2);(case side2=>exact HC0_2.out);(case side3=>exact cB HR1_2);(case side4=>exact HC1_2.out);rintro e w55 ⟨v670,rfl,ho0,hb⟩;refine⟨_,rfl,?_⟩;have HO671:=rL (rn ho0 HO667);replace HO667:=rE HO667 ho0 hb;replace BK659:=kb BK659 hb;replace BK660:=kb BK660 hb;replace BK661:=kb BK661 hb;replace HB:=bB hb;clear hb ho0;obtain⟨hcz56_0,hcz56_1,hcz56_2,hfz56_0,hfz56_1,hfz56_2⟩:=bk3 BK661))
      refine bodyPost_ret (results_ct rfl _ _ gb661 39 #[.bool false,.slice none 0 0,.slice none 0 0] (0,0) _ rfl (kQ BK661) Try.underlying39 rfl (by kernel_rfl)) rfl ?_
      exact⟨_,_,eW,nK,nK,pB⟩
    ·rw[if_neg c27] at H;have c27b0:(t665 == 0)=false:=beq_eq_false_iff_ne.mpr c27;have c27b1:(t665 != 0)=true:=bne_iff_ne.mpr c27;obtain⟨rfl,rfl,rfl,rfl⟩:=q4 H;have hnb57:=NB659_660.out;have hnc57:=NB660_659.out;have hnb58:=NB659_661.out;have hnc58:=NB661_659.out;obtain⟨hcz59_0,hcz59_1,hcz59_2,hfz59_0,hfz59_1,hfz59_2⟩:=bk3 BK659;have hnb60:=NB660_661.out;have hnc60:=NB661_660.out;obtain⟨hcz61_0,hcz61_1,hcz61_2,hfz61_0,hfz61_1,hfz61_2⟩:=bk3 BK660;go_wp2_with (first|((with_reducible refine gc 47 rfl ?_);refine gC 47 (some 24) Try.func47 #[.slice A0_1 l0_1.length c0_1,.slice A1_1 l1_1.length c1_1] ?_;(with_reducible refine(Czy.calls kj2 _ _ l0_1 _ _ l1_1 t664 t665 _ ?side1 ?side2 ?side3 ?side4 A25.out).mono ?_);(case side1=>exact cB HR0_1);(case side2=>exact HC0_1.out);(case side3=>exact cB HR1_1);(case side4=>exact HC1_1.out);rintro e w62 ⟨v666,rfl,ho0,hb⟩;refine⟨_,rfl,?_⟩;have HO667:=rL ho0;replace BK659:=kb BK659 hb;replace BK660:=kb BK660 hb;replace BK661:=kb BK661 hb;replace HB:=bB hb;clear hb ho0;obtain⟨hcz63_0,hcz63_1,hcz63_2,hfz63_0,hfz63_1,hfz63_2⟩:=bk3 BK659;obtain⟨hcz64_0,hcz64_1,hcz64_2,hfz64_0,hfz64_1,hfz64_2⟩:=bk3 BK660)|((with_reducible refine gc 47 rfl ?_);refine gC 47 (some 32) Try.func47 #[.slice A0_2 l0_2.length c0_2,.slice A1_2 l1_2.length c1_2] ?_;(with_reducible refine(Czy.calls kj2 _ _ l0_2 _ _ l1_2 t668 t669 _ ?side1 ?side2 ?side3 ?side4 A26.out).mono ?_);(case side1=>exact cB HR0_2);(case side2=>exact HC0_2.out);(case side3=>exact cB HR1_2);(case side4=>exact HC1_2.out);rintro e w65 ⟨v670,rfl,ho0,hb⟩;refine⟨_,rfl,?_⟩;have HO671:=rL (rn ho0 HO667);replace HO667:=rE HO667 ho0 hb;replace BK659:=kb BK659 hb;replace BK660:=kb BK660 hb;replace BK661:=kb BK661 hb;replace HB:=bB hb;clear hb ho0;obtain⟨hcz66_0,hcz66_1,hcz66_2,hfz66_0,hfz66_1,hfz66_2⟩:=bk3 BK661))
     refine bodyPost_ret (results_ct rfl _ _ gb661 39 #[.bool false,.slice none 0 0,.slice none 0 0] (0,0) _ rfl (kQ BK661) Try.underlying39 rfl (by kernel_rfl)) rfl ?_
     exact⟨_,_,eW,nK,nK,pB⟩

def Ezp.f (k:Nat) (a0:Int):Option (Bool × List Int × List Int × Int):=(Bzq.f k a0 1).bind fun bt680=>(some (bt680.1,bt680.2.1,bt680.2.2.1,bt680.2.2.2))
theorem Ezp.mono:∀ a0 k,LeO (Ezp.f k a0) (Ezp.f (k+1) a0):=by
 intro a0 k;unfold Ezp.f;have i0:=@Bzq.mono;exact mM
theorem Ezp.calls (k:Nat) (a0:Int) (r1:Bool) (r2:List Int) (r3:List Int) (r4:Int) (w:World) (h:Ezp.f k a0=some (r1,r2,r3,r4)) :
  Calls Try.prog 27 #[.int .i64 a0] w fun e w'=>∃ v1_ v2_:Value,e=.returned (.tuple #[.agg #[.bool r1,v1_,v2_],.int .i64 r4])∧Kd.R (Kd.int .i64) 3 w' w.heap.size (fun k_=>some k_≠(v2_:Value).ownBlock) v1_ r2∧Kd.R (Kd.int .i64) 3 w' w.heap.size (fun k_=>some k_≠(v1_:Value).ownBlock) v2_ r3∧Below w.heap.size w w':=by
 have hu39:=Try.underlying39;have HB:=aM (Below.refl w.heap.size w);have H:((Bzq.f k a0 1).bind fun bt680=>(some (bt680.1,bt680.2.1,bt680.2.2.1,bt680.2.2.2)))=some (r1,r2,r3,r4):=h
 clear h;replace H:=bS H;obtain⟨⟨t680,t681,t684,t687⟩,A20,H⟩:=H;replace H:(some (t680,t681,t684,t687))=some (r1,r2,r3,r4):=H;have A2:=aM A20;clear A20;obtain⟨rfl,rfl,rfl,rfl⟩:=q4 H;go_enter Try.func27,Try.ntmps27
 go_wp2_with (first|((with_reducible refine gd 2 rfl ?_);refine bx #[.bool false,.slice none 0 0,.slice none 0 0] 39 ?_;intro gb679 hg w3 BK679 hb;have GW679:=gA w hg;have GE679:=gA w hg;replace HB:=bB hb;clear hb hg)|((with_reducible refine gc 25 rfl ?_);refine gC 25 (some 5) Try.func25 #[.int .i64 a0,.int .i64 1] ?_;(with_reducible refine(Bzq.calls k a0 1 t680 t681 t684 t687 _ A2.out).mono ?_);rintro e w4 ⟨v682,v685,rfl,ho0,ho1,hb⟩;refine⟨_,rfl,?_⟩;have HO683:=rL ho0;have HO686:=rL ho1;replace BK679:=kb BK679 hb;replace HB:=bB hb;clear hb ho0 ho1;obtain⟨hcz5_0,hcz5_1,hcz5_2,hfz5_0,hfz5_1,hfz5_2⟩:=bk3 BK679;obtain⟨Ao6,co6,rfl⟩:=Kd.R_slice HO683.out;obtain⟨Ao7,co7,rfl⟩:=Kd.R_slice HO686.out))
 refine bodyPost_ret (results_ct rfl _ _ gb679 39 #[.bool t680,.slice Ao6 t681.length co6,.slice Ao7 t684.length co7] (0,0) _ rfl (kQ BK679) Try.underlying39 rfl (by kernel_rfl)) rfl ?_
 exact⟨_,_,eW,by exact Kd.R_mono (rT HO683 BK679) (fun _ hk=>hk),by exact Kd.R_mono (rT HO686 BK679) (fun _ hk=>hk),pB⟩

end Go.Proofs.Ytnklckihalhlmaa.Print
