import Derived.Test.YtpjcpgobdiahpaaPrint0
import Derived.Test.YtpjcpgobdiahpaaPrint2
import Derived.Test.YtpjcpgobdiahpaaPrint14
import Derived.Test.YtpjcpgobdiahpaaPrint15
import Derived.Test.YtpjcpgobdiahpaaPrint28
import Derived.Test.YtpjcpgobdiahpaaPrint32
import Derived.Test.YtpjcpgobdiahpaaPrint33
namespace Go.Proofs.Ytpjcpgobdiahpaa.Print
open Go.RowKit Go.Proofs.YtpjcpgobdiahpaaW.PrintWords Go.Proofs.YtpjcpgobdiahpaaW.PrintLast Go.Proofs.YtpjcpgobdiahpaaW.PrintMore
attribute [local go_sem] max2_int min2_int max_two min_two max_three min_three max_four min_four
set_option linter.unusedVariables false
set_option maxRecDepth 100000
set_option maxHeartbeats 8000000
set_option linter.unusedSimpArgs false

mutual
def Azv.j0:Nat→Int→Int→Bool→Int→List Int→Int→List Int→Option (Bool)
 | 0,_,_,_,_,_,_,_=>none
 | k+1,x1,x5,x59,x526000,x526001,x539000,x539001=>if x59=true then(none) else(Azv.l0 k x1 x5 0 x526000 x526001 x539000 x539001)
def Azv.l0:Nat→Int→Int→Int→Int→List Int→Int→List Int→Option (Bool)
 | 0,_,_,_,_,_,_,_=>none
 | k+1,x1,x5,x10,x526000,x526001,x539000,x539001=>if x10 < (x539001.length:Int) then(if 0≤x10 then(if(rd x539001 x10)=0 then(Azv.l0 k x1 x5 (wrap64 (x10+1)) x526000 x526001 x539000 x539001) else(none)) else(none)) else((Bzp.f k x526000 x526001 x1).bind fun bt541=>(if bt541.2.2.2=0 then(if(bt541.2.2.1.length:Int)=(x526001.length:Int) then(Azv.l1 k x1 x5 bt541.2.2.1 0 x526000 x526001) else(none)) else(if x1 < 0 then(if(bt541.2.2.1.length:Int)=0 then((Azy.f k).bind fun t549=>(some t549)) else(none)) else(if x1 > x5 then(if(bt541.2.2.1.length:Int)=0 then((Azy.f k).bind fun t550=>(some t550)) else(none)) else(none)))))
def Azv.l1:Nat→Int→Int→List Int→Int→Int→List Int→Option (Bool)
 | 0,_,_,_,_,_,_=>none
 | k+1,x1,x5,x8,x11,x526000,x526001=>if x11 < (x8.length:Int) then(Azv.j3 k x1 x5 x8 x11 (decide (x5 > 0)) x526000 x526001) else(Azv.j3 k x1 x5 x8 x11 false x526000 x526001)
def Azv.j3:Nat→Int→Int→List Int→Int→Bool→Int→List Int→Option (Bool)
 | 0,_,_,_,_,_,_,_=>none
 | k+1,x1,x5,x8,x11,x110,x526000,x526001=>if x110=true then(if 0≤x11 then(if x11 < (x526001.length:Int) then((Dzj.f k (rd x526001 x11) x5).bind fun bt553=>((Fzj.f k x1).bind fun bt562=>((Dzp.f k bt553.1 bt553.2.1 bt553.2.2.1 bt562.1 bt562.2.1 bt562.2.2.1).bind fun bt571=>((Ezy.f k bt571.1 bt571.2.1 bt571.2.2.1).bind fun bt580=>((Ezk.f k bt571.1 bt571.2.1 bt571.2.2.1).bind fun bt582=>(if bt553.2.2.2=0 then(if bt562.2.2.2=0 then(if bt571.2.2.2=0 then(if bt580.2=0 then(if bt582.2=0 then(if x11 < (x8.length:Int) then(if(rd x8 x11) < bt580.1 then(none) else(if(rd x8 x11) > bt582.1 then(none) else(Azv.l1 k x1 x5 x8 (wrap64 (x11+1)) x526000 x526001))) else(none)) else(none)) else(none)) else(none)) else(none)) else(none))))))) else(none)) else(none)) else((Azy.f k).bind fun t551=>(some t551))
end
def Azv.f (k:Nat) (a0_0:Int) (l0_1:List Int) (a1:Int):Option (Bool):=if(l0_1.length:Int) > 20 then((Azy.f k).bind fun t526=>(some t526)) else((Dzq.f k a0_0 l0_1).bind fun bt527=>(if bt527.2=0 then((Bzp.f k a0_0 l0_1 bt527.1).bind fun bt530=>(if bt530.2.2.2=0 then((Azx.f k bt530.2.2.1 l0_1).bind fun t539=>(if t539=true then(Azv.j0 k a1 bt527.1 ((bt530.2.1.length:Int) != (l0_1.length:Int)) a0_0 l0_1 bt530.1 bt530.2.1) else(Azv.j0 k a1 bt527.1 true a0_0 l0_1 bt530.1 bt530.2.1))) else(Azv.j0 k a1 bt527.1 true a0_0 l0_1 bt530.1 bt530.2.1))) else((Azy.f k).bind fun t529=>(some t529))))
theorem Azv.mono_l:∀ k,(∀ y0 y1 y2 y3 y4 y5 y6,LeO (Azv.j0 k y0 y1 y2 y3 y4 y5 y6) (Azv.j0 (k+1) y0 y1 y2 y3 y4 y5 y6))∧(∀ y0 y1 y2 y3 y4 y5 y6,LeO (Azv.l0 k y0 y1 y2 y3 y4 y5 y6) (Azv.l0 (k+1) y0 y1 y2 y3 y4 y5 y6))∧(∀ y0 y1 y2 y3 y4 y5,LeO (Azv.l1 k y0 y1 y2 y3 y4 y5) (Azv.l1 (k+1) y0 y1 y2 y3 y4 y5))∧(∀ y0 y1 y2 y3 y4 y5 y6,LeO (Azv.j3 k y0 y1 y2 y3 y4 y5 y6) (Azv.j3 (k+1) y0 y1 y2 y3 y4 y5 y6))
 | 0=>⟨fun _ _ _ _ _ _ _ r h=>by simp [Azv.j0] at h,fun _ _ _ _ _ _ _ r h=>by simp [Azv.l0] at h,fun _ _ _ _ _ _ r h=>by simp [Azv.l1] at h,fun _ _ _ _ _ _ _ r h=>by simp [Azv.j3] at h⟩
 | k+1=>by
  obtain⟨ih0,ih1,ih2,ih3⟩:=Azv.mono_l k;refine⟨?_,?_,?_,?_⟩
  ·intro y0 y1 y2 y3 y4 y5 y6;unfold Azv.j0;with_reducible repeat' first|exact ih0 _ _ _ _ _ _ _|exact ih1 _ _ _ _ _ _ _|exact ih2 _ _ _ _ _ _|exact ih3 _ _ _ _ _ _ _|exact Bzp.mono _ _ _ _|exact Dzq.mono _ _ _|exact Azy.mono _|exact Azx.mono _ _ _|exact Ezk.mono _ _ _ _|exact Ezy.mono _ _ _ _|exact Dzj.mono _ _ _|exact Dzp.mono _ _ _ _ _ _ _|exact Fzj.mono _ _|exact LeO.refl _|exact LeO.none _|refine LeO.ite ?_ ?_|refine LeO.bind ?_ (fun _=>?_)
  ·intro y0 y1 y2 y3 y4 y5 y6;unfold Azv.l0;with_reducible repeat' first|exact ih0 _ _ _ _ _ _ _|exact ih1 _ _ _ _ _ _ _|exact ih2 _ _ _ _ _ _|exact ih3 _ _ _ _ _ _ _|exact Bzp.mono _ _ _ _|exact Dzq.mono _ _ _|exact Azy.mono _|exact Azx.mono _ _ _|exact Ezk.mono _ _ _ _|exact Ezy.mono _ _ _ _|exact Dzj.mono _ _ _|exact Dzp.mono _ _ _ _ _ _ _|exact Fzj.mono _ _|exact LeO.refl _|exact LeO.none _|refine LeO.ite ?_ ?_|refine LeO.bind ?_ (fun _=>?_)
  ·intro y0 y1 y2 y3 y4 y5;unfold Azv.l1;with_reducible repeat' first|exact ih0 _ _ _ _ _ _ _|exact ih1 _ _ _ _ _ _ _|exact ih2 _ _ _ _ _ _|exact ih3 _ _ _ _ _ _ _|exact Bzp.mono _ _ _ _|exact Dzq.mono _ _ _|exact Azy.mono _|exact Azx.mono _ _ _|exact Ezk.mono _ _ _ _|exact Ezy.mono _ _ _ _|exact Dzj.mono _ _ _|exact Dzp.mono _ _ _ _ _ _ _|exact Fzj.mono _ _|exact LeO.refl _|exact LeO.none _|refine LeO.ite ?_ ?_|refine LeO.bind ?_ (fun _=>?_)
  ·intro y0 y1 y2 y3 y4 y5 y6;unfold Azv.j3;with_reducible repeat' first|exact ih0 _ _ _ _ _ _ _|exact ih1 _ _ _ _ _ _ _|exact ih2 _ _ _ _ _ _|exact ih3 _ _ _ _ _ _ _|exact Bzp.mono _ _ _ _|exact Dzq.mono _ _ _|exact Azy.mono _|exact Azx.mono _ _ _|exact Ezk.mono _ _ _ _|exact Ezy.mono _ _ _ _|exact Dzj.mono _ _ _|exact Dzp.mono _ _ _ _ _ _ _|exact Fzj.mono _ _|exact LeO.refl _|exact LeO.none _|refine LeO.ite ?_ ?_|refine LeO.bind ?_ (fun _=>?_)
theorem Azv.mono:∀ a0 a1 a2 k,LeO (Azv.f k a0 a1 a2) (Azv.f (k+1) a0 a1 a2):=by
 intro a0 a1 a2 k;obtain⟨ih0,ih1,ih2,ih3⟩:=Azv.mono_l k;unfold Azv.f;with_reducible repeat' first|exact ih0 _ _ _ _ _ _ _|exact ih1 _ _ _ _ _ _ _|exact ih2 _ _ _ _ _ _|exact ih3 _ _ _ _ _ _ _|exact Bzp.mono _ _ _ _|exact Dzq.mono _ _ _|exact Azy.mono _|exact Azx.mono _ _ _|exact Ezk.mono _ _ _ _|exact Ezy.mono _ _ _ _|exact Dzj.mono _ _ _|exact Dzp.mono _ _ _ _ _ _ _|exact Fzj.mono _ _|exact LeO.refl _|exact LeO.none _|refine LeO.ite ?_ ?_|refine LeO.bind ?_ (fun _=>?_)
theorem Azv.calls (k:Nat) (a0_0:Int) (A0_1:Option Addr) (c0_1:Nat) (l0_1:List Int) (a1:Int) (r:Bool) (w:World) (hr0_1:Kd.C (Kd.int .i64) w A0_1 l0_1.length l0_1) (hc0_1:l0_1.length≤c0_1) (h:Azv.f k a0_0 l0_1 a1=some r) :
  Calls Try.prog 8 #[.agg #[.int .i64 a0_0,.slice A0_1 l0_1.length c0_1],.int .i64 a1] w fun e w'=>e=.returned (.bool r)∧Below w.heap.size w w':=by
 have hu24:=Try.underlying24;have hu46:=Try.underlying46;have HR0_1:=aM hr0_1;have HC0_1:=aM hc0_1;clear hr0_1 hc0_1;have HB:=aM (Below.refl w.heap.size w);have H:(if(l0_1.length:Int) > 20 then((Azy.f k).bind fun t526=>(some t526)) else((Dzq.f k a0_0 l0_1).bind fun bt527=>(if bt527.2=0 then((Bzp.f k a0_0 l0_1 bt527.1).bind fun bt530=>(if bt530.2.2.2=0 then((Azx.f k bt530.2.2.1 l0_1).bind fun t539=>(if t539=true then(Azv.j0 k a1 bt527.1 ((bt530.2.1.length:Int) != (l0_1.length:Int)) a0_0 l0_1 bt530.1 bt530.2.1) else(Azv.j0 k a1 bt527.1 true a0_0 l0_1 bt530.1 bt530.2.1))) else(Azv.j0 k a1 bt527.1 true a0_0 l0_1 bt530.1 bt530.2.1))) else((Azy.f k).bind fun t529=>(some t529)))))=some r:=h
 clear h;by_cases c3:(l0_1.length:Int) > 20
 ·rw[if_pos c3] at H;have c3b0:decide (20 < (l0_1.length:Int))=true:=dE c3;have c3b1:decide (20 < l0_1.length)=true:=dE (by omega)
  clear c3;replace H:=bS H;obtain⟨t526,A40,H⟩:=H;replace H:(some t526)=some r:=H;have A4:=aM A40;clear A40;obtain rfl:=Option.some.inj H;go_enter Try.func8,Try.ntmps8
  go_wp2_with (first|((with_reducible refine gate_dst (N:=2) rfl ?_);(try(refine gate_guard (by rfl) ?_;dsimp only));refine box_event ?hg (N:=2) ?hd (cs:=#[.int .i64 a0_0,.slice A0_1 l0_1.length c0_1]) (t:=24) ?hr ?_;(case hd=>rfl);(case hg=>rfl);(case hr=>first|(go_simp;done)|(go_simp;rfl));intro gb525 hg w5 hbox hb;have BK525:=aM (hbox);have GW525:=aM (gW hg:w.heap.size≤gb525);have GE525:=aM (gW hg:w.heap.size≤gb525);replace HB:=aM (below_step pB hb);clear hb hbox hg;obtain⟨hcz6_0,hcz6_1,hfz6_0,hfz6_1⟩:=bk2 BK525)|((with_reducible refine gate_callee (f:=10) rfl ?_);refine goesL_ (some 26) rfl rfl Try.func10 (by kernel_rfl) rfl #[] rfl mA ?_;(with_reducible refine(Azy.calls k  t526 _ A4.out).mono ?_);rintro e w7 ⟨rfl,hb⟩;refine⟨_,rfl,?_⟩;replace BK525:=aM (kB BK525 hb);replace HB:=aM (below_step pB hb);(try clear hb);(try clear hb2);(try clear hk);(try clear hi)))
  go_ret
  exact⟨eW,pB⟩
 ·rw[if_neg c3] at H;have c3b0:decide (20 < (l0_1.length:Int))=false:=decide_eq_false c3;have c3b1:decide (20 < l0_1.length)=false:=decide_eq_false (by omega)
  clear c3;replace H:=bS H;obtain⟨⟨t527,t528⟩,A80,H⟩:=H;(try dsimp only at H);have A8:=aM A80;clear A80;by_cases c9:t528=0
  ·rw[if_pos c9] at H;have c9b0:(t528 == 0)=true:=beq_iff_eq.mpr c9;have c9b1:(t528 != 0)=false:=bne_eq_false_iff_eq.mpr c9;clear c9;replace H:=bS H;obtain⟨⟨t530,t531,t534,t537⟩,A100,H⟩:=H;(try dsimp only at H);have A10:=aM A100;clear A100;have HC11:=aM H;clear H;go_enter Try.func8,Try.ntmps8
   go_upto_region 7 with (first|((with_reducible refine gate_dst (N:=2) rfl ?_);(try(refine gate_guard (by rfl) ?_;dsimp only));refine box_event ?hg (N:=2) ?hd (cs:=#[.int .i64 a0_0,.slice A0_1 l0_1.length c0_1]) (t:=24) ?hr ?_;(case hd=>rfl);(case hg=>rfl);(case hr=>first|(go_simp;done)|(go_simp;rfl));intro gb525 hg w12 hbox hb;have BK525:=aM (hbox);have GW525:=aM (gW hg:w.heap.size≤gb525);have GE525:=aM (gW hg:w.heap.size≤gb525);replace HB:=aM (below_step pB hb);clear hb hbox hg;obtain⟨hcz13_0,hcz13_1,hfz13_0,hfz13_1⟩:=bk2 BK525)|((with_reducible refine gate_callee (f:=11) rfl ?_);refine goesL_ (some 29) rfl rfl Try.func11 (by kernel_rfl) rfl #[.agg #[.int .i64 a0_0,.slice A0_1 l0_1.length c0_1]] rfl mA ?_;(with_reducible refine(Dzq.calls k a0_0 _ _ l0_1 t527 t528 _ ?side1 ?side2 A8.out).mono ?_);(case side1=>exact cX (Kd.C_below HR0_1.out HB.out));(case side2=>exact HC0_1.out);rintro e w14 ⟨rfl,hb⟩;refine⟨_,rfl,?_⟩;replace BK525:=aM (kB BK525 hb);replace HB:=aM (below_step pB hb);(try clear hb);(try clear hb2);(try clear hk);(try clear hi);obtain⟨hcz15_0,hcz15_1,hfz15_0,hfz15_1⟩:=bk2 BK525)|((with_reducible refine gate_callee (f:=19) rfl ?_);refine goesL_ (some 38) rfl rfl Try.func19 (by kernel_rfl) rfl #[.agg #[.int .i64 a0_0,.slice A0_1 l0_1.length c0_1],.int .i64 t527] rfl mA ?_;(with_reducible refine(Bzp.calls k a0_0 _ _ l0_1 t527 t530 t531 t534 t537 _ ?side1 ?side2 A10.out).mono ?_);(case side1=>exact cX (Kd.C_below HR0_1.out HB.out));(case side2=>exact HC0_1.out);rintro e w16 ⟨v532,v535,rfl,ho0,ho1,hb⟩;refine⟨_,rfl,?_⟩;have HO533:=aM (Kd.R_lower ho0 (below_size pB));have HO536:=aM (Kd.R_lower ho1 (below_size pB));replace BK525:=aM (kB BK525 hb);replace HB:=aM (below_step pB hb);(try clear hb);(try clear hb2);(try clear hk);(try clear hi);(try clear ho0);(try clear ho1))|((with_reducible refine gate_dst (N:=7) rfl ?_);(try(refine gate_guard (by rfl) ?_;dsimp only));refine box_event ?hg (N:=7) ?hd (cs:=#[.int .i64 0,.slice none 0 0]) (t:=24) ?hr ?_;(case hd=>rfl);(case hg=>rfl);(case hr=>first|(go_simp;done)|(go_simp;rfl));intro gb538 hg w17 hbox hb;have BK538:=aM (hbox);have GW538:=aM (gW hg:w.heap.size≤gb538);have GE538:=aM (gW hg:w.heap.size≤gb538);have NB525_538:=aM (nL hg BK525:gb525≠gb538);have NB538_525:=aM (nG hg BK525:gb538≠gb525);replace HO533:=aM (Kd.R_below (rX HO533.out) hb);replace HO536:=aM (Kd.R_below (rX HO536.out) hb);replace BK525:=aM (kB BK525 hb);replace HB:=aM (below_step pB hb);clear hb hbox hg;have hnb18:=NB538_525.out;have hnc18:=NB525_538.out;obtain⟨hcz19_0,hcz19_1,hfz19_0,hfz19_1⟩:=bk2 BK538;obtain⟨Ao20,co20,eo20⟩:=Kd.R_slice HO533.out;subst eo20))
   (try simp only[Act.put,sA,sZ,sC])
   go_cut [59] (fun v59 wc=>∃ (kq:Nat) (x59_10:Bool),v59=.bool x59_10∧Aside0 (Azv.j0 kq a1 t527 x59_10 a0_0 l0_1 t530 t531=some r)∧Aside0 (kq≤k)∧Aside0 (Kd.R (Kd.int .i64) 3 wc w.heap.size (fun _=>True) (.slice Ao20 t531.length co20) t531)∧Aside0 (wc.heap[gb525]?=some (.cells #[.int .i64 a0_0,(.slice A0_1 l0_1.length c0_1)] 24 (0,0)))∧Aside0 (wc.heap[gb538]?=some (.cells #[.int .i64 t530,(.slice Ao20 t531.length co20)] 24 (0,0)))∧Aside0 (Below w.heap.size w wc))
   case first =>
    have H:=HC11.out;clear HC11;by_cases c21:t537=0
    ·rw[if_pos c21] at H;have c21b0:(t537 == 0)=true:=beq_iff_eq.mpr c21;have c21b1:(t537 != 0)=false:=bne_eq_false_iff_eq.mpr c21;clear c21;(first|rw[c21b0]|(simp only[i64_w,i32_w];rw[c21b0])|skip)
     replace H:=bS H;obtain⟨t539,A220,H⟩:=H;(try dsimp only at H);have A22:=aM A220;clear A220;by_cases c23:t539=true
     ·subst c23;rw[if_pos rfl] at H;have H':=aM H;clear H;have hnb24:=NB525_538.out;have hnc24:=NB538_525.out;obtain⟨hcz25_0,hcz25_1,hfz25_0,hfz25_1⟩:=bk2 BK525;obtain⟨Ao26,co26,eo26⟩:=Kd.R_slice HO536.out;subst eo26;go_wp2_with (first|(go_at_call 22;(with_reducible refine(Azx.calls k _ _ t534 _ _ l0_1 true _ ?side1 ?side2 ?side3 ?side4 A22.out).mono ?_);(case side1=>refine(Kd.R_reads' (e:=3) (base:=w.heap.size) (ok:=fun k_=>some k_≠(.slice Ao20 t531.length co20:Value).ownBlock) (n:=t534.length) (c:=co26) ?_).2.2;exact(rX (Kd.R_mono (Kd.R_far (p:=⟨gb538,1,none⟩) (Kd.R_far (p:=⟨gb538,0,none⟩) (Kd.R_types HO536.out BK538.out (by decide)) (fun _ hk=>hk.2) (.int .i64 t530)) (fun _ hk=>hk.2) (.slice Ao20 t531.length co20)) (fun _ h_=>h_.1))));(case side2=>exact(Kd.R_reads' HO536.out).2.1);(case side3=>exact Kd.C_below HR0_1.out pB);(case side4=>exact HC0_1.out);rintro e w' ⟨rfl,⟨nd,rfl⟩⟩;obtain⟨hcz27_0,hcz27_1,hfz27_0,hfz27_1⟩:=bk2 BK538))
      go_meet
      case rel=>exact⟨_,(((t531.length:Int) != (l0_1.length:Int))),sD,H',⟨by first|omega|exact Nat.le_refl _⟩,⟨by(with_reducible repeat(first|apply Kd.R_alloc|apply Kd.R_drewN|apply Kd.R_drew));exact Kd.R_mono (Kd.R_far (p:=⟨gb538,1,none⟩) (Kd.R_far (p:=⟨gb538,0,none⟩) (Kd.R_types HO533.out BK538.out (by decide)) (fun _ hk=>hk.2) (.int .i64 t530)) (fun _ hk=>hk.2) (.slice Ao20 t531.length co20)) (fun _ hk=>trivial)⟩,⟨by refine bD ?_;refine blk_far ?_ NB525_538.out _;refine bD ?_;refine blk_far ?_ NB525_538.out _;(with_reducible repeat(first|refine blk_drewN ?_ _|refine blk_drew ?_|refine blk_alloc ?_ _));exact BK525.out⟩,⟨by refine bD ?_;refine blk_put (cs:=#[.int .i64 t530,.slice none 0 0]) ?_ 1 _ rfl;refine bD ?_;refine blk_put (cs:=#[.int .i64 0,.slice none 0 0]) ?_ 0 _ rfl;(with_reducible repeat(first|refine blk_drewN ?_ _|refine blk_drew ?_|refine blk_alloc ?_ _));exact BK538.out⟩,⟨pB⟩⟩
     ·replace c23:=Bool.eq_false_iff.mpr c23;subst c23;rw[if_neg (show ¬ (false=true) by decide)] at H
      have H':=aM H;clear H;have hnb28:=NB525_538.out;have hnc28:=NB538_525.out;obtain⟨hcz29_0,hcz29_1,hfz29_0,hfz29_1⟩:=bk2 BK525;obtain⟨Ao30,co30,eo30⟩:=Kd.R_slice HO536.out;subst eo30;go_wp2_with (first|(go_at_call 22;(with_reducible refine(Azx.calls k _ _ t534 _ _ l0_1 false _ ?side1 ?side2 ?side3 ?side4 A22.out).mono ?_);(case side1=>refine(Kd.R_reads' (e:=3) (base:=w.heap.size) (ok:=fun k_=>some k_≠(.slice Ao20 t531.length co20:Value).ownBlock) (n:=t534.length) (c:=co30) ?_).2.2;exact(rX (Kd.R_mono (Kd.R_far (p:=⟨gb538,1,none⟩) (Kd.R_far (p:=⟨gb538,0,none⟩) (Kd.R_types HO536.out BK538.out (by decide)) (fun _ hk=>hk.2) (.int .i64 t530)) (fun _ hk=>hk.2) (.slice Ao20 t531.length co20)) (fun _ h_=>h_.1))));(case side2=>exact(Kd.R_reads' HO536.out).2.1);(case side3=>exact Kd.C_below HR0_1.out pB);(case side4=>exact HC0_1.out);rintro e w' ⟨rfl,⟨nd,rfl⟩⟩))
      go_meet
      case rel=>exact⟨_,(true),sD,H',⟨by first|omega|exact Nat.le_refl _⟩,⟨by(with_reducible repeat(first|apply Kd.R_alloc|apply Kd.R_drewN|apply Kd.R_drew));exact Kd.R_mono (Kd.R_far (p:=⟨gb538,1,none⟩) (Kd.R_far (p:=⟨gb538,0,none⟩) (Kd.R_types HO533.out BK538.out (by decide)) (fun _ hk=>hk.2) (.int .i64 t530)) (fun _ hk=>hk.2) (.slice Ao20 t531.length co20)) (fun _ hk=>trivial)⟩,⟨by refine bD ?_;refine blk_far ?_ NB525_538.out _;refine bD ?_;refine blk_far ?_ NB525_538.out _;(with_reducible repeat(first|refine blk_drewN ?_ _|refine blk_drew ?_|refine blk_alloc ?_ _));exact BK525.out⟩,⟨by refine bD ?_;refine blk_put (cs:=#[.int .i64 t530,.slice none 0 0]) ?_ 1 _ rfl;refine bD ?_;refine blk_put (cs:=#[.int .i64 0,.slice none 0 0]) ?_ 0 _ rfl;(with_reducible repeat(first|refine blk_drewN ?_ _|refine blk_drew ?_|refine blk_alloc ?_ _));exact BK538.out⟩,⟨pB⟩⟩
    ·rw[if_neg c21] at H;have c21b0:(t537 == 0)=false:=beq_eq_false_iff_ne.mpr c21;have c21b1:(t537 != 0)=true:=bne_iff_ne.mpr c21;(first|rw[c21b0]|(simp only[i64_w,i32_w];rw[c21b0])|skip)
     have H':=aM H;clear H;go_wp2
     go_meet
     case rel=>exact⟨_,(true),sD,H',⟨by first|omega|exact Nat.le_refl _⟩,⟨by(with_reducible repeat(first|apply Kd.R_alloc|apply Kd.R_drewN|apply Kd.R_drew));exact Kd.R_mono (Kd.R_far (p:=⟨gb538,1,none⟩) (Kd.R_far (p:=⟨gb538,0,none⟩) (Kd.R_types HO533.out BK538.out (by decide)) (fun _ hk=>hk.2) (.int .i64 t530)) (fun _ hk=>hk.2) (.slice Ao20 t531.length co20)) (fun _ hk=>trivial)⟩,⟨by refine bD ?_;refine blk_far ?_ NB525_538.out _;refine bD ?_;refine blk_far ?_ NB525_538.out _;(with_reducible repeat(first|refine blk_drewN ?_ _|refine blk_drew ?_|refine blk_alloc ?_ _));exact BK525.out⟩,⟨by refine bD ?_;refine blk_put (cs:=#[.int .i64 t530,.slice none 0 0]) ?_ 1 _ rfl;refine bD ?_;refine blk_put (cs:=#[.int .i64 0,.slice none 0 0]) ?_ 0 _ rfl;(with_reducible repeat(first|refine blk_drewN ?_ _|refine blk_drew ?_|refine blk_alloc ?_ _));exact BK538.out⟩,⟨pB⟩⟩
   case rest =>
    clear HC11;try clear c1
    try clear c2
    try clear p2
    try clear c3
    try clear c3b0
    try clear c3b1
    try clear c8
    try clear c9
    try clear c9b0
    try clear c9b1
    try clear c10
    try clear c11
    try clear c18
    try clear c19
    try clear c21
    try clear c21b0
    try clear c21b1
    try clear c23
    try clear c24
    try clear c28
    try clear hcz13_0
    try clear hcz13_1
    try clear hcz15_0
    try clear hcz15_1
    try clear hcz19_0
    try clear hcz19_1
    try clear hcz25_0
    try clear hcz25_1
    try clear hcz27_0
    try clear hcz27_1
    try clear hcz29_0
    try clear hcz29_1
    try clear hcz6_0
    try clear hcz6_1
    try clear hfz13_0
    try clear hfz13_1
    try clear hfz15_0
    try clear hfz15_1
    try clear hfz19_0
    try clear hfz19_1
    try clear hfz25_0
    try clear hfz25_1
    try clear hfz27_0
    try clear hfz27_1
    try clear hfz29_0
    try clear hfz29_1
    try clear hfz6_0
    try clear hfz6_1
    obtain⟨kq,x59_10,rfl,HA,HJ10,HO_539001,BK525,BK538,HB⟩:=hcut;cases kq with
    | zero=>exact absurd HA.out (by simp [Azv.j0])
    | succ kj10 =>
     have H:=HA.out;clear HA;simp only[Azv.j0] at H;by_cases c31:x59_10=true
     ·subst c31;rw[if_pos rfl] at H;exact absurd H (by simp)
     ·replace c31:=Bool.eq_false_iff.mpr c31;subst c31;rw[if_neg (show ¬ (false=true) by decide)] at H
      have H':=aM H;clear H;go_wp2
      go_loopg [10] kj10 (fun kq v10 w'=>∃ (x10_2:Int),v10=.int .i64 x10_2∧Aside0 (Azv.l0 kq a1 t527 x10_2 a0_0 l0_1 t530 t531=some r)∧Aside0 (kq≤kj10)∧Aside0 (Kd.R (Kd.int .i64) 3 w' w.heap.size (fun _=>True) (.slice Ao20 t531.length co20) t531)∧Aside0 (w'.heap[gb525]?=some (.cells #[.int .i64 a0_0,(.slice A0_1 l0_1.length c0_1)] 24 (0,0)))∧Aside0 (w'.heap[gb538]?=some (.cells #[.int .i64 t530,(.slice Ao20 t531.length co20)] 24 (0,0)))∧Aside0 (Below w.heap.size w w'))
      case atStart=>exact⟨(0),sD,H',⟨Nat.le_refl _⟩,⟨rX HO_539001.out⟩,⟨by(with_reducible repeat(first|refine blk_drewN ?_ _|refine blk_drew ?_|refine blk_alloc ?_ _));exact BK525.out⟩,⟨by(with_reducible repeat(first|refine blk_drewN ?_ _|refine blk_drew ?_|refine blk_alloc ?_ _));exact BK538.out⟩,⟨pB⟩⟩
      case round =>
       clear H';try clear c1
       try clear c2
       try clear p2
       try clear c3
       try clear c3b0
       try clear c3b1
       try clear c8
       try clear c9
       try clear c9b0
       try clear c9b1
       try clear c10
       try clear c11
       try clear c18
       try clear c19
       try clear c21
       try clear c21b0
       try clear c21b1
       try clear c23
       try clear c24
       try clear c28
       try clear c31
       try clear hcz13_0
       try clear hcz13_1
       try clear hcz15_0
       try clear hcz15_1
       try clear hcz19_0
       try clear hcz19_1
       try clear hcz25_0
       try clear hcz25_1
       try clear hcz27_0
       try clear hcz27_1
       try clear hcz29_0
       try clear hcz29_1
       try clear hcz6_0
       try clear hcz6_1
       try clear hfz13_0
       try clear hfz13_1
       try clear hfz15_0
       try clear hfz15_1
       try clear hfz19_0
       try clear hfz19_1
       try clear hfz25_0
       try clear hfz25_1
       try clear hfz27_0
       try clear hfz27_1
       try clear hfz29_0
       try clear hfz29_1
       try clear hfz6_0
       try clear hfz6_1
       try clear p2
       obtain⟨x10_2,rfl,HA,HK2,HO_539001,BK525,BK538,HB⟩:=hrel;cases gk with
       | zero=>exact absurd HA.out (by simp [Azv.l0])
       | succ k2 =>
        have H:=HA.out;clear HA;simp only[Azv.l0] at H;by_cases c32:x10_2 < (t531.length:Int)
        ·rw[if_pos c32] at H;have c32b0:decide (x10_2 < (t531.length:Int))=true:=dE c32;clear c32;by_cases c33:0≤x10_2
         ·rw[if_pos c33] at H;have c33b0:decide (0≤x10_2)=true:=dE c33;clear c33;by_cases c34:(rd t531 x10_2)=0
          ·rw[if_pos c34] at H;have c34b0:((rd t531 x10_2) == 0)=true:=beq_iff_eq.mpr c34;have c34b1:((rd t531 x10_2) != 0)=false:=bne_eq_false_iff_eq.mpr c34;clear c34;have H':=aM H;clear H;have hnb35:=NB538_525.out;have hnc35:=NB525_538.out;obtain⟨hcz36_0,hcz36_1,hfz36_0,hfz36_1⟩:=bk2 BK538;have p540:0≤(x10_2:Int):=oE aS
           have q540:x10_2 < (t531.length:Int):=oE aS
           obtain⟨ad540,e540,hx540_0⟩:=Kd.at_int (Kd.R_reads' HO_539001.out).2.2 x10_2 p540 q540;cases e540
           replace p540:=eq_true p540;replace q540:=eq_true q540;go_wp2
           go_roundg k2
           case measure=>have:=HJ10.out;have:=HK2.out;omega
           case rel=>exact⟨(wrap64 (x10_2+1)),sD,H',⟨by have:=HJ10.out;have:=HK2.out;omega⟩,⟨rX HO_539001.out⟩,⟨by(with_reducible repeat(first|refine blk_drewN ?_ _|refine blk_drew ?_|refine blk_alloc ?_ _));exact BK525.out⟩,⟨by(with_reducible repeat(first|refine blk_drewN ?_ _|refine blk_drew ?_|refine blk_alloc ?_ _));exact BK538.out⟩,⟨pB⟩⟩
          ·rw[if_neg c34] at H;exact absurd H (by simp)
         ·rw[if_neg c33] at H;exact absurd H (by simp)
        ·rw[if_neg c32] at H;have c32b0:decide (x10_2 < (t531.length:Int))=false:=decide_eq_false c32;clear c32;replace H:=bS H;obtain⟨⟨t541,t542,t545,t548⟩,A370,H⟩:=H;(try dsimp only at H);have A37:=aM A370;clear A370;by_cases c38:t548=0
         ·rw[if_pos c38] at H;have c38b0:(t548 == 0)=true:=beq_iff_eq.mpr c38;have c38b1:(t548 != 0)=false:=bne_eq_false_iff_eq.mpr c38;clear c38;by_cases c39:(t545.length:Int)=(l0_1.length:Int)
          ·rw[if_pos c39] at H;have c39b0:((t545.length:Int) == (l0_1.length:Int))=true:=beq_iff_eq.mpr c39;have c39b1:((t545.length:Int) != (l0_1.length:Int))=false:=bne_eq_false_iff_eq.mpr c39;have c39b2:(t545.length == l0_1.length)=true:=by first|simpa using c39|(simp at c39 ⊢;omega)
           clear c39;have H':=aM H;clear H;have hnb40:=NB538_525.out;have hnc40:=NB525_538.out;obtain⟨hcz41_0,hcz41_1,hfz41_0,hfz41_1⟩:=bk2 BK538;obtain⟨hcz42_0,hcz42_1,hfz42_0,hfz42_1⟩:=bk2 BK525;go_wp2_with (first|((with_reducible refine gate_callee (f:=19) rfl ?_);refine goesL_ (some 76) rfl rfl Try.func19 (by kernel_rfl) rfl #[.agg #[.int .i64 a0_0,.slice A0_1 l0_1.length c0_1],.int .i64 a1] rfl mA ?_;(with_reducible refine(Bzp.calls k2 a0_0 _ _ l0_1 a1 t541 t542 t545 t548 _ ?side1 ?side2 A37.out).mono ?_);(case side1=>exact cX (Kd.C_below HR0_1.out HB.out));(case side2=>exact HC0_1.out);rintro e w43 ⟨v543,v546,rfl,ho0,ho1,hb⟩;refine⟨_,rfl,?_⟩;have HO544:=aM (Kd.R_lower (Kd.R_new' ho0 (Kd.R_lt (rX HO_539001.out))) (below_size pB));have HO547:=aM (Kd.R_lower (Kd.R_new' ho1 (Kd.R_lt (rX HO_539001.out))) (below_size pB));replace HO_539001:=aM (Kd.R_mono (Kd.R_told (Kd.R_told (Kd.R_old (rX HO_539001.out) hb) (Kd.R_base ho0)) (Kd.R_base ho1)) (fun _ h_=>h_.1));replace BK525:=aM (kB BK525 hb);replace BK538:=aM (kB BK538 hb);replace HB:=aM (below_step pB hb);(try clear hb);(try clear hb2);(try clear hk);(try clear hi);(try clear ho0);(try clear ho1);obtain⟨Ao44,co44,eo44⟩:=Kd.R_slice HO547.out;subst eo44;obtain⟨hcz45_0,hcz45_1,hfz45_0,hfz45_1⟩:=bk2 BK525))
           go_loopg [11] k2 (fun kq v11 w'=>∃ (x11_3:Int),v11=.int .i64 x11_3∧Aside0 (Azv.l1 kq a1 t527 t545 x11_3 a0_0 l0_1=some r)∧Aside0 (kq≤k2)∧Aside0 (Kd.R (Kd.int .i64) 3 w' w.heap.size (fun k_=>some k_≠((.slice Ao20 t531.length co20):Value).ownBlock) (.slice Ao44 t545.length co44) t545)∧Aside0 (Kd.R (Kd.int .i64) 3 w' w.heap.size (fun k_=>some k_≠((.slice Ao44 t545.length co44):Value).ownBlock) (.slice Ao20 t531.length co20) t531)∧Aside0 (w'.heap[gb525]?=some (.cells #[.int .i64 a0_0,(.slice A0_1 l0_1.length c0_1)] 24 (0,0)))∧Aside0 (w'.heap[gb538]?=some (.cells #[.int .i64 t530,(.slice Ao20 t531.length co20)] 24 (0,0)))∧Aside0 (Below w.heap.size w w'))
           case atStart=>exact⟨(0),sD,H',⟨Nat.le_refl _⟩,⟨by(with_reducible repeat(first|apply Kd.R_alloc|apply Kd.R_drewN|apply Kd.R_drew));exact Kd.R_mono HO547.out (fun _ hk=>hk.2)⟩,⟨by(with_reducible repeat(first|apply Kd.R_alloc|apply Kd.R_drewN|apply Kd.R_drew));exact Kd.R_mono HO_539001.out (fun _ hk=>hk.2)⟩,⟨by(with_reducible repeat(first|refine blk_drewN ?_ _|refine blk_drew ?_|refine blk_alloc ?_ _));exact BK525.out⟩,⟨by(with_reducible repeat(first|refine blk_drewN ?_ _|refine blk_drew ?_|refine blk_alloc ?_ _));exact BK538.out⟩,⟨pB⟩⟩
           case round =>
            clear H';try clear c1
            try clear c2
            try clear p2
            try clear c3
            try clear c3b0
            try clear c3b1
            try clear c4
            try clear p5
            try clear q5
            try clear hx5
            try clear p6
            try clear c8
            try clear c9
            try clear c9b0
            try clear c9b1
            try clear c10
            try clear c11
            try clear c18
            try clear c19
            try clear c21
            try clear c21b0
            try clear c21b1
            try clear c23
            try clear c24
            try clear c28
            try clear c31
            try clear c32
            try clear c32b0
            try clear c33
            try clear c33b0
            try clear c34
            try clear c34b0
            try clear c34b1
            try clear c35
            try clear c38
            try clear c38b0
            try clear c38b1
            try clear c39
            try clear c39b0
            try clear c39b1
            try clear c39b2
            try clear c40
            try clear hcz13_0
            try clear hcz13_1
            try clear hcz15_0
            try clear hcz15_1
            try clear hcz19_0
            try clear hcz19_1
            try clear hcz25_0
            try clear hcz25_1
            try clear hcz27_0
            try clear hcz27_1
            try clear hcz29_0
            try clear hcz29_1
            try clear hcz36_0
            try clear hcz36_1
            try clear hcz41_0
            try clear hcz41_1
            try clear hcz42_0
            try clear hcz42_1
            try clear hcz45_0
            try clear hcz45_1
            try clear hcz6_0
            try clear hcz6_1
            try clear hfz13_0
            try clear hfz13_1
            try clear hfz15_0
            try clear hfz15_1
            try clear hfz19_0
            try clear hfz19_1
            try clear hfz25_0
            try clear hfz25_1
            try clear hfz27_0
            try clear hfz27_1
            try clear hfz29_0
            try clear hfz29_1
            try clear hfz36_0
            try clear hfz36_1
            try clear hfz41_0
            try clear hfz41_1
            try clear hfz42_0
            try clear hfz42_1
            try clear hfz45_0
            try clear hfz45_1
            try clear hfz6_0
            try clear hfz6_1
            try clear hx540_0
            try clear p2
            try clear p540
            try clear q540
            obtain⟨x11_3,rfl,HA,HK3,HO_8,HO_539001,BK525,BK538,HB⟩:=hrel;cases gk with
            | zero=>exact absurd HA.out (by simp [Azv.l1])
            | succ k3 =>
             have H:=HA.out;clear HA;simp only[Azv.l1] at H;have HC46:=aM H;clear H;go_upto_region 20 with (fail)
             go_cut [110] (fun v110 wc=>∃ (kq:Nat) (x110_45:Bool),v110=.bool x110_45∧Aside0 (Azv.j3 kq a1 t527 t545 x11_3 x110_45 a0_0 l0_1=some r)∧Aside0 (kq≤k3)∧Aside0 (Kd.R (Kd.int .i64) 3 wc w.heap.size (fun k_=>some k_≠((.slice Ao20 t531.length co20):Value).ownBlock) (.slice Ao44 t545.length co44) t545)∧Aside0 (Kd.R (Kd.int .i64) 3 wc w.heap.size (fun k_=>some k_≠((.slice Ao44 t545.length co44):Value).ownBlock) (.slice Ao20 t531.length co20) t531)∧Aside0 (wc.heap[gb525]?=some (.cells #[.int .i64 a0_0,(.slice A0_1 l0_1.length c0_1)] 24 (0,0)))∧Aside0 (wc.heap[gb538]?=some (.cells #[.int .i64 t530,(.slice Ao20 t531.length co20)] 24 (0,0)))∧Aside0 (Below w.heap.size w wc))
             case first =>
              have H:=HC46.out;clear HC46;by_cases c47:x11_3 < (t545.length:Int)
              ·rw[if_pos c47] at H;have c47b0:decide (x11_3 < (t545.length:Int))=true:=dE c47;clear c47;(first|rw[c47b0]|(simp only[i64_w,i32_w];rw[c47b0])|skip)
               have H':=aM H;clear H;go_wp2
               go_meet
               case rel=>exact⟨_,(decide (t527 > 0)),sD,H',⟨by have:=HJ10.out;have:=HK2.out;have:=HK3.out;first|omega|exact Nat.le_refl _⟩,⟨rX HO_8.out⟩,⟨rX HO_539001.out⟩,⟨by(with_reducible repeat(first|refine blk_drewN ?_ _|refine blk_drew ?_|refine blk_alloc ?_ _));exact BK525.out⟩,⟨by(with_reducible repeat(first|refine blk_drewN ?_ _|refine blk_drew ?_|refine blk_alloc ?_ _));exact BK538.out⟩,⟨pB⟩⟩
              ·rw[if_neg c47] at H;have c47b0:decide (x11_3 < (t545.length:Int))=false:=decide_eq_false c47;clear c47;(first|rw[c47b0]|(simp only[i64_w,i32_w];rw[c47b0])|skip)
               have H':=aM H;clear H;go_wp2
               go_meet
               case rel=>exact⟨_,(false),sD,H',⟨by have:=HJ10.out;have:=HK2.out;have:=HK3.out;first|omega|exact Nat.le_refl _⟩,⟨rX HO_8.out⟩,⟨rX HO_539001.out⟩,⟨by(with_reducible repeat(first|refine blk_drewN ?_ _|refine blk_drew ?_|refine blk_alloc ?_ _));exact BK525.out⟩,⟨by(with_reducible repeat(first|refine blk_drewN ?_ _|refine blk_drew ?_|refine blk_alloc ?_ _));exact BK538.out⟩,⟨pB⟩⟩
             case rest =>
              clear HC46;try clear c1
              try clear c2
              try clear p2
              try clear c3
              try clear c3b0
              try clear c3b1
              try clear c4
              try clear p5
              try clear q5
              try clear hx5
              try clear p6
              try clear c8
              try clear c9
              try clear c9b0
              try clear c9b1
              try clear c10
              try clear c11
              try clear c18
              try clear c19
              try clear c21
              try clear c21b0
              try clear c21b1
              try clear c23
              try clear c24
              try clear c28
              try clear c31
              try clear c32
              try clear c32b0
              try clear c33
              try clear c33b0
              try clear c34
              try clear c34b0
              try clear c34b1
              try clear c35
              try clear c38
              try clear c38b0
              try clear c38b1
              try clear c39
              try clear c39b0
              try clear c39b1
              try clear c39b2
              try clear c40
              try clear c47
              try clear c47b0
              try clear hcz13_0
              try clear hcz13_1
              try clear hcz15_0
              try clear hcz15_1
              try clear hcz19_0
              try clear hcz19_1
              try clear hcz25_0
              try clear hcz25_1
              try clear hcz27_0
              try clear hcz27_1
              try clear hcz29_0
              try clear hcz29_1
              try clear hcz36_0
              try clear hcz36_1
              try clear hcz41_0
              try clear hcz41_1
              try clear hcz42_0
              try clear hcz42_1
              try clear hcz45_0
              try clear hcz45_1
              try clear hcz6_0
              try clear hcz6_1
              try clear hfz13_0
              try clear hfz13_1
              try clear hfz15_0
              try clear hfz15_1
              try clear hfz19_0
              try clear hfz19_1
              try clear hfz25_0
              try clear hfz25_1
              try clear hfz27_0
              try clear hfz27_1
              try clear hfz29_0
              try clear hfz29_1
              try clear hfz36_0
              try clear hfz36_1
              try clear hfz41_0
              try clear hfz41_1
              try clear hfz42_0
              try clear hfz42_1
              try clear hfz45_0
              try clear hfz45_1
              try clear hfz6_0
              try clear hfz6_1
              try clear hx540_0
              try clear p2
              try clear p5
              try clear p540
              try clear p6
              try clear q5
              try clear q540
              obtain⟨kq,x110_45,rfl,HA,HJ45,HO_8,HO_539001,BK525,BK538,HB⟩:=hcut;cases kq with
              | zero=>exact absurd HA.out (by simp [Azv.j3])
              | succ kj45 =>
               have H:=HA.out;clear HA;simp only[Azv.j3] at H;by_cases c48:x110_45=true
               ·subst c48;rw[if_pos rfl] at H;by_cases c49:0≤x11_3
                ·rw[if_pos c49] at H;have c49b0:decide (0≤x11_3)=true:=dE c49;clear c49;by_cases c50:x11_3 < (l0_1.length:Int)
                 ·rw[if_pos c50] at H;have c50b0:decide (x11_3 < (l0_1.length:Int))=true:=dE c50;clear c50;replace H:=bS H;obtain⟨⟨t553,t554,t557,t560⟩,A510,H⟩:=H;(try dsimp only at H);have A51:=aM A510;clear A510;replace H:=bS H;obtain⟨⟨t562,t563,t566,t569⟩,A520,H⟩:=H;(try dsimp only at H);have A52:=aM A520;clear A520;replace H:=bS H;obtain⟨⟨t571,t572,t575,t578⟩,A530,H⟩:=H;(try dsimp only at H);have A53:=aM A530;clear A530;replace H:=bS H;obtain⟨⟨t580,t581⟩,A540,H⟩:=H;(try dsimp only at H);have A54:=aM A540;clear A540;replace H:=bS H;obtain⟨⟨t582,t583⟩,A550,H⟩:=H;(try dsimp only at H);have A55:=aM A550;clear A550;by_cases c56:t560=0
                  ·rw[if_pos c56] at H;have c56b0:(t560 == 0)=true:=beq_iff_eq.mpr c56;have c56b1:(t560 != 0)=false:=bne_eq_false_iff_eq.mpr c56;clear c56;by_cases c57:t569=0
                   ·rw[if_pos c57] at H;have c57b0:(t569 == 0)=true:=beq_iff_eq.mpr c57;have c57b1:(t569 != 0)=false:=bne_eq_false_iff_eq.mpr c57;clear c57;by_cases c58:t578=0
                    ·rw[if_pos c58] at H;have c58b0:(t578 == 0)=true:=beq_iff_eq.mpr c58;have c58b1:(t578 != 0)=false:=bne_eq_false_iff_eq.mpr c58;clear c58;by_cases c59:t581=0
                     ·rw[if_pos c59] at H;have c59b0:(t581 == 0)=true:=beq_iff_eq.mpr c59;have c59b1:(t581 != 0)=false:=bne_eq_false_iff_eq.mpr c59;clear c59;by_cases c60:t583=0
                      ·rw[if_pos c60] at H;have c60b0:(t583 == 0)=true:=beq_iff_eq.mpr c60;have c60b1:(t583 != 0)=false:=bne_eq_false_iff_eq.mpr c60;clear c60;by_cases c61:x11_3 < (t545.length:Int)
                       ·rw[if_pos c61] at H;have c61b0:decide (x11_3 < (t545.length:Int))=true:=dE c61;clear c61;by_cases c62:(rd t545 x11_3) < t580
                        ·rw[if_pos c62] at H;exact absurd H (by simp)
                        ·rw[if_neg c62] at H;have c62b0:decide ((rd t545 x11_3) < t580)=false:=decide_eq_false c62;clear c62;by_cases c63:(rd t545 x11_3) > t582
                         ·rw[if_pos c63] at H;exact absurd H (by simp)
                         ·rw[if_neg c63] at H;have c63b0:decide (t582 < (rd t545 x11_3))=false:=decide_eq_false c63;clear c63;have H':=aM H;clear H;have hnb64:=NB525_538.out;have hnc64:=NB538_525.out;obtain⟨hcz65_0,hcz65_1,hfz65_0,hfz65_1⟩:=bk2 BK525;have p552:0≤(x11_3:Int):=oE aS
                          have q552:x11_3 < (l0_1.length:Int):=oE aS
                          obtain⟨ad552,e552,hx552_0⟩:=Kd.at_int HR0_1.out x11_3 p552 q552;cases e552
                          replace hx552_0:=(HB.out.cell (World.block_lt_of_cell? w _ hx552_0)).trans hx552_0;replace p552:=eq_true p552;replace q552:=eq_true q552;go_wp2_with (first|((with_reducible refine gate_callee (f:=27) rfl ?_);refine goesL_ (some 120) rfl rfl Try.func27 (by kernel_rfl) rfl #[.int .i64 (rd l0_1 x11_3),.int .i64 t527] rfl mA ?_;(with_reducible refine(Dzj.calls kj45 (rd l0_1 x11_3) t527 t553 t554 t557 t560 _ A51.out).mono ?_);rintro e w66 ⟨v555,v558,rfl,ho0,ho1,hb⟩;refine⟨_,rfl,?_⟩;have HO556:=aM (Kd.R_lower (Kd.R_new' (Kd.R_new' ho0 (Kd.R_lt (rX HO_8.out))) (Kd.R_lt (rX HO_539001.out))) (below_size pB));have HO559:=aM (Kd.R_lower (Kd.R_new' (Kd.R_new' ho1 (Kd.R_lt (rX HO_8.out))) (Kd.R_lt (rX HO_539001.out))) (below_size pB));replace HO_8:=aM (Kd.R_mono (Kd.R_told (Kd.R_told (Kd.R_old (rX HO_8.out) hb) (Kd.R_base ho0)) (Kd.R_base ho1)) (fun _ h_=>h_.1));replace HO_539001:=aM (Kd.R_mono (Kd.R_told (Kd.R_told (Kd.R_old (rX HO_539001.out) hb) (Kd.R_base ho0)) (Kd.R_base ho1)) (fun _ h_=>h_.1));replace BK525:=aM (kB BK525 hb);replace BK538:=aM (kB BK538 hb);replace HB:=aM (below_step pB hb);(try clear hb);(try clear hb2);(try clear hk);(try clear hi);(try clear ho0);(try clear ho1))|((with_reducible refine gate_dst (N:=12) rfl ?_);(try(refine gate_guard (by rfl) ?_;dsimp only));refine box_event ?hg (N:=12) ?hd (cs:=#[.bool false,.slice none 0 0,.slice none 0 0]) (t:=46) ?hr ?_;(case hd=>rfl);(case hg=>rfl);(case hr=>first|(go_simp;done)|(go_simp;rfl));intro gb561 hg w67 hbox hb;have BK561:=aM (hbox);have GW561:=aM (gW hg:w.heap.size≤gb561);have GE561:=aM (gW hg:w.heap.size≤gb561);have NB525_561:=aM (nL hg BK525:gb525≠gb561);have NB561_525:=aM (nG hg BK525:gb561≠gb525);have NB538_561:=aM (nL hg BK538:gb538≠gb561);have NB561_538:=aM (nG hg BK538:gb561≠gb538);replace HO_8:=aM (Kd.R_below (rX HO_8.out) hb);replace HO_539001:=aM (Kd.R_below (rX HO_539001.out) hb);replace HO556:=aM (Kd.R_below (rX HO556.out) hb);replace HO559:=aM (Kd.R_below (rX HO559.out) hb);replace BK525:=aM (kB BK525 hb);replace BK538:=aM (kB BK538 hb);replace HB:=aM (below_step pB hb);clear hb hbox hg;have hnb68:=NB561_525.out;have hnc68:=NB525_561.out;have hnb69:=NB561_538.out;have hnc69:=NB538_561.out;obtain⟨hcz70_0,hcz70_1,hcz70_2,hfz70_0,hfz70_1,hfz70_2⟩:=bk3 BK561;obtain⟨Ao71,co71,eo71⟩:=Kd.R_slice HO556.out;subst eo71;obtain⟨Ao72,co72,eo72⟩:=Kd.R_slice HO559.out;subst eo72)|((with_reducible refine gate_callee (f:=28) rfl ?_);refine goesL_ (some 125) rfl rfl Try.func28 (by kernel_rfl) rfl #[.int .i64 a1] rfl mA ?_;(with_reducible refine(Fzj.calls kj45 a1 t562 t563 t566 t569 _ A52.out).mono ?_);rintro e w73 ⟨v564,v567,rfl,ho0,ho1,hb⟩;refine⟨_,rfl,?_⟩;have HO565:=aM (Kd.R_lower (Kd.R_new' (Kd.R_new' (Kd.R_new' (Kd.R_new' ho0 (Kd.R_lt (rX (Kd.R_mono (Kd.R_far (p:=⟨gb561,2,none⟩) (Kd.R_far (p:=⟨gb561,1,none⟩) (Kd.R_far (p:=⟨gb561,0,none⟩) (Kd.R_types HO_8.out BK561.out (by decide)) (fun _ hk=>hk.2) (.bool t553)) (fun _ hk=>hk.2) (.slice Ao71 t554.length co71)) (fun _ hk=>hk.2) (.slice Ao72 t557.length co72)) (fun _ h_=>h_.1))))) (Kd.R_lt (rX (Kd.R_mono (Kd.R_far (p:=⟨gb561,2,none⟩) (Kd.R_far (p:=⟨gb561,1,none⟩) (Kd.R_far (p:=⟨gb561,0,none⟩) (Kd.R_types HO_539001.out BK561.out (by decide)) (fun _ hk=>hk.2) (.bool t553)) (fun _ hk=>hk.2) (.slice Ao71 t554.length co71)) (fun _ hk=>hk.2) (.slice Ao72 t557.length co72)) (fun _ h_=>h_.1))))) (Kd.R_lt (rX (Kd.R_mono (Kd.R_far (p:=⟨gb561,2,none⟩) (Kd.R_far (p:=⟨gb561,1,none⟩) (Kd.R_far (p:=⟨gb561,0,none⟩) (Kd.R_types HO556.out BK561.out (by decide)) (fun _ hk=>hk.2) (.bool t553)) (fun _ hk=>hk.2) (.slice Ao71 t554.length co71)) (fun _ hk=>hk.2) (.slice Ao72 t557.length co72)) (fun _ h_=>h_.1))))) (Kd.R_lt (rX (Kd.R_mono (Kd.R_far (p:=⟨gb561,2,none⟩) (Kd.R_far (p:=⟨gb561,1,none⟩) (Kd.R_far (p:=⟨gb561,0,none⟩) (Kd.R_types HO559.out BK561.out (by decide)) (fun _ hk=>hk.2) (.bool t553)) (fun _ hk=>hk.2) (.slice Ao71 t554.length co71)) (fun _ hk=>hk.2) (.slice Ao72 t557.length co72)) (fun _ h_=>h_.1))))) (below_size pB));have HO568:=aM (Kd.R_lower (Kd.R_new' (Kd.R_new' (Kd.R_new' (Kd.R_new' ho1 (Kd.R_lt (rX (Kd.R_mono (Kd.R_far (p:=⟨gb561,2,none⟩) (Kd.R_far (p:=⟨gb561,1,none⟩) (Kd.R_far (p:=⟨gb561,0,none⟩) (Kd.R_types HO_8.out BK561.out (by decide)) (fun _ hk=>hk.2) (.bool t553)) (fun _ hk=>hk.2) (.slice Ao71 t554.length co71)) (fun _ hk=>hk.2) (.slice Ao72 t557.length co72)) (fun _ h_=>h_.1))))) (Kd.R_lt (rX (Kd.R_mono (Kd.R_far (p:=⟨gb561,2,none⟩) (Kd.R_far (p:=⟨gb561,1,none⟩) (Kd.R_far (p:=⟨gb561,0,none⟩) (Kd.R_types HO_539001.out BK561.out (by decide)) (fun _ hk=>hk.2) (.bool t553)) (fun _ hk=>hk.2) (.slice Ao71 t554.length co71)) (fun _ hk=>hk.2) (.slice Ao72 t557.length co72)) (fun _ h_=>h_.1))))) (Kd.R_lt (rX (Kd.R_mono (Kd.R_far (p:=⟨gb561,2,none⟩) (Kd.R_far (p:=⟨gb561,1,none⟩) (Kd.R_far (p:=⟨gb561,0,none⟩) (Kd.R_types HO556.out BK561.out (by decide)) (fun _ hk=>hk.2) (.bool t553)) (fun _ hk=>hk.2) (.slice Ao71 t554.length co71)) (fun _ hk=>hk.2) (.slice Ao72 t557.length co72)) (fun _ h_=>h_.1))))) (Kd.R_lt (rX (Kd.R_mono (Kd.R_far (p:=⟨gb561,2,none⟩) (Kd.R_far (p:=⟨gb561,1,none⟩) (Kd.R_far (p:=⟨gb561,0,none⟩) (Kd.R_types HO559.out BK561.out (by decide)) (fun _ hk=>hk.2) (.bool t553)) (fun _ hk=>hk.2) (.slice Ao71 t554.length co71)) (fun _ hk=>hk.2) (.slice Ao72 t557.length co72)) (fun _ h_=>h_.1))))) (below_size pB));replace HO_8:=aM (Kd.R_mono (Kd.R_told (Kd.R_told (Kd.R_old (rX (Kd.R_mono (Kd.R_far (p:=⟨gb561,2,none⟩) (Kd.R_far (p:=⟨gb561,1,none⟩) (Kd.R_far (p:=⟨gb561,0,none⟩) (Kd.R_types HO_8.out BK561.out (by decide)) (fun _ hk=>hk.2) (.bool t553)) (fun _ hk=>hk.2) (.slice Ao71 t554.length co71)) (fun _ hk=>hk.2) (.slice Ao72 t557.length co72)) (fun _ h_=>h_.1))) hb) (Kd.R_base ho0)) (Kd.R_base ho1)) (fun _ h_=>h_.1));replace HO_539001:=aM (Kd.R_mono (Kd.R_told (Kd.R_told (Kd.R_old (rX (Kd.R_mono (Kd.R_far (p:=⟨gb561,2,none⟩) (Kd.R_far (p:=⟨gb561,1,none⟩) (Kd.R_far (p:=⟨gb561,0,none⟩) (Kd.R_types HO_539001.out BK561.out (by decide)) (fun _ hk=>hk.2) (.bool t553)) (fun _ hk=>hk.2) (.slice Ao71 t554.length co71)) (fun _ hk=>hk.2) (.slice Ao72 t557.length co72)) (fun _ h_=>h_.1))) hb) (Kd.R_base ho0)) (Kd.R_base ho1)) (fun _ h_=>h_.1));replace HO556:=aM (Kd.R_mono (Kd.R_told (Kd.R_told (Kd.R_old (rX (Kd.R_mono (Kd.R_far (p:=⟨gb561,2,none⟩) (Kd.R_far (p:=⟨gb561,1,none⟩) (Kd.R_far (p:=⟨gb561,0,none⟩) (Kd.R_types HO556.out BK561.out (by decide)) (fun _ hk=>hk.2) (.bool t553)) (fun _ hk=>hk.2) (.slice Ao71 t554.length co71)) (fun _ hk=>hk.2) (.slice Ao72 t557.length co72)) (fun _ h_=>h_.1))) hb) (Kd.R_base ho0)) (Kd.R_base ho1)) (fun _ h_=>h_.1));replace HO559:=aM (Kd.R_mono (Kd.R_told (Kd.R_told (Kd.R_old (rX (Kd.R_mono (Kd.R_far (p:=⟨gb561,2,none⟩) (Kd.R_far (p:=⟨gb561,1,none⟩) (Kd.R_far (p:=⟨gb561,0,none⟩) (Kd.R_types HO559.out BK561.out (by decide)) (fun _ hk=>hk.2) (.bool t553)) (fun _ hk=>hk.2) (.slice Ao71 t554.length co71)) (fun _ hk=>hk.2) (.slice Ao72 t557.length co72)) (fun _ h_=>h_.1))) hb) (Kd.R_base ho0)) (Kd.R_base ho1)) (fun _ h_=>h_.1));replace BK525:=aM (blk_below (g:=gb525) (o:=.cells #[.int .i64 a0_0,.slice (some ad552) l0_1.length c0_1] 24 (0,0)) (by refine bD ?_;refine blk_far ?_ NB525_561.out _;refine bD ?_;refine blk_far ?_ NB525_561.out _;refine bD ?_;refine blk_far ?_ NB525_561.out _;(with_reducible repeat(first|refine blk_drewN ?_ _|refine blk_drew ?_|refine blk_alloc ?_ _));exact BK525.out) hb);replace BK538:=aM (blk_below (g:=gb538) (o:=.cells #[.int .i64 t530,.slice Ao20 t531.length co20] 24 (0,0)) (by refine bD ?_;refine blk_far ?_ NB538_561.out _;refine bD ?_;refine blk_far ?_ NB538_561.out _;refine bD ?_;refine blk_far ?_ NB538_561.out _;(with_reducible repeat(first|refine blk_drewN ?_ _|refine blk_drew ?_|refine blk_alloc ?_ _));exact BK538.out) hb);replace BK561:=aM (blk_below (g:=gb561) (o:=.cells #[.bool t553,.slice Ao71 t554.length co71,.slice Ao72 t557.length co72] 46 (0,0)) (by refine bD ?_;refine blk_put (cs:=#[.bool t553,.slice Ao71 t554.length co71,.slice none 0 0]) ?_ 2 _ rfl;refine bD ?_;refine blk_put (cs:=#[.bool t553,.slice none 0 0,.slice none 0 0]) ?_ 1 _ rfl;refine bD ?_;refine blk_put (cs:=#[.bool false,.slice none 0 0,.slice none 0 0]) ?_ 0 _ rfl;(with_reducible repeat(first|refine blk_drewN ?_ _|refine blk_drew ?_|refine blk_alloc ?_ _));exact BK561.out) hb);replace HB:=aM (below_step pB hb);(try clear hb);(try clear hb2);(try clear hk);(try clear hi);(try clear ho0);(try clear ho1))|((with_reducible refine gate_dst (N:=14) rfl ?_);(try(refine gate_guard (by rfl) ?_;dsimp only));refine box_event ?hg (N:=14) ?hd (cs:=#[.bool false,.slice none 0 0,.slice none 0 0]) (t:=46) ?hr ?_;(case hd=>rfl);(case hg=>rfl);(case hr=>first|(go_simp;done)|(go_simp;rfl));intro gb570 hg w74 hbox hb;have BK570:=aM (hbox);have GW570:=aM (gW hg:w.heap.size≤gb570);have GE570:=aM (gW hg:w.heap.size≤gb570);have NB525_570:=aM (nL hg BK525:gb525≠gb570);have NB570_525:=aM (nG hg BK525:gb570≠gb525);have NB538_570:=aM (nL hg BK538:gb538≠gb570);have NB570_538:=aM (nG hg BK538:gb570≠gb538);have NB561_570:=aM (nL hg BK561:gb561≠gb570);have NB570_561:=aM (nG hg BK561:gb570≠gb561);replace HO_8:=aM (Kd.R_below (rX HO_8.out) hb);replace HO_539001:=aM (Kd.R_below (rX HO_539001.out) hb);replace HO556:=aM (Kd.R_below (rX HO556.out) hb);replace HO559:=aM (Kd.R_below (rX HO559.out) hb);replace HO565:=aM (Kd.R_below (rX HO565.out) hb);replace HO568:=aM (Kd.R_below (rX HO568.out) hb);replace BK525:=aM (kB BK525 hb);replace BK538:=aM (kB BK538 hb);replace BK561:=aM (kB BK561 hb);replace HB:=aM (below_step pB hb);clear hb hbox hg;have hnb75:=NB570_525.out;have hnc75:=NB525_570.out;have hnb76:=NB570_538.out;have hnc76:=NB538_570.out;have hnb77:=NB570_561.out;have hnc77:=NB561_570.out;obtain⟨hcz78_0,hcz78_1,hcz78_2,hfz78_0,hfz78_1,hfz78_2⟩:=bk3 BK570;obtain⟨Ao79,co79,eo79⟩:=Kd.R_slice HO565.out;subst eo79;obtain⟨Ao80,co80,eo80⟩:=Kd.R_slice HO568.out;subst eo80;obtain⟨hcz81_0,hcz81_1,hcz81_2,hfz81_0,hfz81_1,hfz81_2⟩:=bk3 BK561)|((with_reducible refine gate_callee (f:=29) rfl ?_);refine goesL_ (some 131) rfl rfl Try.func29 (by kernel_rfl) rfl #[.agg #[.bool t553,.slice Ao71 t554.length co71,.slice Ao72 t557.length co72],.agg #[.bool t562,.slice Ao79 t563.length co79,.slice Ao80 t566.length co80]] rfl mA ?_;(with_reducible refine(Dzp.calls kj45 t553 _ _ t554 _ _ t557 t562 _ _ t563 _ _ t566 t571 t572 t575 t578 _ ?side1 ?side2 ?side3 ?side4 ?side5 ?side6 ?side7 ?side8 A53.out).mono ?_);(case side1=>refine(Kd.R_reads' (e:=3) (base:=w.heap.size) (ok:=fun k_=>((((some k_≠(.slice Ao72 t557.length co72:Value).ownBlock∧some k_≠(.slice Ao44 t545.length co44:Value).ownBlock)∧some k_≠(.slice Ao20 t531.length co20:Value).ownBlock)∧some k_≠(.slice Ao79 t563.length co79:Value).ownBlock)∧some k_≠(.slice Ao80 t566.length co80:Value).ownBlock)) (n:=t554.length) (c:=co71) ?_).2.2;exact(rX (Kd.R_mono (Kd.R_far (p:=⟨gb570,2,none⟩) (Kd.R_far (p:=⟨gb570,1,none⟩) (Kd.R_far (p:=⟨gb570,0,none⟩) (Kd.R_types HO556.out BK570.out (by decide)) (fun _ hk=>hk.2) (.bool t562)) (fun _ hk=>hk.2) (.slice Ao79 t563.length co79)) (fun _ hk=>hk.2) (.slice Ao80 t566.length co80)) (fun _ h_=>h_.1))));(case side2=>exact(Kd.R_reads' HO556.out).2.1);(case side3=>refine(Kd.R_reads' (e:=3) (base:=w.heap.size) (ok:=fun k_=>((((some k_≠(.slice Ao71 t554.length co71:Value).ownBlock∧some k_≠(.slice Ao44 t545.length co44:Value).ownBlock)∧some k_≠(.slice Ao20 t531.length co20:Value).ownBlock)∧some k_≠(.slice Ao79 t563.length co79:Value).ownBlock)∧some k_≠(.slice Ao80 t566.length co80:Value).ownBlock)) (n:=t557.length) (c:=co72) ?_).2.2;exact(rX (Kd.R_mono (Kd.R_far (p:=⟨gb570,2,none⟩) (Kd.R_far (p:=⟨gb570,1,none⟩) (Kd.R_far (p:=⟨gb570,0,none⟩) (Kd.R_types HO559.out BK570.out (by decide)) (fun _ hk=>hk.2) (.bool t562)) (fun _ hk=>hk.2) (.slice Ao79 t563.length co79)) (fun _ hk=>hk.2) (.slice Ao80 t566.length co80)) (fun _ h_=>h_.1))));(case side4=>exact(Kd.R_reads' HO559.out).2.1);(case side5=>refine(Kd.R_reads' (e:=3) (base:=w.heap.size) (ok:=fun k_=>((((some k_≠(.slice Ao80 t566.length co80:Value).ownBlock∧some k_≠(.slice Ao44 t545.length co44:Value).ownBlock)∧some k_≠(.slice Ao20 t531.length co20:Value).ownBlock)∧some k_≠(.slice Ao71 t554.length co71:Value).ownBlock)∧some k_≠(.slice Ao72 t557.length co72:Value).ownBlock)) (n:=t563.length) (c:=co79) ?_).2.2;exact(rX (Kd.R_mono (Kd.R_far (p:=⟨gb570,2,none⟩) (Kd.R_far (p:=⟨gb570,1,none⟩) (Kd.R_far (p:=⟨gb570,0,none⟩) (Kd.R_types HO565.out BK570.out (by decide)) (fun _ hk=>hk.2) (.bool t562)) (fun _ hk=>hk.2) (.slice Ao79 t563.length co79)) (fun _ hk=>hk.2) (.slice Ao80 t566.length co80)) (fun _ h_=>h_.1))));(case side6=>exact(Kd.R_reads' HO565.out).2.1);(case side7=>refine(Kd.R_reads' (e:=3) (base:=w.heap.size) (ok:=fun k_=>((((some k_≠(.slice Ao79 t563.length co79:Value).ownBlock∧some k_≠(.slice Ao44 t545.length co44:Value).ownBlock)∧some k_≠(.slice Ao20 t531.length co20:Value).ownBlock)∧some k_≠(.slice Ao71 t554.length co71:Value).ownBlock)∧some k_≠(.slice Ao72 t557.length co72:Value).ownBlock)) (n:=t566.length) (c:=co80) ?_).2.2;exact(rX (Kd.R_mono (Kd.R_far (p:=⟨gb570,2,none⟩) (Kd.R_far (p:=⟨gb570,1,none⟩) (Kd.R_far (p:=⟨gb570,0,none⟩) (Kd.R_types HO568.out BK570.out (by decide)) (fun _ hk=>hk.2) (.bool t562)) (fun _ hk=>hk.2) (.slice Ao79 t563.length co79)) (fun _ hk=>hk.2) (.slice Ao80 t566.length co80)) (fun _ h_=>h_.1))));(case side8=>exact(Kd.R_reads' HO568.out).2.1);rintro e w82 ⟨v573,v576,rfl,ho0,ho1,hb⟩;refine⟨_,rfl,?_⟩;have HO574:=aM (Kd.R_lower (Kd.R_new' (Kd.R_new' (Kd.R_new' (Kd.R_new' (Kd.R_new' (Kd.R_new' ho0 (Kd.R_lt (rX (Kd.R_mono (Kd.R_far (p:=⟨gb570,2,none⟩) (Kd.R_far (p:=⟨gb570,1,none⟩) (Kd.R_far (p:=⟨gb570,0,none⟩) (Kd.R_types HO_8.out BK570.out (by decide)) (fun _ hk=>hk.2) (.bool t562)) (fun _ hk=>hk.2) (.slice Ao79 t563.length co79)) (fun _ hk=>hk.2) (.slice Ao80 t566.length co80)) (fun _ h_=>h_.1))))) (Kd.R_lt (rX (Kd.R_mono (Kd.R_far (p:=⟨gb570,2,none⟩) (Kd.R_far (p:=⟨gb570,1,none⟩) (Kd.R_far (p:=⟨gb570,0,none⟩) (Kd.R_types HO_539001.out BK570.out (by decide)) (fun _ hk=>hk.2) (.bool t562)) (fun _ hk=>hk.2) (.slice Ao79 t563.length co79)) (fun _ hk=>hk.2) (.slice Ao80 t566.length co80)) (fun _ h_=>h_.1))))) (Kd.R_lt (rX (Kd.R_mono (Kd.R_far (p:=⟨gb570,2,none⟩) (Kd.R_far (p:=⟨gb570,1,none⟩) (Kd.R_far (p:=⟨gb570,0,none⟩) (Kd.R_types HO556.out BK570.out (by decide)) (fun _ hk=>hk.2) (.bool t562)) (fun _ hk=>hk.2) (.slice Ao79 t563.length co79)) (fun _ hk=>hk.2) (.slice Ao80 t566.length co80)) (fun _ h_=>h_.1))))) (Kd.R_lt (rX (Kd.R_mono (Kd.R_far (p:=⟨gb570,2,none⟩) (Kd.R_far (p:=⟨gb570,1,none⟩) (Kd.R_far (p:=⟨gb570,0,none⟩) (Kd.R_types HO559.out BK570.out (by decide)) (fun _ hk=>hk.2) (.bool t562)) (fun _ hk=>hk.2) (.slice Ao79 t563.length co79)) (fun _ hk=>hk.2) (.slice Ao80 t566.length co80)) (fun _ h_=>h_.1))))) (Kd.R_lt (rX (Kd.R_mono (Kd.R_far (p:=⟨gb570,2,none⟩) (Kd.R_far (p:=⟨gb570,1,none⟩) (Kd.R_far (p:=⟨gb570,0,none⟩) (Kd.R_types HO565.out BK570.out (by decide)) (fun _ hk=>hk.2) (.bool t562)) (fun _ hk=>hk.2) (.slice Ao79 t563.length co79)) (fun _ hk=>hk.2) (.slice Ao80 t566.length co80)) (fun _ h_=>h_.1))))) (Kd.R_lt (rX (Kd.R_mono (Kd.R_far (p:=⟨gb570,2,none⟩) (Kd.R_far (p:=⟨gb570,1,none⟩) (Kd.R_far (p:=⟨gb570,0,none⟩) (Kd.R_types HO568.out BK570.out (by decide)) (fun _ hk=>hk.2) (.bool t562)) (fun _ hk=>hk.2) (.slice Ao79 t563.length co79)) (fun _ hk=>hk.2) (.slice Ao80 t566.length co80)) (fun _ h_=>h_.1))))) (below_size pB));have HO577:=aM (Kd.R_lower (Kd.R_new' (Kd.R_new' (Kd.R_new' (Kd.R_new' (Kd.R_new' (Kd.R_new' ho1 (Kd.R_lt (rX (Kd.R_mono (Kd.R_far (p:=⟨gb570,2,none⟩) (Kd.R_far (p:=⟨gb570,1,none⟩) (Kd.R_far (p:=⟨gb570,0,none⟩) (Kd.R_types HO_8.out BK570.out (by decide)) (fun _ hk=>hk.2) (.bool t562)) (fun _ hk=>hk.2) (.slice Ao79 t563.length co79)) (fun _ hk=>hk.2) (.slice Ao80 t566.length co80)) (fun _ h_=>h_.1))))) (Kd.R_lt (rX (Kd.R_mono (Kd.R_far (p:=⟨gb570,2,none⟩) (Kd.R_far (p:=⟨gb570,1,none⟩) (Kd.R_far (p:=⟨gb570,0,none⟩) (Kd.R_types HO_539001.out BK570.out (by decide)) (fun _ hk=>hk.2) (.bool t562)) (fun _ hk=>hk.2) (.slice Ao79 t563.length co79)) (fun _ hk=>hk.2) (.slice Ao80 t566.length co80)) (fun _ h_=>h_.1))))) (Kd.R_lt (rX (Kd.R_mono (Kd.R_far (p:=⟨gb570,2,none⟩) (Kd.R_far (p:=⟨gb570,1,none⟩) (Kd.R_far (p:=⟨gb570,0,none⟩) (Kd.R_types HO556.out BK570.out (by decide)) (fun _ hk=>hk.2) (.bool t562)) (fun _ hk=>hk.2) (.slice Ao79 t563.length co79)) (fun _ hk=>hk.2) (.slice Ao80 t566.length co80)) (fun _ h_=>h_.1))))) (Kd.R_lt (rX (Kd.R_mono (Kd.R_far (p:=⟨gb570,2,none⟩) (Kd.R_far (p:=⟨gb570,1,none⟩) (Kd.R_far (p:=⟨gb570,0,none⟩) (Kd.R_types HO559.out BK570.out (by decide)) (fun _ hk=>hk.2) (.bool t562)) (fun _ hk=>hk.2) (.slice Ao79 t563.length co79)) (fun _ hk=>hk.2) (.slice Ao80 t566.length co80)) (fun _ h_=>h_.1))))) (Kd.R_lt (rX (Kd.R_mono (Kd.R_far (p:=⟨gb570,2,none⟩) (Kd.R_far (p:=⟨gb570,1,none⟩) (Kd.R_far (p:=⟨gb570,0,none⟩) (Kd.R_types HO565.out BK570.out (by decide)) (fun _ hk=>hk.2) (.bool t562)) (fun _ hk=>hk.2) (.slice Ao79 t563.length co79)) (fun _ hk=>hk.2) (.slice Ao80 t566.length co80)) (fun _ h_=>h_.1))))) (Kd.R_lt (rX (Kd.R_mono (Kd.R_far (p:=⟨gb570,2,none⟩) (Kd.R_far (p:=⟨gb570,1,none⟩) (Kd.R_far (p:=⟨gb570,0,none⟩) (Kd.R_types HO568.out BK570.out (by decide)) (fun _ hk=>hk.2) (.bool t562)) (fun _ hk=>hk.2) (.slice Ao79 t563.length co79)) (fun _ hk=>hk.2) (.slice Ao80 t566.length co80)) (fun _ h_=>h_.1))))) (below_size pB));replace HO_8:=aM (Kd.R_mono (Kd.R_told (Kd.R_told (Kd.R_old (rX (Kd.R_mono (Kd.R_far (p:=⟨gb570,2,none⟩) (Kd.R_far (p:=⟨gb570,1,none⟩) (Kd.R_far (p:=⟨gb570,0,none⟩) (Kd.R_types HO_8.out BK570.out (by decide)) (fun _ hk=>hk.2) (.bool t562)) (fun _ hk=>hk.2) (.slice Ao79 t563.length co79)) (fun _ hk=>hk.2) (.slice Ao80 t566.length co80)) (fun _ h_=>h_.1))) hb) (Kd.R_base ho0)) (Kd.R_base ho1)) (fun _ h_=>h_.1));replace HO_539001:=aM (Kd.R_mono (Kd.R_told (Kd.R_told (Kd.R_old (rX (Kd.R_mono (Kd.R_far (p:=⟨gb570,2,none⟩) (Kd.R_far (p:=⟨gb570,1,none⟩) (Kd.R_far (p:=⟨gb570,0,none⟩) (Kd.R_types HO_539001.out BK570.out (by decide)) (fun _ hk=>hk.2) (.bool t562)) (fun _ hk=>hk.2) (.slice Ao79 t563.length co79)) (fun _ hk=>hk.2) (.slice Ao80 t566.length co80)) (fun _ h_=>h_.1))) hb) (Kd.R_base ho0)) (Kd.R_base ho1)) (fun _ h_=>h_.1));replace HO556:=aM (Kd.R_mono (Kd.R_told (Kd.R_told (Kd.R_old (rX (Kd.R_mono (Kd.R_far (p:=⟨gb570,2,none⟩) (Kd.R_far (p:=⟨gb570,1,none⟩) (Kd.R_far (p:=⟨gb570,0,none⟩) (Kd.R_types HO556.out BK570.out (by decide)) (fun _ hk=>hk.2) (.bool t562)) (fun _ hk=>hk.2) (.slice Ao79 t563.length co79)) (fun _ hk=>hk.2) (.slice Ao80 t566.length co80)) (fun _ h_=>h_.1))) hb) (Kd.R_base ho0)) (Kd.R_base ho1)) (fun _ h_=>h_.1));replace HO559:=aM (Kd.R_mono (Kd.R_told (Kd.R_told (Kd.R_old (rX (Kd.R_mono (Kd.R_far (p:=⟨gb570,2,none⟩) (Kd.R_far (p:=⟨gb570,1,none⟩) (Kd.R_far (p:=⟨gb570,0,none⟩) (Kd.R_types HO559.out BK570.out (by decide)) (fun _ hk=>hk.2) (.bool t562)) (fun _ hk=>hk.2) (.slice Ao79 t563.length co79)) (fun _ hk=>hk.2) (.slice Ao80 t566.length co80)) (fun _ h_=>h_.1))) hb) (Kd.R_base ho0)) (Kd.R_base ho1)) (fun _ h_=>h_.1));replace HO565:=aM (Kd.R_mono (Kd.R_told (Kd.R_told (Kd.R_old (rX (Kd.R_mono (Kd.R_far (p:=⟨gb570,2,none⟩) (Kd.R_far (p:=⟨gb570,1,none⟩) (Kd.R_far (p:=⟨gb570,0,none⟩) (Kd.R_types HO565.out BK570.out (by decide)) (fun _ hk=>hk.2) (.bool t562)) (fun _ hk=>hk.2) (.slice Ao79 t563.length co79)) (fun _ hk=>hk.2) (.slice Ao80 t566.length co80)) (fun _ h_=>h_.1))) hb) (Kd.R_base ho0)) (Kd.R_base ho1)) (fun _ h_=>h_.1));replace HO568:=aM (Kd.R_mono (Kd.R_told (Kd.R_told (Kd.R_old (rX (Kd.R_mono (Kd.R_far (p:=⟨gb570,2,none⟩) (Kd.R_far (p:=⟨gb570,1,none⟩) (Kd.R_far (p:=⟨gb570,0,none⟩) (Kd.R_types HO568.out BK570.out (by decide)) (fun _ hk=>hk.2) (.bool t562)) (fun _ hk=>hk.2) (.slice Ao79 t563.length co79)) (fun _ hk=>hk.2) (.slice Ao80 t566.length co80)) (fun _ h_=>h_.1))) hb) (Kd.R_base ho0)) (Kd.R_base ho1)) (fun _ h_=>h_.1));replace BK525:=aM (blk_below (g:=gb525) (o:=.cells #[.int .i64 a0_0,.slice (some ad552) l0_1.length c0_1] 24 (0,0)) (by refine bD ?_;refine blk_far ?_ NB525_570.out _;refine bD ?_;refine blk_far ?_ NB525_570.out _;refine bD ?_;refine blk_far ?_ NB525_570.out _;(with_reducible repeat(first|refine blk_drewN ?_ _|refine blk_drew ?_|refine blk_alloc ?_ _));exact BK525.out) hb);replace BK538:=aM (blk_below (g:=gb538) (o:=.cells #[.int .i64 t530,.slice Ao20 t531.length co20] 24 (0,0)) (by refine bD ?_;refine blk_far ?_ NB538_570.out _;refine bD ?_;refine blk_far ?_ NB538_570.out _;refine bD ?_;refine blk_far ?_ NB538_570.out _;(with_reducible repeat(first|refine blk_drewN ?_ _|refine blk_drew ?_|refine blk_alloc ?_ _));exact BK538.out) hb);replace BK561:=aM (blk_below (g:=gb561) (o:=.cells #[.bool t553,.slice Ao71 t554.length co71,.slice Ao72 t557.length co72] 46 (0,0)) (by refine bD ?_;refine blk_far ?_ NB561_570.out _;refine bD ?_;refine blk_far ?_ NB561_570.out _;refine bD ?_;refine blk_far ?_ NB561_570.out _;(with_reducible repeat(first|refine blk_drewN ?_ _|refine blk_drew ?_|refine blk_alloc ?_ _));exact BK561.out) hb);replace BK570:=aM (blk_below (g:=gb570) (o:=.cells #[.bool t562,.slice Ao79 t563.length co79,.slice Ao80 t566.length co80] 46 (0,0)) (by refine bD ?_;refine blk_put (cs:=#[.bool t562,.slice Ao79 t563.length co79,.slice none 0 0]) ?_ 2 _ rfl;refine bD ?_;refine blk_put (cs:=#[.bool t562,.slice none 0 0,.slice none 0 0]) ?_ 1 _ rfl;refine bD ?_;refine blk_put (cs:=#[.bool false,.slice none 0 0,.slice none 0 0]) ?_ 0 _ rfl;(with_reducible repeat(first|refine blk_drewN ?_ _|refine blk_drew ?_|refine blk_alloc ?_ _));exact BK570.out) hb);replace HB:=aM (below_step pB hb);(try clear hb);(try clear hb2);(try clear hk);(try clear hi);(try clear ho0);(try clear ho1))|((with_reducible refine gate_dst (N:=16) rfl ?_);(try(refine gate_guard (by rfl) ?_;dsimp only));refine box_event ?hg (N:=16) ?hd (cs:=#[.bool false,.slice none 0 0,.slice none 0 0]) (t:=46) ?hr ?_;(case hd=>rfl);(case hg=>rfl);(case hr=>first|(go_simp;done)|(go_simp;rfl));intro gb579 hg w83 hbox hb;have BK579:=aM (hbox);have GW579:=aM (gW hg:w.heap.size≤gb579);have GE579:=aM (gW hg:w.heap.size≤gb579);have NB525_579:=aM (nL hg BK525:gb525≠gb579);have NB579_525:=aM (nG hg BK525:gb579≠gb525);have NB538_579:=aM (nL hg BK538:gb538≠gb579);have NB579_538:=aM (nG hg BK538:gb579≠gb538);have NB561_579:=aM (nL hg BK561:gb561≠gb579);have NB579_561:=aM (nG hg BK561:gb579≠gb561);have NB570_579:=aM (nL hg BK570:gb570≠gb579);have NB579_570:=aM (nG hg BK570:gb579≠gb570);replace HO_8:=aM (Kd.R_below (rX HO_8.out) hb);replace HO_539001:=aM (Kd.R_below (rX HO_539001.out) hb);replace HO556:=aM (Kd.R_below (rX HO556.out) hb);replace HO559:=aM (Kd.R_below (rX HO559.out) hb);replace HO565:=aM (Kd.R_below (rX HO565.out) hb);replace HO568:=aM (Kd.R_below (rX HO568.out) hb);replace HO574:=aM (Kd.R_below (rX HO574.out) hb);replace HO577:=aM (Kd.R_below (rX HO577.out) hb);replace BK525:=aM (kB BK525 hb);replace BK538:=aM (kB BK538 hb);replace BK561:=aM (kB BK561 hb);replace BK570:=aM (kB BK570 hb);replace HB:=aM (below_step pB hb);clear hb hbox hg;have hnb84:=NB579_525.out;have hnc84:=NB525_579.out;have hnb85:=NB579_538.out;have hnc85:=NB538_579.out;have hnb86:=NB579_561.out;have hnc86:=NB561_579.out;have hnb87:=NB579_570.out;have hnc87:=NB570_579.out;obtain⟨hcz88_0,hcz88_1,hcz88_2,hfz88_0,hfz88_1,hfz88_2⟩:=bk3 BK579;obtain⟨Ao89,co89,eo89⟩:=Kd.R_slice HO574.out;subst eo89;obtain⟨Ao90,co90,eo90⟩:=Kd.R_slice HO577.out;subst eo90)|((with_reducible refine gate_callee (f:=30) rfl ?_);refine goesL_ (some 136) rfl rfl Try.func30 (by kernel_rfl) rfl #[.agg #[.bool t571,.slice Ao89 t572.length co89,.slice Ao90 t575.length co90]] rfl mA ?_;(with_reducible refine(Ezy.calls kj45 t571 _ _ t572 _ _ t575 t580 t581 _ ?side1 ?side2 ?side3 ?side4 A54.out).mono ?_);(case side1=>refine(Kd.R_reads' (e:=3) (base:=w.heap.size) (ok:=fun k_=>((((((some k_≠(.slice Ao90 t575.length co90:Value).ownBlock∧some k_≠(.slice Ao44 t545.length co44:Value).ownBlock)∧some k_≠(.slice Ao20 t531.length co20:Value).ownBlock)∧some k_≠(.slice Ao71 t554.length co71:Value).ownBlock)∧some k_≠(.slice Ao72 t557.length co72:Value).ownBlock)∧some k_≠(.slice Ao79 t563.length co79:Value).ownBlock)∧some k_≠(.slice Ao80 t566.length co80:Value).ownBlock)) (n:=t572.length) (c:=co89) ?_).2.2;exact(rX (Kd.R_mono (Kd.R_far (p:=⟨gb579,2,none⟩) (Kd.R_far (p:=⟨gb579,1,none⟩) (Kd.R_far (p:=⟨gb579,0,none⟩) (Kd.R_types HO574.out BK579.out (by decide)) (fun _ hk=>hk.2) (.bool t571)) (fun _ hk=>hk.2) (.slice Ao89 t572.length co89)) (fun _ hk=>hk.2) (.slice Ao90 t575.length co90)) (fun _ h_=>h_.1))));(case side2=>exact(Kd.R_reads' HO574.out).2.1);(case side3=>refine(Kd.R_reads' (e:=3) (base:=w.heap.size) (ok:=fun k_=>((((((some k_≠(.slice Ao89 t572.length co89:Value).ownBlock∧some k_≠(.slice Ao44 t545.length co44:Value).ownBlock)∧some k_≠(.slice Ao20 t531.length co20:Value).ownBlock)∧some k_≠(.slice Ao71 t554.length co71:Value).ownBlock)∧some k_≠(.slice Ao72 t557.length co72:Value).ownBlock)∧some k_≠(.slice Ao79 t563.length co79:Value).ownBlock)∧some k_≠(.slice Ao80 t566.length co80:Value).ownBlock)) (n:=t575.length) (c:=co90) ?_).2.2;exact(rX (Kd.R_mono (Kd.R_far (p:=⟨gb579,2,none⟩) (Kd.R_far (p:=⟨gb579,1,none⟩) (Kd.R_far (p:=⟨gb579,0,none⟩) (Kd.R_types HO577.out BK579.out (by decide)) (fun _ hk=>hk.2) (.bool t571)) (fun _ hk=>hk.2) (.slice Ao89 t572.length co89)) (fun _ hk=>hk.2) (.slice Ao90 t575.length co90)) (fun _ h_=>h_.1))));(case side4=>exact(Kd.R_reads' HO577.out).2.1);rintro e w91 ⟨rfl,hb⟩;refine⟨_,rfl,?_⟩;replace HO_8:=aM (Kd.R_below (rX (Kd.R_mono (Kd.R_far (p:=⟨gb579,2,none⟩) (Kd.R_far (p:=⟨gb579,1,none⟩) (Kd.R_far (p:=⟨gb579,0,none⟩) (Kd.R_types HO_8.out BK579.out (by decide)) (fun _ hk=>hk.2) (.bool t571)) (fun _ hk=>hk.2) (.slice Ao89 t572.length co89)) (fun _ hk=>hk.2) (.slice Ao90 t575.length co90)) (fun _ h_=>h_.1))) hb);replace HO_539001:=aM (Kd.R_below (rX (Kd.R_mono (Kd.R_far (p:=⟨gb579,2,none⟩) (Kd.R_far (p:=⟨gb579,1,none⟩) (Kd.R_far (p:=⟨gb579,0,none⟩) (Kd.R_types HO_539001.out BK579.out (by decide)) (fun _ hk=>hk.2) (.bool t571)) (fun _ hk=>hk.2) (.slice Ao89 t572.length co89)) (fun _ hk=>hk.2) (.slice Ao90 t575.length co90)) (fun _ h_=>h_.1))) hb);replace HO556:=aM (Kd.R_below (rX (Kd.R_mono (Kd.R_far (p:=⟨gb579,2,none⟩) (Kd.R_far (p:=⟨gb579,1,none⟩) (Kd.R_far (p:=⟨gb579,0,none⟩) (Kd.R_types HO556.out BK579.out (by decide)) (fun _ hk=>hk.2) (.bool t571)) (fun _ hk=>hk.2) (.slice Ao89 t572.length co89)) (fun _ hk=>hk.2) (.slice Ao90 t575.length co90)) (fun _ h_=>h_.1))) hb);replace HO559:=aM (Kd.R_below (rX (Kd.R_mono (Kd.R_far (p:=⟨gb579,2,none⟩) (Kd.R_far (p:=⟨gb579,1,none⟩) (Kd.R_far (p:=⟨gb579,0,none⟩) (Kd.R_types HO559.out BK579.out (by decide)) (fun _ hk=>hk.2) (.bool t571)) (fun _ hk=>hk.2) (.slice Ao89 t572.length co89)) (fun _ hk=>hk.2) (.slice Ao90 t575.length co90)) (fun _ h_=>h_.1))) hb);replace HO565:=aM (Kd.R_below (rX (Kd.R_mono (Kd.R_far (p:=⟨gb579,2,none⟩) (Kd.R_far (p:=⟨gb579,1,none⟩) (Kd.R_far (p:=⟨gb579,0,none⟩) (Kd.R_types HO565.out BK579.out (by decide)) (fun _ hk=>hk.2) (.bool t571)) (fun _ hk=>hk.2) (.slice Ao89 t572.length co89)) (fun _ hk=>hk.2) (.slice Ao90 t575.length co90)) (fun _ h_=>h_.1))) hb);replace HO568:=aM (Kd.R_below (rX (Kd.R_mono (Kd.R_far (p:=⟨gb579,2,none⟩) (Kd.R_far (p:=⟨gb579,1,none⟩) (Kd.R_far (p:=⟨gb579,0,none⟩) (Kd.R_types HO568.out BK579.out (by decide)) (fun _ hk=>hk.2) (.bool t571)) (fun _ hk=>hk.2) (.slice Ao89 t572.length co89)) (fun _ hk=>hk.2) (.slice Ao90 t575.length co90)) (fun _ h_=>h_.1))) hb);replace HO574:=aM (Kd.R_below (rX (Kd.R_mono (Kd.R_far (p:=⟨gb579,2,none⟩) (Kd.R_far (p:=⟨gb579,1,none⟩) (Kd.R_far (p:=⟨gb579,0,none⟩) (Kd.R_types HO574.out BK579.out (by decide)) (fun _ hk=>hk.2) (.bool t571)) (fun _ hk=>hk.2) (.slice Ao89 t572.length co89)) (fun _ hk=>hk.2) (.slice Ao90 t575.length co90)) (fun _ h_=>h_.1))) hb);replace HO577:=aM (Kd.R_below (rX (Kd.R_mono (Kd.R_far (p:=⟨gb579,2,none⟩) (Kd.R_far (p:=⟨gb579,1,none⟩) (Kd.R_far (p:=⟨gb579,0,none⟩) (Kd.R_types HO577.out BK579.out (by decide)) (fun _ hk=>hk.2) (.bool t571)) (fun _ hk=>hk.2) (.slice Ao89 t572.length co89)) (fun _ hk=>hk.2) (.slice Ao90 t575.length co90)) (fun _ h_=>h_.1))) hb);replace BK525:=aM (blk_below (g:=gb525) (o:=.cells #[.int .i64 a0_0,.slice (some ad552) l0_1.length c0_1] 24 (0,0)) (by refine bD ?_;refine blk_far ?_ NB525_579.out _;refine bD ?_;refine blk_far ?_ NB525_579.out _;refine bD ?_;refine blk_far ?_ NB525_579.out _;(with_reducible repeat(first|refine blk_drewN ?_ _|refine blk_drew ?_|refine blk_alloc ?_ _));exact BK525.out) hb);replace BK538:=aM (blk_below (g:=gb538) (o:=.cells #[.int .i64 t530,.slice Ao20 t531.length co20] 24 (0,0)) (by refine bD ?_;refine blk_far ?_ NB538_579.out _;refine bD ?_;refine blk_far ?_ NB538_579.out _;refine bD ?_;refine blk_far ?_ NB538_579.out _;(with_reducible repeat(first|refine blk_drewN ?_ _|refine blk_drew ?_|refine blk_alloc ?_ _));exact BK538.out) hb);replace BK561:=aM (blk_below (g:=gb561) (o:=.cells #[.bool t553,.slice Ao71 t554.length co71,.slice Ao72 t557.length co72] 46 (0,0)) (by refine bD ?_;refine blk_far ?_ NB561_579.out _;refine bD ?_;refine blk_far ?_ NB561_579.out _;refine bD ?_;refine blk_far ?_ NB561_579.out _;(with_reducible repeat(first|refine blk_drewN ?_ _|refine blk_drew ?_|refine blk_alloc ?_ _));exact BK561.out) hb);replace BK570:=aM (blk_below (g:=gb570) (o:=.cells #[.bool t562,.slice Ao79 t563.length co79,.slice Ao80 t566.length co80] 46 (0,0)) (by refine bD ?_;refine blk_far ?_ NB570_579.out _;refine bD ?_;refine blk_far ?_ NB570_579.out _;refine bD ?_;refine blk_far ?_ NB570_579.out _;(with_reducible repeat(first|refine blk_drewN ?_ _|refine blk_drew ?_|refine blk_alloc ?_ _));exact BK570.out) hb);replace BK579:=aM (blk_below (g:=gb579) (o:=.cells #[.bool t571,.slice Ao89 t572.length co89,.slice Ao90 t575.length co90] 46 (0,0)) (by refine bD ?_;refine blk_put (cs:=#[.bool t571,.slice Ao89 t572.length co89,.slice none 0 0]) ?_ 2 _ rfl;refine bD ?_;refine blk_put (cs:=#[.bool t571,.slice none 0 0,.slice none 0 0]) ?_ 1 _ rfl;refine bD ?_;refine blk_put (cs:=#[.bool false,.slice none 0 0,.slice none 0 0]) ?_ 0 _ rfl;(with_reducible repeat(first|refine blk_drewN ?_ _|refine blk_drew ?_|refine blk_alloc ?_ _));exact BK579.out) hb);replace HB:=aM (below_step pB hb);(try clear hb);(try clear hb2);(try clear hk);(try clear hi);obtain⟨hcz92_0,hcz92_1,hcz92_2,hfz92_0,hfz92_1,hfz92_2⟩:=bk3 BK579)|((with_reducible refine gate_callee (f:=31) rfl ?_);refine goesL_ (some 141) rfl rfl Try.func31 (by kernel_rfl) rfl #[.agg #[.bool t571,.slice Ao89 t572.length co89,.slice Ao90 t575.length co90]] rfl mA ?_;(with_reducible refine(Ezk.calls kj45 t571 _ _ t572 _ _ t575 t582 t583 _ ?side1 ?side2 ?side3 ?side4 A55.out).mono ?_);(case side1=>repeat(first|exact(Kd.R_reads' HO574.out).2.2|(with_reducible refine Kd.C_alloc ?_ _)|(with_reducible refine Kd.C_drewN ?_ _)|(with_reducible refine Kd.C_drew ?_)));(case side2=>exact(Kd.R_reads' HO574.out).2.1);(case side3=>repeat(first|exact(Kd.R_reads' HO577.out).2.2|(with_reducible refine Kd.C_alloc ?_ _)|(with_reducible refine Kd.C_drewN ?_ _)|(with_reducible refine Kd.C_drew ?_)));(case side4=>exact(Kd.R_reads' HO577.out).2.1);rintro e w93 ⟨rfl,hb⟩;refine⟨_,rfl,?_⟩;replace HO_8:=aM (Kd.R_below (rX HO_8.out) hb);replace HO_539001:=aM (Kd.R_below (rX HO_539001.out) hb);replace HO556:=aM (Kd.R_below (rX HO556.out) hb);replace HO559:=aM (Kd.R_below (rX HO559.out) hb);replace HO565:=aM (Kd.R_below (rX HO565.out) hb);replace HO568:=aM (Kd.R_below (rX HO568.out) hb);replace HO574:=aM (Kd.R_below (rX HO574.out) hb);replace HO577:=aM (Kd.R_below (rX HO577.out) hb);replace BK525:=aM (kB BK525 hb);replace BK538:=aM (kB BK538 hb);replace BK561:=aM (kB BK561 hb);replace BK570:=aM (kB BK570 hb);replace BK579:=aM (kB BK579 hb);replace HB:=aM (below_step pB hb);(try clear hb);(try clear hb2);(try clear hk);(try clear hi);have p584:0≤(x11_3:Int):=oE aS;have q584:x11_3 < (t545.length:Int):=oE aS;obtain⟨ad584,e584,hx584_0⟩:=Kd.at_int (Kd.R_reads' HO_8.out).2.2 x11_3 p584 q584;cases e584;replace p584:=eq_true p584;replace q584:=eq_true q584;have p585:0≤(x11_3:Int):=oE aS;have q585:x11_3 < (t545.length:Int):=oE aS;obtain⟨ad585,e585,hx585_0⟩:=Kd.at_int (Kd.R_reads' HO_8.out).2.2 x11_3 p585 q585;obtain rfl:ad584=ad585:=(by injection e585);replace p585:=eq_true p585;replace q585:=eq_true q585))
                          go_roundg kj45
                          case measure=>have:=HJ10.out;have:=HK2.out;have:=HK3.out;have:=HJ45.out;omega
                          case rel=>exact⟨(wrap64 (x11_3+1)),sD,H',⟨by have:=HJ10.out;have:=HK2.out;have:=HK3.out;have:=HJ45.out;omega⟩,⟨by(with_reducible repeat(first|apply Kd.R_alloc|apply Kd.R_drewN|apply Kd.R_drew));exact Kd.R_mono HO_8.out (fun _ hk=>hk.1.1.1.1.1.1)⟩,⟨by(with_reducible repeat(first|apply Kd.R_alloc|apply Kd.R_drewN|apply Kd.R_drew));exact Kd.R_mono HO_539001.out (fun _ hk=>hk.1.1.1.1.1.1)⟩,⟨by(with_reducible repeat(first|refine blk_drewN ?_ _|refine blk_drew ?_|refine blk_alloc ?_ _));exact BK525.out⟩,⟨by(with_reducible repeat(first|refine blk_drewN ?_ _|refine blk_drew ?_|refine blk_alloc ?_ _));exact BK538.out⟩,⟨pB⟩⟩
                       ·rw[if_neg c61] at H;exact absurd H (by simp)
                      ·rw[if_neg c60] at H;exact absurd H (by simp)
                     ·rw[if_neg c59] at H;exact absurd H (by simp)
                    ·rw[if_neg c58] at H;exact absurd H (by simp)
                   ·rw[if_neg c57] at H;exact absurd H (by simp)
                  ·rw[if_neg c56] at H;exact absurd H (by simp)
                 ·rw[if_neg c50] at H;exact absurd H (by simp)
                ·rw[if_neg c49] at H;exact absurd H (by simp)
               ·replace c48:=Bool.eq_false_iff.mpr c48;subst c48;rw[if_neg (show ¬ (false=true) by decide)] at H
                replace H:=bS H;obtain⟨t551,A940,H⟩:=H;replace H:(some t551)=some r:=H;have A94:=aM A940;clear A940;obtain rfl:=Option.some.inj H;go_wp2_with (first|((with_reducible refine gate_callee (f:=10) rfl ?_);refine goesL_ (some 178) rfl rfl Try.func10 (by kernel_rfl) rfl #[] rfl mA ?_;(with_reducible refine(Azy.calls kj45  t551 _ A94.out).mono ?_);rintro e w95 ⟨rfl,hb⟩;refine⟨_,rfl,?_⟩;replace HO_8:=aM (Kd.R_below (rX HO_8.out) hb);replace HO_539001:=aM (Kd.R_below (rX HO_539001.out) hb);replace BK525:=aM (kB BK525 hb);replace BK538:=aM (kB BK538 hb);replace HB:=aM (below_step pB hb);(try clear hb);(try clear hb2);(try clear hk);(try clear hi)))
                go_ret
                exact⟨eW,pB⟩
          ·rw[if_neg c39] at H;exact absurd H (by simp)
         ·rw[if_neg c38] at H;have c38b0:(t548 == 0)=false:=beq_eq_false_iff_ne.mpr c38;have c38b1:(t548 != 0)=true:=bne_iff_ne.mpr c38;by_cases c96:a1 < 0
          ·rw[if_pos c96] at H;have c96b0:decide (a1 < 0)=true:=dE c96;clear c96;by_cases c97:(t545.length:Int)=0
           ·rw[if_pos c97] at H;have c97b0:((t545.length:Int) == 0)=true:=beq_iff_eq.mpr c97;have c97b1:((t545.length:Int) != 0)=false:=bne_eq_false_iff_eq.mpr c97;clear c97;replace H:=bS H;obtain⟨t549,A980,H⟩:=H;replace H:(some t549)=some r:=H;have A98:=aM A980;clear A980;obtain rfl:=Option.some.inj H;have hnb99:=NB538_525.out;have hnc99:=NB525_538.out;obtain⟨hcz100_0,hcz100_1,hfz100_0,hfz100_1⟩:=bk2 BK538;obtain⟨hcz101_0,hcz101_1,hfz101_0,hfz101_1⟩:=bk2 BK525;go_wp2_with (first|((with_reducible refine gate_callee (f:=19) rfl ?_);refine goesL_ (some 76) rfl rfl Try.func19 (by kernel_rfl) rfl #[.agg #[.int .i64 a0_0,.slice A0_1 l0_1.length c0_1],.int .i64 a1] rfl mA ?_;(with_reducible refine(Bzp.calls k2 a0_0 _ _ l0_1 a1 t541 t542 t545 t548 _ ?side1 ?side2 A37.out).mono ?_);(case side1=>exact cX (Kd.C_below HR0_1.out HB.out));(case side2=>exact HC0_1.out);rintro e w102 ⟨v543,v546,rfl,ho0,ho1,hb⟩;refine⟨_,rfl,?_⟩;have HO544:=aM (Kd.R_lower (Kd.R_new' ho0 (Kd.R_lt (rX HO_539001.out))) (below_size pB));have HO547:=aM (Kd.R_lower (Kd.R_new' ho1 (Kd.R_lt (rX HO_539001.out))) (below_size pB));replace HO_539001:=aM (Kd.R_mono (Kd.R_told (Kd.R_told (Kd.R_old (rX HO_539001.out) hb) (Kd.R_base ho0)) (Kd.R_base ho1)) (fun _ h_=>h_.1));replace BK525:=aM (kB BK525 hb);replace BK538:=aM (kB BK538 hb);replace HB:=aM (below_step pB hb);(try clear hb);(try clear hb2);(try clear hk);(try clear hi);(try clear ho0);(try clear ho1);obtain⟨Ao103,co103,eo103⟩:=Kd.R_slice HO547.out;subst eo103)|(go_at_call 10;(with_reducible refine(Azy.calls k2  t549 _ A98.out).mono ?_);rintro e w104 ⟨rfl,hb⟩;replace HO_539001:=aM (Kd.R_below (rX HO_539001.out) hb);replace HO544:=aM (Kd.R_below (rX HO544.out) hb);replace HO547:=aM (Kd.R_below (rX HO547.out) hb);replace BK525:=aM (kB BK525 hb);replace BK538:=aM (kB BK538 hb);replace HB:=aM (below_step pB hb);(try clear hb);(try clear hb2);(try clear hk);(try clear hi)))
            go_ret
            exact⟨eW,pB⟩
           ·rw[if_neg c97] at H;exact absurd H (by simp)
          ·rw[if_neg c96] at H;have c96b0:decide (a1 < 0)=false:=decide_eq_false c96;clear c96;by_cases c105:a1 > t527
           ·rw[if_pos c105] at H;have c105b0:decide (t527 < a1)=true:=dE c105;clear c105;by_cases c106:(t545.length:Int)=0
            ·rw[if_pos c106] at H;have c106b0:((t545.length:Int) == 0)=true:=beq_iff_eq.mpr c106;have c106b1:((t545.length:Int) != 0)=false:=bne_eq_false_iff_eq.mpr c106;clear c106;replace H:=bS H;obtain⟨t550,A1070,H⟩:=H;replace H:(some t550)=some r:=H;have A107:=aM A1070;clear A1070;obtain rfl:=Option.some.inj H;have hnb108:=NB538_525.out;have hnc108:=NB525_538.out;obtain⟨hcz109_0,hcz109_1,hfz109_0,hfz109_1⟩:=bk2 BK538;obtain⟨hcz110_0,hcz110_1,hfz110_0,hfz110_1⟩:=bk2 BK525;go_wp2_with (first|((with_reducible refine gate_callee (f:=19) rfl ?_);refine goesL_ (some 76) rfl rfl Try.func19 (by kernel_rfl) rfl #[.agg #[.int .i64 a0_0,.slice A0_1 l0_1.length c0_1],.int .i64 a1] rfl mA ?_;(with_reducible refine(Bzp.calls k2 a0_0 _ _ l0_1 a1 t541 t542 t545 t548 _ ?side1 ?side2 A37.out).mono ?_);(case side1=>exact cX (Kd.C_below HR0_1.out HB.out));(case side2=>exact HC0_1.out);rintro e w111 ⟨v543,v546,rfl,ho0,ho1,hb⟩;refine⟨_,rfl,?_⟩;have HO544:=aM (Kd.R_lower (Kd.R_new' ho0 (Kd.R_lt (rX HO_539001.out))) (below_size pB));have HO547:=aM (Kd.R_lower (Kd.R_new' ho1 (Kd.R_lt (rX HO_539001.out))) (below_size pB));replace HO_539001:=aM (Kd.R_mono (Kd.R_told (Kd.R_told (Kd.R_old (rX HO_539001.out) hb) (Kd.R_base ho0)) (Kd.R_base ho1)) (fun _ h_=>h_.1));replace BK525:=aM (kB BK525 hb);replace BK538:=aM (kB BK538 hb);replace HB:=aM (below_step pB hb);(try clear hb);(try clear hb2);(try clear hk);(try clear hi);(try clear ho0);(try clear ho1);obtain⟨Ao112,co112,eo112⟩:=Kd.R_slice HO547.out;subst eo112)|(go_at_call 10;(with_reducible refine(Azy.calls k2  t550 _ A107.out).mono ?_);rintro e w113 ⟨rfl,hb⟩;replace HO_539001:=aM (Kd.R_below (rX HO_539001.out) hb);replace HO544:=aM (Kd.R_below (rX HO544.out) hb);replace HO547:=aM (Kd.R_below (rX HO547.out) hb);replace BK525:=aM (kB BK525 hb);replace BK538:=aM (kB BK538 hb);replace HB:=aM (below_step pB hb);(try clear hb);(try clear hb2);(try clear hk);(try clear hi)))
             go_ret
             exact⟨eW,pB⟩
            ·rw[if_neg c106] at H;exact absurd H (by simp)
           ·rw[if_neg c105] at H;exact absurd H (by simp)
  ·rw[if_neg c9] at H;have c9b0:(t528 == 0)=false:=beq_eq_false_iff_ne.mpr c9;have c9b1:(t528 != 0)=true:=bne_iff_ne.mpr c9;replace H:=bS H;obtain⟨t529,A1140,H⟩:=H;replace H:(some t529)=some r:=H;have A114:=aM A1140;clear A1140;obtain rfl:=Option.some.inj H;go_enter Try.func8,Try.ntmps8
   go_wp2_with (first|((with_reducible refine gate_dst (N:=2) rfl ?_);(try(refine gate_guard (by rfl) ?_;dsimp only));refine box_event ?hg (N:=2) ?hd (cs:=#[.int .i64 a0_0,.slice A0_1 l0_1.length c0_1]) (t:=24) ?hr ?_;(case hd=>rfl);(case hg=>rfl);(case hr=>first|(go_simp;done)|(go_simp;rfl));intro gb525 hg w115 hbox hb;have BK525:=aM (hbox);have GW525:=aM (gW hg:w.heap.size≤gb525);have GE525:=aM (gW hg:w.heap.size≤gb525);replace HB:=aM (below_step pB hb);clear hb hbox hg;obtain⟨hcz116_0,hcz116_1,hfz116_0,hfz116_1⟩:=bk2 BK525)|((with_reducible refine gate_callee (f:=11) rfl ?_);refine goesL_ (some 29) rfl rfl Try.func11 (by kernel_rfl) rfl #[.agg #[.int .i64 a0_0,.slice A0_1 l0_1.length c0_1]] rfl mA ?_;(with_reducible refine(Dzq.calls k a0_0 _ _ l0_1 t527 t528 _ ?side1 ?side2 A8.out).mono ?_);(case side1=>exact cX (Kd.C_below HR0_1.out HB.out));(case side2=>exact HC0_1.out);rintro e w117 ⟨rfl,hb⟩;refine⟨_,rfl,?_⟩;replace BK525:=aM (kB BK525 hb);replace HB:=aM (below_step pB hb);(try clear hb);(try clear hb2);(try clear hk);(try clear hi))|((with_reducible refine gate_callee (f:=10) rfl ?_);refine goesL_ (some 34) rfl rfl Try.func10 (by kernel_rfl) rfl #[] rfl mA ?_;(with_reducible refine(Azy.calls k  t529 _ A114.out).mono ?_);rintro e w118 ⟨rfl,hb⟩;refine⟨_,rfl,?_⟩;replace BK525:=aM (kB BK525 hb);replace HB:=aM (below_step pB hb);(try clear hb);(try clear hb2);(try clear hk);(try clear hi)))
   go_ret
   exact⟨eW,pB⟩

/-- THE ONE PURE STATEMENT of Azv: yours. -/
def Azv.Pure:Prop:=∀ (a0_0:Int) (l0_1:List Int) (a1:Int),(Lit.int .i64 a0_0).wf=true→l0_1.length≤maxLen→l0_1.length * 8≤140737488351232→(∀ x_ ∈ l0_1,(Lit.int .i64 x_).wf=true)→(Lit.int .i64 a1).wf=true→∃ k,Azv.f k a0_0 l0_1 a1=some true

end Go.Proofs.Ytpjcpgobdiahpaa.Print
