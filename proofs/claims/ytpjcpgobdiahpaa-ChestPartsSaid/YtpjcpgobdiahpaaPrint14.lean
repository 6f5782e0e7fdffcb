import Derived.Test.YtpjcpgobdiahpaaPrint0
import Derived.Test.YtpjcpgobdiahpaaPrint2
import Derived.Test.YtpjcpgobdiahpaaPrint4
import Derived.Test.YtpjcpgobdiahpaaPrint13
namespace Go.Proofs.Ytpjcpgobdiahpaa.Print
open Go.RowKit Go.Proofs.YtpjcpgobdiahpaaW.PrintWords Go.Proofs.YtpjcpgobdiahpaaW.PrintLast Go.Proofs.YtpjcpgobdiahpaaW.PrintMore
attribute [local go_sem] max2_int min2_int max_two min_two max_three min_three max_four min_four
set_option linter.unusedVariables false
set_option maxRecDepth 100000
set_option maxHeartbeats 8000000
set_option linter.unusedSimpArgs false

def Bzp.j0:Nat→Int→Bool→Int→List Int→Option (Int × List Int × List Int × Int)
 | 0,_,_,_,_=>none
 | k+1,x1,x16,x222000,x222001=>if x16=true then(some (0,([]:List Int),([]:List Int),1)) else((Bzq.f k x222001).bind fun t224=>(if x1 > t224 then(some (0,([]:List Int),([]:List Int),19)) else((Azf.f k x1 x222001).bind fun bt225=>(if bt225.2=0 then((Bzy.f k x222000 x222001 bt225.1 (-1)).bind fun bt229=>(some (bt229.1,bt229.2,bt225.1,0))) else(some (0,([]:List Int),([]:List Int),bt225.2))))))
def Bzp.f (k:Nat) (a0_0:Int) (l0_1:List Int) (a1:Int):Option (Int × List Int × List Int × Int):=(Bzv.f k a0_0 l0_1).bind fun t223=>(if t223=0 then(if a1 < 0 then(Bzp.j0 k a1 true a0_0 l0_1) else(Bzp.j0 k a1 (decide (a1 > 1099511627776)) a0_0 l0_1)) else(some (0,([]:List Int),([]:List Int),t223)))
theorem Bzp.mono_l:∀ k,(∀ y0 y1 y2 y3,LeO (Bzp.j0 k y0 y1 y2 y3) (Bzp.j0 (k+1) y0 y1 y2 y3))
 | 0=>fun _ _ _ _ r h=>by simp [Bzp.j0] at h
 | k+1=>by
  have ih0:=Bzp.mono_l k
  ·intro y0 y1 y2 y3;unfold Bzp.j0;with_reducible repeat' first|exact ih0 _ _ _ _|exact Bzv.mono _ _ _|exact Bzy.mono _ _ _ _ _|exact Bzq.mono _ _|exact Azf.mono _ _ _|exact LeO.refl _|exact LeO.none _|refine LeO.ite ?_ ?_|refine LeO.bind ?_ (fun _=>?_)
theorem Bzp.mono:∀ a0 a1 a2 k,LeO (Bzp.f k a0 a1 a2) (Bzp.f (k+1) a0 a1 a2):=by
 intro a0 a1 a2 k;have ih0:=Bzp.mono_l k;unfold Bzp.f;with_reducible repeat' first|exact ih0 _ _ _ _|exact Bzv.mono _ _ _|exact Bzy.mono _ _ _ _ _|exact Bzq.mono _ _|exact Azf.mono _ _ _|exact LeO.refl _|exact LeO.none _|refine LeO.ite ?_ ?_|refine LeO.bind ?_ (fun _=>?_)
theorem Bzp.calls (k:Nat) (a0_0:Int) (A0_1:Option Addr) (c0_1:Nat) (l0_1:List Int) (a1:Int) (r1:Int) (r2:List Int) (r3:List Int) (r4:Int) (w:World) (hr0_1:Kd.C (Kd.int .i64) w A0_1 l0_1.length l0_1) (hc0_1:l0_1.length≤c0_1) (h:Bzp.f k a0_0 l0_1 a1=some (r1,r2,r3,r4)) :
  Calls Try.prog 19 #[.agg #[.int .i64 a0_0,.slice A0_1 l0_1.length c0_1],.int .i64 a1] w fun e w'=>∃ v1_ v2_:Value,e=.returned (.tuple #[.agg #[.int .i64 r1,v1_],v2_,.int .i64 r4])∧Kd.R (Kd.int .i64) 3 w' w.heap.size (fun k_=>some k_≠(v2_:Value).ownBlock) v1_ r2∧Kd.R (Kd.int .i64) 3 w' w.heap.size (fun k_=>some k_≠(v1_:Value).ownBlock) v2_ r3∧Below w.heap.size w w':=by
 have hu24:=Try.underlying24;have HR0_1:=aM hr0_1;have HC0_1:=aM hc0_1;clear hr0_1 hc0_1;have HB:=aM (Below.refl w.heap.size w);have H:((Bzv.f k a0_0 l0_1).bind fun t223=>(if t223=0 then(if a1 < 0 then(Bzp.j0 k a1 true a0_0 l0_1) else(Bzp.j0 k a1 (decide (a1 > 1099511627776)) a0_0 l0_1)) else(some (0,([]:List Int),([]:List Int),t223))))=some (r1,r2,r3,r4):=h
 clear h;replace H:=bS H;obtain⟨t223,A30,H⟩:=H;(try dsimp only at H);have A3:=aM A30;clear A30;by_cases c4:t223=0
 ·rw[if_pos c4] at H;have c4b0:(t223 == 0)=true:=beq_iff_eq.mpr c4;have c4b1:(t223 != 0)=false:=bne_eq_false_iff_eq.mpr c4;clear c4;have HC5:=aM H;clear H;go_enter Try.func19,Try.ntmps19
  go_upto_region 4 with (first|((with_reducible refine gate_dst (N:=2) rfl ?_);refine box_event ?hg (N:=2) ?hd (cs:=#[.int .i64 a0_0,.slice A0_1 l0_1.length c0_1]) (t:=24) ?hr ?_;(case hd=>rfl);(case hg=>rfl);(case hr=>first|(go_simp;done)|(go_simp;rfl));intro gb221 hg w6 hbox hb;have BK221:=aM (hbox);have GW221:=aM (gW hg:w.heap.size≤gb221);have GE221:=aM (gW hg:w.heap.size≤gb221);replace HB:=aM (below_step pB hb);clear hb hbox hg)|((with_reducible refine gate_dst (N:=4) rfl ?_);refine box_event ?hg (N:=4) ?hd (cs:=#[.int .i64 0,.slice none 0 0]) (t:=24) ?hr ?_;(case hd=>rfl);(case hg=>rfl);(case hr=>first|(go_simp;done)|(go_simp;rfl));intro gb222 hg w7 hbox hb;have BK222:=aM (hbox);have GW222:=aM (gW hg:w.heap.size≤gb222);have GE222:=aM (gW hg:w.heap.size≤gb222);have NB221_222:=aM (nL hg BK221:gb221≠gb222);have NB222_221:=aM (nG hg BK221:gb222≠gb221);replace BK221:=aM (kB BK221 hb);replace HB:=aM (below_step pB hb);clear hb hbox hg;have hnb8:=NB221_222.out;have hnc8:=NB222_221.out;obtain⟨hcz9_0,hcz9_1,hfz9_0,hfz9_1⟩:=bk2 BK221)|((with_reducible refine gate_callee (f:=15) rfl ?_);refine goesL_ (some 11) rfl rfl Try.func15 (by kernel_rfl) rfl #[.agg #[.int .i64 a0_0,.slice A0_1 l0_1.length c0_1]] rfl mA ?_;(with_reducible refine(Bzv.calls k a0_0 _ _ l0_1 t223 _ ?side1 ?side2 A3.out).mono ?_);(case side1=>exact cX (Kd.C_below HR0_1.out HB.out));(case side2=>exact HC0_1.out);rintro e w10 ⟨rfl,hb⟩;refine⟨_,rfl,?_⟩;replace BK221:=aM (kB BK221 hb);replace BK222:=aM (kB BK222 hb);replace HB:=aM (below_step pB hb);(try clear hb);(try clear hb2);(try clear hk);(try clear hi)))
  (try simp only[Act.put,sA,sZ,sC])
  go_cut [16] (fun v16 wc=>∃ (kq:Nat) (x16_4:Bool),v16=.bool x16_4∧Aside0 (Bzp.j0 kq a1 x16_4 a0_0 l0_1=some (r1,r2,r3,r4))∧Aside0 (kq≤k)∧Aside0 (wc.heap[gb221]?=some (.cells #[.int .i64 a0_0,(.slice A0_1 l0_1.length c0_1)] 24 (0,0)))∧Aside0 (wc.heap[gb222]?=some (.cells #[.int .i64 0,(.slice none 0 0)] 24 (0,0)))∧Aside0 (Below w.heap.size w wc))
  case first =>
   have H:=HC5.out;clear HC5;by_cases c11:a1 < 0
   ·rw[if_pos c11] at H;have c11b0:decide (a1 < 0)=true:=dE c11;clear c11;(first|rw[c11b0]|(simp only[i64_w,i32_w];rw[c11b0])|skip)
    have H':=aM H;clear H;go_wp2
    go_meet
    case rel=>exact⟨_,(true),sD,H',⟨by first|omega|exact Nat.le_refl _⟩,⟨by(with_reducible repeat(first|refine blk_drewN ?_ _|refine blk_drew ?_|refine blk_alloc ?_ _));exact BK221.out⟩,⟨by(with_reducible repeat(first|refine blk_drewN ?_ _|refine blk_drew ?_|refine blk_alloc ?_ _));exact BK222.out⟩,⟨pB⟩⟩
   ·rw[if_neg c11] at H;have c11b0:decide (a1 < 0)=false:=decide_eq_false c11;clear c11;(first|rw[c11b0]|(simp only[i64_w,i32_w];rw[c11b0])|skip)
    have H':=aM H;clear H;go_wp2
    go_meet
    case rel=>exact⟨_,(decide (a1 > 1099511627776)),sD,H',⟨by first|omega|exact Nat.le_refl _⟩,⟨by(with_reducible repeat(first|refine blk_drewN ?_ _|refine blk_drew ?_|refine blk_alloc ?_ _));exact BK221.out⟩,⟨by(with_reducible repeat(first|refine blk_drewN ?_ _|refine blk_drew ?_|refine blk_alloc ?_ _));exact BK222.out⟩,⟨pB⟩⟩
  case rest =>
   clear HC5;try clear c1
   try clear p2
   try clear c4
   try clear c4b0
   try clear c4b1
   try clear c8
   try clear c11
   try clear c11b0
   try clear hcz9_0
   try clear hcz9_1
   try clear hfz9_0
   try clear hfz9_1
   obtain⟨kq,x16_4,rfl,HA,HJ4,BK221,BK222,HB⟩:=hcut;cases kq with
   | zero=>exact absurd HA.out (by simp [Bzp.j0])
   | succ kj4 =>
    have H:=HA.out;clear HA;simp only[Bzp.j0] at H;by_cases c12:x16_4=true
    ·subst c12;rw[if_pos rfl] at H;simp only[Option.some.injEq,Prod.mk.injEq] at H;obtain⟨rfl,rfl,rfl,rfl⟩:=H;have hnb13:=NB222_221.out;have hnc13:=NB221_222.out;obtain⟨hcz14_0,hcz14_1,hfz14_0,hfz14_1⟩:=bk2 BK222;go_wp2
     refine bodyPost_ret (results_ctt rfl _ _ gb222 24 #[.int .i64 0,.slice none 0 0] (0,0) _ rfl (by refine bD ?_;refine blk_put (cs:=#[.int .i64 0,.slice none 0 0]) ?_ 1 _ rfl;refine bD ?_;refine blk_put (cs:=#[.int .i64 0,.slice none 0 0]) ?_ 0 _ rfl;(with_reducible repeat(first|refine blk_drewN ?_ _|refine blk_drew ?_|refine blk_alloc ?_ _));exact BK222.out) Try.underlying24 rfl (by kernel_rfl)) rfl ?_
     exact⟨_,_,eW,by first|exact Kd.R_nil _ _ _ _ _|exact Kd.N_nil _ _ _ _ _|exact Kd.V_nil _ _ _ _ _|exact Kd.Q_nil _ _ _ _ _|exact Kd.S_nil _ _ _ _ _,by first|exact Kd.R_nil _ _ _ _ _|exact Kd.N_nil _ _ _ _ _|exact Kd.V_nil _ _ _ _ _|exact Kd.Q_nil _ _ _ _ _|exact Kd.S_nil _ _ _ _ _,pB⟩
    ·replace c12:=Bool.eq_false_iff.mpr c12;subst c12;rw[if_neg (show ¬ (false=true) by decide)] at H
     replace H:=bS H;obtain⟨t224,A150,H⟩:=H;(try dsimp only at H);have A15:=aM A150;clear A150;by_cases c16:a1 > t224
     ·rw[if_pos c16] at H;have c16b0:decide (t224 < a1)=true:=dE c16;clear c16;simp only[Option.some.injEq,Prod.mk.injEq] at H;obtain⟨rfl,rfl,rfl,rfl⟩:=H;have hnb17:=NB221_222.out;have hnc17:=NB222_221.out;obtain⟨hcz18_0,hcz18_1,hfz18_0,hfz18_1⟩:=bk2 BK221;go_wp2_with (first|((with_reducible refine gate_callee (f:=36) rfl ?_);refine goesL_ (some 28) rfl rfl Try.func36 (by kernel_rfl) rfl #[.slice A0_1 l0_1.length c0_1] rfl mA ?_;(with_reducible refine(Bzq.calls kj4 _ _ l0_1 t224 _ ?side1 ?side2 A15.out).mono ?_);(case side1=>exact cX (Kd.C_below HR0_1.out HB.out));(case side2=>exact HC0_1.out);rintro e w' ⟨rfl,⟨nd,rfl⟩⟩;refine⟨_,rfl,?_⟩;(try(rw[drewN_self wc];generalize hq_:World.drewN wc _=wc;have n0_:Aside0 (wc.heap[gb221]?=some (.cells #[.int .i64 a0_0,.slice A0_1 l0_1.length c0_1] 24 (0,0))):=⟨by rw[← hq_];exact(kW BK221)⟩;have n1_:Aside0 (wc.heap[gb222]?=some (.cells #[.int .i64 0,.slice none 0 0] 24 (0,0))):=⟨by rw[← hq_];exact(kW BK222)⟩;have n2_:Aside0 (Below w.heap.size w wc):=⟨by rw[← hq_];exact pB⟩;clear BK221 BK222 HB hq_;have BK221:=n0_;have BK222:=n1_;have HB:=n2_;clear n0_ n1_ n2_;have hcqgb221_0:wc.cell? ⟨gb221,0,none⟩=some (.int .i64 a0_0):=(blk_cell BK221.out 0).trans rfl;have hfqgb221_0:=blk_frozen BK221.out 0;have hcqgb221_1:wc.cell? ⟨gb221,1,none⟩=some (.slice A0_1 l0_1.length c0_1):=(blk_cell BK221.out 1).trans rfl;have hfqgb221_1:=blk_frozen BK221.out 1;have hcqgb222_0:wc.cell? ⟨gb222,0,none⟩=some (.int .i64 0):=(blk_cell BK222.out 0).trans rfl;have hfqgb222_0:=blk_frozen BK222.out 0;have hcqgb222_1:wc.cell? ⟨gb222,1,none⟩=some (.slice none 0 0):=(blk_cell BK222.out 1).trans rfl;have hfqgb222_1:=blk_frozen BK222.out 1));obtain⟨hcz19_0,hcz19_1,hfz19_0,hfz19_1⟩:=bk2 BK222))
      refine bodyPost_ret (results_ctt rfl _ _ gb222 24 #[.int .i64 0,.slice none 0 0] (0,0) _ rfl (by refine bD ?_;refine blk_put (cs:=#[.int .i64 0,.slice none 0 0]) ?_ 1 _ rfl;refine bD ?_;refine blk_put (cs:=#[.int .i64 0,.slice none 0 0]) ?_ 0 _ rfl;(with_reducible repeat(first|refine blk_drewN ?_ _|refine blk_drew ?_|refine blk_alloc ?_ _));exact BK222.out) Try.underlying24 rfl (by kernel_rfl)) rfl ?_
      exact⟨_,_,eW,by first|exact Kd.R_nil _ _ _ _ _|exact Kd.N_nil _ _ _ _ _|exact Kd.V_nil _ _ _ _ _|exact Kd.Q_nil _ _ _ _ _|exact Kd.S_nil _ _ _ _ _,by first|exact Kd.R_nil _ _ _ _ _|exact Kd.N_nil _ _ _ _ _|exact Kd.V_nil _ _ _ _ _|exact Kd.Q_nil _ _ _ _ _|exact Kd.S_nil _ _ _ _ _,pB⟩
     ·rw[if_neg c16] at H;have c16b0:decide (t224 < a1)=false:=decide_eq_false c16;clear c16;replace H:=bS H;obtain⟨⟨t225,t226⟩,A200,H⟩:=H;(try dsimp only at H);have A20:=aM A200;clear A200;by_cases c21:t226=0
      ·rw[if_pos c21] at H;have c21b0:(t226 == 0)=true:=beq_iff_eq.mpr c21;have c21b1:(t226 != 0)=false:=bne_eq_false_iff_eq.mpr c21;clear c21;replace H:=bS H;obtain⟨⟨t229,t230⟩,A220,H⟩:=H;replace H:(some (t229,t230,t225,0))=some (r1,r2,r3,r4):=H;have A22:=aM A220;clear A220;simp only[Option.some.injEq,Prod.mk.injEq] at H;obtain⟨rfl,rfl,rfl,rfl⟩:=H;have hnb23:=NB221_222.out;have hnc23:=NB222_221.out;obtain⟨hcz24_0,hcz24_1,hfz24_0,hfz24_1⟩:=bk2 BK221;go_wp2_with (first|((with_reducible refine gate_callee (f:=36) rfl ?_);refine goesL_ (some 28) rfl rfl Try.func36 (by kernel_rfl) rfl #[.slice A0_1 l0_1.length c0_1] rfl mA ?_;(with_reducible refine(Bzq.calls kj4 _ _ l0_1 t224 _ ?side1 ?side2 A15.out).mono ?_);(case side1=>exact cX (Kd.C_below HR0_1.out HB.out));(case side2=>exact HC0_1.out);rintro e w' ⟨rfl,⟨nd,rfl⟩⟩;refine⟨_,rfl,?_⟩;(try(rw[drewN_self wc];generalize hq_:World.drewN wc _=wc;have n0_:Aside0 (wc.heap[gb221]?=some (.cells #[.int .i64 a0_0,.slice A0_1 l0_1.length c0_1] 24 (0,0))):=⟨by rw[← hq_];exact(kW BK221)⟩;have n1_:Aside0 (wc.heap[gb222]?=some (.cells #[.int .i64 0,.slice none 0 0] 24 (0,0))):=⟨by rw[← hq_];exact(kW BK222)⟩;have n2_:Aside0 (Below w.heap.size w wc):=⟨by rw[← hq_];exact pB⟩;clear BK221 BK222 HB hq_;have BK221:=n0_;have BK222:=n1_;have HB:=n2_;clear n0_ n1_ n2_;have hcqgb221_0:wc.cell? ⟨gb221,0,none⟩=some (.int .i64 a0_0):=(blk_cell BK221.out 0).trans rfl;have hfqgb221_0:=blk_frozen BK221.out 0;have hcqgb221_1:wc.cell? ⟨gb221,1,none⟩=some (.slice A0_1 l0_1.length c0_1):=(blk_cell BK221.out 1).trans rfl;have hfqgb221_1:=blk_frozen BK221.out 1;have hcqgb222_0:wc.cell? ⟨gb222,0,none⟩=some (.int .i64 0):=(blk_cell BK222.out 0).trans rfl;have hfqgb222_0:=blk_frozen BK222.out 0;have hcqgb222_1:wc.cell? ⟨gb222,1,none⟩=some (.slice none 0 0):=(blk_cell BK222.out 1).trans rfl;have hfqgb222_1:=blk_frozen BK222.out 1)))|((with_reducible refine gate_callee (f:=42) rfl ?_);refine goesL_ (some 35) rfl rfl Try.func42 (by kernel_rfl) rfl #[.int .i64 a1,.slice A0_1 l0_1.length c0_1] rfl mA ?_;(with_reducible refine(Azf.calls kj4 a1 _ _ l0_1 t225 t226 _ ?side1 ?side2 A20.out).mono ?_);(case side1=>exact cX (Kd.C_below HR0_1.out HB.out));(case side2=>exact HC0_1.out);rintro e w25 ⟨v227,rfl,ho0,hb⟩;refine⟨_,rfl,?_⟩;have HO228:=aM (Kd.R_lower ho0 (below_size pB));replace BK221:=aM (kB BK221 hb);replace BK222:=aM (kB BK222 hb);replace HB:=aM (below_step pB hb);(try clear hb);(try clear hb2);(try clear hk);(try clear hi);(try clear ho0);obtain⟨hcz26_0,hcz26_1,hfz26_0,hfz26_1⟩:=bk2 BK221;obtain⟨Ao27,co27,eo27⟩:=Kd.R_slice HO228.out;subst eo27)|((with_reducible refine gate_callee (f:=39) rfl ?_);refine goesL_ (some 44) rfl rfl Try.func39 (by kernel_rfl) rfl #[.agg #[.int .i64 a0_0,.slice A0_1 l0_1.length c0_1],.slice Ao27 t225.length co27,.int .i64 (-1)] rfl mA ?_;(with_reducible refine(Bzy.calls kj4 a0_0 _ _ l0_1 _ _ t225 (-1) t229 t230 _ ?side1 ?side2 ?side3 ?side4 A22.out).mono ?_);(case side1=>exact cX (Kd.C_below HR0_1.out HB.out));(case side2=>exact HC0_1.out);(case side3=>repeat(first|exact(Kd.R_reads' HO228.out).2.2|(with_reducible refine Kd.C_alloc ?_ _)|(with_reducible refine Kd.C_drewN ?_ _)|(with_reducible refine Kd.C_drew ?_)));(case side4=>exact(Kd.R_reads' HO228.out).2.1);rintro e w28 ⟨v231,rfl,ho0,hb⟩;refine⟨_,rfl,?_⟩;have HO232:=aM (Kd.R_lower (Kd.R_new' ho0 (Kd.R_lt (rX HO228.out))) (below_size pB));replace HO228:=aM (Kd.R_elder' (rX HO228.out) (Kd.R_base ho0) hb);replace BK221:=aM (kB BK221 hb);replace BK222:=aM (kB BK222 hb);replace HB:=aM (below_step pB hb);(try clear hb);(try clear hb2);(try clear hk);(try clear hi);(try clear ho0);obtain⟨hcz29_0,hcz29_1,hfz29_0,hfz29_1⟩:=bk2 BK222;obtain⟨Ao30,co30,eo30⟩:=Kd.R_slice HO232.out;subst eo30))
       refine bodyPost_ret (results_ctt rfl _ _ gb222 24 #[.int .i64 t229,.slice Ao30 t230.length co30] (0,0) _ rfl (by refine bD ?_;refine blk_put (cs:=#[.int .i64 t229,.slice none 0 0]) ?_ 1 _ rfl;refine bD ?_;refine blk_put (cs:=#[.int .i64 0,.slice none 0 0]) ?_ 0 _ rfl;(with_reducible repeat(first|refine blk_drewN ?_ _|refine blk_drew ?_|refine blk_alloc ?_ _));exact BK222.out) Try.underlying24 rfl (by kernel_rfl)) rfl ?_
       exact⟨_,_,eW,by(with_reducible repeat(first|apply Kd.R_alloc|apply Kd.R_drewN|apply Kd.R_drew));exact Kd.R_mono (Kd.R_far (p:=⟨gb222,1,none⟩) (Kd.R_far (p:=⟨gb222,0,none⟩) (Kd.R_types HO232.out BK222.out (by decide)) (fun _ hk=>hk.2) (.int .i64 t229)) (fun _ hk=>hk.2) (.slice Ao30 t230.length co30)) (fun _ hk=>hk.1.2),by(with_reducible repeat(first|apply Kd.R_alloc|apply Kd.R_drewN|apply Kd.R_drew));exact Kd.R_mono (Kd.R_far (p:=⟨gb222,1,none⟩) (Kd.R_far (p:=⟨gb222,0,none⟩) (Kd.R_types HO228.out BK222.out (by decide)) (fun _ hk=>hk.2) (.int .i64 t229)) (fun _ hk=>hk.2) (.slice Ao30 t230.length co30)) (fun _ hk=>hk.1.2),pB⟩
      ·rw[if_neg c21] at H;have c21b0:(t226 == 0)=false:=beq_eq_false_iff_ne.mpr c21;have c21b1:(t226 != 0)=true:=bne_iff_ne.mpr c21;simp only[Option.some.injEq,Prod.mk.injEq] at H;obtain⟨rfl,rfl,rfl,rfl⟩:=H;have hnb31:=NB221_222.out;have hnc31:=NB222_221.out;obtain⟨hcz32_0,hcz32_1,hfz32_0,hfz32_1⟩:=bk2 BK221;go_wp2_with (first|((with_reducible refine gate_callee (f:=36) rfl ?_);refine goesL_ (some 28) rfl rfl Try.func36 (by kernel_rfl) rfl #[.slice A0_1 l0_1.length c0_1] rfl mA ?_;(with_reducible refine(Bzq.calls kj4 _ _ l0_1 t224 _ ?side1 ?side2 A15.out).mono ?_);(case side1=>exact cX (Kd.C_below HR0_1.out HB.out));(case side2=>exact HC0_1.out);rintro e w' ⟨rfl,⟨nd,rfl⟩⟩;refine⟨_,rfl,?_⟩;(try(rw[drewN_self wc];generalize hq_:World.drewN wc _=wc;have n0_:Aside0 (wc.heap[gb221]?=some (.cells #[.int .i64 a0_0,.slice A0_1 l0_1.length c0_1] 24 (0,0))):=⟨by rw[← hq_];exact(kW BK221)⟩;have n1_:Aside0 (wc.heap[gb222]?=some (.cells #[.int .i64 0,.slice none 0 0] 24 (0,0))):=⟨by rw[← hq_];exact(kW BK222)⟩;have n2_:Aside0 (Below w.heap.size w wc):=⟨by rw[← hq_];exact pB⟩;clear BK221 BK222 HB hq_;have BK221:=n0_;have BK222:=n1_;have HB:=n2_;clear n0_ n1_ n2_;have hcqgb221_0:wc.cell? ⟨gb221,0,none⟩=some (.int .i64 a0_0):=(blk_cell BK221.out 0).trans rfl;have hfqgb221_0:=blk_frozen BK221.out 0;have hcqgb221_1:wc.cell? ⟨gb221,1,none⟩=some (.slice A0_1 l0_1.length c0_1):=(blk_cell BK221.out 1).trans rfl;have hfqgb221_1:=blk_frozen BK221.out 1;have hcqgb222_0:wc.cell? ⟨gb222,0,none⟩=some (.int .i64 0):=(blk_cell BK222.out 0).trans rfl;have hfqgb222_0:=blk_frozen BK222.out 0;have hcqgb222_1:wc.cell? ⟨gb222,1,none⟩=some (.slice none 0 0):=(blk_cell BK222.out 1).trans rfl;have hfqgb222_1:=blk_frozen BK222.out 1)))|((with_reducible refine gate_callee (f:=42) rfl ?_);refine goesL_ (some 35) rfl rfl Try.func42 (by kernel_rfl) rfl #[.int .i64 a1,.slice A0_1 l0_1.length c0_1] rfl mA ?_;(with_reducible refine(Azf.calls kj4 a1 _ _ l0_1 t225 t226 _ ?side1 ?side2 A20.out).mono ?_);(case side1=>exact cX (Kd.C_below HR0_1.out HB.out));(case side2=>exact HC0_1.out);rintro e w33 ⟨v227,rfl,ho0,hb⟩;refine⟨_,rfl,?_⟩;have HO228:=aM (Kd.R_lower ho0 (below_size pB));replace BK221:=aM (kB BK221 hb);replace BK222:=aM (kB BK222 hb);replace HB:=aM (below_step pB hb);(try clear hb);(try clear hb2);(try clear hk);(try clear hi);(try clear ho0);obtain⟨hcz34_0,hcz34_1,hfz34_0,hfz34_1⟩:=bk2 BK222))
       refine bodyPost_ret (results_ctt rfl _ _ gb222 24 #[.int .i64 0,.slice none 0 0] (0,0) _ rfl (by refine bD ?_;refine blk_put (cs:=#[.int .i64 0,.slice none 0 0]) ?_ 1 _ rfl;refine bD ?_;refine blk_put (cs:=#[.int .i64 0,.slice none 0 0]) ?_ 0 _ rfl;(with_reducible repeat(first|refine blk_drewN ?_ _|refine blk_drew ?_|refine blk_alloc ?_ _));exact BK222.out) Try.underlying24 rfl (by kernel_rfl)) rfl ?_
       exact⟨_,_,eW,by first|exact Kd.R_nil _ _ _ _ _|exact Kd.N_nil _ _ _ _ _|exact Kd.V_nil _ _ _ _ _|exact Kd.Q_nil _ _ _ _ _|exact Kd.S_nil _ _ _ _ _,by first|exact Kd.R_nil _ _ _ _ _|exact Kd.N_nil _ _ _ _ _|exact Kd.V_nil _ _ _ _ _|exact Kd.Q_nil _ _ _ _ _|exact Kd.S_nil _ _ _ _ _,pB⟩
 ·rw[if_neg c4] at H;have c4b0:(t223 == 0)=false:=beq_eq_false_iff_ne.mpr c4;have c4b1:(t223 != 0)=true:=bne_iff_ne.mpr c4;simp only[Option.some.injEq,Prod.mk.injEq] at H;obtain⟨rfl,rfl,rfl,rfl⟩:=H;go_enter Try.func19,Try.ntmps19
  go_wp2_with (first|((with_reducible refine gate_dst (N:=2) rfl ?_);refine box_event ?hg (N:=2) ?hd (cs:=#[.int .i64 a0_0,.slice A0_1 l0_1.length c0_1]) (t:=24) ?hr ?_;(case hd=>rfl);(case hg=>rfl);(case hr=>first|(go_simp;done)|(go_simp;rfl));intro gb221 hg w35 hbox hb;have BK221:=aM (hbox);have GW221:=aM (gW hg:w.heap.size≤gb221);have GE221:=aM (gW hg:w.heap.size≤gb221);replace HB:=aM (below_step pB hb);clear hb hbox hg)|((with_reducible refine gate_dst (N:=4) rfl ?_);refine box_event ?hg (N:=4) ?hd (cs:=#[.int .i64 0,.slice none 0 0]) (t:=24) ?hr ?_;(case hd=>rfl);(case hg=>rfl);(case hr=>first|(go_simp;done)|(go_simp;rfl));intro gb222 hg w36 hbox hb;have BK222:=aM (hbox);have GW222:=aM (gW hg:w.heap.size≤gb222);have GE222:=aM (gW hg:w.heap.size≤gb222);have NB221_222:=aM (nL hg BK221:gb221≠gb222);have NB222_221:=aM (nG hg BK221:gb222≠gb221);replace BK221:=aM (kB BK221 hb);replace HB:=aM (below_step pB hb);clear hb hbox hg;have hnb37:=NB221_222.out;have hnc37:=NB222_221.out;obtain⟨hcz38_0,hcz38_1,hfz38_0,hfz38_1⟩:=bk2 BK221)|((with_reducible refine gate_callee (f:=15) rfl ?_);refine goesL_ (some 11) rfl rfl Try.func15 (by kernel_rfl) rfl #[.agg #[.int .i64 a0_0,.slice A0_1 l0_1.length c0_1]] rfl mA ?_;(with_reducible refine(Bzv.calls k a0_0 _ _ l0_1 t223 _ ?side1 ?side2 A3.out).mono ?_);(case side1=>exact cX (Kd.C_below HR0_1.out HB.out));(case side2=>exact HC0_1.out);rintro e w39 ⟨rfl,hb⟩;refine⟨_,rfl,?_⟩;replace BK221:=aM (kB BK221 hb);replace BK222:=aM (kB BK222 hb);replace HB:=aM (below_step pB hb);(try clear hb);(try clear hb2);(try clear hk);(try clear hi);obtain⟨hcz40_0,hcz40_1,hfz40_0,hfz40_1⟩:=bk2 BK222))
  refine bodyPost_ret (results_ctt rfl _ _ gb222 24 #[.int .i64 0,.slice none 0 0] (0,0) _ rfl (by refine bD ?_;refine blk_put (cs:=#[.int .i64 0,.slice none 0 0]) ?_ 1 _ rfl;refine bD ?_;refine blk_put (cs:=#[.int .i64 0,.slice none 0 0]) ?_ 0 _ rfl;(with_reducible repeat(first|refine blk_drewN ?_ _|refine blk_drew ?_|refine blk_alloc ?_ _));exact BK222.out) Try.underlying24 rfl (by kernel_rfl)) rfl ?_
  exact⟨_,_,eW,by first|exact Kd.R_nil _ _ _ _ _|exact Kd.N_nil _ _ _ _ _|exact Kd.V_nil _ _ _ _ _|exact Kd.Q_nil _ _ _ _ _|exact Kd.S_nil _ _ _ _ _,by first|exact Kd.R_nil _ _ _ _ _|exact Kd.N_nil _ _ _ _ _|exact Kd.V_nil _ _ _ _ _|exact Kd.Q_nil _ _ _ _ _|exact Kd.S_nil _ _ _ _ _,pB⟩

def Azx.l0:Nat→List Int→List Int→Int→Option (Bool)
 | 0,_,_,_=>none
 | k+1,x0,x1,x5=>if x5 < (x0.length:Int) then(if 0≤x5 then(if x5 < (x1.length:Int) then(if(rd x0 x5)=(rd x1 x5) then(Azx.l0 k x0 x1 (wrap64 (x5+1))) else(some false)) else(none)) else(none)) else(some true)
def Azx.f (k:Nat) (l0:List Int) (l1:List Int):Option (Bool):=if(l0.length:Int)=(l1.length:Int) then(Azx.l0 k l0 l1 0) else(some false)
theorem Azx.mono_l:∀ k,(∀ y0 y1 y2,LeO (Azx.l0 k y0 y1 y2) (Azx.l0 (k+1) y0 y1 y2))
 | 0=>fun _ _ _ r h=>by simp [Azx.l0] at h
 | k+1=>by
  have ih0:=Azx.mono_l k
  ·intro y0 y1 y2;unfold Azx.l0;with_reducible repeat' first|exact ih0 _ _ _|exact LeO.refl _|exact LeO.none _|refine LeO.ite ?_ ?_|refine LeO.bind ?_ (fun _=>?_)
theorem Azx.mono:∀ a0 a1 k,LeO (Azx.f k a0 a1) (Azx.f (k+1) a0 a1):=by
 intro a0 a1 k;have ih0:=Azx.mono_l k;unfold Azx.f;with_reducible repeat' first|exact ih0 _ _ _|exact LeO.refl _|exact LeO.none _|refine LeO.ite ?_ ?_|refine LeO.bind ?_ (fun _=>?_)
theorem Azx.calls (k:Nat) (A0:Option Addr) (c0:Nat) (l0:List Int) (A1:Option Addr) (c1:Nat) (l1:List Int) (r:Bool) (w:World) (hr0:Kd.C (Kd.int .i64) w A0 l0.length l0) (hc0:l0.length≤c0) (hr1:Kd.C (Kd.int .i64) w A1 l1.length l1) (hc1:l1.length≤c1) (h:Azx.f k l0 l1=some r) :
  Calls Try.prog 22 #[.slice A0 l0.length c0,.slice A1 l1.length c1] w fun e w'=>e=.returned (.bool r)∧Drawn0 w w':=by
 have HR0:=aM hr0;have HC0:=aM hc0;clear hr0 hc0;have HR1:=aM hr1;have HC1:=aM hc1;clear hr1 hc1;have H:(if(l0.length:Int)=(l1.length:Int) then(Azx.l0 k l0 l1 0) else(some false))=some r:=h
 clear h;by_cases c3:(l0.length:Int)=(l1.length:Int)
 ·rw[if_pos c3] at H;have c3b0:((l0.length:Int) == (l1.length:Int))=true:=beq_iff_eq.mpr c3;have c3b1:((l0.length:Int) != (l1.length:Int))=false:=bne_eq_false_iff_eq.mpr c3;have c3b2:(l0.length == l1.length)=true:=by first|simpa using c3|(simp at c3 ⊢;omega)
  clear c3;have H':=aM H;clear H;go_enter Try.func22,Try.ntmps22
  go_wp2
  repeat(go_quiet (fail);try go_wp2)
  go_loopg [5] k (fun kq v5 w'=>∃ (x5_1:Int),v5=.int .i64 x5_1∧Aside0 (Azx.l0 kq l0 l1 x5_1=some r)∧Aside0 (kq≤k)∧Drawn0 w w')
  case atStart=>exact⟨(0),sD,H',⟨Nat.le_refl _⟩,by repeat(first|exact Drawn0.refl _|apply Drawn0.step)⟩
  case round =>
   clear H';try clear c1
   try clear c2
   try clear p2
   try clear c3
   try clear c3b0
   try clear c3b1
   try clear c3b2
   obtain⟨x5_1,rfl,HA,HK1,⟨m1,rfl⟩⟩:=hrel;cases gk with
   | zero=>exact absurd HA.out (by simp [Azx.l0])
   | succ k1 =>
    have H:=HA.out;clear HA;simp only[Azx.l0] at H;by_cases c4:x5_1 < (l0.length:Int)
    ·rw[if_pos c4] at H;have c4b0:decide (x5_1 < (l0.length:Int))=true:=dE c4;clear c4;by_cases c5:0≤x5_1
     ·rw[if_pos c5] at H;have c5b0:decide (0≤x5_1)=true:=dE c5;clear c5;by_cases c6:x5_1 < (l1.length:Int)
      ·rw[if_pos c6] at H;have c6b0:decide (x5_1 < (l1.length:Int))=true:=dE c6;clear c6;by_cases c7:(rd l0 x5_1)=(rd l1 x5_1)
       ·rw[if_pos c7] at H;have c7b0:((rd l0 x5_1) == (rd l1 x5_1))=true:=beq_iff_eq.mpr c7;have c7b1:((rd l0 x5_1) != (rd l1 x5_1))=false:=bne_eq_false_iff_eq.mpr c7;clear c7;have H':=aM H;clear H;have p233:0≤(x5_1:Int):=oE aS
        have q233:x5_1 < (l0.length:Int):=oE aS
        obtain⟨ad233,e233,hx233_0⟩:=Kd.at_int HR0.out x5_1 p233 q233;cases e233
        replace p233:=eq_true p233;replace q233:=eq_true q233;have p234:0≤(x5_1:Int):=oE aS
        have q234:x5_1 < (l1.length:Int):=oE aS
        obtain⟨ad234,e234,hx234_0⟩:=Kd.at_int HR1.out x5_1 p234 q234;cases e234
        replace p234:=eq_true p234;replace q234:=eq_true q234;go_wp2
        repeat(go_quiet (fail);try go_wp2)
        go_roundg k1
        case measure=>have:=HK1.out;omega
        case rel=>exact⟨(wrap64 (x5_1+1)),sD,H',⟨by have:=HK1.out;omega⟩,by repeat(first|exact Drawn0.refl _|apply Drawn0.step)⟩
       ·rw[if_neg c7] at H;have c7b0:((rd l0 x5_1) == (rd l1 x5_1))=false:=beq_eq_false_iff_ne.mpr c7;have c7b1:((rd l0 x5_1) != (rd l1 x5_1))=true:=bne_iff_ne.mpr c7;obtain rfl:=Option.some.inj H;have p233:0≤(x5_1:Int):=oE aS
        have q233:x5_1 < (l0.length:Int):=oE aS
        obtain⟨ad233,e233,hx233_0⟩:=Kd.at_int HR0.out x5_1 p233 q233;cases e233
        replace p233:=eq_true p233;replace q233:=eq_true q233;have p234:0≤(x5_1:Int):=oE aS
        have q234:x5_1 < (l1.length:Int):=oE aS
        obtain⟨ad234,e234,hx234_0⟩:=Kd.at_int HR1.out x5_1 p234 q234;cases e234
        replace p234:=eq_true p234;replace q234:=eq_true q234;go_wp2
        repeat(go_quiet (fail);try go_wp2)
        go_ret
        exact⟨by first|rfl|(simp;done)|(simp [*];done),by repeat(first|exact Drawn0.refl _|apply Drawn0.step)⟩
      ·rw[if_neg c6] at H;exact absurd H (by simp)
     ·rw[if_neg c5] at H;exact absurd H (by simp)
    ·rw[if_neg c4] at H;have c4b0:decide (x5_1 < (l0.length:Int))=false:=decide_eq_false c4;clear c4;obtain rfl:=Option.some.inj H;go_wp2
     repeat(go_quiet (fail);try go_wp2)
     go_ret
     exact⟨by first|rfl|(simp;done)|(simp [*];done),by repeat(first|exact Drawn0.refl _|apply Drawn0.step)⟩
 ·rw[if_neg c3] at H;have c3b0:((l0.length:Int) == (l1.length:Int))=false:=beq_eq_false_iff_ne.mpr c3;have c3b1:((l0.length:Int) != (l1.length:Int))=true:=bne_iff_ne.mpr c3;have c3b2:(l0.length == l1.length)=false:=by first|simpa using c3|(simp at c3 ⊢;omega)
  obtain rfl:=Option.some.inj H;go_enter Try.func22,Try.ntmps22
  go_wp2
  repeat(go_quiet (fail);try go_wp2)
  go_ret
  exact⟨by first|rfl|(simp;done)|(simp [*];done),by repeat(first|exact Drawn0.refl _|apply Drawn0.step)⟩

end Go.Proofs.Ytpjcpgobdiahpaa.Print
