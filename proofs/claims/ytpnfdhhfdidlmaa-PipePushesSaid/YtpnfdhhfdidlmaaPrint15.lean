import Derived.Test.YtpnfdhhfdidlmaaPrint0
import Derived.Test.YtpnfdhhfdidlmaaPrint2
import Derived.Test.YtpnfdhhfdidlmaaPrint5
import Derived.Test.YtpnfdhhfdidlmaaPrint6
import Derived.Test.YtpnfdhhfdidlmaaPrint14
namespace Go.Proofs.Ytpnfdhhfdidlmaa.Print
open Go.RowKit Go.Proofs.YtpnfdhhfdidlmaaW.PrintWords Go.Proofs.YtpnfdhhfdidlmaaW.PrintLast Go.Proofs.YtpnfdhhfdidlmaaW.PrintMore
attribute [local go_sem] max2_int min2_int max_two min_two max_three min_three max_four min_four
set_option linter.unusedVariables false
set_option maxRecDepth 100000
set_option linter.unusedSimpArgs false

mutual
def Bzq.l0:Nat→List Int→List (List Int)→Int→Int→Int→Int→List (List Int)→List Int→Option (Int × (List (List Int)) × List Int × Int)
 | 0,_,_,_,_,_,_,_,_=>none
 | k+1,x1,x53,x54,x55,x226000,x227000,x227001,x231000=>if x55 < x54 then(if 0≤x55 then(if x55 < (x53.length:Int) then((Czk.f k (rd_L1 x53 x55)).bind fun t232=>(if x226000≥t232 then((Czp.f k (rd_L1 x53 x55) x231000 x226000).bind fun bt233=>(Bzq.l0 k x1 x53 x54 (wrap64 (x55+1)) bt233.1 x227000 x227001 bt233.2)) else((Dzv.f (rd_L1 x53 x55)).bind fun t235=>(if x226000 > 0 then((Bzp.f k x226000 (rd_L1 x53 x55)).bind fun bt238=>(if bt238.2=0 then((Czp.f k bt238.1 x231000 x226000).bind fun bt242=>(Bzq.l1 k x1 t235 x53 x54 x55 bt238.1 (bt238.1.length:Int) 0 bt242.1 x227000 x227001 bt242.2)) else(some (0,([]:List (List Int)),([]:List Int),bt238.2)))) else(if x227001.length < 5864062014805 then(Bzq.l0 k x1 x53 x54 (wrap64 (x55+1)) x226000 x227000 (x227001 ++ [t235]) x231000) else(none)))))) else(none)) else(none)) else((Czk.f k x1).bind fun t253=>(if t253 > 0 then((Dzv.f x1).bind fun t254=>(if x227001.length < 5864062014805 then((some (x227001 ++ [t254]:List (List Int))).bind fun y257=>(if(y257.length:Int) > 256 then(some (0,([]:List (List Int)),([]:List Int),8)) else(some (x227000,y257,x231000,0)))) else(none))) else(if(x227001.length:Int) > 256 then(some (0,([]:List (List Int)),([]:List Int),8)) else(some (x227000,x227001,x231000,0)))))
def Bzq.l1:Nat→List Int→List Int→List (List Int)→Int→Int→List Int→Int→Int→Int→Int→List (List Int)→List Int→Option (Int × (List (List Int)) × List Int × Int)
 | 0,_,_,_,_,_,_,_,_,_,_,_,_=>none
 | k+1,x1,x16,x53,x54,x55,x83,x84,x85,x226000,x227000,x227001,x231000=>if x85 < x84 then(if 0≤x85 then(if x85 < (x83.length:Int) then(if x85 < (x16.length:Int) then(Bzq.l1 k x1 (x16.set (x85:Int).toNat (wrap64 ((rd x16 x85) - (rd x83 x85)))) x53 x54 x55 x83 x84 (wrap64 (x85+1)) x226000 x227000 x227001 x231000) else(none)) else(none)) else(none)) else(if x227001.length < 5864062014805 then(Bzq.l0 k x1 x53 x54 (wrap64 (x55+1)) x226000 x227000 (x227001 ++ [x16]) x231000) else(none))
end
def Bzq.f (k:Nat) (a0_0:Int) (l0_1:List (List Int)) (l1:List Int):Option (Int × (List (List Int)) × List Int × Int):=(Bzb.f k a0_0 l0_1).bind fun t221=>(if t221=0 then(if 0 < (l0_1.length:Int) then((Czm.f k l1 ((rd_L1 l0_1 0).length:Int)).bind fun t223=>(if t223=0 then((Czk.f k l1).bind fun t224=>(if t224 > a0_0 then(some (0,([]:List (List Int)),([]:List Int),8)) else(if 0≤((rd_L1 l0_1 0).length:Int) then(if(((rd_L1 l0_1 0).length:Int):Int).toNat≤35184372088832 then(Bzq.l0 k l1 l0_1 (l0_1.length:Int) 0 t224 a0_0 ([]:List (List Int)) (List.replicate (((rd_L1 l0_1 0).length:Int):Int).toNat 0)) else(none)) else(none)))) else(some (0,([]:List (List Int)),([]:List Int),t223)))) else(none)) else(some (0,([]:List (List Int)),([]:List Int),t221)))
theorem Bzq.mono_l:∀ k,(∀ y0 y1 y2 y3 y4 y5 y6 y7,LeO (Bzq.l0 k y0 y1 y2 y3 y4 y5 y6 y7) (Bzq.l0 (k+1) y0 y1 y2 y3 y4 y5 y6 y7))∧(∀ y0 y1 y2 y3 y4 y5 y6 y7 y8 y9 y10 y11,LeO (Bzq.l1 k y0 y1 y2 y3 y4 y5 y6 y7 y8 y9 y10 y11) (Bzq.l1 (k+1) y0 y1 y2 y3 y4 y5 y6 y7 y8 y9 y10 y11))
 | 0=>⟨fun _ _ _ _ _ _ _ _ r h=>by simp [Bzq.l0] at h,fun _ _ _ _ _ _ _ _ _ _ _ _ r h=>by simp [Bzq.l1] at h⟩
 | k+1=>by
  obtain⟨ih0,ih1⟩:=Bzq.mono_l k;refine⟨?_,?_⟩
  ·intro y0 y1 y2 y3 y4 y5 y6 y7;unfold Bzq.l0;with_reducible repeat' first|exact ih0 _ _ _ _ _ _ _ _|exact ih1 _ _ _ _ _ _ _ _ _ _ _ _|exact Czm.mono _ _ _|exact Bzb.mono _ _ _|exact Czp.mono _ _ _ _|exact Czk.mono _ _|exact Bzp.mono _ _ _|exact LeO.refl _|exact LeO.none _|refine LeO.ite ?_ ?_|refine LeO.bind ?_ (fun _=>?_)
  ·intro y0 y1 y2 y3 y4 y5 y6 y7 y8 y9 y10 y11;unfold Bzq.l1;with_reducible repeat' first|exact ih0 _ _ _ _ _ _ _ _|exact ih1 _ _ _ _ _ _ _ _ _ _ _ _|exact Czm.mono _ _ _|exact Bzb.mono _ _ _|exact Czp.mono _ _ _ _|exact Czk.mono _ _|exact Bzp.mono _ _ _|exact LeO.refl _|exact LeO.none _|refine LeO.ite ?_ ?_|refine LeO.bind ?_ (fun _=>?_)
theorem Bzq.mono:∀ a0 a1 a2 k,LeO (Bzq.f k a0 a1 a2) (Bzq.f (k+1) a0 a1 a2):=by
 intro a0 a1 a2 k;obtain⟨ih0,ih1⟩:=Bzq.mono_l k;unfold Bzq.f;with_reducible repeat' first|exact ih0 _ _ _ _ _ _ _ _|exact ih1 _ _ _ _ _ _ _ _ _ _ _ _|exact Czm.mono _ _ _|exact Bzb.mono _ _ _|exact Czp.mono _ _ _ _|exact Czk.mono _ _|exact Bzp.mono _ _ _|exact LeO.refl _|exact LeO.none _|refine LeO.ite ?_ ?_|refine LeO.bind ?_ (fun _=>?_)
def Bzq.T33:Bool × List (List Nat × List Nat):=(true,[([],[]),([0],[0]),([],[]),([2],[2]),([3],[3]),([1,4,3],[1,4]),([0,1,2,3,4,5],[]),([6,5,5,0,1,2,3,4,5],[5,6])])
def Bzq.B33:List Nat:=[0,1,0,4,12,31,63,127]
theorem Bzq.tab33:rtab .any (opsOf Try.f18 33)=Bzq.T33:=by kernel_rfl
theorem Bzq.bits33:waitsOk Bzq.T33.2 Bzq.B33=true:=by kernel_rfl
set_option maxHeartbeats 64000000 in
theorem Bzq.calls (k:Nat) (a0_0:Int) (A0_1:Option Addr) (c0_1:Nat) (l0_1:List (List Int)) (A1:Option Addr) (c1:Nat) (l1:List Int) (r1:Int) (r2:List (List Int)) (r3:List Int) (r4:Int) (w:World) (hr0_1:Kd.C (Kd.slice 3 (Kd.int .i64)) w A0_1 l0_1.length l0_1) (hc0_1:l0_1.length≤c0_1) (hr1:Kd.C (Kd.int .i64) w A1 l1.length l1) (hc1:l1.length≤c1) (h:Bzq.f k a0_0 l0_1 l1=some (r1,r2,r3,r4)) :
  Calls Try.prog 18 #[.agg #[.int .i64 a0_0,.slice A0_1 l0_1.length c0_1],.slice A1 l1.length c1] w fun e w'=>∃ v1_ v2_:Value,e=.returned (.tuple #[.agg #[.int .i64 r1,v1_],v2_,.int .i64 r4])∧Kd.S (Kd.slice 3 (Kd.int .i64)) 29 w' w.heap.size (fun k_=>some k_≠(v2_:Value).ownBlock) v1_ r2∧Kd.R (Kd.int .i64) 3 w' w.heap.size (fun _=>True) v2_ r3∧Below w.heap.size w w':=by
 have hu24:=Try.underlying24;have HR0_1:=aM hr0_1;have HC0_1:=aM hc0_1;clear hr0_1 hc0_1;have HR1:=aM hr1;have HC1:=aM hc1;clear hr1 hc1;have HB:=aM (Below.refl w.heap.size w);have H:((Bzb.f k a0_0 l0_1).bind fun t221=>(if t221=0 then(if 0 < (l0_1.length:Int) then((Czm.f k l1 ((rd_L1 l0_1 0).length:Int)).bind fun t223=>(if t223=0 then((Czk.f k l1).bind fun t224=>(if t224 > a0_0 then(some (0,([]:List (List Int)),([]:List Int),8)) else(if 0≤((rd_L1 l0_1 0).length:Int) then(if(((rd_L1 l0_1 0).length:Int):Int).toNat≤35184372088832 then(Bzq.l0 k l1 l0_1 (l0_1.length:Int) 0 t224 a0_0 ([]:List (List Int)) (List.replicate (((rd_L1 l0_1 0).length:Int):Int).toNat 0)) else(none)) else(none)))) else(some (0,([]:List (List Int)),([]:List Int),t223)))) else(none)) else(some (0,([]:List (List Int)),([]:List Int),t221))))=some (r1,r2,r3,r4):=h
 clear h;replace H:=bS H;obtain⟨t221,A30,H⟩:=H;try dsimp only at H
 have A3:=aM A30;clear A30;by_cases c4:t221=0
 ·rw[if_pos c4] at H;have c4b0:(t221 == 0)=true:=beq_iff_eq.mpr c4;have c4b1:(t221 != 0)=false:=bne_eq_false_iff_eq.mpr c4;clear c4;by_cases c5:0 < (l0_1.length:Int)
  ·rw[if_pos c5] at H;have c5b0:decide (0 < (l0_1.length:Int))=true:=dE c5;have c5b1:decide (0 < l0_1.length)=true:=dE (by omega)
   clear c5;replace H:=bS H;obtain⟨t223,A60,H⟩:=H;try dsimp only at H
   have A6:=aM A60;clear A60;by_cases c7:t223=0
   ·rw[if_pos c7] at H;have c7b0:(t223 == 0)=true:=beq_iff_eq.mpr c7;have c7b1:(t223 != 0)=false:=bne_eq_false_iff_eq.mpr c7;clear c7;replace H:=bS H;obtain⟨t224,A80,H⟩:=H;try dsimp only at H
    have A8:=aM A80;clear A80;by_cases c9:t224 > a0_0
    ·rw[if_pos c9] at H;have c9b0:decide (a0_0 < t224)=true:=dE c9;clear c9;simp only[Option.some.injEq,Prod.mk.injEq] at H;obtain⟨rfl,rfl,rfl,rfl⟩:=H;have hmf_:∀ (fn:Fn) (first cap:Array Value) (w:World),(Instr.makeFunc fn first cap).run Try.prog w=.ok (.func fn first cap) w:=fun _ _ _ _=>rfl
     go_enter Try.func18,Try.ntmps18
     go_wp2_with (first|((with_reducible refine gate_dst (N:=2) rfl ?_);refine box_event ?hg (N:=2) ?hd (cs:=#[.int .i64 a0_0,.slice A0_1 l0_1.length c0_1]) (t:=24) ?hr ?_;(case hd=>rfl);(case hg=>rfl);(case hr=>first|(go_simp;done)|(go_simp;rfl));intro gb219 hg w10 hbox hb;have BK219:=aM (hbox);have GW219:=aM (gW hg:w.heap.size≤gb219);have GE219:=aM (gW hg:w.heap.size≤gb219);replace HB:=aM (below_step pB hb);clear hb hbox hg)|((with_reducible refine gate_dst (N:=4) rfl ?_);refine box_event ?hg (N:=4) ?hd (cs:=#[.int .i64 0,.slice none 0 0]) (t:=24) ?hr ?_;(case hd=>rfl);(case hg=>rfl);(case hr=>first|(go_simp;done)|(go_simp;rfl));intro gb220 hg w11 hbox hb;have BK220:=aM (hbox);have GW220:=aM (gW hg:w.heap.size≤gb220);have GE220:=aM (gW hg:w.heap.size≤gb220);have NB219_220:=aM (nL hg BK219:gb219≠gb220);have NB220_219:=aM (nG hg BK219:gb220≠gb219);replace BK219:=aM (kB BK219 hb);replace HB:=aM (below_step pB hb);clear hb hbox hg;have hnb12:=NB219_220.out;have hnc12:=NB220_219.out;obtain⟨hcz13_0,hcz13_1,hfz13_0,hfz13_1⟩:=bk2 BK219)|((with_reducible refine gate_callee (f:=13) rfl ?_);refine goesL_ (some 22) rfl rfl Try.func13 (by kernel_rfl) rfl #[.agg #[.int .i64 a0_0,.slice A0_1 l0_1.length c0_1]] rfl mA ?_;(with_reducible refine(Bzb.calls k a0_0 _ _ l0_1 t221 _ ?side1 ?side2 A3.out).mono ?_);(case side1=>exact cX (Kd.C_below HR0_1.out HB.out));(case side2=>exact HC0_1.out);rintro e w14 ⟨rfl,hb⟩;refine⟨_,rfl,?_⟩;replace BK219:=aM (kB BK219 hb);replace BK220:=aM (kB BK220 hb);replace HB:=aM (below_step pB hb);(try clear hb);(try clear hb2);(try clear hk);(try clear hi);obtain⟨hcz15_0,hcz15_1,hfz15_0,hfz15_1⟩:=bk2 BK219;have p222:0≤(0:Int):=(by omega);have q222:0 < (l0_1.length:Int):=oE aS;obtain⟨ad222,A222_0,c222_0,e222,hx222_0,hl222_0,hi222_0⟩:=at_L1 HR0_1.out 0 p222 q222;cases e222;have qi222:(0 < l0_1.length)=True:=eq_true (by omega);(try rw[show((0:Int)).toNat=0 from rfl] at hx222_0);(try rw[Addr.add_zero'] at hx222_0);replace hx222_0:=(HB.out.cell (World.block_lt_of_cell? w _ hx222_0)).trans hx222_0;have HR222_0:=aM hi222_0;have HC222_0:=aM hl222_0;clear hi222_0 hl222_0;replace p222:=eq_true p222;replace q222:=eq_true q222)|((with_reducible refine gate_callee (f:=26) rfl ?_);refine goesL_ (some 34) rfl rfl Try.func26 (by kernel_rfl) rfl #[.slice A1 l1.length c1,.int .i64 ((rd_L1 l0_1 0).length:Int)] rfl mA ?_;(with_reducible refine(Czm.calls k _ _ l1 ((rd_L1 l0_1 0).length:Int) t223 _ ?side1 ?side2 A6.out).mono ?_);(case side1=>exact cX (Kd.C_below HR1.out HB.out));(case side2=>exact HC1.out);rintro e w16 ⟨rfl,hb⟩;refine⟨_,rfl,?_⟩;replace BK219:=aM (kB BK219 hb);replace BK220:=aM (kB BK220 hb);replace HB:=aM (below_step pB hb);(try clear hb);(try clear hb2);(try clear hk);(try clear hi))|((with_reducible refine gate_callee (f:=27) rfl ?_);refine goesL_ (some 40) rfl rfl Try.func27 (by kernel_rfl) rfl #[.slice A1 l1.length c1] rfl mA ?_;(with_reducible refine(Czk.calls k _ _ l1 t224 _ ?side1 ?side2 A8.out).mono ?_);(case side1=>exact cX (Kd.C_below HR1.out HB.out));(case side2=>exact HC1.out);rintro e w' ⟨rfl,⟨nd,rfl⟩⟩;refine⟨_,rfl,?_⟩;(try(rw[drewN_self w16];generalize hq_:World.drewN w16 _=w16;have n0_:Aside0 (w16.heap[gb219]?=some (.cells #[.int .i64 a0_0,.slice (some ad222) l0_1.length c0_1] 24 (0,0))):=⟨by rw[← hq_];exact(kW BK219)⟩;have n1_:Aside0 (w16.heap[gb220]?=some (.cells #[.int .i64 0,.slice none 0 0] 24 (0,0))):=⟨by rw[← hq_];exact(kW BK220)⟩;have n2_:Aside0 (Below w.heap.size w w16):=⟨by rw[← hq_];exact pB⟩;clear BK219 BK220 HB hq_;have BK219:=n0_;have BK220:=n1_;have HB:=n2_;clear n0_ n1_ n2_;have hcqgb219_0:w16.cell? ⟨gb219,0,none⟩=some (.int .i64 a0_0):=(blk_cell BK219.out 0).trans rfl;have hfqgb219_0:=blk_frozen BK219.out 0;have hcqgb219_1:w16.cell? ⟨gb219,1,none⟩=some (.slice (some ad222) l0_1.length c0_1):=(blk_cell BK219.out 1).trans rfl;have hfqgb219_1:=blk_frozen BK219.out 1;have hcqgb220_0:w16.cell? ⟨gb220,0,none⟩=some (.int .i64 0):=(blk_cell BK220.out 0).trans rfl;have hfqgb220_0:=blk_frozen BK220.out 0;have hcqgb220_1:w16.cell? ⟨gb220,1,none⟩=some (.slice none 0 0):=(blk_cell BK220.out 1).trans rfl;have hfqgb220_1:=blk_frozen BK220.out 1)))|((with_reducible refine gate_dst (N:=10) rfl ?_);refine box_event ?hg (N:=10) ?hd (cs:=#[.int .i64 0]) (t:=3) ?hr ?_;(case hd=>rfl);(case hg=>rfl);(case hr=>first|(go_simp;done)|(go_simp;rfl));intro gb225 hg w17 hbox hb;have BK225:=aM (hbox);have GW225:=aM (gW hg:w.heap.size≤gb225);have GE225:=aM (gW hg:w.heap.size≤gb225);have NB219_225:=aM (nL hg BK219:gb219≠gb225);have NB225_219:=aM (nG hg BK219:gb225≠gb219);have NB220_225:=aM (nL hg BK220:gb220≠gb225);have NB225_220:=aM (nG hg BK220:gb225≠gb220);replace BK219:=aM (kB BK219 hb);replace BK220:=aM (kB BK220 hb);replace HB:=aM (below_step pB hb);clear hb hbox hg;have hnb18:=NB225_219.out;have hnc18:=NB219_225.out;have hnb19:=NB225_220.out;have hnc19:=NB220_225.out;obtain⟨hcz20_0,hfz20_0⟩:=bk1 BK225;obtain⟨hcz21_0,hcz21_1,hfz21_0,hfz21_1⟩:=bk2 BK219;obtain⟨hcz22_0,hcz22_1,hfz22_0,hfz22_1⟩:=bk2 BK220))
     refine bodyPost_ret (results_ctt rfl _ _ gb220 24 #[.int .i64 0,.slice none 0 0] (0,0) _ rfl (by refine bD ?_;refine blk_put (cs:=#[.int .i64 0,.slice none 0 0]) ?_ 1 _ rfl;refine bD ?_;refine blk_put (cs:=#[.int .i64 0,.slice none 0 0]) ?_ 0 _ rfl;refine bD ?_;refine blk_far ?_ NB220_225.out _;(with_reducible repeat(first|refine blk_drewN ?_ _|refine blk_drew ?_|refine blk_alloc ?_ _));exact BK220.out) Try.underlying24 rfl (by kernel_rfl)) rfl ?_
     exact⟨_,_,eW,by first|exact Kd.S_nil _ _ _ _ _|exact Kd.N_nil _ _ _ _ _|exact Kd.V_nil _ _ _ _ _|exact Kd.Q_nil _ _ _ _ _|exact Kd.R_nil _ _ _ _ _,by first|exact Kd.R_nil _ _ _ _ _|exact Kd.N_nil _ _ _ _ _|exact Kd.V_nil _ _ _ _ _|exact Kd.Q_nil _ _ _ _ _|exact Kd.S_nil _ _ _ _ _,pB⟩
    ·rw[if_neg c9] at H;have c9b0:decide (a0_0 < t224)=false:=decide_eq_false c9;clear c9;by_cases c23:0≤((rd_L1 l0_1 0).length:Int)
     ·rw[if_pos c23] at H;have c23b0:=eq_true c23;have c23b1:decide (0≤((rd_L1 l0_1 0).length:Int))=true:=dE c23;clear c23;by_cases c24:(((rd_L1 l0_1 0).length:Int):Int).toNat≤35184372088832
      ·rw[if_pos c24] at H;have c24b0:=eq_true c24;have c24b1:decide ((((rd_L1 l0_1 0).length:Int):Int).toNat≤35184372088832)=true:=dE c24;clear c24;obtain⟨y227,hy227⟩:∃ y_:List Int,y_=(List.replicate (((rd_L1 l0_1 0).length:Int):Int).toNat 0):=⟨_,rfl⟩;replace H:(Bzq.l0 k l1 l0_1 (l0_1.length:Int) 0 t224 a0_0 ([]:List (List Int)) y227)=some (r1,r2,r3,r4):=by first|(rw[hy227];with_reducible exact H)|(have H2_:=(Option.bind_some _ _).symm.trans H;rw[hy227];with_reducible exact H2_)|(have H2_:=(Option.bind_some _ _).symm.trans H;with_reducible exact H2_)|with_reducible exact H|(rw[hy227];exact H)|exact H
       have Ny227:=aM hy227;clear hy227;have H':=aM H;clear H;have hmf_:∀ (fn:Fn) (first cap:Array Value) (w:World),(Instr.makeFunc fn first cap).run Try.prog w=.ok (.func fn first cap) w:=fun _ _ _ _=>rfl
       go_enter Try.func18,Try.ntmps18
       go_wp2_with (first|((with_reducible refine gate_dst (N:=2) rfl ?_);refine box_event ?hg (N:=2) ?hd (cs:=#[.int .i64 a0_0,.slice A0_1 l0_1.length c0_1]) (t:=24) ?hr ?_;(case hd=>rfl);(case hg=>rfl);(case hr=>first|(go_simp;done)|(go_simp;rfl));intro gb219 hg w25 hbox hb;have BK219:=aM (hbox);have GW219:=aM (gW hg:w.heap.size≤gb219);have GE219:=aM (gW hg:w.heap.size≤gb219);replace HB:=aM (below_step pB hb);clear hb hbox hg)|((with_reducible refine gate_dst (N:=4) rfl ?_);refine box_event ?hg (N:=4) ?hd (cs:=#[.int .i64 0,.slice none 0 0]) (t:=24) ?hr ?_;(case hd=>rfl);(case hg=>rfl);(case hr=>first|(go_simp;done)|(go_simp;rfl));intro gb220 hg w26 hbox hb;have BK220:=aM (hbox);have GW220:=aM (gW hg:w.heap.size≤gb220);have GE220:=aM (gW hg:w.heap.size≤gb220);have NB219_220:=aM (nL hg BK219:gb219≠gb220);have NB220_219:=aM (nG hg BK219:gb220≠gb219);replace BK219:=aM (kB BK219 hb);replace HB:=aM (below_step pB hb);clear hb hbox hg;have hnb27:=NB219_220.out;have hnc27:=NB220_219.out;obtain⟨hcz28_0,hcz28_1,hfz28_0,hfz28_1⟩:=bk2 BK219)|((with_reducible refine gate_callee (f:=13) rfl ?_);refine goesL_ (some 22) rfl rfl Try.func13 (by kernel_rfl) rfl #[.agg #[.int .i64 a0_0,.slice A0_1 l0_1.length c0_1]] rfl mA ?_;(with_reducible refine(Bzb.calls k a0_0 _ _ l0_1 t221 _ ?side1 ?side2 A3.out).mono ?_);(case side1=>exact cX (Kd.C_below HR0_1.out HB.out));(case side2=>exact HC0_1.out);rintro e w29 ⟨rfl,hb⟩;refine⟨_,rfl,?_⟩;replace BK219:=aM (kB BK219 hb);replace BK220:=aM (kB BK220 hb);replace HB:=aM (below_step pB hb);(try clear hb);(try clear hb2);(try clear hk);(try clear hi);obtain⟨hcz30_0,hcz30_1,hfz30_0,hfz30_1⟩:=bk2 BK219;have p222:0≤(0:Int):=(by omega);have q222:0 < (l0_1.length:Int):=oE aS;obtain⟨ad222,A222_0,c222_0,e222,hx222_0,hl222_0,hi222_0⟩:=at_L1 HR0_1.out 0 p222 q222;cases e222;have qi222:(0 < l0_1.length)=True:=eq_true (by omega);(try rw[show((0:Int)).toNat=0 from rfl] at hx222_0);(try rw[Addr.add_zero'] at hx222_0);replace hx222_0:=(HB.out.cell (World.block_lt_of_cell? w _ hx222_0)).trans hx222_0;have HR222_0:=aM hi222_0;have HC222_0:=aM hl222_0;clear hi222_0 hl222_0;replace p222:=eq_true p222;replace q222:=eq_true q222)|((with_reducible refine gate_callee (f:=26) rfl ?_);refine goesL_ (some 34) rfl rfl Try.func26 (by kernel_rfl) rfl #[.slice A1 l1.length c1,.int .i64 ((rd_L1 l0_1 0).length:Int)] rfl mA ?_;(with_reducible refine(Czm.calls k _ _ l1 ((rd_L1 l0_1 0).length:Int) t223 _ ?side1 ?side2 A6.out).mono ?_);(case side1=>exact cX (Kd.C_below HR1.out HB.out));(case side2=>exact HC1.out);rintro e w31 ⟨rfl,hb⟩;refine⟨_,rfl,?_⟩;replace BK219:=aM (kB BK219 hb);replace BK220:=aM (kB BK220 hb);replace HB:=aM (below_step pB hb);(try clear hb);(try clear hb2);(try clear hk);(try clear hi))|((with_reducible refine gate_callee (f:=27) rfl ?_);refine goesL_ (some 40) rfl rfl Try.func27 (by kernel_rfl) rfl #[.slice A1 l1.length c1] rfl mA ?_;(with_reducible refine(Czk.calls k _ _ l1 t224 _ ?side1 ?side2 A8.out).mono ?_);(case side1=>exact cX (Kd.C_below HR1.out HB.out));(case side2=>exact HC1.out);rintro e w' ⟨rfl,⟨nd,rfl⟩⟩;refine⟨_,rfl,?_⟩;(try(rw[drewN_self w31];generalize hq_:World.drewN w31 _=w31;have n0_:Aside0 (w31.heap[gb219]?=some (.cells #[.int .i64 a0_0,.slice (some ad222) l0_1.length c0_1] 24 (0,0))):=⟨by rw[← hq_];exact(kW BK219)⟩;have n1_:Aside0 (w31.heap[gb220]?=some (.cells #[.int .i64 0,.slice none 0 0] 24 (0,0))):=⟨by rw[← hq_];exact(kW BK220)⟩;have n2_:Aside0 (Below w.heap.size w w31):=⟨by rw[← hq_];exact pB⟩;clear BK219 BK220 HB hq_;have BK219:=n0_;have BK220:=n1_;have HB:=n2_;clear n0_ n1_ n2_;have hcqgb219_0:w31.cell? ⟨gb219,0,none⟩=some (.int .i64 a0_0):=(blk_cell BK219.out 0).trans rfl;have hfqgb219_0:=blk_frozen BK219.out 0;have hcqgb219_1:w31.cell? ⟨gb219,1,none⟩=some (.slice (some ad222) l0_1.length c0_1):=(blk_cell BK219.out 1).trans rfl;have hfqgb219_1:=blk_frozen BK219.out 1;have hcqgb220_0:w31.cell? ⟨gb220,0,none⟩=some (.int .i64 0):=(blk_cell BK220.out 0).trans rfl;have hfqgb220_0:=blk_frozen BK220.out 0;have hcqgb220_1:w31.cell? ⟨gb220,1,none⟩=some (.slice none 0 0):=(blk_cell BK220.out 1).trans rfl;have hfqgb220_1:=blk_frozen BK220.out 1)))|((with_reducible refine gate_dst (N:=10) rfl ?_);refine box_event ?hg (N:=10) ?hd (cs:=#[.int .i64 0]) (t:=3) ?hr ?_;(case hd=>rfl);(case hg=>rfl);(case hr=>first|(go_simp;done)|(go_simp;rfl));intro gb225 hg w32 hbox hb;have BK225:=aM (hbox);have GW225:=aM (gW hg:w.heap.size≤gb225);have GE225:=aM (gW hg:w.heap.size≤gb225);have NB219_225:=aM (nL hg BK219:gb219≠gb225);have NB225_219:=aM (nG hg BK219:gb225≠gb219);have NB220_225:=aM (nL hg BK220:gb220≠gb225);have NB225_220:=aM (nG hg BK220:gb225≠gb220);replace BK219:=aM (kB BK219 hb);replace BK220:=aM (kB BK220 hb);replace HB:=aM (below_step pB hb);clear hb hbox hg;have hnb33:=NB225_219.out;have hnc33:=NB219_225.out;have hnb34:=NB225_220.out;have hnc34:=NB220_225.out;obtain⟨hcz35_0,hfz35_0⟩:=bk1 BK225;obtain⟨hcz36_0,hcz36_1,hfz36_0,hfz36_1⟩:=bk2 BK219)|((with_reducible refine gate_dst (N:=11) rfl ?_);refine box_event ?hg (N:=11) ?hd (cs:=#[.int .i64 0,.slice none 0 0]) (t:=24) ?hr ?_;(case hd=>rfl);(case hg=>rfl);(case hr=>first|(go_simp;done)|(go_simp;rfl));intro gb226 hg w37 hbox hb;have BK226:=aM (hbox);have GW226:=aM (gW hg:w.heap.size≤gb226);have GE226:=aM (gW hg:w.heap.size≤gb226);have NB219_226:=aM ((by rw[hg];exact Nat.ne_of_lt (blk_lt (g:=gb219) (o:=.cells #[.int .i64 a0_0,.slice (some ad222) l0_1.length c0_1] 24 (0,0)) (by refine bD ?_;refine blk_far ?_ NB219_225.out _;(with_reducible repeat(first|refine blk_drewN ?_ _|refine blk_drew ?_|refine blk_alloc ?_ _));exact BK219.out)):gb219≠gb226));have NB226_219:=aM ((by rw[hg];exact Nat.ne_of_gt (blk_lt (g:=gb219) (o:=.cells #[.int .i64 a0_0,.slice (some ad222) l0_1.length c0_1] 24 (0,0)) (by refine bD ?_;refine blk_far ?_ NB219_225.out _;(with_reducible repeat(first|refine blk_drewN ?_ _|refine blk_drew ?_|refine blk_alloc ?_ _));exact BK219.out)):gb226≠gb219));have NB220_226:=aM ((by rw[hg];exact Nat.ne_of_lt (blk_lt (g:=gb220) (o:=.cells #[.int .i64 0,.slice none 0 0] 24 (0,0)) (by refine bD ?_;refine blk_far ?_ NB220_225.out _;(with_reducible repeat(first|refine blk_drewN ?_ _|refine blk_drew ?_|refine blk_alloc ?_ _));exact BK220.out)):gb220≠gb226));have NB226_220:=aM ((by rw[hg];exact Nat.ne_of_gt (blk_lt (g:=gb220) (o:=.cells #[.int .i64 0,.slice none 0 0] 24 (0,0)) (by refine bD ?_;refine blk_far ?_ NB220_225.out _;(with_reducible repeat(first|refine blk_drewN ?_ _|refine blk_drew ?_|refine blk_alloc ?_ _));exact BK220.out)):gb226≠gb220));have NB225_226:=aM ((by rw[hg];exact Nat.ne_of_lt (blk_lt (g:=gb225) (o:=.cells #[.int .i64 t224] 3 (0,0)) (by refine bD ?_;refine blk_put (cs:=#[.int .i64 0]) ?_ 0 _ rfl;(with_reducible repeat(first|refine blk_drewN ?_ _|refine blk_drew ?_|refine blk_alloc ?_ _));exact BK225.out)):gb225≠gb226));have NB226_225:=aM ((by rw[hg];exact Nat.ne_of_gt (blk_lt (g:=gb225) (o:=.cells #[.int .i64 t224] 3 (0,0)) (by refine bD ?_;refine blk_put (cs:=#[.int .i64 0]) ?_ 0 _ rfl;(with_reducible repeat(first|refine blk_drewN ?_ _|refine blk_drew ?_|refine blk_alloc ?_ _));exact BK225.out)):gb226≠gb225));replace BK219:=aM (blk_below (g:=gb219) (o:=.cells #[.int .i64 a0_0,.slice (some ad222) l0_1.length c0_1] 24 (0,0)) (by refine bD ?_;refine blk_far ?_ NB219_225.out _;(with_reducible repeat(first|refine blk_drewN ?_ _|refine blk_drew ?_|refine blk_alloc ?_ _));exact BK219.out) hb);replace BK220:=aM (blk_below (g:=gb220) (o:=.cells #[.int .i64 0,.slice none 0 0] 24 (0,0)) (by refine bD ?_;refine blk_far ?_ NB220_225.out _;(with_reducible repeat(first|refine blk_drewN ?_ _|refine blk_drew ?_|refine blk_alloc ?_ _));exact BK220.out) hb);replace BK225:=aM (blk_below (g:=gb225) (o:=.cells #[.int .i64 t224] 3 (0,0)) (by refine bD ?_;refine blk_put (cs:=#[.int .i64 0]) ?_ 0 _ rfl;(with_reducible repeat(first|refine blk_drewN ?_ _|refine blk_drew ?_|refine blk_alloc ?_ _));exact BK225.out) hb);replace HB:=aM (below_step pB hb);clear hb hbox hg;have hnb38:=NB226_219.out;have hnc38:=NB219_226.out;have hnb39:=NB226_220.out;have hnc39:=NB220_226.out;have hnb40:=NB226_225.out;have hnc40:=NB225_226.out;obtain⟨hcz41_0,hcz41_1,hfz41_0,hfz41_1⟩:=bk2 BK226)|((with_reducible refine gate_dst (N:=50) rfl ?_);refine Kd.R_make (Kd.int .i64) _ 3 rfl (N:=50) rfl 29 _ _ rfl ((rd_L1 l0_1 0).length:Int) rfl rfl Try.underlying29 (.int .i64 0) 8 info3 rfl (by decide) (by omega) 0 (ok:=fun _=>True) (okp:=fun _=>True) rfl (fun _ hk=>hk) trivial (oE aS) (Nat.le_trans (Nat.mul_le_mul_right _ (oE aS:((rd_L1 l0_1 0).length:Int).toNat≤35184372088832)) (by omega)) (Below.refl _ _) (Nat.le_refl _) ?_;intro v228 w42 ho43 hb hg_ hnew_;clear hg_ hnew_;(first|rw[← Ny227.out] at ho43|(simp only[Int.reduceToNat] at ho43;rw[← Ny227.out] at ho43));have HO229:=aM (Kd.R_lower (Kd.R_newB ho43 (g:=gb225) (o:=.cells #[.int .i64 t224] 3 (0,0)) (by refine bD ?_;refine blk_far ?_ NB225_226.out _;refine bD ?_;refine blk_far ?_ NB225_226.out _;(with_reducible repeat(first|refine blk_drewN ?_ _|refine blk_drew ?_|refine blk_alloc ?_ _));exact BK225.out)) (below_size pB));replace BK219:=aM (blk_below (g:=gb219) (o:=.cells #[.int .i64 a0_0,.slice (some ad222) l0_1.length c0_1] 24 (0,0)) (by refine bD ?_;refine blk_far ?_ NB219_226.out _;refine bD ?_;refine blk_far ?_ NB219_226.out _;(with_reducible repeat(first|refine blk_drewN ?_ _|refine blk_drew ?_|refine blk_alloc ?_ _));exact BK219.out) hb);replace BK220:=aM (blk_below (g:=gb220) (o:=.cells #[.int .i64 0,.slice none 0 0] 24 (0,0)) (by refine bD ?_;refine blk_far ?_ NB220_226.out _;refine bD ?_;refine blk_far ?_ NB220_226.out _;(with_reducible repeat(first|refine blk_drewN ?_ _|refine blk_drew ?_|refine blk_alloc ?_ _));exact BK220.out) hb);replace BK225:=aM (blk_below (g:=gb225) (o:=.cells #[.int .i64 t224] 3 (0,0)) (by refine bD ?_;refine blk_far ?_ NB225_226.out _;refine bD ?_;refine blk_far ?_ NB225_226.out _;(with_reducible repeat(first|refine blk_drewN ?_ _|refine blk_drew ?_|refine blk_alloc ?_ _));exact BK225.out) hb);replace BK226:=aM (blk_below (g:=gb226) (o:=.cells #[.int .i64 a0_0,.slice none 0 0] 24 (0,0)) (by refine bD ?_;refine blk_put (cs:=#[.int .i64 a0_0,.slice none 0 0]) ?_ 1 _ rfl;refine bD ?_;refine blk_put (cs:=#[.int .i64 0,.slice none 0 0]) ?_ 0 _ rfl;(with_reducible repeat(first|refine blk_drewN ?_ _|refine blk_drew ?_|refine blk_alloc ?_ _));exact BK226.out) hb);replace HB:=aM (below_step pB hb);clear hb ho43)|((with_reducible refine gate_dst (N:=12) rfl ?_);refine box_event ?hg (N:=12) ?hd (cs:=#[.slice none 0 0]) (t:=29) ?hr ?_;(case hd=>rfl);(case hg=>rfl);(case hr=>first|(go_simp;done)|(go_simp;rfl));intro gb230 hg w44 hbox hb;have BK230:=aM (hbox);have GW230:=aM (gW hg:w.heap.size≤gb230);have GE230:=aM (gW hg:w.heap.size≤gb230);have NB219_230:=aM (nL hg BK219:gb219≠gb230);have NB230_219:=aM (nG hg BK219:gb230≠gb219);have NB220_230:=aM (nL hg BK220:gb220≠gb230);have NB230_220:=aM (nG hg BK220:gb230≠gb220);have NB225_230:=aM (nL hg BK225:gb225≠gb230);have NB230_225:=aM (nG hg BK225:gb230≠gb225);have NB226_230:=aM (nL hg BK226:gb226≠gb230);have NB230_226:=aM (nG hg BK226:gb230≠gb226);replace HO229:=aM (Kd.R_below (rX HO229.out) hb);replace BK219:=aM (kB BK219 hb);replace BK220:=aM (kB BK220 hb);replace BK225:=aM (kB BK225 hb);replace BK226:=aM (kB BK226 hb);replace HB:=aM (below_step pB hb);clear hb hbox hg;obtain⟨Ao45,co45,eo45⟩:=Kd.R_slice HO229.out;subst eo45;have hnb46:=NB230_219.out;have hnc46:=NB219_230.out;have hnb47:=NB230_220.out;have hnc47:=NB220_230.out;have hnb48:=NB230_225.out;have hnc48:=NB225_230.out;have hnb49:=NB230_226.out;have hnc49:=NB226_230.out;obtain⟨hcz50_0,hfz50_0⟩:=bk1 BK230;obtain⟨hcz51_0,hcz51_1,hfz51_0,hfz51_1⟩:=bk2 BK219))
       go_loopg [55] k (fun kq v55 w'=>∃ (x55_1:Int) (x221000_1:Int) (x226000_1:Int) (x227001_1:List (List Int)) (x231000_1:List Int) (u227001:Value) (u231000:Value),v55=.int .i64 x55_1∧Aside0 (Bzq.l0 kq l1 l0_1 (l0_1.length:Int) x55_1 x226000_1 a0_0 x227001_1 x231000_1=some (r1,r2,r3,r4))∧Aside0 (kq≤k)∧Aside0 (Kd.S (Kd.slice 3 (Kd.int .i64)) 29 w' w.heap.size (fun k_=>some k_≠(u231000:Value).ownBlock∧k_≠gb225∧k_≠gb230) u227001 x227001_1)∧Aside0 (Kd.R (Kd.int .i64) 3 w' w.heap.size (fun k_=>k_≠gb225) u231000 x231000_1)∧Aside0 (w'.heap[gb219]?=some (.cells #[.int .i64 a0_0,(.slice (some ad222) l0_1.length c0_1)] 24 (0,0)))∧Aside0 (w'.heap[gb220]?=some (.cells #[.int .i64 x221000_1,(.slice none 0 0)] 24 (0,0)))∧Aside0 (w'.heap[gb225]?=some (.cells #[.int .i64 x226000_1] 3 (0,0)))∧Aside0 (w'.heap[gb226]?=some (.cells #[.int .i64 a0_0,u227001] 24 (0,0)))∧Aside0 (w'.heap[gb230]?=some (.cells #[u231000] 29 (0,0)))∧Aside0 (Below w.heap.size w w'))
       case atStart=>exact⟨(0),(0),(t224),(([]:List (List Int))),(y227),(.slice none 0 0),(.slice Ao45 y227.length co45),sD,H',⟨Nat.le_refl _⟩,⟨by first|exact Kd.S_nil _ _ _ _ _|exact Kd.N_nil _ _ _ _ _|exact Kd.V_nil _ _ _ _ _|exact Kd.Q_nil _ _ _ _ _|exact Kd.R_nil _ _ _ _ _⟩,⟨by(with_reducible repeat(first|apply Kd.R_alloc|apply Kd.R_drewN|apply Kd.R_drew));exact Kd.R_mono (Kd.R_far (p:=⟨gb230,0,none⟩) (Kd.R_types HO229.out BK230.out (by decide)) (fun _ hk=>hk.2) (.slice Ao45 y227.length co45)) (fun _ hk=>hk.1.2)⟩,⟨by refine bD ?_;refine blk_far ?_ NB219_230.out _;(with_reducible repeat(first|refine blk_drewN ?_ _|refine blk_drew ?_|refine blk_alloc ?_ _));exact BK219.out⟩,⟨by refine bD ?_;refine blk_far ?_ NB220_230.out _;(with_reducible repeat(first|refine blk_drewN ?_ _|refine blk_drew ?_|refine blk_alloc ?_ _));exact BK220.out⟩,⟨by refine bD ?_;refine blk_far ?_ NB225_230.out _;(with_reducible repeat(first|refine blk_drewN ?_ _|refine blk_drew ?_|refine blk_alloc ?_ _));exact BK225.out⟩,⟨by refine bD ?_;refine blk_far ?_ NB226_230.out _;(with_reducible repeat(first|refine blk_drewN ?_ _|refine blk_drew ?_|refine blk_alloc ?_ _));exact BK226.out⟩,⟨by refine bD ?_;refine blk_put (cs:=#[.slice none 0 0]) ?_ 0 _ rfl;(with_reducible repeat(first|refine blk_drewN ?_ _|refine blk_drew ?_|refine blk_alloc ?_ _));exact BK230.out⟩,⟨pB⟩⟩
       case round =>
        clear H';try clear c1
        try clear c2
        try clear p2
        try clear q2
        try clear hx2
        try clear qi2
        try clear c3
        try clear c4
        try clear c4b0
        try clear c4b1
        try clear c5
        try clear c5b0
        try clear c5b1
        try clear c7
        try clear c7b0
        try clear c7b1
        try clear c9
        try clear c9b0
        try clear c12
        try clear c13
        try clear c18
        try clear c19
        try clear c22
        try clear p22
        try clear q22
        try clear hx22
        try clear qi22
        try clear c23
        try clear c23b0
        try clear c23b1
        try clear c24
        try clear c24b0
        try clear c24b1
        try clear c26
        try clear c27
        try clear c33
        try clear c34
        try clear c38
        try clear c39
        try clear c40
        try clear c46
        try clear c47
        try clear c48
        try clear c49
        try clear hcz13_0
        try clear hcz13_1
        try clear hcz15_0
        try clear hcz15_1
        try clear hcz20_0
        try clear hcz21_0
        try clear hcz21_1
        try clear hcz22_0
        try clear hcz22_1
        try clear hcz28_0
        try clear hcz28_1
        try clear hcz30_0
        try clear hcz30_1
        try clear hcz35_0
        try clear hcz36_0
        try clear hcz36_1
        try clear hcz41_0
        try clear hcz41_1
        try clear hcz50_0
        try clear hcz51_0
        try clear hcz51_1
        try clear hfz13_0
        try clear hfz13_1
        try clear hfz15_0
        try clear hfz15_1
        try clear hfz20_0
        try clear hfz21_0
        try clear hfz21_1
        try clear hfz22_0
        try clear hfz22_1
        try clear hfz28_0
        try clear hfz28_1
        try clear hfz30_0
        try clear hfz30_1
        try clear hfz35_0
        try clear hfz36_0
        try clear hfz36_1
        try clear hfz41_0
        try clear hfz41_1
        try clear hfz50_0
        try clear hfz51_0
        try clear hfz51_1
        try clear hx222_0
        try clear p222
        try clear q222
        obtain⟨x55_1,x221000_1,x226000_1,x227001_1,x231000_1,u227001,u231000,rfl,HA,HK1,HO_227001,HO_231000,BK219,BK220,BK225,BK226,BK230,HB⟩:=hrel;cases gk with
        | zero=>exact absurd HA.out (by simp [Bzq.l0])
        | succ k1 =>
         have H:=HA.out;clear HA;simp only[Bzq.l0] at H;by_cases c52:x55_1 < (l0_1.length:Int)
         ·rw[if_pos c52] at H;have c52b0:decide (x55_1 < (l0_1.length:Int))=true:=dE c52;clear c52;by_cases c53:0≤x55_1
          ·rw[if_pos c53] at H;have c53b0:decide (0≤x55_1)=true:=dE c53;clear c53;by_cases c54:x55_1 < (l0_1.length:Int)
           ·rw[if_pos c54] at H;have c54b0:decide (x55_1 < (l0_1.length:Int))=true:=dE c54;clear c54;replace H:=bS H;obtain⟨t232,A550,H⟩:=H;try dsimp only at H
            have A55:=aM A550;clear A550;by_cases c56:x226000_1≥t232
            ·rw[if_pos c56] at H;have c56b0:decide (t232≤x226000_1)=true:=dE c56;clear c56;replace H:=bS H;obtain⟨⟨t233,t234⟩,A570,H⟩:=H;try dsimp only at H
             have A57:=aM A570;clear A570;have H':=aM H;clear H;have p231:0≤(x55_1:Int):=oE aS
             have q231:x55_1 < (l0_1.length:Int):=oE aS
             obtain⟨ad231,A231_0,c231_0,e231,hx231_0,hl231_0,hi231_0⟩:=at_L1 HR0_1.out x55_1 p231 q231;obtain rfl:ad222=ad231:=(by injection e231)
             replace hx231_0:=(HB.out.cell (World.block_lt_of_cell? w _ hx231_0)).trans hx231_0;have HR231_0:=aM hi231_0;have HC231_0:=aM hl231_0;clear hi231_0 hl231_0;replace p231:=eq_true p231;replace q231:=eq_true q231;try go_wp2
             have n0_:=aM (Kd.S_drew HO_227001.out);have n1_:=aM (Kd.R_drew HO_231000.out);have n2_:=aM (blk_drew BK219.out);have n3_:=aM (blk_drew BK220.out);have n4_:=aM (blk_drew BK225.out);have n5_:=aM (blk_drew BK226.out);have n6_:=aM (blk_drew BK230.out);have n7_:=aM (below_drew1 HB.out);clear HO_227001;clear HO_231000;clear BK219;clear BK220;clear BK225;clear BK226;clear BK230;clear HB;have HO_227001:=n0_;have HO_231000:=n1_;have BK219:=n2_;have BK220:=n3_;have BK225:=n4_;have BK226:=n5_;have BK230:=n6_;have HB:=n7_;clear n0_ n1_ n2_ n3_ n4_ n5_ n6_ n7_;refine start_ (n:=4) (S:=fun w'=>w'.cell? ⟨gb225,0,none⟩=some (.int .i64 x226000_1)) (ds:=[]) #[false,false,false,false] (by kernel_rfl) rfl rfl ((blk_cell BK225.out 0).trans rfl) (fun hHeld=>?_)
             generalize wr.drew=w58 at HO_227001 HO_231000 BK219 BK220 BK225 BK226 BK230 HB hHeld ⊢;refine pure_ (i:=1) (N:=some 60) (v:=?_) (a':=?_) #[false,true,false,false] rfl rfl (by kernel_rfl) (fun _ _ _ h=>h) (Or.inl ⟨by rfl,?_⟩) ?_ ?_
             rotate_left
             ·intro w';go_simp
              with_reducible rfl
             rotate_left
             ·simp only[Act.put,sA,sZ,sC,i64_w,i32_w];rfl
             refine take_ (i:=0) (N:=some 59) (v:=?_) (a':=?_) #[true,true,false,false] rfl rfl (by kernel_rfl) (fun _ _ _ h=>h) (Or.inl ⟨by rfl,?_⟩) hHeld ?_ ?_
             rotate_left
             ·intro w' s0;go_simp
              with_reducible rfl
             rotate_left
             ·simp only[Act.put,sA,sZ,sC,i64_w,i32_w];rfl
             refine one_ (i:=2) (N:=some 61) #[true,true,true,false] rfl rfl (by kernel_rfl) (by decide) (fun K hK=>?_)
             refine goes_ Try.func27 (by kernel_rfl) rfl #[.slice A231_0 (rd_L1 l0_1 x55_1).length c231_0] (by rfl) rfl rfl mA ?_
             with_reducible refine(Czk.calls k1 _ _ (rd_L1 l0_1 x55_1) t232 _ ?side1 ?side2 A55.out).mono ?_
             (case side1=>exact cX (Kd.C_below HR231_0.out HB.out))
             (case side2=>exact HC231_0.out)
             rintro e w' ⟨rfl,⟨nd,rfl⟩⟩;refine⟨_,rfl,?_⟩;refine hK.out _ _ ((blk_cell BK225.out 0).trans rfl) (fun hHeld=>?_)
             clear hK K;refine norm_ (a':=?_) ?_ ?_;rotate_left
             ·show Act.put _ (some 61) _=_
              simp only[Act.put,sA,sZ,sC,i64_w,i32_w];rfl
             refine pure_ (i:=3) (N:=some 62) (v:=?_) (a':=?_) #[true,true,true,true] rfl rfl (by kernel_rfl) (fun _ _ _ h=>h) (Or.inl ⟨by rfl,?_⟩) ?_ ?_
             rotate_left
             ·intro w';go_simp
              with_reducible rfl
             rotate_left
             ·simp only[Act.put,sA,sZ,sC,i64_w,i32_w];rfl
             refine done_ (by kernel_rfl) ?_
             obtain⟨Ao59,co59,eo59⟩:=Kd.R_slice HO_231000.out;subst eo59;try go_wp2_with (first|(go_at_call 32;(with_reducible refine(Czp.calls k1 _ _ (rd_L1 l0_1 x55_1) (fun k_=>some k_=(.slice Ao59 x231000_1.length co59:Value).ownBlock) (.slice Ao59 x231000_1.length co59) x231000_1 x226000_1 t233 t234 w _ ?side1 ?side2 ?side3 ?side4 ?cw1 ?cw2 ?cw3 ?cw4 ?cw5 A57.out).mono ?_);(case side1=>repeat(first|(with_reducible first|exact HB.out|apply below_alloc|apply pw_below_drewN|apply below_drew1|refine below_set ?_ GE219.out|refine below_set ?_ GE220.out|refine below_set ?_ GE225.out|refine below_set ?_ GE226.out|refine below_set ?_ GE230.out)|exact HB.out));(case side2=>exact Kd.C_kept_came (Kd.heap_int .i64) HR231_0.out pB (fun k_ hs_=>Or.elim hs_ (fun hs_=>(fun e_=>Kd.R_base HO_231000.out k_ e_.symm) hs_) (fun e_=>by rw[e_];exact Aside0.out (by assumption))));(case side3=>exact HC231_0.out);(case side4=>exact Kd.R_tight rfl HO_231000.out);(case cw1=>exact kW (by assumption));(case cw2=>exact kW (by assumption));(case cw3=>exact Aside0.out (by assumption));(case cw4=>exact fun e_=>(Kd.R_ne (Aside0.out (by assumption)) (Aside0.out (by assumption)) (by decide)) e_);(case cw5=>exact fun e_=>(Kd.R_away (Aside0.out (by assumption)) (fun k_ hk_=>by first|exact hk_|(revert hk_;simp only[and_imp];intros;assumption))) e_);rintro e wz_ ⟨w60,rfl,rfl,hy0,hb,hkp⟩;replace HO_227001:=aM (Kd.S_mono (ok':=fun k_=>some k_≠(.slice Ao59 x231000_1.length co59:Value).ownBlock∧k_≠gb225∧k_≠gb230) (Kd.S_keptB (HO_227001.out) hkp (fun k_ hk_ hs_=>(hk_.1) hs_)) (fun k_ hk_=>⟨hk_.1.1,hk_.1.2.1,hk_.1.2.2⟩));replace BK219:=aM (blk_kept (kW BK219) hkp (fun hs_=>(fun e_=>(Kd.R_ne HO_231000.out BK219.out (by decide)) e_) hs_));replace BK220:=aM (blk_kept (kW BK220) hkp (fun hs_=>(fun e_=>(Kd.R_ne HO_231000.out BK220.out (by decide)) e_) hs_));replace BK225:=aM (blk_kept (kW BK225) hkp (fun hs_=>(fun e_=>(Kd.R_away HO_231000.out (fun _ hk=>hk)) e_) hs_));replace BK226:=aM (blk_kept (kW BK226) hkp (fun hs_=>(fun e_=>(Kd.R_ne HO_231000.out BK226.out (by decide)) e_) hs_));replace BK230:=aM (blk_kept (kW BK230) hkp (fun hs_=>(fun e_=>(Kd.R_ne HO_231000.out BK230.out (by decide)) e_) hs_));replace HO_231000:=aM (Kd.R_reok rfl hy0 (fun k_ e_=>HO_231000.out.1 k_ e_));replace HB:=aM (hb);(try clear hb);(try clear hkp);(try clear hy0);have hnb61:=NB225_219.out;have hnc61:=NB219_225.out;have hnb62:=NB225_220.out;have hnc62:=NB220_225.out;have hnb63:=NB225_226.out;have hnc63:=NB226_225.out;have hnb64:=NB225_230.out;have hnc64:=NB230_225.out;obtain⟨hcz65_0,hfz65_0⟩:=bk1 BK225))
             go_roundg k1
             case measure=>have:=HK1.out;omega
             case rel=>exact⟨(wrap64 (x55_1+1)),(x221000_1),(t233),(x227001_1),(t234),(u227001),(.slice Ao59 x231000_1.length co59),sD,H',⟨by have:=HK1.out;omega⟩,⟨by(with_reducible repeat(first|apply Kd.S_alloc|apply Kd.S_drewN|apply Kd.S_drew));exact Kd.S_mono (Kd.S_far (p:=⟨gb225,0,none⟩) (Kd.S_mono HO_227001.out (fun k_ hk=>(⟨hk,hk.2.1⟩:_∧k_≠gb225))) (fun _ hk=>hk.2) (.int .i64 t233)) (fun _ hk=>⟨hk.1.1,⟨hk.1.2.1,hk.1.2.2⟩⟩)⟩,⟨by(with_reducible repeat(first|apply Kd.R_alloc|apply Kd.R_drewN|apply Kd.R_drew));exact Kd.R_mono (Kd.R_far (p:=⟨gb225,0,none⟩) (Kd.R_mono HO_231000.out (fun k_ hk=>(⟨hk,hk⟩:_∧k_≠gb225))) (fun _ hk=>hk.2) (.int .i64 t233)) (fun _ hk=>hk.1)⟩,⟨by refine bD ?_;refine blk_far ?_ NB219_225.out _;(with_reducible repeat(first|refine blk_drewN ?_ _|refine blk_drew ?_|refine blk_alloc ?_ _));exact BK219.out⟩,⟨by refine bD ?_;refine blk_far ?_ NB220_225.out _;(with_reducible repeat(first|refine blk_drewN ?_ _|refine blk_drew ?_|refine blk_alloc ?_ _));exact BK220.out⟩,⟨by refine bD ?_;refine blk_put (cs:=#[.int .i64 x226000_1]) ?_ 0 _ rfl;(with_reducible repeat(first|refine blk_drewN ?_ _|refine blk_drew ?_|refine blk_alloc ?_ _));exact BK225.out⟩,⟨by refine bD ?_;refine blk_far ?_ NB226_225.out _;(with_reducible repeat(first|refine blk_drewN ?_ _|refine blk_drew ?_|refine blk_alloc ?_ _));exact BK226.out⟩,⟨by refine bD ?_;refine blk_far ?_ NB230_225.out _;(with_reducible repeat(first|refine blk_drewN ?_ _|refine blk_drew ?_|refine blk_alloc ?_ _));exact BK230.out⟩,⟨pB⟩⟩
            ·rw[if_neg c56] at H;have c56b0:decide (t232≤x226000_1)=false:=decide_eq_false c56;clear c56;replace H:=bS H;obtain⟨t235,A660,H⟩:=H;try dsimp only at H
             have A66:=aM A660;clear A660;by_cases c67:x226000_1 > 0
             ·rw[if_pos c67] at H;have c67b0:decide (0 < x226000_1)=true:=dE c67;clear c67;replace H:=bS H;obtain⟨⟨t238,t239⟩,A680,H⟩:=H;try dsimp only at H
              have A68:=aM A680;clear A680;by_cases c69:t239=0
              ·rw[if_pos c69] at H;have c69b0:(t239 == 0)=true:=beq_iff_eq.mpr c69;have c69b1:(t239 != 0)=false:=bne_eq_false_iff_eq.mpr c69;clear c69;replace H:=bS H;obtain⟨⟨t242,t243⟩,A700,H⟩:=H;try dsimp only at H
               have A70:=aM A700;clear A700;have H':=aM H;clear H;have p231:0≤(x55_1:Int):=oE aS
               have q231:x55_1 < (l0_1.length:Int):=oE aS
               obtain⟨ad231,A231_0,c231_0,e231,hx231_0,hl231_0,hi231_0⟩:=at_L1 HR0_1.out x55_1 p231 q231;obtain rfl:ad222=ad231:=(by injection e231)
               replace hx231_0:=(HB.out.cell (World.block_lt_of_cell? w _ hx231_0)).trans hx231_0;have HR231_0:=aM hi231_0;have HC231_0:=aM hl231_0;clear hi231_0 hl231_0;replace p231:=eq_true p231;replace q231:=eq_true q231;try go_wp2
               have n0_:=aM (Kd.S_drew HO_227001.out);have n1_:=aM (Kd.R_drew HO_231000.out);have n2_:=aM (blk_drew BK219.out);have n3_:=aM (blk_drew BK220.out);have n4_:=aM (blk_drew BK225.out);have n5_:=aM (blk_drew BK226.out);have n6_:=aM (blk_drew BK230.out);have n7_:=aM (below_drew1 HB.out);clear HO_227001;clear HO_231000;clear BK219;clear BK220;clear BK225;clear BK226;clear BK230;clear HB;have HO_227001:=n0_;have HO_231000:=n1_;have BK219:=n2_;have BK220:=n3_;have BK225:=n4_;have BK226:=n5_;have BK230:=n6_;have HB:=n7_;clear n0_ n1_ n2_ n3_ n4_ n5_ n6_ n7_;refine start_ (n:=4) (S:=fun w'=>w'.cell? ⟨gb225,0,none⟩=some (.int .i64 x226000_1)) (ds:=[]) #[false,false,false,false] (by kernel_rfl) rfl rfl ((blk_cell BK225.out 0).trans rfl) (fun hHeld=>?_)
               generalize wr.drew=w71 at HO_227001 HO_231000 BK219 BK220 BK225 BK226 BK230 HB hHeld ⊢;refine pure_ (i:=1) (N:=some 60) (v:=?_) (a':=?_) #[false,true,false,false] rfl rfl (by kernel_rfl) (fun _ _ _ h=>h) (Or.inl ⟨by rfl,?_⟩) ?_ ?_
               rotate_left
               ·intro w';go_simp
                with_reducible rfl
               rotate_left
               ·simp only[Act.put,sA,sZ,sC,i64_w,i32_w];rfl
               refine take_ (i:=0) (N:=some 59) (v:=?_) (a':=?_) #[true,true,false,false] rfl rfl (by kernel_rfl) (fun _ _ _ h=>h) (Or.inl ⟨by rfl,?_⟩) hHeld ?_ ?_
               rotate_left
               ·intro w' s0;go_simp
                with_reducible rfl
               rotate_left
               ·simp only[Act.put,sA,sZ,sC,i64_w,i32_w];rfl
               refine one_ (i:=2) (N:=some 61) #[true,true,true,false] rfl rfl (by kernel_rfl) (by decide) (fun K hK=>?_)
               refine goes_ Try.func27 (by kernel_rfl) rfl #[.slice A231_0 (rd_L1 l0_1 x55_1).length c231_0] (by rfl) rfl rfl mA ?_
               with_reducible refine(Czk.calls k1 _ _ (rd_L1 l0_1 x55_1) t232 _ ?side1 ?side2 A55.out).mono ?_
               (case side1=>exact cX (Kd.C_below HR231_0.out HB.out))
               (case side2=>exact HC231_0.out)
               rintro e w' ⟨rfl,⟨nd,rfl⟩⟩;refine⟨_,rfl,?_⟩;refine hK.out _ _ ((blk_cell BK225.out 0).trans rfl) (fun hHeld=>?_)
               clear hK K;refine norm_ (a':=?_) ?_ ?_;rotate_left
               ·show Act.put _ (some 61) _=_
                simp only[Act.put,sA,sZ,sC,i64_w,i32_w];rfl
               refine pure_ (i:=3) (N:=some 62) (v:=?_) (a':=?_) #[true,true,true,true] rfl rfl (by kernel_rfl) (fun _ _ _ h=>h) (Or.inl ⟨by rfl,?_⟩) ?_ ?_
               rotate_left
               ·intro w';go_simp
                with_reducible rfl
               rotate_left
               ·simp only[Act.put,sA,sZ,sC,i64_w,i32_w];rfl
               refine done_ (by kernel_rfl) ?_
               try go_wp2_with (first|((with_reducible refine gate_callee (f:=30) rfl ?_);refine goesL_ (some 67) rfl rfl Try.func30 (by kernel_rfl) rfl #[.slice A231_0 (rd_L1 l0_1 x55_1).length c231_0] rfl mA ?_;(with_reducible refine(Dzv.calls _ _ (rd_L1 l0_1 x55_1) t235 _ ?side1 ?side2 A66.out).mono ?_);(case side1=>repeat(first|exact(Kd.C_below HR231_0.out pB)|(with_reducible refine Kd.C_alloc ?_ _)|(with_reducible refine Kd.C_drewN ?_ _)|(with_reducible refine Kd.C_drew ?_)));(case side2=>exact HC231_0.out);rintro e w72 ⟨v236,rfl,ho0,hb⟩;refine⟨_,rfl,?_⟩;have HO237:=aM (Kd.R_lower (Kd.R_newB (Kd.R_new' ho0 (Kd.R_lt (rX HO_231000.out))) (g:=gb225) (o:=.cells #[.int .i64 x226000_1] 3 (0,0)) (kW BK225)) (below_size pB));replace HO_227001:=aM (Kd.S_elder' (by(with_reducible repeat(first|apply Kd.S_alloc|apply Kd.S_drewN|apply Kd.S_drew));exact HO_227001.out) (Kd.R_base ho0) hb);replace HO_231000:=aM (Kd.R_elder' (rX HO_231000.out) (Kd.R_base ho0) hb);replace BK219:=aM (kB BK219 hb);replace BK220:=aM (kB BK220 hb);replace BK225:=aM (kB BK225 hb);replace BK226:=aM (kB BK226 hb);replace BK230:=aM (kB BK230 hb);replace HB:=aM (below_step pB hb);(try clear hb);(try clear hb2);(try clear hk);(try clear hi);(try clear ho0);have hnb73:=NB225_219.out;have hnc73:=NB219_225.out;have hnb74:=NB225_220.out;have hnc74:=NB220_225.out;have hnb75:=NB225_226.out;have hnc75:=NB226_225.out;have hnb76:=NB225_230.out;have hnc76:=NB230_225.out;obtain⟨hcz77_0,hfz77_0⟩:=bk1 BK225)|((with_reducible refine gate_callee (f:=33) rfl ?_);refine goesL_ (some 73) rfl rfl Try.func33 (by kernel_rfl) rfl #[.int .i64 x226000_1,.slice A231_0 (rd_L1 l0_1 x55_1).length c231_0] rfl mA ?_;(with_reducible refine(Bzp.calls k1 x226000_1 _ _ (rd_L1 l0_1 x55_1) t238 t239 _ ?side1 ?side2 A68.out).mono ?_);(case side1=>exact cX (Kd.C_below HR231_0.out HB.out));(case side2=>exact HC231_0.out);rintro e w78 ⟨v240,rfl,ho0,hb⟩;refine⟨_,rfl,?_⟩;have HO241:=aM (Kd.R_lower (Kd.R_newB (Kd.R_new' (Kd.R_new' ho0 (Kd.R_lt (rX HO_231000.out))) (Kd.R_lt (rX HO237.out))) (g:=gb225) (o:=.cells #[.int .i64 x226000_1] 3 (0,0)) (kW BK225)) (below_size pB));replace HO_227001:=aM (Kd.S_elder' (by(with_reducible repeat(first|apply Kd.S_alloc|apply Kd.S_drewN|apply Kd.S_drew));exact HO_227001.out) (Kd.R_base ho0) hb);replace HO_231000:=aM (Kd.R_elder' (rX HO_231000.out) (Kd.R_base ho0) hb);replace HO237:=aM (Kd.R_elder' (rX HO237.out) (Kd.R_base ho0) hb);replace BK219:=aM (kB BK219 hb);replace BK220:=aM (kB BK220 hb);replace BK225:=aM (kB BK225 hb);replace BK226:=aM (kB BK226 hb);replace BK230:=aM (kB BK230 hb);replace HB:=aM (below_step pB hb);(try clear hb);(try clear hb2);(try clear hk);(try clear hi);(try clear ho0);obtain⟨Ao79,co79,eo79⟩:=Kd.R_slice HO241.out;subst eo79;obtain⟨Ao80,co80,eo80⟩:=Kd.R_slice HO_231000.out;subst eo80)|(go_at_call 32;(with_reducible refine(Czp.calls k1 _ _ t238 (fun k_=>some k_=(.slice Ao80 x231000_1.length co80:Value).ownBlock) (.slice Ao80 x231000_1.length co80) x231000_1 x226000_1 t242 t243 w _ ?side1 ?side2 ?side3 ?side4 ?cw1 ?cw2 ?cw3 ?cw4 ?cw5 A70.out).mono ?_);(case side1=>repeat(first|(with_reducible first|exact HB.out|apply below_alloc|apply pw_below_drewN|apply below_drew1|refine below_set ?_ GE219.out|refine below_set ?_ GE220.out|refine below_set ?_ GE225.out|refine below_set ?_ GE226.out|refine below_set ?_ GE230.out)|exact HB.out));(case side2=>exact Kd.C_kept_own (HO241.out) (fun k_ hk_ hs_=>Or.elim hs_ (fun hs_=>(hk_.1.1.2) hs_) (fun e_=>absurd e_ (by first|exact hk_|(revert hk_;simp only[and_imp];intros;assumption)))));(case side3=>exact(Kd.R_reads' HO241.out).2.1);(case side4=>exact Kd.R_tight rfl HO_231000.out);(case cw1=>exact kW (by assumption));(case cw2=>exact kW (by assumption));(case cw3=>exact Aside0.out (by assumption));(case cw4=>exact fun e_=>(Kd.R_ne (Aside0.out (by assumption)) (Aside0.out (by assumption)) (by decide)) e_);(case cw5=>exact fun e_=>(Kd.R_away (Aside0.out (by assumption)) (fun k_ hk_=>by first|exact hk_|(revert hk_;simp only[and_imp];intros;assumption))) e_);rintro e wz_ ⟨w81,rfl,rfl,hy0,hb,hkp⟩;replace HO_227001:=aM (Kd.S_mono (ok':=fun k_=>some k_≠(.slice Ao80 x231000_1.length co80:Value).ownBlock∧some k_≠(v236:Value).ownBlock∧some k_≠(.slice Ao79 t238.length co79:Value).ownBlock∧k_≠gb225∧k_≠gb230) (Kd.S_keptB (HO_227001.out) hkp (fun k_ hk_ hs_=>(hk_.1.1.1) hs_)) (fun k_ hk_=>⟨hk_.1.1.1.1,hk_.1.1.2,hk_.1.2,hk_.1.1.1.2.1,hk_.1.1.1.2.2⟩));replace BK219:=aM (blk_kept (kW BK219) hkp (fun hs_=>(fun e_=>(Kd.R_ne HO_231000.out BK219.out (by decide)) e_) hs_));replace BK220:=aM (blk_kept (kW BK220) hkp (fun hs_=>(fun e_=>(Kd.R_ne HO_231000.out BK220.out (by decide)) e_) hs_));replace BK225:=aM (blk_kept (kW BK225) hkp (fun hs_=>(fun e_=>(Kd.R_away HO_231000.out (fun _ hk=>hk.1.1)) e_) hs_));replace BK226:=aM (blk_kept (kW BK226) hkp (fun hs_=>(fun e_=>(Kd.R_ne HO_231000.out BK226.out (by decide)) e_) hs_));replace BK230:=aM (blk_kept (kW BK230) hkp (fun hs_=>(fun e_=>(Kd.R_ne HO_231000.out BK230.out (by decide)) e_) hs_));replace HO_231000:=aM (Kd.R_reok rfl hy0 (fun k_ e_=>HO_231000.out.1 k_ e_));replace HO237:=aM (Kd.R_mono (ok':=fun k_=>some k_≠(.slice Ao80 x231000_1.length co80:Value).ownBlock∧some k_≠(.slice Ao79 t238.length co79:Value).ownBlock∧k_≠gb225) (Kd.R_keptB (HO237.out) hkp (fun k_ hk_ hs_=>(hk_.1.1.2) hs_)) (fun k_ hk_=>⟨hk_.1.1.1.2,hk_.1.2,hk_.1.1.2⟩));replace HO241:=aM (Kd.R_mono (ok':=fun k_=>some k_≠(.slice Ao80 x231000_1.length co80:Value).ownBlock∧some k_≠(v236:Value).ownBlock∧k_≠gb225) (Kd.R_keptB (HO241.out) hkp (fun k_ hk_ hs_=>(hk_.1.1.2) hs_)) (fun k_ hk_=>⟨hk_.1.1.1.2,hk_.1.1.2,hk_.1.2⟩));replace HB:=aM (hb);(try clear hb);(try clear hkp);(try clear hy0);obtain⟨hcz82_0,hfz82_0⟩:=bk1 BK225))
               go_loopg [85] k1 (fun kq v85 w'=>∃ (x16_2:List Int) (x85_2:Int),v85=.int .i64 x85_2∧Aside0 (Bzq.l1 kq l1 x16_2 l0_1 (l0_1.length:Int) x55_1 t238 (t238.length:Int) x85_2 t242 a0_0 x227001_1 t243=some (r1,r2,r3,r4))∧Aside0 (kq≤k1)∧Aside0 (Kd.R (Kd.int .i64) 3 w' w.heap.size (fun k_=>some k_≠((.slice Ao79 t238.length co79):Value).ownBlock∧some k_≠((.slice Ao80 x231000_1.length co80):Value).ownBlock∧k_≠gb225) v236 x16_2)∧Aside0 (Kd.R (Kd.int .i64) 3 w' w.heap.size (fun k_=>some k_≠(v236:Value).ownBlock∧some k_≠((.slice Ao80 x231000_1.length co80):Value).ownBlock∧k_≠gb225) (.slice Ao79 t238.length co79) t238)∧Aside0 (Kd.S (Kd.slice 3 (Kd.int .i64)) 29 w' w.heap.size (fun k_=>some k_≠(v236:Value).ownBlock∧some k_≠((.slice Ao79 t238.length co79):Value).ownBlock∧some k_≠((.slice Ao80 x231000_1.length co80):Value).ownBlock∧k_≠gb225∧k_≠gb230) u227001 x227001_1)∧Aside0 (Kd.R (Kd.int .i64) 3 w' w.heap.size (fun k_=>some k_≠(v236:Value).ownBlock∧some k_≠((.slice Ao79 t238.length co79):Value).ownBlock∧k_≠gb225) (.slice Ao80 x231000_1.length co80) t243)∧Aside0 (w'.heap[gb219]?=some (.cells #[.int .i64 a0_0,(.slice (some ad222) l0_1.length c0_1)] 24 (0,0)))∧Aside0 (w'.heap[gb220]?=some (.cells #[.int .i64 x221000_1,(.slice none 0 0)] 24 (0,0)))∧Aside0 (w'.heap[gb225]?=some (.cells #[.int .i64 t242] 3 (0,0)))∧Aside0 (w'.heap[gb226]?=some (.cells #[.int .i64 a0_0,u227001] 24 (0,0)))∧Aside0 (w'.heap[gb230]?=some (.cells #[(.slice Ao80 x231000_1.length co80)] 29 (0,0)))∧Aside0 (Below w.heap.size w w'))
               case atStart=>exact⟨(t235),(0),sD,H',⟨Nat.le_refl _⟩,⟨by(with_reducible repeat(first|apply Kd.R_alloc|apply Kd.R_drewN|apply Kd.R_drew));exact Kd.R_mono (Kd.R_far (p:=⟨gb225,0,none⟩) (Kd.R_mono HO237.out (fun k_ hk=>(⟨hk,hk.2.2⟩:_∧k_≠gb225))) (fun _ hk=>hk.2) (.int .i64 t242)) (fun _ hk=>⟨hk.1.2.1,⟨hk.1.1,hk.1.2.2⟩⟩)⟩,⟨by(with_reducible repeat(first|apply Kd.R_alloc|apply Kd.R_drewN|apply Kd.R_drew));exact Kd.R_mono (Kd.R_far (p:=⟨gb225,0,none⟩) (Kd.R_mono HO241.out (fun k_ hk=>(⟨hk,hk.2.2⟩:_∧k_≠gb225))) (fun _ hk=>hk.2) (.int .i64 t242)) (fun _ hk=>⟨hk.1.2.1,⟨hk.1.1,hk.1.2.2⟩⟩)⟩,⟨by(with_reducible repeat(first|apply Kd.S_alloc|apply Kd.S_drewN|apply Kd.S_drew));exact Kd.S_mono (Kd.S_far (p:=⟨gb225,0,none⟩) (Kd.S_mono HO_227001.out (fun k_ hk=>(⟨hk,hk.2.2.2.1⟩:_∧k_≠gb225))) (fun _ hk=>hk.2) (.int .i64 t242)) (fun _ hk=>⟨hk.1.2.1,⟨hk.1.2.2.1,⟨hk.1.1,⟨hk.1.2.2.2.1,hk.1.2.2.2.2⟩⟩⟩⟩)⟩,⟨by(with_reducible repeat(first|apply Kd.R_alloc|apply Kd.R_drewN|apply Kd.R_drew));exact Kd.R_mono (Kd.R_far (p:=⟨gb225,0,none⟩) (Kd.R_mono HO_231000.out (fun k_ hk=>(⟨hk,hk.1.1⟩:_∧k_≠gb225))) (fun _ hk=>hk.2) (.int .i64 t242)) (fun _ hk=>⟨hk.1.1.2,⟨hk.1.2,hk.1.1.1⟩⟩)⟩,⟨by refine bD ?_;refine blk_far ?_ NB219_225.out _;(with_reducible repeat(first|refine blk_drewN ?_ _|refine blk_drew ?_|refine blk_alloc ?_ _));exact BK219.out⟩,⟨by refine bD ?_;refine blk_far ?_ NB220_225.out _;(with_reducible repeat(first|refine blk_drewN ?_ _|refine blk_drew ?_|refine blk_alloc ?_ _));exact BK220.out⟩,⟨by refine bD ?_;refine blk_put (cs:=#[.int .i64 x226000_1]) ?_ 0 _ rfl;(with_reducible repeat(first|refine blk_drewN ?_ _|refine blk_drew ?_|refine blk_alloc ?_ _));exact BK225.out⟩,⟨by refine bD ?_;refine blk_far ?_ NB226_225.out _;(with_reducible repeat(first|refine blk_drewN ?_ _|refine blk_drew ?_|refine blk_alloc ?_ _));exact BK226.out⟩,⟨by refine bD ?_;refine blk_far ?_ NB230_225.out _;(with_reducible repeat(first|refine blk_drewN ?_ _|refine blk_drew ?_|refine blk_alloc ?_ _));exact BK230.out⟩,⟨pB⟩⟩
               case round =>
                clear H';try clear c1
                try clear c2
                try clear p2
                try clear q2
                try clear hx2
                try clear qi2
                try clear c3
                try clear c4
                try clear c4b0
                try clear c4b1
                try clear c5
                try clear c5b0
                try clear c5b1
                try clear c6
                try clear p6
                try clear c7
                try clear c7b0
                try clear c7b1
                try clear c9
                try clear c9b0
                try clear c12
                try clear c13
                try clear c18
                try clear c19
                try clear c22
                try clear p22
                try clear q22
                try clear hx22
                try clear qi22
                try clear c23
                try clear c23b0
                try clear c23b1
                try clear p23
                try clear q23
                try clear hx23
                try clear c24
                try clear c24b0
                try clear c24b1
                try clear c26
                try clear c27
                try clear c30
                try clear c33
                try clear c34
                try clear c38
                try clear c39
                try clear c40
                try clear c46
                try clear c47
                try clear c48
                try clear c49
                try clear c52
                try clear c52b0
                try clear c53
                try clear c53b0
                try clear c54
                try clear c54b0
                try clear c56
                try clear c56b0
                try clear c61
                try clear c62
                try clear c63
                try clear c64
                try clear p64
                try clear c67
                try clear c67b0
                try clear c69
                try clear c69b0
                try clear c69b1
                try clear c73
                try clear c74
                try clear c75
                try clear c76
                try clear hcz13_0
                try clear hcz13_1
                try clear hcz15_0
                try clear hcz15_1
                try clear hcz20_0
                try clear hcz21_0
                try clear hcz21_1
                try clear hcz22_0
                try clear hcz22_1
                try clear hcz28_0
                try clear hcz28_1
                try clear hcz30_0
                try clear hcz30_1
                try clear hcz35_0
                try clear hcz36_0
                try clear hcz36_1
                try clear hcz41_0
                try clear hcz41_1
                try clear hcz50_0
                try clear hcz51_0
                try clear hcz51_1
                try clear hcz65_0
                try clear hcz77_0
                try clear hcz82_0
                try clear hfz13_0
                try clear hfz13_1
                try clear hfz15_0
                try clear hfz15_1
                try clear hfz20_0
                try clear hfz21_0
                try clear hfz21_1
                try clear hfz22_0
                try clear hfz22_1
                try clear hfz28_0
                try clear hfz28_1
                try clear hfz30_0
                try clear hfz30_1
                try clear hfz35_0
                try clear hfz36_0
                try clear hfz36_1
                try clear hfz41_0
                try clear hfz41_1
                try clear hfz50_0
                try clear hfz51_0
                try clear hfz51_1
                try clear hfz65_0
                try clear hfz77_0
                try clear hfz82_0
                try clear hx222_0
                try clear hx231_0
                try clear p2
                try clear p22
                try clear p222
                try clear p231
                try clear q2
                try clear q22
                try clear q222
                try clear q231
                obtain⟨x16_2,x85_2,rfl,HA,HK2,HO_16,HO_83,HO_227001,HO_231000,BK219,BK220,BK225,BK226,BK230,HB⟩:=hrel;have hl231000_2:=(Kd.R_reads' HO_231000.out).1;rw[hl231000_2] at HO_231000;(try simp only[hl231000_2])
                (try simp only[hl231000_2] at BK219)
                (try simp only[hl231000_2] at BK220)
                (try simp only[hl231000_2] at BK225)
                (try simp only[hl231000_2] at BK226)
                (try simp only[hl231000_2] at BK230)
                (try simp only[hl231000_2] at HO_16)
                (try simp only[hl231000_2] at HO_83)
                (try simp only[hl231000_2] at HO_227001)
                cases gk with
                | zero=>exact absurd HA.out (by simp [Bzq.l1])
                | succ k2 =>
                 have H:=HA.out;clear HA;simp only[Bzq.l1] at H;by_cases c83:x85_2 < (t238.length:Int)
                 ·rw[if_pos c83] at H;have c83b0:decide (x85_2 < (t238.length:Int))=true:=dE c83;have c83b0x:=c83b0;(try simp only[hl231000_2] at c83b0x)
                  clear c83;by_cases c84:0≤x85_2
                  ·rw[if_pos c84] at H;have c84b0:decide (0≤x85_2)=true:=dE c84;clear c84;by_cases c85:x85_2 < (t238.length:Int)
                   ·rw[if_pos c85] at H;have c85b0:decide (x85_2 < (t238.length:Int))=true:=dE c85;have c85b0x:=c85b0;(try simp only[hl231000_2] at c85b0x)
                    clear c85;by_cases c86:x85_2 < (x16_2.length:Int)
                    ·rw[if_pos c86] at H;have c86b0:decide (x85_2 < (x16_2.length:Int))=true:=dE c86;have c86b0x:=c86b0;(try simp only[hl231000_2] at c86b0x)
                     clear c86;obtain⟨y246,hy246⟩:∃ y_:List Int,y_=(x16_2.set (x85_2:Int).toNat (wrap64 ((rd x16_2 x85_2) - (rd t238 x85_2)))):=⟨_,rfl⟩;replace H:(Bzq.l1 k2 l1 y246 l0_1 (l0_1.length:Int) x55_1 t238 (t238.length:Int) (wrap64 (x85_2+1)) t242 a0_0 x227001_1 t243)=some (r1,r2,r3,r4):=by first|(rw[hy246];with_reducible exact H)|(have H2_:=(Option.bind_some _ _).symm.trans H;rw[hy246];with_reducible exact H2_)|(have H2_:=(Option.bind_some _ _).symm.trans H;with_reducible exact H2_)|with_reducible exact H|(rw[hy246];exact H)|exact H
                     have Ny246:=aM hy246;clear hy246;have H':=aM H;clear H;have p244:0≤(x85_2:Int):=oE aS
                     have q244:x85_2 < (t238.length:Int):=oE aS
                     obtain⟨ad244,e244,hx244_0⟩:=Kd.at_int (Kd.R_reads' HO_83.out).2.2 x85_2 p244 q244;cases e244
                     replace p244:=eq_true p244;replace q244:=eq_true q244;obtain⟨Ao88,co88,eo88⟩:=Kd.R_slice HO_16.out;subst eo88;have p245:0≤(x85_2:Int):=oE aS
                     have q245:x85_2 < (x16_2.length:Int):=oE aS
                     obtain⟨ad245,e245,hx245_0⟩:=Kd.at_int (Kd.R_reads' HO_16.out).2.2 x85_2 p245 q245;cases e245
                     replace p245:=eq_true p245;replace q245:=eq_true q245;have p87:0≤(x85_2:Int):=oE aS
                     have q87:(x85_2:Int) < ((x16_2.length:Int):Int):=oE aS
                     obtain⟨go87,co87,eo87,gb87,gl87,cl87,HG87⟩:=Kd.R_form HO_16.out (by omega)
                     (first|cases eo87|(injection eo87 with ea_ en_ ec_;(first|subst ea_|(injection ea_ with ea_;subst ea_));subst ec_;clear en_))
                     have GB87:=aM gb87;have GG87:=aM HG87;clear gb87 gl87 HG87;(first|simp only[add_plain] at hx245_0|skip)
                     obtain⟨hx87_0,hf87_0⟩:=Kd.R_celln 0 HO_16.out (x85_2:Int) p87 q87;replace p87:=eq_true p87;replace q87:=eq_true q87;have HP89:=Kd.R_putg HO_16.out (x85_2:Int) (wrap64 ((rd x16_2 x85_2) - (rd t238 x85_2)));go_wp2_with (first|((with_reducible refine gate_store (t:=3) (p:=96) rfl ?_);refine store_event (t:=3) (p:=96) (v:=?vo_w90) (w1:=(wr.setCell ⟨go87,(x85_2:Int).toNat,none⟩ (.int .i64 (wrap64 ((rd x16_2 x85_2) - (rd t238 x85_2)))))) ?hg ?ho ?hn ?hr ?_;(case ho=>rfl);(case hg=>rfl);(case hn=>rfl);(case hr=>first|(go_simp;done)|(go_simp;rfl));intro w90 hw;have hg:wr.grownBy w90 (some go87):=(by rw[hw];exact HP89.2);have hp_:Kd.R (Kd.int .i64) 3 w90 w.heap.size (fun k_=>some k_≠(.slice (some ad244) t238.length co79:Value).ownBlock∧some k_≠(.slice Ao80 t243.length co80:Value).ownBlock∧k_≠gb225) (.slice (some ⟨go87,0,none⟩) x16_2.length co88) y246:=(by rw[hw,Ny246.out];exact HP89.1);clear HP89;replace HO_83:=aM (Kd.R_after (v:=(.slice (some ⟨go87,0,none⟩) x16_2.length co88)) (v1:=(.slice (some ⟨go87,0,none⟩) x16_2.length co88)) (ok:=(fun k_=>some k_≠(.slice Ao80 t243.length co80:Value).ownBlock∧k_≠gb225)) (rX (Kd.R_mono HO_83.out (fun _ hk=>⟨⟨hk.2.1,hk.2.2⟩,hk.1⟩))) hg (.inl rfl));replace HO_227001:=aM (Kd.S_after (v:=(.slice (some ⟨go87,0,none⟩) x16_2.length co88)) (v1:=(.slice (some ⟨go87,0,none⟩) x16_2.length co88)) (ok:=(fun k_=>some k_≠(.slice (some ad244) t238.length co79:Value).ownBlock∧some k_≠(.slice Ao80 t243.length co80:Value).ownBlock∧k_≠gb225∧k_≠gb230)) (by(with_reducible repeat(first|apply Kd.S_alloc|apply Kd.S_drewN|apply Kd.S_drew));exact Kd.S_mono HO_227001.out (fun _ hk=>⟨⟨hk.2.1,⟨hk.2.2.1,⟨hk.2.2.2.1,hk.2.2.2.2⟩⟩⟩,hk.1⟩)) hg (.inl rfl));replace HO_231000:=aM (Kd.R_after (v:=(.slice (some ⟨go87,0,none⟩) x16_2.length co88)) (v1:=(.slice (some ⟨go87,0,none⟩) x16_2.length co88)) (ok:=(fun k_=>some k_≠(.slice (some ad244) t238.length co79:Value).ownBlock∧k_≠gb225)) (rX (Kd.R_mono HO_231000.out (fun _ hk=>⟨⟨hk.2.1,hk.2.2⟩,hk.1⟩))) hg (.inl rfl));replace BK219:=aM (blk_grown (g:=gb219) (o:=.cells #[.int .i64 a0_0,.slice (some ad222) l0_1.length c0_1] 24 (0,0)) (kW BK219) hg (Kd.R_ne HO_16.out BK219.out (by decide)));replace BK220:=aM (blk_grown (g:=gb220) (o:=.cells #[.int .i64 x221000_1,.slice none 0 0] 24 (0,0)) (kW BK220) hg (Kd.R_ne HO_16.out BK220.out (by decide)));replace BK225:=aM (blk_grown (g:=gb225) (o:=.cells #[.int .i64 t242] 3 (0,0)) (kW BK225) hg (Kd.R_away HO_16.out (fun _ hk=>hk.2.2)));replace BK226:=aM (blk_grown (g:=gb226) (o:=.cells #[.int .i64 a0_0,u227001] 24 (0,0)) (kW BK226) hg (Kd.R_ne HO_16.out BK226.out (by decide)));replace BK230:=aM (blk_grown (g:=gb230) (o:=.cells #[.slice Ao80 t243.length co80] 29 (0,0)) (kW BK230) hg (Kd.R_ne HO_16.out BK230.out (by decide)));replace HO_16:=aM (hp_);replace HB:=aM ((by rw[hw];exact below_set (HB.out) GB87.out:Below w.heap.size w w90));clear hg hw hp_))
                     (try simp only[← hl231000_2])
                     go_roundg k2
                     case measure=>have:=HK1.out;have:=HK2.out;omega
                     case rel=>exact⟨(y246),(wrap64 (x85_2+1)),sD,H',⟨by have:=HK1.out;have:=HK2.out;omega⟩,⟨by(try simp only[hl231000_2]);(with_reducible repeat(first|apply Kd.R_alloc|apply Kd.R_drewN|apply Kd.R_drew));exact HO_16.out⟩,⟨by(try simp only[hl231000_2]);(with_reducible repeat(first|apply Kd.R_alloc|apply Kd.R_drewN|apply Kd.R_drew));exact Kd.R_mono HO_83.out (fun _ hk=>⟨hk.2,⟨hk.1.1,hk.1.2⟩⟩)⟩,⟨by(try simp only[hl231000_2]);(with_reducible repeat(first|apply Kd.S_alloc|apply Kd.S_drewN|apply Kd.S_drew));exact Kd.S_mono HO_227001.out (fun _ hk=>⟨hk.2,⟨hk.1.1,⟨hk.1.2.1,⟨hk.1.2.2.1,hk.1.2.2.2⟩⟩⟩⟩)⟩,⟨by(try simp only[hl231000_2]);(with_reducible repeat(first|apply Kd.R_alloc|apply Kd.R_drewN|apply Kd.R_drew));exact Kd.R_mono HO_231000.out (fun _ hk=>⟨hk.2,⟨hk.1.1,hk.1.2⟩⟩)⟩,⟨by(try simp only[hl231000_2]);(with_reducible repeat(first|refine blk_drewN ?_ _|refine blk_drew ?_|refine blk_alloc ?_ _));exact BK219.out⟩,⟨by(try simp only[hl231000_2]);(with_reducible repeat(first|refine blk_drewN ?_ _|refine blk_drew ?_|refine blk_alloc ?_ _));exact BK220.out⟩,⟨by(try simp only[hl231000_2]);(with_reducible repeat(first|refine blk_drewN ?_ _|refine blk_drew ?_|refine blk_alloc ?_ _));exact BK225.out⟩,⟨by(try simp only[hl231000_2]);(with_reducible repeat(first|refine blk_drewN ?_ _|refine blk_drew ?_|refine blk_alloc ?_ _));exact BK226.out⟩,⟨by(try simp only[hl231000_2]);(with_reducible repeat(first|refine blk_drewN ?_ _|refine blk_drew ?_|refine blk_alloc ?_ _));exact BK230.out⟩,⟨pB⟩⟩
                    ·rw[if_neg c86] at H;exact absurd H (by simp)
                   ·rw[if_neg c85] at H;exact absurd H (by simp)
                  ·rw[if_neg c84] at H;exact absurd H (by simp)
                 ·rw[if_neg c83] at H;have c83b0:decide (x85_2 < (t238.length:Int))=false:=decide_eq_false c83;have c83b0x:=c83b0;(try simp only[hl231000_2] at c83b0x)
                  clear c83;by_cases c91:x227001_1.length < 5864062014805
                  ·rw[if_pos c91] at H;have LMc91:=aM c91;clear c91;obtain⟨y247,hy247⟩:∃ y_:List (List Int),y_=(x227001_1 ++ [x16_2]):=⟨_,rfl⟩;replace H:(Bzq.l0 k2 l1 l0_1 (l0_1.length:Int) (wrap64 (x55_1+1)) t242 a0_0 y247 t243)=some (r1,r2,r3,r4):=by first|(rw[hy247];with_reducible exact H)|(have H2_:=(Option.bind_some _ _).symm.trans H;rw[hy247];with_reducible exact H2_)|(have H2_:=(Option.bind_some _ _).symm.trans H;with_reducible exact H2_)|with_reducible exact H|(rw[hy247];exact H)|exact H
                   have Ny247:=aM hy247;clear hy247;have H':=aM H;clear H;have hnb92:=NB226_219.out;have hnc92:=NB219_226.out;have hnb93:=NB226_220.out;have hnc93:=NB220_226.out;have hnb94:=NB226_225.out;have hnc94:=NB225_226.out;have hnb95:=NB226_230.out;have hnc95:=NB230_226.out;obtain⟨hcz96_0,hcz96_1,hfz96_0,hfz96_1⟩:=bk2 BK226;obtain⟨Ao98,co98,eo98⟩:=Kd.R_slice HO_16.out;subst eo98;go_wp2_with (first|((with_reducible refine gate_builtin (b:=.append) (xs:=#[.tmp 99,.tmp 101]) rfl ?_);at_builtin;refine Kd.S_append (Kd.slice 3 (Kd.int .i64)) (w0:=w) w.heap.size rfl (.tmp 99) (.tmp 101) 22 29 (.slice none 0 0) 24 rfl Try.underlying22 info29 rfl (by decide) (by omega) u227001 x227001_1 x16_2 [.slice Ao98 x16_2.length co98] (fun k_=>some k_≠(.slice Ao79 t238.length co79:Value).ownBlock∧some k_≠(.slice Ao80 t243.length co80:Value).ownBlock∧k_≠gb225∧k_≠gb230) (fun k_=>some k_=(.slice Ao98 x16_2.length co98:Value).ownBlock) rfl rfl ?aP (fun k_ hk_=>((Kd.R_mono (ok':=fun k_=>((fun k_=>some k_≠(.slice Ao79 t238.length co79:Value).ownBlock∧some k_≠(.slice Ao80 t243.length co80:Value).ownBlock∧k_≠gb225∧k_≠gb230)) k_∧some k_≠(u227001:Value).ownBlock) (Kd.R_types (Kd.R_apart' (HO_16.out) (Kd.S_typed HO_227001.out) (by decide)) BK230.out (by decide)) (fun k_ hk=>⟨⟨hk.1.1.1,⟨hk.1.1.2.1,⟨hk.1.1.2.2,hk.2⟩⟩⟩,hk.1.2⟩))).1 k_ hk_.symm) ?aF ?aO ?aB ?aS ?aL ?_;(case aP=>exact Kd.M_row (Kd.R_mono (Kd.R_tight rfl (Kd.R_mono (ok':=fun k_=>((fun k_=>some k_≠(.slice Ao79 t238.length co79:Value).ownBlock∧some k_≠(.slice Ao80 t243.length co80:Value).ownBlock∧k_≠gb225∧k_≠gb230)) k_∧some k_≠(u227001:Value).ownBlock) (Kd.R_types (Kd.R_apart' (HO_16.out) (Kd.S_typed HO_227001.out) (by decide)) BK230.out (by decide)) (fun k_ hk=>⟨⟨hk.1.1.1,⟨hk.1.1.2.1,⟨hk.1.1.2.2,hk.2⟩⟩⟩,hk.1.2⟩))) (fun _ h_=>h_)));(case aB=>exact pB);(case aF=>exact(fun k_ hk=>⟨Kd.fresh' (Kd.R_lt (rX HO_83.out)) k_ hk,Kd.fresh' (Kd.R_lt (rX HO_231000.out)) k_ hk,Kd.freshB (g:=gb225) (o:=.cells #[.int .i64 t242] 3 (0,0)) (kW BK225) k_ hk,Kd.freshB (g:=gb230) (o:=.cells #[.slice Ao80 t243.length co80] 29 (0,0)) (kW BK230) k_ hk⟩));(case aO=>exact(by(with_reducible repeat(first|apply Kd.S_alloc|apply Kd.S_drewN|apply Kd.S_drew));exact Kd.S_mono HO_227001.out (fun k_ hk=>⟨⟨hk.2.1,⟨hk.2.2.1,⟨hk.2.2.2.1,hk.2.2.2.2⟩⟩⟩,fun e_=>hk.1 e_⟩)));(case aS=>exact(below_size pB));(case aL=>have:=LMc91.out;omega);intro v248 w97 ho hb hg hat;rw[← Ny247.out] at ho;have HO249:=aM (ho);replace HO_83:=aM (Kd.R_over' (rX HO_83.out) (Kd.S_typed (by(with_reducible repeat(first|apply Kd.S_alloc|apply Kd.S_drewN|apply Kd.S_drew));exact HO_227001.out)) (by decide) hg);replace HO_231000:=aM (Kd.R_over' (rX HO_231000.out) (Kd.S_typed (by(with_reducible repeat(first|apply Kd.S_alloc|apply Kd.S_drewN|apply Kd.S_drew));exact HO_227001.out)) (by decide) hg);replace BK219:=aM (blk_grown (g:=gb219) (o:=.cells #[.int .i64 a0_0,.slice (some ad222) l0_1.length c0_1] 24 (0,0)) (kW BK219) hg (Kd.S_ne HO_227001.out BK219.out (by decide)));replace BK220:=aM (blk_grown (g:=gb220) (o:=.cells #[.int .i64 x221000_1,.slice none 0 0] 24 (0,0)) (kW BK220) hg (Kd.S_ne HO_227001.out BK220.out (by decide)));replace BK225:=aM (blk_grown (g:=gb225) (o:=.cells #[.int .i64 t242] 3 (0,0)) (kW BK225) hg (Kd.S_ne HO_227001.out BK225.out (by decide)));replace BK226:=aM (blk_grown (g:=gb226) (o:=.cells #[.int .i64 a0_0,u227001] 24 (0,0)) (kW BK226) hg (Kd.S_ne HO_227001.out BK226.out (by decide)));replace BK230:=aM (blk_grown (g:=gb230) (o:=.cells #[.slice Ao80 t243.length co80] 29 (0,0)) (kW BK230) hg (Kd.S_away HO_227001.out (fun _ hk=>hk.2.2.2.2)));replace HB:=aM (hb);clear HO_16;clear HO_227001;clear ho hb hg hat;obtain⟨Ao99,co99,eo99⟩:=Kd.S_slice HO249.out;subst eo99;obtain⟨hcz100_0,hcz100_1,hfz100_0,hfz100_1⟩:=bk2 BK226))
                   (try simp only[← hl231000_2])
                   go_roundg k2
                   case measure=>have:=HK1.out;have:=HK2.out;omega
                   case rel=>exact⟨(wrap64 (x55_1+1)),(x221000_1),(t242),(y247),(t243),(.slice Ao99 y247.length co99),(.slice Ao80 t243.length co80),sD,H',⟨by have:=HK1.out;have:=HK2.out;omega⟩,⟨by(try simp only[hl231000_2]);(with_reducible repeat(first|apply Kd.S_alloc|apply Kd.S_drewN|apply Kd.S_drew));exact Kd.S_mono (Kd.S_far (p:=⟨gb226,1,none⟩) (Kd.S_types HO249.out BK226.out (by decide)) (fun _ hk=>hk.2) (.slice Ao99 y247.length co99)) (fun _ hk=>⟨hk.1.2.1,⟨hk.1.2.2.1,hk.1.2.2.2⟩⟩)⟩,⟨by(try simp only[hl231000_2]);(with_reducible repeat(first|apply Kd.R_alloc|apply Kd.R_drewN|apply Kd.R_drew));exact Kd.R_mono (Kd.R_far (p:=⟨gb226,1,none⟩) (Kd.R_types HO_231000.out BK226.out (by decide)) (fun _ hk=>hk.2) (.slice Ao99 y247.length co99)) (fun _ hk=>hk.1.2.2)⟩,⟨by(try simp only[hl231000_2]);refine bD ?_;refine blk_far ?_ NB219_226.out _;(with_reducible repeat(first|refine blk_drewN ?_ _|refine blk_drew ?_|refine blk_alloc ?_ _));exact BK219.out⟩,⟨by(try simp only[hl231000_2]);refine bD ?_;refine blk_far ?_ NB220_226.out _;(with_reducible repeat(first|refine blk_drewN ?_ _|refine blk_drew ?_|refine blk_alloc ?_ _));exact BK220.out⟩,⟨by(try simp only[hl231000_2]);refine bD ?_;refine blk_far ?_ NB225_226.out _;(with_reducible repeat(first|refine blk_drewN ?_ _|refine blk_drew ?_|refine blk_alloc ?_ _));exact BK225.out⟩,⟨by(try simp only[hl231000_2]);refine bD ?_;refine blk_put (cs:=#[.int .i64 a0_0,u227001]) ?_ 1 _ rfl;(with_reducible repeat(first|refine blk_drewN ?_ _|refine blk_drew ?_|refine blk_alloc ?_ _));exact BK226.out⟩,⟨by(try simp only[hl231000_2]);refine bD ?_;refine blk_far ?_ NB230_226.out _;(with_reducible repeat(first|refine blk_drewN ?_ _|refine blk_drew ?_|refine blk_alloc ?_ _));exact BK230.out⟩,⟨pB⟩⟩
                  ·rw[if_neg c91] at H;exact absurd H (by simp)
              ·rw[if_neg c69] at H;have c69b0:(t239 == 0)=false:=beq_eq_false_iff_ne.mpr c69;have c69b1:(t239 != 0)=true:=bne_iff_ne.mpr c69;simp only[Option.some.injEq,Prod.mk.injEq] at H;obtain⟨rfl,rfl,rfl,rfl⟩:=H;have p231:0≤(x55_1:Int):=oE aS
               have q231:x55_1 < (l0_1.length:Int):=oE aS
               obtain⟨ad231,A231_0,c231_0,e231,hx231_0,hl231_0,hi231_0⟩:=at_L1 HR0_1.out x55_1 p231 q231;obtain rfl:ad222=ad231:=(by injection e231)
               replace hx231_0:=(HB.out.cell (World.block_lt_of_cell? w _ hx231_0)).trans hx231_0;have HR231_0:=aM hi231_0;have HC231_0:=aM hl231_0;clear hi231_0 hl231_0;replace p231:=eq_true p231;replace q231:=eq_true q231;try go_wp2
               have n0_:=aM (Kd.S_drew HO_227001.out);have n1_:=aM (Kd.R_drew HO_231000.out);have n2_:=aM (blk_drew BK219.out);have n3_:=aM (blk_drew BK220.out);have n4_:=aM (blk_drew BK225.out);have n5_:=aM (blk_drew BK226.out);have n6_:=aM (blk_drew BK230.out);have n7_:=aM (below_drew1 HB.out);clear HO_227001;clear HO_231000;clear BK219;clear BK220;clear BK225;clear BK226;clear BK230;clear HB;have HO_227001:=n0_;have HO_231000:=n1_;have BK219:=n2_;have BK220:=n3_;have BK225:=n4_;have BK226:=n5_;have BK230:=n6_;have HB:=n7_;clear n0_ n1_ n2_ n3_ n4_ n5_ n6_ n7_;refine start_ (n:=4) (S:=fun w'=>w'.cell? ⟨gb225,0,none⟩=some (.int .i64 x226000_1)) (ds:=[]) #[false,false,false,false] (by kernel_rfl) rfl rfl ((blk_cell BK225.out 0).trans rfl) (fun hHeld=>?_)
               generalize wr.drew=w101 at HO_227001 HO_231000 BK219 BK220 BK225 BK226 BK230 HB hHeld ⊢;refine pure_ (i:=1) (N:=some 60) (v:=?_) (a':=?_) #[false,true,false,false] rfl rfl (by kernel_rfl) (fun _ _ _ h=>h) (Or.inl ⟨by rfl,?_⟩) ?_ ?_
               rotate_left
               ·intro w';go_simp
                with_reducible rfl
               rotate_left
               ·simp only[Act.put,sA,sZ,sC,i64_w,i32_w];rfl
               refine take_ (i:=0) (N:=some 59) (v:=?_) (a':=?_) #[true,true,false,false] rfl rfl (by kernel_rfl) (fun _ _ _ h=>h) (Or.inl ⟨by rfl,?_⟩) hHeld ?_ ?_
               rotate_left
               ·intro w' s0;go_simp
                with_reducible rfl
               rotate_left
               ·simp only[Act.put,sA,sZ,sC,i64_w,i32_w];rfl
               refine one_ (i:=2) (N:=some 61) #[true,true,true,false] rfl rfl (by kernel_rfl) (by decide) (fun K hK=>?_)
               refine goes_ Try.func27 (by kernel_rfl) rfl #[.slice A231_0 (rd_L1 l0_1 x55_1).length c231_0] (by rfl) rfl rfl mA ?_
               with_reducible refine(Czk.calls k1 _ _ (rd_L1 l0_1 x55_1) t232 _ ?side1 ?side2 A55.out).mono ?_
               (case side1=>exact cX (Kd.C_below HR231_0.out HB.out))
               (case side2=>exact HC231_0.out)
               rintro e w' ⟨rfl,⟨nd,rfl⟩⟩;refine⟨_,rfl,?_⟩;refine hK.out _ _ ((blk_cell BK225.out 0).trans rfl) (fun hHeld=>?_)
               clear hK K;refine norm_ (a':=?_) ?_ ?_;rotate_left
               ·show Act.put _ (some 61) _=_
                simp only[Act.put,sA,sZ,sC,i64_w,i32_w];rfl
               refine pure_ (i:=3) (N:=some 62) (v:=?_) (a':=?_) #[true,true,true,true] rfl rfl (by kernel_rfl) (fun _ _ _ h=>h) (Or.inl ⟨by rfl,?_⟩) ?_ ?_
               rotate_left
               ·intro w';go_simp
                with_reducible rfl
               rotate_left
               ·simp only[Act.put,sA,sZ,sC,i64_w,i32_w];rfl
               refine done_ (by kernel_rfl) ?_
               try go_wp2_with (first|((with_reducible refine gate_callee (f:=30) rfl ?_);refine goesL_ (some 67) rfl rfl Try.func30 (by kernel_rfl) rfl #[.slice A231_0 (rd_L1 l0_1 x55_1).length c231_0] rfl mA ?_;(with_reducible refine(Dzv.calls _ _ (rd_L1 l0_1 x55_1) t235 _ ?side1 ?side2 A66.out).mono ?_);(case side1=>repeat(first|exact(Kd.C_below HR231_0.out pB)|(with_reducible refine Kd.C_alloc ?_ _)|(with_reducible refine Kd.C_drewN ?_ _)|(with_reducible refine Kd.C_drew ?_)));(case side2=>exact HC231_0.out);rintro e w102 ⟨v236,rfl,ho0,hb⟩;refine⟨_,rfl,?_⟩;have HO237:=aM (Kd.R_lower (Kd.R_newB (Kd.R_new' ho0 (Kd.R_lt (rX HO_231000.out))) (g:=gb225) (o:=.cells #[.int .i64 x226000_1] 3 (0,0)) (kW BK225)) (below_size pB));replace HO_227001:=aM (Kd.S_elder' (by(with_reducible repeat(first|apply Kd.S_alloc|apply Kd.S_drewN|apply Kd.S_drew));exact HO_227001.out) (Kd.R_base ho0) hb);replace HO_231000:=aM (Kd.R_elder' (rX HO_231000.out) (Kd.R_base ho0) hb);replace BK219:=aM (kB BK219 hb);replace BK220:=aM (kB BK220 hb);replace BK225:=aM (kB BK225 hb);replace BK226:=aM (kB BK226 hb);replace BK230:=aM (kB BK230 hb);replace HB:=aM (below_step pB hb);(try clear hb);(try clear hb2);(try clear hk);(try clear hi);(try clear ho0);have hnb103:=NB225_219.out;have hnc103:=NB219_225.out;have hnb104:=NB225_220.out;have hnc104:=NB220_225.out;have hnb105:=NB225_226.out;have hnc105:=NB226_225.out;have hnb106:=NB225_230.out;have hnc106:=NB230_225.out;obtain⟨hcz107_0,hfz107_0⟩:=bk1 BK225)|((with_reducible refine gate_callee (f:=33) rfl ?_);refine goesL_ (some 73) rfl rfl Try.func33 (by kernel_rfl) rfl #[.int .i64 x226000_1,.slice A231_0 (rd_L1 l0_1 x55_1).length c231_0] rfl mA ?_;(with_reducible refine(Bzp.calls k1 x226000_1 _ _ (rd_L1 l0_1 x55_1) t238 t239 _ ?side1 ?side2 A68.out).mono ?_);(case side1=>exact cX (Kd.C_below HR231_0.out HB.out));(case side2=>exact HC231_0.out);rintro e w108 ⟨v240,rfl,ho0,hb⟩;refine⟨_,rfl,?_⟩;have HO241:=aM (Kd.R_lower (Kd.R_newB (Kd.R_new' (Kd.R_new' ho0 (Kd.R_lt (rX HO_231000.out))) (Kd.R_lt (rX HO237.out))) (g:=gb225) (o:=.cells #[.int .i64 x226000_1] 3 (0,0)) (kW BK225)) (below_size pB));replace HO_227001:=aM (Kd.S_elder' (by(with_reducible repeat(first|apply Kd.S_alloc|apply Kd.S_drewN|apply Kd.S_drew));exact HO_227001.out) (Kd.R_base ho0) hb);replace HO_231000:=aM (Kd.R_elder' (rX HO_231000.out) (Kd.R_base ho0) hb);replace HO237:=aM (Kd.R_elder' (rX HO237.out) (Kd.R_base ho0) hb);replace BK219:=aM (kB BK219 hb);replace BK220:=aM (kB BK220 hb);replace BK225:=aM (kB BK225 hb);replace BK226:=aM (kB BK226 hb);replace BK230:=aM (kB BK230 hb);replace HB:=aM (below_step pB hb);(try clear hb);(try clear hb2);(try clear hk);(try clear hi);(try clear ho0);have hnb109:=NB220_219.out;have hnc109:=NB219_220.out;have hnb110:=NB220_226.out;have hnc110:=NB226_220.out;have hnb111:=NB220_230.out;have hnc111:=NB230_220.out;obtain⟨hcz112_0,hcz112_1,hfz112_0,hfz112_1⟩:=bk2 BK220))
               refine bodyPost_ret (results_ctt rfl _ _ gb220 24 #[.int .i64 0,.slice none 0 0] (0,0) _ rfl (by refine bD ?_;refine blk_put (cs:=#[.int .i64 0,.slice none 0 0]) ?_ 1 _ rfl;refine bD ?_;refine blk_put (cs:=#[.int .i64 x221000_1,.slice none 0 0]) ?_ 0 _ rfl;(with_reducible repeat(first|refine blk_drewN ?_ _|refine blk_drew ?_|refine blk_alloc ?_ _));exact BK220.out) Try.underlying24 rfl (by kernel_rfl)) rfl ?_
               exact⟨_,_,eW,by first|exact Kd.S_nil _ _ _ _ _|exact Kd.N_nil _ _ _ _ _|exact Kd.V_nil _ _ _ _ _|exact Kd.Q_nil _ _ _ _ _|exact Kd.R_nil _ _ _ _ _,by first|exact Kd.R_nil _ _ _ _ _|exact Kd.N_nil _ _ _ _ _|exact Kd.V_nil _ _ _ _ _|exact Kd.Q_nil _ _ _ _ _|exact Kd.S_nil _ _ _ _ _,pB⟩
             ·rw[if_neg c67] at H;have c67b0:decide (0 < x226000_1)=false:=decide_eq_false c67;clear c67;by_cases c113:x227001_1.length < 5864062014805
              ·rw[if_pos c113] at H;have LMc113:=aM c113;clear c113;obtain⟨y250,hy250⟩:∃ y_:List (List Int),y_=(x227001_1 ++ [t235]):=⟨_,rfl⟩;replace H:(Bzq.l0 k1 l1 l0_1 (l0_1.length:Int) (wrap64 (x55_1+1)) x226000_1 a0_0 y250 x231000_1)=some (r1,r2,r3,r4):=by first|(rw[hy250];with_reducible exact H)|(have H2_:=(Option.bind_some _ _).symm.trans H;rw[hy250];with_reducible exact H2_)|(have H2_:=(Option.bind_some _ _).symm.trans H;with_reducible exact H2_)|with_reducible exact H|(rw[hy250];exact H)|exact H
               have Ny250:=aM hy250;clear hy250;have H':=aM H;clear H;have p231:0≤(x55_1:Int):=oE aS
               have q231:x55_1 < (l0_1.length:Int):=oE aS
               obtain⟨ad231,A231_0,c231_0,e231,hx231_0,hl231_0,hi231_0⟩:=at_L1 HR0_1.out x55_1 p231 q231;obtain rfl:ad222=ad231:=(by injection e231)
               replace hx231_0:=(HB.out.cell (World.block_lt_of_cell? w _ hx231_0)).trans hx231_0;have HR231_0:=aM hi231_0;have HC231_0:=aM hl231_0;clear hi231_0 hl231_0;replace p231:=eq_true p231;replace q231:=eq_true q231;try go_wp2
               have n0_:=aM (Kd.S_drew HO_227001.out);have n1_:=aM (Kd.R_drew HO_231000.out);have n2_:=aM (blk_drew BK219.out);have n3_:=aM (blk_drew BK220.out);have n4_:=aM (blk_drew BK225.out);have n5_:=aM (blk_drew BK226.out);have n6_:=aM (blk_drew BK230.out);have n7_:=aM (below_drew1 HB.out);clear HO_227001;clear HO_231000;clear BK219;clear BK220;clear BK225;clear BK226;clear BK230;clear HB;have HO_227001:=n0_;have HO_231000:=n1_;have BK219:=n2_;have BK220:=n3_;have BK225:=n4_;have BK226:=n5_;have BK230:=n6_;have HB:=n7_;clear n0_ n1_ n2_ n3_ n4_ n5_ n6_ n7_;refine start_ (n:=4) (S:=fun w'=>w'.cell? ⟨gb225,0,none⟩=some (.int .i64 x226000_1)) (ds:=[]) #[false,false,false,false] (by kernel_rfl) rfl rfl ((blk_cell BK225.out 0).trans rfl) (fun hHeld=>?_)
               generalize wr.drew=w114 at HO_227001 HO_231000 BK219 BK220 BK225 BK226 BK230 HB hHeld ⊢;refine pure_ (i:=1) (N:=some 60) (v:=?_) (a':=?_) #[false,true,false,false] rfl rfl (by kernel_rfl) (fun _ _ _ h=>h) (Or.inl ⟨by rfl,?_⟩) ?_ ?_
               rotate_left
               ·intro w';go_simp
                with_reducible rfl
               rotate_left
               ·simp only[Act.put,sA,sZ,sC,i64_w,i32_w];rfl
               refine take_ (i:=0) (N:=some 59) (v:=?_) (a':=?_) #[true,true,false,false] rfl rfl (by kernel_rfl) (fun _ _ _ h=>h) (Or.inl ⟨by rfl,?_⟩) hHeld ?_ ?_
               rotate_left
               ·intro w' s0;go_simp
                with_reducible rfl
               rotate_left
               ·simp only[Act.put,sA,sZ,sC,i64_w,i32_w];rfl
               refine one_ (i:=2) (N:=some 61) #[true,true,true,false] rfl rfl (by kernel_rfl) (by decide) (fun K hK=>?_)
               refine goes_ Try.func27 (by kernel_rfl) rfl #[.slice A231_0 (rd_L1 l0_1 x55_1).length c231_0] (by rfl) rfl rfl mA ?_
               with_reducible refine(Czk.calls k1 _ _ (rd_L1 l0_1 x55_1) t232 _ ?side1 ?side2 A55.out).mono ?_
               (case side1=>exact cX (Kd.C_below HR231_0.out HB.out))
               (case side2=>exact HC231_0.out)
               rintro e w' ⟨rfl,⟨nd,rfl⟩⟩;refine⟨_,rfl,?_⟩;refine hK.out _ _ ((blk_cell BK225.out 0).trans rfl) (fun hHeld=>?_)
               clear hK K;refine norm_ (a':=?_) ?_ ?_;rotate_left
               ·show Act.put _ (some 61) _=_
                simp only[Act.put,sA,sZ,sC,i64_w,i32_w];rfl
               refine pure_ (i:=3) (N:=some 62) (v:=?_) (a':=?_) #[true,true,true,true] rfl rfl (by kernel_rfl) (fun _ _ _ h=>h) (Or.inl ⟨by rfl,?_⟩) ?_ ?_
               rotate_left
               ·intro w';go_simp
                with_reducible rfl
               rotate_left
               ·simp only[Act.put,sA,sZ,sC,i64_w,i32_w];rfl
               refine done_ (by kernel_rfl) ?_
               try go_wp2_with (first|((with_reducible refine gate_callee (f:=30) rfl ?_);refine goesL_ (some 67) rfl rfl Try.func30 (by kernel_rfl) rfl #[.slice A231_0 (rd_L1 l0_1 x55_1).length c231_0] rfl mA ?_;(with_reducible refine(Dzv.calls _ _ (rd_L1 l0_1 x55_1) t235 _ ?side1 ?side2 A66.out).mono ?_);(case side1=>repeat(first|exact(Kd.C_below HR231_0.out pB)|(with_reducible refine Kd.C_alloc ?_ _)|(with_reducible refine Kd.C_drewN ?_ _)|(with_reducible refine Kd.C_drew ?_)));(case side2=>exact HC231_0.out);rintro e w115 ⟨v236,rfl,ho0,hb⟩;refine⟨_,rfl,?_⟩;have HO237:=aM (Kd.R_lower (Kd.R_newB (Kd.R_new' ho0 (Kd.R_lt (rX HO_231000.out))) (g:=gb225) (o:=.cells #[.int .i64 x226000_1] 3 (0,0)) (kW BK225)) (below_size pB));replace HO_227001:=aM (Kd.S_elder' (by(with_reducible repeat(first|apply Kd.S_alloc|apply Kd.S_drewN|apply Kd.S_drew));exact HO_227001.out) (Kd.R_base ho0) hb);replace HO_231000:=aM (Kd.R_elder' (rX HO_231000.out) (Kd.R_base ho0) hb);replace BK219:=aM (kB BK219 hb);replace BK220:=aM (kB BK220 hb);replace BK225:=aM (kB BK225 hb);replace BK226:=aM (kB BK226 hb);replace BK230:=aM (kB BK230 hb);replace HB:=aM (below_step pB hb);(try clear hb);(try clear hb2);(try clear hk);(try clear hi);(try clear ho0);have hnb116:=NB225_219.out;have hnc116:=NB219_225.out;have hnb117:=NB225_220.out;have hnc117:=NB220_225.out;have hnb118:=NB225_226.out;have hnc118:=NB226_225.out;have hnb119:=NB225_230.out;have hnc119:=NB230_225.out;obtain⟨hcz120_0,hfz120_0⟩:=bk1 BK225;have hnb121:=NB226_219.out;have hnc121:=NB219_226.out;have hnb122:=NB226_220.out;have hnc122:=NB220_226.out;have hnb123:=NB226_230.out;have hnc123:=NB230_226.out;obtain⟨hcz124_0,hcz124_1,hfz124_0,hfz124_1⟩:=bk2 BK226;obtain⟨Ao126,co126,eo126⟩:=Kd.R_slice HO237.out;subst eo126)|((with_reducible refine gate_builtin (b:=.append) (xs:=#[.tmp 99,.tmp 101]) rfl ?_);at_builtin;refine Kd.S_append (Kd.slice 3 (Kd.int .i64)) (w0:=w) w.heap.size rfl (.tmp 99) (.tmp 101) 22 29 (.slice none 0 0) 24 rfl Try.underlying22 info29 rfl (by decide) (by omega) u227001 x227001_1 t235 [.slice Ao126 t235.length co126] (fun k_=>some k_≠(u231000:Value).ownBlock∧k_≠gb225∧k_≠gb230) (fun k_=>some k_=(.slice Ao126 t235.length co126:Value).ownBlock) rfl rfl ?aP (fun k_ hk_=>((Kd.R_mono (ok':=fun k_=>((fun k_=>some k_≠(u231000:Value).ownBlock∧k_≠gb225∧k_≠gb230)) k_∧some k_≠(u227001:Value).ownBlock) (Kd.R_types (Kd.R_apart' (HO237.out) (Kd.S_typed HO_227001.out) (by decide)) BK230.out (by decide)) (fun k_ hk=>⟨⟨hk.1.1.1.2,⟨hk.1.1.2,hk.2⟩⟩,hk.1.2⟩))).1 k_ hk_.symm) ?aF ?aO ?aB ?aS ?aL ?_;(case aP=>exact Kd.M_row (Kd.R_mono (Kd.R_tight rfl (Kd.R_mono (ok':=fun k_=>((fun k_=>some k_≠(u231000:Value).ownBlock∧k_≠gb225∧k_≠gb230)) k_∧some k_≠(u227001:Value).ownBlock) (Kd.R_types (Kd.R_apart' (HO237.out) (Kd.S_typed HO_227001.out) (by decide)) BK230.out (by decide)) (fun k_ hk=>⟨⟨hk.1.1.1.2,⟨hk.1.1.2,hk.2⟩⟩,hk.1.2⟩))) (fun _ h_=>h_)));(case aB=>exact pB);(case aF=>exact(fun k_ hk=>⟨Kd.fresh' (Kd.R_lt (rX HO_231000.out)) k_ hk,Kd.freshB (g:=gb225) (o:=.cells #[.int .i64 x226000_1] 3 (0,0)) (kW BK225) k_ hk,Kd.freshB (g:=gb230) (o:=.cells #[u231000] 29 (0,0)) (kW BK230) k_ hk⟩));(case aO=>exact(by(with_reducible repeat(first|apply Kd.S_alloc|apply Kd.S_drewN|apply Kd.S_drew));exact Kd.S_mono HO_227001.out (fun k_ hk=>⟨⟨hk.1.1,⟨hk.1.2.1,hk.1.2.2⟩⟩,fun e_=>hk.2 e_⟩)));(case aS=>exact(below_size pB));(case aL=>have:=LMc113.out;omega);intro v251 w125 ho hb hg hat;rw[← Ny250.out] at ho;have HO252:=aM (ho);replace HO_231000:=aM (Kd.R_over' (rX HO_231000.out) (Kd.S_typed (by(with_reducible repeat(first|apply Kd.S_alloc|apply Kd.S_drewN|apply Kd.S_drew));exact HO_227001.out)) (by decide) hg);replace BK219:=aM (blk_grown (g:=gb219) (o:=.cells #[.int .i64 a0_0,.slice (some ad222) l0_1.length c0_1] 24 (0,0)) (kW BK219) hg (Kd.S_ne HO_227001.out BK219.out (by decide)));replace BK220:=aM (blk_grown (g:=gb220) (o:=.cells #[.int .i64 x221000_1,.slice none 0 0] 24 (0,0)) (kW BK220) hg (Kd.S_ne HO_227001.out BK220.out (by decide)));replace BK225:=aM (blk_grown (g:=gb225) (o:=.cells #[.int .i64 x226000_1] 3 (0,0)) (kW BK225) hg (Kd.S_ne HO_227001.out BK225.out (by decide)));replace BK226:=aM (blk_grown (g:=gb226) (o:=.cells #[.int .i64 a0_0,u227001] 24 (0,0)) (kW BK226) hg (Kd.S_ne HO_227001.out BK226.out (by decide)));replace BK230:=aM (blk_grown (g:=gb230) (o:=.cells #[u231000] 29 (0,0)) (kW BK230) hg (Kd.S_away HO_227001.out (fun _ hk=>hk.1.2.2)));replace HB:=aM (hb);clear HO237;clear HO_227001;clear ho hb hg hat;obtain⟨Ao127,co127,eo127⟩:=Kd.S_slice HO252.out;subst eo127;obtain⟨hcz128_0,hcz128_1,hfz128_0,hfz128_1⟩:=bk2 BK226))
               go_roundg k1
               case measure=>have:=HK1.out;omega
               case rel=>exact⟨(wrap64 (x55_1+1)),(x221000_1),(x226000_1),(y250),(x231000_1),(.slice Ao127 y250.length co127),(u231000),sD,H',⟨by have:=HK1.out;omega⟩,⟨by(with_reducible repeat(first|apply Kd.S_alloc|apply Kd.S_drewN|apply Kd.S_drew));exact Kd.S_mono (Kd.S_far (p:=⟨gb226,1,none⟩) (Kd.S_types HO252.out BK226.out (by decide)) (fun _ hk=>hk.2) (.slice Ao127 y250.length co127)) (fun _ hk=>⟨hk.1.1,⟨hk.1.2.1,hk.1.2.2⟩⟩)⟩,⟨by(with_reducible repeat(first|apply Kd.R_alloc|apply Kd.R_drewN|apply Kd.R_drew));exact Kd.R_mono (Kd.R_far (p:=⟨gb226,1,none⟩) (Kd.R_types HO_231000.out BK226.out (by decide)) (fun _ hk=>hk.2) (.slice Ao127 y250.length co127)) (fun _ hk=>hk.1.1)⟩,⟨by refine bD ?_;refine blk_far ?_ NB219_226.out _;(with_reducible repeat(first|refine blk_drewN ?_ _|refine blk_drew ?_|refine blk_alloc ?_ _));exact BK219.out⟩,⟨by refine bD ?_;refine blk_far ?_ NB220_226.out _;(with_reducible repeat(first|refine blk_drewN ?_ _|refine blk_drew ?_|refine blk_alloc ?_ _));exact BK220.out⟩,⟨by refine bD ?_;refine blk_far ?_ NB225_226.out _;(with_reducible repeat(first|refine blk_drewN ?_ _|refine blk_drew ?_|refine blk_alloc ?_ _));exact BK225.out⟩,⟨by refine bD ?_;refine blk_put (cs:=#[.int .i64 a0_0,u227001]) ?_ 1 _ rfl;(with_reducible repeat(first|refine blk_drewN ?_ _|refine blk_drew ?_|refine blk_alloc ?_ _));exact BK226.out⟩,⟨by refine bD ?_;refine blk_far ?_ NB230_226.out _;(with_reducible repeat(first|refine blk_drewN ?_ _|refine blk_drew ?_|refine blk_alloc ?_ _));exact BK230.out⟩,⟨pB⟩⟩
              ·rw[if_neg c113] at H;exact absurd H (by simp)
           ·rw[if_neg c54] at H;exact absurd H (by simp)
          ·rw[if_neg c53] at H;exact absurd H (by simp)
         ·rw[if_neg c52] at H;have c52b0:decide (x55_1 < (l0_1.length:Int))=false:=decide_eq_false c52;clear c52;replace H:=bS H;obtain⟨t253,A1290,H⟩:=H;try dsimp only at H
          have A129:=aM A1290;clear A1290;by_cases c130:t253 > 0
          ·rw[if_pos c130] at H;have c130b0:decide (0 < t253)=true:=dE c130;clear c130;replace H:=bS H;obtain⟨t254,A1310,H⟩:=H;try dsimp only at H
           have A131:=aM A1310;clear A1310;by_cases c132:x227001_1.length < 5864062014805
           ·rw[if_pos c132] at H;have LMc132:=aM c132;clear c132;obtain⟨y257,hy257⟩:∃ y_:List (List Int),y_=(x227001_1 ++ [t254]):=⟨_,rfl⟩;replace H:(if(y257.length:Int) > 256 then(some (0,([]:List (List Int)),([]:List Int),8)) else(some (a0_0,y257,x231000_1,0)))=some (r1,r2,r3,r4):=by first|(rw[hy257];with_reducible exact H)|(have H2_:=(Option.bind_some _ _).symm.trans H;rw[hy257];with_reducible exact H2_)|(have H2_:=(Option.bind_some _ _).symm.trans H;with_reducible exact H2_)|with_reducible exact H|(rw[hy257];exact H)|exact H
            have Ny257:=aM hy257;clear hy257;by_cases c133:(y257.length:Int) > 256
            ·rw[if_pos c133] at H;have c133b0:decide (256 < (y257.length:Int))=true:=dE c133;have c133b1:decide (256 < y257.length)=true:=dE (by omega)
             clear c133;simp only[Option.some.injEq,Prod.mk.injEq] at H;obtain⟨rfl,rfl,rfl,rfl⟩:=H;try go_wp2_with (first|((with_reducible refine gate_callee (f:=27) rfl ?_);refine goesL_ (some 106) rfl rfl Try.func27 (by kernel_rfl) rfl #[.slice A1 l1.length c1] rfl mA ?_;(with_reducible refine(Czk.calls k1 _ _ l1 t253 _ ?side1 ?side2 A129.out).mono ?_);(case side1=>exact cX (Kd.C_below HR1.out HB.out));(case side2=>exact HC1.out);rintro e w' ⟨rfl,⟨nd,rfl⟩⟩;refine⟨_,rfl,?_⟩;(try(rw[drewN_self wr];generalize hq_:World.drewN wr _=wr;have n0_:Aside0 (Kd.S (Kd.slice 3 (Kd.int .i64)) 29 wr w.heap.size (fun k_=>some k_≠(u231000:Value).ownBlock∧k_≠gb225∧k_≠gb230) u227001 x227001_1):=⟨by rw[← hq_];exact(by(with_reducible repeat(first|apply Kd.S_alloc|apply Kd.S_drewN|apply Kd.S_drew));exact HO_227001.out)⟩;have n1_:Aside0 (Kd.R (Kd.int .i64) 3 wr w.heap.size (fun k_=>k_≠gb225) u231000 x231000_1):=⟨by rw[← hq_];exact(rX HO_231000.out)⟩;have n2_:Aside0 (wr.heap[gb219]?=some (.cells #[.int .i64 a0_0,.slice (some ad222) l0_1.length c0_1] 24 (0,0))):=⟨by rw[← hq_];exact(kW BK219)⟩;have n3_:Aside0 (wr.heap[gb220]?=some (.cells #[.int .i64 x221000_1,.slice none 0 0] 24 (0,0))):=⟨by rw[← hq_];exact(kW BK220)⟩;have n4_:Aside0 (wr.heap[gb225]?=some (.cells #[.int .i64 x226000_1] 3 (0,0))):=⟨by rw[← hq_];exact(kW BK225)⟩;have n5_:Aside0 (wr.heap[gb226]?=some (.cells #[.int .i64 a0_0,u227001] 24 (0,0))):=⟨by rw[← hq_];exact(kW BK226)⟩;have n6_:Aside0 (wr.heap[gb230]?=some (.cells #[u231000] 29 (0,0))):=⟨by rw[← hq_];exact(kW BK230)⟩;have n7_:Aside0 (Below w.heap.size w wr):=⟨by rw[← hq_];exact pB⟩;clear HO_227001 HO_231000 BK219 BK220 BK225 BK226 BK230 HB hq_;have HO_227001:=n0_;have HO_231000:=n1_;have BK219:=n2_;have BK220:=n3_;have BK225:=n4_;have BK226:=n5_;have BK230:=n6_;have HB:=n7_;clear n0_ n1_ n2_ n3_ n4_ n5_ n6_ n7_;have hcqgb219_0:wr.cell? ⟨gb219,0,none⟩=some (.int .i64 a0_0):=(blk_cell BK219.out 0).trans rfl;have hfqgb219_0:=blk_frozen BK219.out 0;have hcqgb219_1:wr.cell? ⟨gb219,1,none⟩=some (.slice (some ad222) l0_1.length c0_1):=(blk_cell BK219.out 1).trans rfl;have hfqgb219_1:=blk_frozen BK219.out 1;have hcqgb220_0:wr.cell? ⟨gb220,0,none⟩=some (.int .i64 x221000_1):=(blk_cell BK220.out 0).trans rfl;have hfqgb220_0:=blk_frozen BK220.out 0;have hcqgb220_1:wr.cell? ⟨gb220,1,none⟩=some (.slice none 0 0):=(blk_cell BK220.out 1).trans rfl;have hfqgb220_1:=blk_frozen BK220.out 1;have hcqgb225_0:wr.cell? ⟨gb225,0,none⟩=some (.int .i64 x226000_1):=(blk_cell BK225.out 0).trans rfl;have hfqgb225_0:=blk_frozen BK225.out 0;have hcqgb226_0:wr.cell? ⟨gb226,0,none⟩=some (.int .i64 a0_0):=(blk_cell BK226.out 0).trans rfl;have hfqgb226_0:=blk_frozen BK226.out 0;have hcqgb226_1:wr.cell? ⟨gb226,1,none⟩=some (u227001):=(blk_cell BK226.out 1).trans rfl;have hfqgb226_1:=blk_frozen BK226.out 1;have hcqgb230_0:wr.cell? ⟨gb230,0,none⟩=some (u231000):=(blk_cell BK230.out 0).trans rfl;have hfqgb230_0:=blk_frozen BK230.out 0))))
             have n0_:=aM (Kd.S_drew HO_227001.out);have n1_:=aM (Kd.R_drew HO_231000.out);have n2_:=aM (blk_drew BK219.out);have n3_:=aM (blk_drew BK220.out);have n4_:=aM (blk_drew BK225.out);have n5_:=aM (blk_drew BK226.out);have n6_:=aM (blk_drew BK230.out);have n7_:=aM (below_drew1 HB.out);clear HO_227001;clear HO_231000;clear BK219;clear BK220;clear BK225;clear BK226;clear BK230;clear HB;have HO_227001:=n0_;have HO_231000:=n1_;have BK219:=n2_;have BK220:=n3_;have BK225:=n4_;have BK226:=n5_;have BK230:=n6_;have HB:=n7_;clear n0_ n1_ n2_ n3_ n4_ n5_ n6_ n7_;refine start_ (n:=8) (S:=fun w'=>w'.cell? ⟨gb226,0,none⟩=some (.int .i64 a0_0)∧w'.cell? ⟨gb226,1,none⟩=some (u227001)) (ds:=[7]) #[false,false,false,false,false,false,false,false] (by kernel_rfl) rfl rfl ⟨(blk_cell BK226.out 0).trans rfl,(blk_cell BK226.out 1).trans rfl⟩ (fun hHeld=>?_);refine with_tabW Bzq.tab33 Bzq.bits33 (fun HT_ HW_=>?_)
             generalize wr.drew=w134 at HO_227001 HO_231000 BK219 BK220 BK225 BK226 BK230 HB hHeld ⊢;refine pU (i:=0) (N:=some 108) HT_ #[true,false,false,false,false,false,false,false] ?_;refine pU (i:=2) (N:=some 110) HT_ #[true,false,true,false,false,false,false,false] ?_;refine take_ (i:=1) (N:=some 109) (v:=?_) (a':=?_) #[true,true,true,false,false,false,false,false] rfl rfl (take_ofW HT_.out HW_.out (by kernel_rfl)) (fun _ _ _ h=>h) (Or.inl ⟨by rfl,?_⟩) hHeld ?_ ?_
             rotate_left
             ·rintro w' ⟨s0,s1⟩;go_simp
              with_reducible rfl
             rotate_left
             ·simp only[Act.put,sA,sZ,sC,i64_w,i32_w];rfl
             refine one_ (i:=3) (N:=some 111) #[true,true,true,true,false,false,false,false] rfl rfl (one_of HT_.out (by kernel_rfl)) (by decide) (fun K hK=>?_)
             refine goes_ Try.func30 (by kernel_rfl) rfl #[.slice A1 l1.length c1] (by rfl) rfl rfl mA ?_
             with_reducible refine(Dzv.calls _ _ l1 t254 _ ?side1 ?side2 A131.out).mono ?_
             (case side1=>exact cX (Kd.C_below HR1.out HB.out))
             (case side2=>exact HC1.out)
             rintro e w135 ⟨v255,rfl,ho0,hb⟩;refine⟨_,rfl,?_⟩;have n0_:=aM (Kd.S_elder' (by(with_reducible repeat(first|apply Kd.S_alloc|apply Kd.S_drewN|apply Kd.S_drew));exact HO_227001.out) (Kd.R_base ho0) hb)
             have n1_:=aM (Kd.R_elder' (rX HO_231000.out) (Kd.R_base ho0) hb);have n2_:=aM (Kd.R_lower (Kd.R_newB (Kd.R_new' ho0 (Kd.R_lt (rX HO_231000.out))) (g:=gb225) (o:=.cells #[.int .i64 x226000_1] 3 (0,0)) (kW BK225)) (below_size pB));have n3_:=aM (kB BK219 hb);have n4_:=aM (kB BK220 hb);have n5_:=aM (kB BK225 hb);have n6_:=aM (kB BK226 hb);have n7_:=aM (kB BK230 hb);have n8_:=aM (below_step pB hb);clear HO_227001;clear HO_231000;clear BK219;clear BK220;clear BK225;clear BK226;clear BK230;clear HB;have HO_227001:=n0_;have HO_231000:=n1_;have HO256:=n2_;have BK219:=n3_;have BK220:=n4_;have BK225:=n5_;have BK226:=n6_;have BK230:=n7_;have HB:=n8_;clear n0_ n1_ n2_ n3_ n4_ n5_ n6_ n7_ n8_;(try clear hb)
             (try clear hb2)
             (try clear hk)
             (try clear hi)
             (try clear ho0)
             obtain⟨Ao137,co137,eo137⟩:=Kd.R_slice HO256.out;(first|subst eo137|(injection eo137 with f1_ f2_ f3_;have f4_:=f1_.symm;have f5_:=f3_.symm;clear f1_ f2_ f3_;subst f4_;subst f5_))
             refine hK.out _ _ ⟨(blk_cell BK226.out 0).trans rfl,(blk_cell BK226.out 1).trans rfl⟩ (fun hHeld=>?_)
             clear hK K;refine norm_ (a':=?_) ?_ ?_;rotate_left
             ·show Act.put _ (some 111) _=_
              simp only[Act.put,sA,sZ,sC,i64_w,i32_w];rfl
             refine one_ (i:=4) (N:=some 112) #[true,true,true,true,true,false,false,false] rfl rfl (one_of HT_.out (by kernel_rfl)) (by decide) (fun K hK=>?_)
             refine value_ (w1:=?_) (v:=?_) (by rfl) rfl ?_ ?_
             rotate_left 2
             ·go_simp
              constructor
              ·rfl
              ·rfl
             refine hK.out _ _ ⟨(blk_cell (blk_alloc BK226.out _) 0).trans rfl,(blk_cell (blk_alloc BK226.out _) 1).trans rfl⟩ (fun hHeld=>?_)
             clear hK K;refine norm_ (a':=?_) ?_ ?_;rotate_left
             ·show Act.put _ (some 112) _=_
              simp only[Act.put,sA,sZ,sC,i64_w,i32_w];rfl
             refine one_ (i:=5) (N:=some 113) #[true,true,true,true,true,true,false,false] rfl rfl (one_of HT_.out (by kernel_rfl)) (by decide) (fun K hK=>?_)
             refine Kd.S_append_step (Kd.slice 3 (Kd.int .i64)) (w0:=w) w.heap.size (by rfl) (.tmp 109) (.tmp 112) 22 29 (.slice none 0 0) 24 rfl Try.underlying22 info29 rfl (by decide) (by omega) u227001 x227001_1 t254 [.slice Ao137 t254.length co137] (fun k_=>some k_≠(u231000:Value).ownBlock∧k_≠gb225∧k_≠gb230) (fun k_=>some k_=(.slice Ao137 t254.length co137:Value).ownBlock) rfl rfl ?aP (fun k_ hk_=>((Kd.R_mono (ok':=fun k_=>((fun k_=>some k_≠(u231000:Value).ownBlock∧k_≠gb225∧k_≠gb230)) k_∧some k_≠(u227001:Value).ownBlock) (Kd.R_types (Kd.R_apart' (HO256.out) (Kd.S_typed HO_227001.out) (by decide)) BK230.out (by decide)) (fun k_ hk=>⟨⟨hk.1.1.1.2,⟨hk.1.1.2,hk.2⟩⟩,hk.1.2⟩))).1 k_ hk_.symm) ?aF ?aO ?aB ?aS ?aL ?_
             (case aP=>exact Kd.M_row (Kd.R_mono (Kd.R_tight rfl (Kd.R_mono (ok':=fun k_=>((fun k_=>some k_≠(u231000:Value).ownBlock∧k_≠gb225∧k_≠gb230)) k_∧some k_≠(u227001:Value).ownBlock) (Kd.R_types (Kd.R_apart' (HO256.out) (Kd.S_typed HO_227001.out) (by decide)) BK230.out (by decide)) (fun k_ hk=>⟨⟨hk.1.1.1.2,⟨hk.1.1.2,hk.2⟩⟩,hk.1.2⟩))) (fun _ h_=>h_)))
             (case aB=>exact pB)
             (case aF=>exact(fun k_ hk=>⟨Kd.fresh' (Kd.R_lt (rX HO_231000.out)) k_ hk,Kd.freshB (g:=gb225) (o:=.cells #[.int .i64 x226000_1] 3 (0,0)) (kW BK225) k_ hk,Kd.freshB (g:=gb230) (o:=.cells #[u231000] 29 (0,0)) (kW BK230) k_ hk⟩))
             (case aO=>exact(by(with_reducible repeat(first|apply Kd.S_alloc|apply Kd.S_drewN|apply Kd.S_drew));exact Kd.S_mono HO_227001.out (fun k_ hk=>⟨⟨hk.1.1,⟨hk.1.2.1,hk.1.2.2⟩⟩,fun e_=>hk.2 e_⟩)))
             (case aS=>exact(below_size pB))
             (case aL=>have:=LMc132.out;omega)
             intro v258 w136 ho hb hg hat;rw[← Ny257.out] at ho;have n0_:=aM (Kd.R_over' (rX HO_231000.out) (Kd.S_typed (by(with_reducible repeat(first|apply Kd.S_alloc|apply Kd.S_drewN|apply Kd.S_drew));exact HO_227001.out)) (by decide) hg)
             have n1_:=aM (blk_grown (g:=gb219) (o:=.cells #[.int .i64 a0_0,.slice (some ad222) l0_1.length c0_1] 24 (0,0)) (kW BK219) hg (Kd.S_ne HO_227001.out BK219.out (by decide)))
             have n2_:=aM (blk_grown (g:=gb220) (o:=.cells #[.int .i64 x221000_1,.slice none 0 0] 24 (0,0)) (kW BK220) hg (Kd.S_ne HO_227001.out BK220.out (by decide)))
             have n3_:=aM (blk_grown (g:=gb225) (o:=.cells #[.int .i64 x226000_1] 3 (0,0)) (kW BK225) hg (Kd.S_ne HO_227001.out BK225.out (by decide)))
             have n4_:=aM (blk_grown (g:=gb226) (o:=.cells #[.int .i64 a0_0,u227001] 24 (0,0)) (kW BK226) hg (Kd.S_ne HO_227001.out BK226.out (by decide)))
             have n5_:=aM (blk_grown (g:=gb230) (o:=.cells #[u231000] 29 (0,0)) (kW BK230) hg (Kd.S_away HO_227001.out (fun _ hk=>hk.1.2.2)))
             have n6_:=aM (hb);have n7_:=aM (ho);clear HO_231000;clear BK219;clear BK220;clear BK225;clear BK226;clear BK230;clear HB;clear HO_227001;clear HO256;have HO_231000:=n0_;have BK219:=n1_;have BK220:=n2_;have BK225:=n3_;have BK226:=n4_;have BK230:=n5_;have HB:=n6_;have HO259:=n7_;clear n0_ n1_ n2_ n3_ n4_ n5_ n6_ n7_;clear ho hb hg hat;obtain⟨Ao138,co138,eo138⟩:=Kd.S_slice HO259.out;(first|subst eo138|(injection eo138 with f1_ f2_ f3_;have f4_:=f1_.symm;have f5_:=f3_.symm;clear f1_ f2_ f3_;subst f4_;subst f5_))
             refine hK.out _ _ ⟨(blk_cell BK226.out 0).trans rfl,(blk_cell BK226.out 1).trans rfl⟩ (fun hHeld=>?_)
             clear hK K;refine norm_ (a':=?_) ?_ ?_;rotate_left
             ·show Act.put _ (some 113) _=_
              simp only[Act.put,sA,sZ,sC,i64_w,i32_w];rfl
             refine pU (i:=6) (N:=some 114) HT_ #[true,true,true,true,true,true,true,false] ?_;refine last_ (i:=7) (N:=none) #[true,true,true,true,true,true,true,true] rfl rfl (one_of HT_.out (by kernel_rfl)) (by decide) (fun K hK=>?_)
             have hs139:w136.cell? ⟨gb226,1,none⟩=some (u227001):=(blk_cell BK226.out 1).trans rfl;have hfs139:=blk_frozen BK226.out 1;have hns139_0:=NB219_226.out;have hns139_1:=NB220_226.out;have hns139_2:=NB225_226.out;have hns139_4:=NB230_226.out;have hms139_0:=NB226_219.out;have hms139_1:=NB226_220.out;have hms139_2:=NB226_225.out;have hms139_4:=NB226_230.out;refine skip_ (w1:=?_) (by rfl) rfl ?_ ?_
             rotate_left
             ·go_simp
              rfl
             refine hK.out _ _ ?_;clear hK K;refine done_ (done_of HT_.out (by kernel_rfl)) ?_
             have hnb140:=NB226_219.out;have hnc140:=NB219_226.out;have hnb141:=NB226_220.out;have hnc141:=NB220_226.out;have hnb142:=NB226_225.out;have hnc142:=NB225_226.out;have hnb143:=NB226_230.out;have hnc143:=NB230_226.out;obtain⟨hcz144_0,hcz144_1,hfz144_0,hfz144_1⟩:=bk2 BK226;have hnb145:=NB220_219.out;have hnc145:=NB219_220.out;have hnb146:=NB220_225.out;have hnc146:=NB225_220.out;have hnb147:=NB220_230.out;have hnc147:=NB230_220.out;obtain⟨hcz148_0,hcz148_1,hfz148_0,hfz148_1⟩:=bk2 BK220;try go_wp2
             refine bodyPost_ret (results_ctt rfl _ _ gb220 24 #[.int .i64 0,.slice none 0 0] (0,0) _ rfl (by refine bD ?_;refine blk_put (cs:=#[.int .i64 0,.slice none 0 0]) ?_ 1 _ rfl;refine bD ?_;refine blk_put (cs:=#[.int .i64 x221000_1,.slice none 0 0]) ?_ 0 _ rfl;refine bD ?_;refine blk_far ?_ NB220_226.out _;(with_reducible repeat(first|refine blk_drewN ?_ _|refine blk_drew ?_|refine blk_alloc ?_ _));exact BK220.out) Try.underlying24 rfl (by kernel_rfl)) rfl ?_
             exact⟨_,_,eW,by first|exact Kd.S_nil _ _ _ _ _|exact Kd.N_nil _ _ _ _ _|exact Kd.V_nil _ _ _ _ _|exact Kd.Q_nil _ _ _ _ _|exact Kd.R_nil _ _ _ _ _,by first|exact Kd.R_nil _ _ _ _ _|exact Kd.N_nil _ _ _ _ _|exact Kd.V_nil _ _ _ _ _|exact Kd.Q_nil _ _ _ _ _|exact Kd.S_nil _ _ _ _ _,pB⟩
            ·rw[if_neg c133] at H;have c133b0:decide (256 < (y257.length:Int))=false:=decide_eq_false c133;have c133b1:decide (256 < y257.length)=false:=decide_eq_false (by omega)
             clear c133;simp only[Option.some.injEq,Prod.mk.injEq] at H;obtain⟨rfl,rfl,rfl,rfl⟩:=H;try go_wp2_with (first|((with_reducible refine gate_callee (f:=27) rfl ?_);refine goesL_ (some 106) rfl rfl Try.func27 (by kernel_rfl) rfl #[.slice A1 l1.length c1] rfl mA ?_;(with_reducible refine(Czk.calls k1 _ _ l1 t253 _ ?side1 ?side2 A129.out).mono ?_);(case side1=>exact cX (Kd.C_below HR1.out HB.out));(case side2=>exact HC1.out);rintro e w' ⟨rfl,⟨nd,rfl⟩⟩;refine⟨_,rfl,?_⟩;(try(rw[drewN_self wr];generalize hq_:World.drewN wr _=wr;have n0_:Aside0 (Kd.S (Kd.slice 3 (Kd.int .i64)) 29 wr w.heap.size (fun k_=>some k_≠(u231000:Value).ownBlock∧k_≠gb225∧k_≠gb230) u227001 x227001_1):=⟨by rw[← hq_];exact(by(with_reducible repeat(first|apply Kd.S_alloc|apply Kd.S_drewN|apply Kd.S_drew));exact HO_227001.out)⟩;have n1_:Aside0 (Kd.R (Kd.int .i64) 3 wr w.heap.size (fun k_=>k_≠gb225) u231000 x231000_1):=⟨by rw[← hq_];exact(rX HO_231000.out)⟩;have n2_:Aside0 (wr.heap[gb219]?=some (.cells #[.int .i64 a0_0,.slice (some ad222) l0_1.length c0_1] 24 (0,0))):=⟨by rw[← hq_];exact(kW BK219)⟩;have n3_:Aside0 (wr.heap[gb220]?=some (.cells #[.int .i64 x221000_1,.slice none 0 0] 24 (0,0))):=⟨by rw[← hq_];exact(kW BK220)⟩;have n4_:Aside0 (wr.heap[gb225]?=some (.cells #[.int .i64 x226000_1] 3 (0,0))):=⟨by rw[← hq_];exact(kW BK225)⟩;have n5_:Aside0 (wr.heap[gb226]?=some (.cells #[.int .i64 a0_0,u227001] 24 (0,0))):=⟨by rw[← hq_];exact(kW BK226)⟩;have n6_:Aside0 (wr.heap[gb230]?=some (.cells #[u231000] 29 (0,0))):=⟨by rw[← hq_];exact(kW BK230)⟩;have n7_:Aside0 (Below w.heap.size w wr):=⟨by rw[← hq_];exact pB⟩;clear HO_227001 HO_231000 BK219 BK220 BK225 BK226 BK230 HB hq_;have HO_227001:=n0_;have HO_231000:=n1_;have BK219:=n2_;have BK220:=n3_;have BK225:=n4_;have BK226:=n5_;have BK230:=n6_;have HB:=n7_;clear n0_ n1_ n2_ n3_ n4_ n5_ n6_ n7_;have hcqgb219_0:wr.cell? ⟨gb219,0,none⟩=some (.int .i64 a0_0):=(blk_cell BK219.out 0).trans rfl;have hfqgb219_0:=blk_frozen BK219.out 0;have hcqgb219_1:wr.cell? ⟨gb219,1,none⟩=some (.slice (some ad222) l0_1.length c0_1):=(blk_cell BK219.out 1).trans rfl;have hfqgb219_1:=blk_frozen BK219.out 1;have hcqgb220_0:wr.cell? ⟨gb220,0,none⟩=some (.int .i64 x221000_1):=(blk_cell BK220.out 0).trans rfl;have hfqgb220_0:=blk_frozen BK220.out 0;have hcqgb220_1:wr.cell? ⟨gb220,1,none⟩=some (.slice none 0 0):=(blk_cell BK220.out 1).trans rfl;have hfqgb220_1:=blk_frozen BK220.out 1;have hcqgb225_0:wr.cell? ⟨gb225,0,none⟩=some (.int .i64 x226000_1):=(blk_cell BK225.out 0).trans rfl;have hfqgb225_0:=blk_frozen BK225.out 0;have hcqgb226_0:wr.cell? ⟨gb226,0,none⟩=some (.int .i64 a0_0):=(blk_cell BK226.out 0).trans rfl;have hfqgb226_0:=blk_frozen BK226.out 0;have hcqgb226_1:wr.cell? ⟨gb226,1,none⟩=some (u227001):=(blk_cell BK226.out 1).trans rfl;have hfqgb226_1:=blk_frozen BK226.out 1;have hcqgb230_0:wr.cell? ⟨gb230,0,none⟩=some (u231000):=(blk_cell BK230.out 0).trans rfl;have hfqgb230_0:=blk_frozen BK230.out 0))))
             have n0_:=aM (Kd.S_drew HO_227001.out);have n1_:=aM (Kd.R_drew HO_231000.out);have n2_:=aM (blk_drew BK219.out);have n3_:=aM (blk_drew BK220.out);have n4_:=aM (blk_drew BK225.out);have n5_:=aM (blk_drew BK226.out);have n6_:=aM (blk_drew BK230.out);have n7_:=aM (below_drew1 HB.out);clear HO_227001;clear HO_231000;clear BK219;clear BK220;clear BK225;clear BK226;clear BK230;clear HB;have HO_227001:=n0_;have HO_231000:=n1_;have BK219:=n2_;have BK220:=n3_;have BK225:=n4_;have BK226:=n5_;have BK230:=n6_;have HB:=n7_;clear n0_ n1_ n2_ n3_ n4_ n5_ n6_ n7_;refine start_ (n:=8) (S:=fun w'=>w'.cell? ⟨gb226,0,none⟩=some (.int .i64 a0_0)∧w'.cell? ⟨gb226,1,none⟩=some (u227001)) (ds:=[7]) #[false,false,false,false,false,false,false,false] (by kernel_rfl) rfl rfl ⟨(blk_cell BK226.out 0).trans rfl,(blk_cell BK226.out 1).trans rfl⟩ (fun hHeld=>?_);refine with_tabW Bzq.tab33 Bzq.bits33 (fun HT_ HW_=>?_)
             generalize wr.drew=w149 at HO_227001 HO_231000 BK219 BK220 BK225 BK226 BK230 HB hHeld ⊢;refine pU (i:=0) (N:=some 108) HT_ #[true,false,false,false,false,false,false,false] ?_;refine pU (i:=2) (N:=some 110) HT_ #[true,false,true,false,false,false,false,false] ?_;refine take_ (i:=1) (N:=some 109) (v:=?_) (a':=?_) #[true,true,true,false,false,false,false,false] rfl rfl (take_ofW HT_.out HW_.out (by kernel_rfl)) (fun _ _ _ h=>h) (Or.inl ⟨by rfl,?_⟩) hHeld ?_ ?_
             rotate_left
             ·rintro w' ⟨s0,s1⟩;go_simp
              with_reducible rfl
             rotate_left
             ·simp only[Act.put,sA,sZ,sC,i64_w,i32_w];rfl
             refine one_ (i:=3) (N:=some 111) #[true,true,true,true,false,false,false,false] rfl rfl (one_of HT_.out (by kernel_rfl)) (by decide) (fun K hK=>?_)
             refine goes_ Try.func30 (by kernel_rfl) rfl #[.slice A1 l1.length c1] (by rfl) rfl rfl mA ?_
             with_reducible refine(Dzv.calls _ _ l1 t254 _ ?side1 ?side2 A131.out).mono ?_
             (case side1=>exact cX (Kd.C_below HR1.out HB.out))
             (case side2=>exact HC1.out)
             rintro e w150 ⟨v255,rfl,ho0,hb⟩;refine⟨_,rfl,?_⟩;have n0_:=aM (Kd.S_elder' (by(with_reducible repeat(first|apply Kd.S_alloc|apply Kd.S_drewN|apply Kd.S_drew));exact HO_227001.out) (Kd.R_base ho0) hb)
             have n1_:=aM (Kd.R_elder' (rX HO_231000.out) (Kd.R_base ho0) hb);have n2_:=aM (Kd.R_lower (Kd.R_newB (Kd.R_new' ho0 (Kd.R_lt (rX HO_231000.out))) (g:=gb225) (o:=.cells #[.int .i64 x226000_1] 3 (0,0)) (kW BK225)) (below_size pB));have n3_:=aM (kB BK219 hb);have n4_:=aM (kB BK220 hb);have n5_:=aM (kB BK225 hb);have n6_:=aM (kB BK226 hb);have n7_:=aM (kB BK230 hb);have n8_:=aM (below_step pB hb);clear HO_227001;clear HO_231000;clear BK219;clear BK220;clear BK225;clear BK226;clear BK230;clear HB;have HO_227001:=n0_;have HO_231000:=n1_;have HO256:=n2_;have BK219:=n3_;have BK220:=n4_;have BK225:=n5_;have BK226:=n6_;have BK230:=n7_;have HB:=n8_;clear n0_ n1_ n2_ n3_ n4_ n5_ n6_ n7_ n8_;(try clear hb)
             (try clear hb2)
             (try clear hk)
             (try clear hi)
             (try clear ho0)
             obtain⟨Ao152,co152,eo152⟩:=Kd.R_slice HO256.out;(first|subst eo152|(injection eo152 with f1_ f2_ f3_;have f4_:=f1_.symm;have f5_:=f3_.symm;clear f1_ f2_ f3_;subst f4_;subst f5_))
             refine hK.out _ _ ⟨(blk_cell BK226.out 0).trans rfl,(blk_cell BK226.out 1).trans rfl⟩ (fun hHeld=>?_)
             clear hK K;refine norm_ (a':=?_) ?_ ?_;rotate_left
             ·show Act.put _ (some 111) _=_
              simp only[Act.put,sA,sZ,sC,i64_w,i32_w];rfl
             refine one_ (i:=4) (N:=some 112) #[true,true,true,true,true,false,false,false] rfl rfl (one_of HT_.out (by kernel_rfl)) (by decide) (fun K hK=>?_)
             refine value_ (w1:=?_) (v:=?_) (by rfl) rfl ?_ ?_
             rotate_left 2
             ·go_simp
              constructor
              ·rfl
              ·rfl
             refine hK.out _ _ ⟨(blk_cell (blk_alloc BK226.out _) 0).trans rfl,(blk_cell (blk_alloc BK226.out _) 1).trans rfl⟩ (fun hHeld=>?_)
             clear hK K;refine norm_ (a':=?_) ?_ ?_;rotate_left
             ·show Act.put _ (some 112) _=_
              simp only[Act.put,sA,sZ,sC,i64_w,i32_w];rfl
             refine one_ (i:=5) (N:=some 113) #[true,true,true,true,true,true,false,false] rfl rfl (one_of HT_.out (by kernel_rfl)) (by decide) (fun K hK=>?_)
             refine Kd.S_append_step (Kd.slice 3 (Kd.int .i64)) (w0:=w) w.heap.size (by rfl) (.tmp 109) (.tmp 112) 22 29 (.slice none 0 0) 24 rfl Try.underlying22 info29 rfl (by decide) (by omega) u227001 x227001_1 t254 [.slice Ao152 t254.length co152] (fun k_=>some k_≠(u231000:Value).ownBlock∧k_≠gb225∧k_≠gb230) (fun k_=>some k_=(.slice Ao152 t254.length co152:Value).ownBlock) rfl rfl ?aP (fun k_ hk_=>((Kd.R_mono (ok':=fun k_=>((fun k_=>some k_≠(u231000:Value).ownBlock∧k_≠gb225∧k_≠gb230)) k_∧some k_≠(u227001:Value).ownBlock) (Kd.R_types (Kd.R_apart' (HO256.out) (Kd.S_typed HO_227001.out) (by decide)) BK230.out (by decide)) (fun k_ hk=>⟨⟨hk.1.1.1.2,⟨hk.1.1.2,hk.2⟩⟩,hk.1.2⟩))).1 k_ hk_.symm) ?aF ?aO ?aB ?aS ?aL ?_
             (case aP=>exact Kd.M_row (Kd.R_mono (Kd.R_tight rfl (Kd.R_mono (ok':=fun k_=>((fun k_=>some k_≠(u231000:Value).ownBlock∧k_≠gb225∧k_≠gb230)) k_∧some k_≠(u227001:Value).ownBlock) (Kd.R_types (Kd.R_apart' (HO256.out) (Kd.S_typed HO_227001.out) (by decide)) BK230.out (by decide)) (fun k_ hk=>⟨⟨hk.1.1.1.2,⟨hk.1.1.2,hk.2⟩⟩,hk.1.2⟩))) (fun _ h_=>h_)))
             (case aB=>exact pB)
             (case aF=>exact(fun k_ hk=>⟨Kd.fresh' (Kd.R_lt (rX HO_231000.out)) k_ hk,Kd.freshB (g:=gb225) (o:=.cells #[.int .i64 x226000_1] 3 (0,0)) (kW BK225) k_ hk,Kd.freshB (g:=gb230) (o:=.cells #[u231000] 29 (0,0)) (kW BK230) k_ hk⟩))
             (case aO=>exact(by(with_reducible repeat(first|apply Kd.S_alloc|apply Kd.S_drewN|apply Kd.S_drew));exact Kd.S_mono HO_227001.out (fun k_ hk=>⟨⟨hk.1.1,⟨hk.1.2.1,hk.1.2.2⟩⟩,fun e_=>hk.2 e_⟩)))
             (case aS=>exact(below_size pB))
             (case aL=>have:=LMc132.out;omega)
             intro v258 w151 ho hb hg hat;rw[← Ny257.out] at ho;have n0_:=aM (Kd.R_over' (rX HO_231000.out) (Kd.S_typed (by(with_reducible repeat(first|apply Kd.S_alloc|apply Kd.S_drewN|apply Kd.S_drew));exact HO_227001.out)) (by decide) hg)
             have n1_:=aM (blk_grown (g:=gb219) (o:=.cells #[.int .i64 a0_0,.slice (some ad222) l0_1.length c0_1] 24 (0,0)) (kW BK219) hg (Kd.S_ne HO_227001.out BK219.out (by decide)))
             have n2_:=aM (blk_grown (g:=gb220) (o:=.cells #[.int .i64 x221000_1,.slice none 0 0] 24 (0,0)) (kW BK220) hg (Kd.S_ne HO_227001.out BK220.out (by decide)))
             have n3_:=aM (blk_grown (g:=gb225) (o:=.cells #[.int .i64 x226000_1] 3 (0,0)) (kW BK225) hg (Kd.S_ne HO_227001.out BK225.out (by decide)))
             have n4_:=aM (blk_grown (g:=gb226) (o:=.cells #[.int .i64 a0_0,u227001] 24 (0,0)) (kW BK226) hg (Kd.S_ne HO_227001.out BK226.out (by decide)))
             have n5_:=aM (blk_grown (g:=gb230) (o:=.cells #[u231000] 29 (0,0)) (kW BK230) hg (Kd.S_away HO_227001.out (fun _ hk=>hk.1.2.2)))
             have n6_:=aM (hb);have n7_:=aM (ho);clear HO_231000;clear BK219;clear BK220;clear BK225;clear BK226;clear BK230;clear HB;clear HO_227001;clear HO256;have HO_231000:=n0_;have BK219:=n1_;have BK220:=n2_;have BK225:=n3_;have BK226:=n4_;have BK230:=n5_;have HB:=n6_;have HO259:=n7_;clear n0_ n1_ n2_ n3_ n4_ n5_ n6_ n7_;clear ho hb hg hat;obtain⟨Ao153,co153,eo153⟩:=Kd.S_slice HO259.out;(first|subst eo153|(injection eo153 with f1_ f2_ f3_;have f4_:=f1_.symm;have f5_:=f3_.symm;clear f1_ f2_ f3_;subst f4_;subst f5_))
             refine hK.out _ _ ⟨(blk_cell BK226.out 0).trans rfl,(blk_cell BK226.out 1).trans rfl⟩ (fun hHeld=>?_)
             clear hK K;refine norm_ (a':=?_) ?_ ?_;rotate_left
             ·show Act.put _ (some 113) _=_
              simp only[Act.put,sA,sZ,sC,i64_w,i32_w];rfl
             refine pU (i:=6) (N:=some 114) HT_ #[true,true,true,true,true,true,true,false] ?_;refine last_ (i:=7) (N:=none) #[true,true,true,true,true,true,true,true] rfl rfl (one_of HT_.out (by kernel_rfl)) (by decide) (fun K hK=>?_)
             have hs154:w151.cell? ⟨gb226,1,none⟩=some (u227001):=(blk_cell BK226.out 1).trans rfl;have hfs154:=blk_frozen BK226.out 1;have hns154_0:=NB219_226.out;have hns154_1:=NB220_226.out;have hns154_2:=NB225_226.out;have hns154_4:=NB230_226.out;have hms154_0:=NB226_219.out;have hms154_1:=NB226_220.out;have hms154_2:=NB226_225.out;have hms154_4:=NB226_230.out;refine skip_ (w1:=?_) (by rfl) rfl ?_ ?_
             rotate_left
             ·go_simp
              rfl
             refine hK.out _ _ ?_;clear hK K;refine done_ (done_of HT_.out (by kernel_rfl)) ?_
             have hnb155:=NB226_219.out;have hnc155:=NB219_226.out;have hnb156:=NB226_220.out;have hnc156:=NB220_226.out;have hnb157:=NB226_225.out;have hnc157:=NB225_226.out;have hnb158:=NB226_230.out;have hnc158:=NB230_226.out;obtain⟨hcz159_0,hcz159_1,hfz159_0,hfz159_1⟩:=bk2 BK226;try go_wp2
             have n0_:Aside0 (Kd.R (Kd.int .i64) 3 (w151.setCell ⟨gb226,1,none⟩ (.slice Ao153 y257.length co153)) w.heap.size (fun k_=>k_≠gb225) u231000 x231000_1):=⟨by(with_reducible repeat(first|apply Kd.R_alloc|apply Kd.R_drewN|apply Kd.R_drew));exact Kd.R_mono (Kd.R_far (p:=⟨gb226,1,none⟩) (Kd.R_types HO_231000.out BK226.out (by decide)) (fun _ hk=>hk.2) (.slice Ao153 y257.length co153)) (fun _ hk=>hk.1.1)⟩
             have n1_:Aside0 (Kd.S (Kd.slice 3 (Kd.int .i64)) 29 (w151.setCell ⟨gb226,1,none⟩ (.slice Ao153 y257.length co153)) w.heap.size (fun k_=>some k_≠(u231000:Value).ownBlock∧k_≠gb225∧k_≠gb230) (.slice Ao153 y257.length co153) y257):=⟨by(with_reducible repeat(first|apply Kd.S_alloc|apply Kd.S_drewN|apply Kd.S_drew));exact Kd.S_mono (Kd.S_far (p:=⟨gb226,1,none⟩) (Kd.S_types HO259.out BK226.out (by decide)) (fun _ hk=>hk.2) (.slice Ao153 y257.length co153)) (fun _ hk=>⟨hk.1.1,⟨hk.1.2.1,hk.1.2.2⟩⟩)⟩
             have n2_:Aside0 ((w151.setCell ⟨gb226,1,none⟩ (.slice Ao153 y257.length co153)).heap[gb219]?=some (.cells #[.int .i64 a0_0,.slice (some ad222) l0_1.length c0_1] 24 (0,0))):=⟨by refine bD ?_;refine blk_far ?_ NB219_226.out _;(with_reducible repeat(first|refine blk_drewN ?_ _|refine blk_drew ?_|refine blk_alloc ?_ _));exact BK219.out⟩
             have n3_:Aside0 ((w151.setCell ⟨gb226,1,none⟩ (.slice Ao153 y257.length co153)).heap[gb220]?=some (.cells #[.int .i64 x221000_1,.slice none 0 0] 24 (0,0))):=⟨by refine bD ?_;refine blk_far ?_ NB220_226.out _;(with_reducible repeat(first|refine blk_drewN ?_ _|refine blk_drew ?_|refine blk_alloc ?_ _));exact BK220.out⟩
             have n4_:Aside0 ((w151.setCell ⟨gb226,1,none⟩ (.slice Ao153 y257.length co153)).heap[gb225]?=some (.cells #[.int .i64 x226000_1] 3 (0,0))):=⟨by refine bD ?_;refine blk_far ?_ NB225_226.out _;(with_reducible repeat(first|refine blk_drewN ?_ _|refine blk_drew ?_|refine blk_alloc ?_ _));exact BK225.out⟩
             have n5_:Aside0 ((w151.setCell ⟨gb226,1,none⟩ (.slice Ao153 y257.length co153)).heap[gb226]?=some (.cells #[.int .i64 a0_0,.slice Ao153 y257.length co153] 24 (0,0))):=⟨by refine bD ?_;refine blk_put (cs:=#[.int .i64 a0_0,u227001]) ?_ 1 _ rfl;(with_reducible repeat(first|refine blk_drewN ?_ _|refine blk_drew ?_|refine blk_alloc ?_ _));exact BK226.out⟩
             have n6_:Aside0 ((w151.setCell ⟨gb226,1,none⟩ (.slice Ao153 y257.length co153)).heap[gb230]?=some (.cells #[u231000] 29 (0,0))):=⟨by refine bD ?_;refine blk_far ?_ NB230_226.out _;(with_reducible repeat(first|refine blk_drewN ?_ _|refine blk_drew ?_|refine blk_alloc ?_ _));exact BK230.out⟩
             have n7_:Aside0 (Below w.heap.size w (w151.setCell ⟨gb226,1,none⟩ (.slice Ao153 y257.length co153))):=⟨pB⟩;(try clear HO_231000)
             (try clear HO259)
             (try clear BK219)
             (try clear BK220)
             (try clear BK225)
             (try clear BK226)
             (try clear BK230)
             (try clear HB)
             generalize (w151.setCell ⟨gb226,1,none⟩ (.slice Ao153 y257.length co153))=w160 at n0_ n1_ n2_ n3_ n4_ n5_ n6_ n7_ ⊢;have HO_231000:=n0_;have HO259:=n1_;have BK219:=n2_;have BK220:=n3_;have BK225:=n4_;have BK226:=n5_;have BK230:=n6_;have HB:=n7_;clear n0_ n1_ n2_ n3_ n4_ n5_ n6_ n7_;have n0_:=aM (Kd.R_drew HO_231000.out);have n1_:=aM (Kd.S_drew HO259.out);have n2_:=aM (blk_drew BK219.out);have n3_:=aM (blk_drew BK220.out);have n4_:=aM (blk_drew BK225.out);have n5_:=aM (blk_drew BK226.out);have n6_:=aM (blk_drew BK230.out);have n7_:=aM (below_drew1 HB.out);clear HO_231000;clear HO259;clear BK219;clear BK220;clear BK225;clear BK226;clear BK230;clear HB;have HO_231000:=n0_;have HO259:=n1_;have BK219:=n2_;have BK220:=n3_;have BK225:=n4_;have BK226:=n5_;have BK230:=n6_;have HB:=n7_;clear n0_ n1_ n2_ n3_ n4_ n5_ n6_ n7_;refine start_ (n:=5) (S:=fun w'=>w'.cell? ⟨gb226,0,none⟩=some (.int .i64 a0_0)∧w'.cell? ⟨gb226,1,none⟩=some (.slice Ao153 y257.length co153)∧w'.cell? ⟨gb230,0,none⟩=some (u231000)) (ds:=[]) #[false,false,false,false,false] (by kernel_rfl) rfl rfl ⟨(blk_cell BK226.out 0).trans rfl,(blk_cell BK226.out 1).trans rfl,(blk_cell BK230.out 0).trans rfl⟩ (fun hHeld=>?_)
             generalize w160.drew=w161 at HO_231000 HO259 BK219 BK220 BK225 BK226 BK230 HB hHeld ⊢;refine take_ (i:=0) (N:=some 120) (v:=?_) (a':=?_) #[true,false,false,false,false] rfl rfl (by kernel_rfl) (fun _ _ _ h=>h) (Or.inl ⟨by rfl,?_⟩) hHeld ?_ ?_
             rotate_left
             ·rintro w' ⟨s0,s1,s2⟩;go_simp
              with_reducible rfl
             rotate_left
             ·simp only[Act.put,sA,sZ,sC,i64_w,i32_w];rfl
             refine take_ (i:=1) (N:=some 121) (v:=?_) (a':=?_) #[true,true,false,false,false] rfl rfl (by kernel_rfl) (fun _ _ _ h=>h) (Or.inl ⟨by rfl,?_⟩) hHeld ?_ ?_
             rotate_left
             ·rintro w' ⟨s0,s1,s2⟩;go_simp
              with_reducible rfl
             rotate_left
             ·simp only[Act.put,sA,sZ,sC,i64_w,i32_w];rfl
             refine one_ (i:=2) (N:=none) #[true,true,true,false,false] rfl rfl (by kernel_rfl) (by decide) (fun K hK=>?_)
             have hs162:w161.cell? ⟨gb220,0,none⟩=some (.int .i64 x221000_1):=(blk_cell BK220.out 0).trans rfl;have hfs162:=blk_frozen BK220.out 0;have hns162_0:=NB219_220.out;have hns162_2:=NB225_220.out;have hns162_3:=NB226_220.out;have hns162_4:=NB230_220.out;have hms162_0:=NB220_219.out;have hms162_2:=NB220_225.out;have hms162_3:=NB220_226.out;have hms162_4:=NB220_230.out;have hs163:w161.cell? ⟨gb220,1,none⟩=some (.slice none 0 0):=(blk_cell BK220.out 1).trans rfl;have hfs163:=blk_frozen BK220.out 1;have hns163_0:=NB219_220.out;have hns163_2:=NB225_220.out;have hns163_3:=NB226_220.out;have hns163_4:=NB230_220.out;have hms163_0:=NB220_219.out;have hms163_2:=NB220_225.out;have hms163_3:=NB220_226.out;have hms163_4:=NB220_230.out;refine skip_ (w1:=?_) (by rfl) rfl ?_ ?_
             rotate_left
             ·go_simp
              rfl
             refine hK.out _ _ ⟨((cell_far (p:=⟨gb220,_,none⟩) NB226_220.out _).trans (((cell_far (p:=⟨gb220,_,none⟩) NB226_220.out _).trans (hHeld.1)))),((cell_far (p:=⟨gb220,_,none⟩) NB226_220.out _).trans (((cell_far (p:=⟨gb220,_,none⟩) NB226_220.out _).trans (hHeld.2.1)))),((cell_far (p:=⟨gb220,_,none⟩) NB230_220.out _).trans (((cell_far (p:=⟨gb220,_,none⟩) NB230_220.out _).trans (hHeld.2.2))))⟩ (fun hHeld=>?_)
             clear hK K;refine pure_ (i:=3) (N:=some 5) (v:=?_) (a':=?_) #[true,true,true,true,false] rfl rfl (by kernel_rfl) (fun _ _ _ h=>h) (Or.inl ⟨by rfl,?_⟩) ?_ ?_
             rotate_left
             ·intro w';go_simp
              with_reducible rfl
             rotate_left
             ·simp only[Act.put,sA,sZ,sC,i64_w,i32_w];rfl
             refine pure_ (i:=4) (N:=some 6) (v:=?_) (a':=?_) #[true,true,true,true,true] rfl rfl (by kernel_rfl) (fun _ _ _ h=>h) (Or.inl ⟨by rfl,?_⟩) ?_ ?_
             rotate_left
             ·intro w';go_simp
              with_reducible rfl
             rotate_left
             ·simp only[Act.put,sA,sZ,sC,i64_w,i32_w];rfl
             refine done_ (by kernel_rfl) ?_
             try go_wp2
             refine bodyPost_ret (results_ctt rfl _ _ gb220 24 #[.int .i64 a0_0,.slice Ao153 y257.length co153] (0,0) _ rfl (by refine bD ?_;refine blk_put (cs:=#[.int .i64 a0_0,.slice none 0 0]) ?_ 1 _ rfl;refine bD ?_;refine blk_put (cs:=#[.int .i64 x221000_1,.slice none 0 0]) ?_ 0 _ rfl;(with_reducible repeat(first|refine blk_drewN ?_ _|refine blk_drew ?_|refine blk_alloc ?_ _));exact BK220.out) Try.underlying24 rfl (by kernel_rfl)) rfl ?_
             exact⟨_,_,eW,by(with_reducible repeat(first|apply Kd.S_alloc|apply Kd.S_drewN|apply Kd.S_drew));exact Kd.S_mono (Kd.S_far (p:=⟨gb220,1,none⟩) (Kd.S_far (p:=⟨gb220,0,none⟩) (Kd.S_types HO259.out BK220.out (by decide)) (fun _ hk=>hk.2) (.int .i64 a0_0)) (fun _ hk=>hk.2) (.slice Ao153 y257.length co153)) (fun _ hk=>hk.1.1),by(with_reducible repeat(first|apply Kd.R_alloc|apply Kd.R_drewN|apply Kd.R_drew));exact Kd.R_mono (Kd.R_far (p:=⟨gb220,1,none⟩) (Kd.R_far (p:=⟨gb220,0,none⟩) (Kd.R_types HO_231000.out BK220.out (by decide)) (fun _ hk=>hk.2) (.int .i64 a0_0)) (fun _ hk=>hk.2) (.slice Ao153 y257.length co153)) (fun _ hk=>trivial),pB⟩
           ·rw[if_neg c132] at H;exact absurd H (by simp)
          ·rw[if_neg c130] at H;have c130b0:decide (0 < t253)=false:=decide_eq_false c130;clear c130;by_cases c164:(x227001_1.length:Int) > 256
           ·rw[if_pos c164] at H;have c164b0:decide (256 < (x227001_1.length:Int))=true:=dE c164;have c164b1:decide (256 < x227001_1.length)=true:=dE (by omega)
            clear c164;simp only[Option.some.injEq,Prod.mk.injEq] at H;obtain⟨rfl,rfl,rfl,rfl⟩:=H;go_wp2_with (first|((with_reducible refine gate_callee (f:=27) rfl ?_);refine goesL_ (some 106) rfl rfl Try.func27 (by kernel_rfl) rfl #[.slice A1 l1.length c1] rfl mA ?_;(with_reducible refine(Czk.calls k1 _ _ l1 t253 _ ?side1 ?side2 A129.out).mono ?_);(case side1=>exact cX (Kd.C_below HR1.out HB.out));(case side2=>exact HC1.out);rintro e w' ⟨rfl,⟨nd,rfl⟩⟩;refine⟨_,rfl,?_⟩;(try(rw[drewN_self wr];generalize hq_:World.drewN wr _=wr;have n0_:Aside0 (Kd.S (Kd.slice 3 (Kd.int .i64)) 29 wr w.heap.size (fun k_=>some k_≠(u231000:Value).ownBlock∧k_≠gb225∧k_≠gb230) u227001 x227001_1):=⟨by rw[← hq_];exact(by(with_reducible repeat(first|apply Kd.S_alloc|apply Kd.S_drewN|apply Kd.S_drew));exact HO_227001.out)⟩;have n1_:Aside0 (Kd.R (Kd.int .i64) 3 wr w.heap.size (fun k_=>k_≠gb225) u231000 x231000_1):=⟨by rw[← hq_];exact(rX HO_231000.out)⟩;have n2_:Aside0 (wr.heap[gb219]?=some (.cells #[.int .i64 a0_0,.slice (some ad222) l0_1.length c0_1] 24 (0,0))):=⟨by rw[← hq_];exact(kW BK219)⟩;have n3_:Aside0 (wr.heap[gb220]?=some (.cells #[.int .i64 x221000_1,.slice none 0 0] 24 (0,0))):=⟨by rw[← hq_];exact(kW BK220)⟩;have n4_:Aside0 (wr.heap[gb225]?=some (.cells #[.int .i64 x226000_1] 3 (0,0))):=⟨by rw[← hq_];exact(kW BK225)⟩;have n5_:Aside0 (wr.heap[gb226]?=some (.cells #[.int .i64 a0_0,u227001] 24 (0,0))):=⟨by rw[← hq_];exact(kW BK226)⟩;have n6_:Aside0 (wr.heap[gb230]?=some (.cells #[u231000] 29 (0,0))):=⟨by rw[← hq_];exact(kW BK230)⟩;have n7_:Aside0 (Below w.heap.size w wr):=⟨by rw[← hq_];exact pB⟩;clear HO_227001 HO_231000 BK219 BK220 BK225 BK226 BK230 HB hq_;have HO_227001:=n0_;have HO_231000:=n1_;have BK219:=n2_;have BK220:=n3_;have BK225:=n4_;have BK226:=n5_;have BK230:=n6_;have HB:=n7_;clear n0_ n1_ n2_ n3_ n4_ n5_ n6_ n7_;have hcqgb219_0:wr.cell? ⟨gb219,0,none⟩=some (.int .i64 a0_0):=(blk_cell BK219.out 0).trans rfl;have hfqgb219_0:=blk_frozen BK219.out 0;have hcqgb219_1:wr.cell? ⟨gb219,1,none⟩=some (.slice (some ad222) l0_1.length c0_1):=(blk_cell BK219.out 1).trans rfl;have hfqgb219_1:=blk_frozen BK219.out 1;have hcqgb220_0:wr.cell? ⟨gb220,0,none⟩=some (.int .i64 x221000_1):=(blk_cell BK220.out 0).trans rfl;have hfqgb220_0:=blk_frozen BK220.out 0;have hcqgb220_1:wr.cell? ⟨gb220,1,none⟩=some (.slice none 0 0):=(blk_cell BK220.out 1).trans rfl;have hfqgb220_1:=blk_frozen BK220.out 1;have hcqgb225_0:wr.cell? ⟨gb225,0,none⟩=some (.int .i64 x226000_1):=(blk_cell BK225.out 0).trans rfl;have hfqgb225_0:=blk_frozen BK225.out 0;have hcqgb226_0:wr.cell? ⟨gb226,0,none⟩=some (.int .i64 a0_0):=(blk_cell BK226.out 0).trans rfl;have hfqgb226_0:=blk_frozen BK226.out 0;have hcqgb226_1:wr.cell? ⟨gb226,1,none⟩=some (u227001):=(blk_cell BK226.out 1).trans rfl;have hfqgb226_1:=blk_frozen BK226.out 1;have hcqgb230_0:wr.cell? ⟨gb230,0,none⟩=some (u231000):=(blk_cell BK230.out 0).trans rfl;have hfqgb230_0:=blk_frozen BK230.out 0));have hnb165:=NB226_219.out;have hnc165:=NB219_226.out;have hnb166:=NB226_220.out;have hnc166:=NB220_226.out;have hnb167:=NB226_225.out;have hnc167:=NB225_226.out;have hnb168:=NB226_230.out;have hnc168:=NB230_226.out;obtain⟨hcz169_0,hcz169_1,hfz169_0,hfz169_1⟩:=bk2 BK226;obtain⟨Ao170,co170,eo170⟩:=Kd.S_slice HO_227001.out;subst eo170;have hnb171:=NB220_219.out;have hnc171:=NB219_220.out;have hnb172:=NB220_225.out;have hnc172:=NB225_220.out;have hnb173:=NB220_230.out;have hnc173:=NB230_220.out;obtain⟨hcz174_0,hcz174_1,hfz174_0,hfz174_1⟩:=bk2 BK220))
            refine bodyPost_ret (results_ctt rfl _ _ gb220 24 #[.int .i64 0,.slice none 0 0] (0,0) _ rfl (by refine bD ?_;refine blk_put (cs:=#[.int .i64 0,.slice none 0 0]) ?_ 1 _ rfl;refine bD ?_;refine blk_put (cs:=#[.int .i64 x221000_1,.slice none 0 0]) ?_ 0 _ rfl;(with_reducible repeat(first|refine blk_drewN ?_ _|refine blk_drew ?_|refine blk_alloc ?_ _));exact BK220.out) Try.underlying24 rfl (by kernel_rfl)) rfl ?_
            exact⟨_,_,eW,by first|exact Kd.S_nil _ _ _ _ _|exact Kd.N_nil _ _ _ _ _|exact Kd.V_nil _ _ _ _ _|exact Kd.Q_nil _ _ _ _ _|exact Kd.R_nil _ _ _ _ _,by first|exact Kd.R_nil _ _ _ _ _|exact Kd.N_nil _ _ _ _ _|exact Kd.V_nil _ _ _ _ _|exact Kd.Q_nil _ _ _ _ _|exact Kd.S_nil _ _ _ _ _,pB⟩
           ·rw[if_neg c164] at H;have c164b0:decide (256 < (x227001_1.length:Int))=false:=decide_eq_false c164;have c164b1:decide (256 < x227001_1.length)=false:=decide_eq_false (by omega)
            clear c164;simp only[Option.some.injEq,Prod.mk.injEq] at H;obtain⟨rfl,rfl,rfl,rfl⟩:=H;try go_wp2_with (first|((with_reducible refine gate_callee (f:=27) rfl ?_);refine goesL_ (some 106) rfl rfl Try.func27 (by kernel_rfl) rfl #[.slice A1 l1.length c1] rfl mA ?_;(with_reducible refine(Czk.calls k1 _ _ l1 t253 _ ?side1 ?side2 A129.out).mono ?_);(case side1=>exact cX (Kd.C_below HR1.out HB.out));(case side2=>exact HC1.out);rintro e w' ⟨rfl,⟨nd,rfl⟩⟩;refine⟨_,rfl,?_⟩;(try(rw[drewN_self wr];generalize hq_:World.drewN wr _=wr;have n0_:Aside0 (Kd.S (Kd.slice 3 (Kd.int .i64)) 29 wr w.heap.size (fun k_=>some k_≠(u231000:Value).ownBlock∧k_≠gb225∧k_≠gb230) u227001 x227001_1):=⟨by rw[← hq_];exact(by(with_reducible repeat(first|apply Kd.S_alloc|apply Kd.S_drewN|apply Kd.S_drew));exact HO_227001.out)⟩;have n1_:Aside0 (Kd.R (Kd.int .i64) 3 wr w.heap.size (fun k_=>k_≠gb225) u231000 x231000_1):=⟨by rw[← hq_];exact(rX HO_231000.out)⟩;have n2_:Aside0 (wr.heap[gb219]?=some (.cells #[.int .i64 a0_0,.slice (some ad222) l0_1.length c0_1] 24 (0,0))):=⟨by rw[← hq_];exact(kW BK219)⟩;have n3_:Aside0 (wr.heap[gb220]?=some (.cells #[.int .i64 x221000_1,.slice none 0 0] 24 (0,0))):=⟨by rw[← hq_];exact(kW BK220)⟩;have n4_:Aside0 (wr.heap[gb225]?=some (.cells #[.int .i64 x226000_1] 3 (0,0))):=⟨by rw[← hq_];exact(kW BK225)⟩;have n5_:Aside0 (wr.heap[gb226]?=some (.cells #[.int .i64 a0_0,u227001] 24 (0,0))):=⟨by rw[← hq_];exact(kW BK226)⟩;have n6_:Aside0 (wr.heap[gb230]?=some (.cells #[u231000] 29 (0,0))):=⟨by rw[← hq_];exact(kW BK230)⟩;have n7_:Aside0 (Below w.heap.size w wr):=⟨by rw[← hq_];exact pB⟩;clear HO_227001 HO_231000 BK219 BK220 BK225 BK226 BK230 HB hq_;have HO_227001:=n0_;have HO_231000:=n1_;have BK219:=n2_;have BK220:=n3_;have BK225:=n4_;have BK226:=n5_;have BK230:=n6_;have HB:=n7_;clear n0_ n1_ n2_ n3_ n4_ n5_ n6_ n7_;have hcqgb219_0:wr.cell? ⟨gb219,0,none⟩=some (.int .i64 a0_0):=(blk_cell BK219.out 0).trans rfl;have hfqgb219_0:=blk_frozen BK219.out 0;have hcqgb219_1:wr.cell? ⟨gb219,1,none⟩=some (.slice (some ad222) l0_1.length c0_1):=(blk_cell BK219.out 1).trans rfl;have hfqgb219_1:=blk_frozen BK219.out 1;have hcqgb220_0:wr.cell? ⟨gb220,0,none⟩=some (.int .i64 x221000_1):=(blk_cell BK220.out 0).trans rfl;have hfqgb220_0:=blk_frozen BK220.out 0;have hcqgb220_1:wr.cell? ⟨gb220,1,none⟩=some (.slice none 0 0):=(blk_cell BK220.out 1).trans rfl;have hfqgb220_1:=blk_frozen BK220.out 1;have hcqgb225_0:wr.cell? ⟨gb225,0,none⟩=some (.int .i64 x226000_1):=(blk_cell BK225.out 0).trans rfl;have hfqgb225_0:=blk_frozen BK225.out 0;have hcqgb226_0:wr.cell? ⟨gb226,0,none⟩=some (.int .i64 a0_0):=(blk_cell BK226.out 0).trans rfl;have hfqgb226_0:=blk_frozen BK226.out 0;have hcqgb226_1:wr.cell? ⟨gb226,1,none⟩=some (u227001):=(blk_cell BK226.out 1).trans rfl;have hfqgb226_1:=blk_frozen BK226.out 1;have hcqgb230_0:wr.cell? ⟨gb230,0,none⟩=some (u231000):=(blk_cell BK230.out 0).trans rfl;have hfqgb230_0:=blk_frozen BK230.out 0));have hnb175:=NB226_219.out;have hnc175:=NB219_226.out;have hnb176:=NB226_220.out;have hnc176:=NB220_226.out;have hnb177:=NB226_225.out;have hnc177:=NB225_226.out;have hnb178:=NB226_230.out;have hnc178:=NB230_226.out;obtain⟨hcz179_0,hcz179_1,hfz179_0,hfz179_1⟩:=bk2 BK226;obtain⟨Ao180,co180,eo180⟩:=Kd.S_slice HO_227001.out;subst eo180))
            have n0_:=aM (Kd.S_drew HO_227001.out);have n1_:=aM (Kd.R_drew HO_231000.out);have n2_:=aM (blk_drew BK219.out);have n3_:=aM (blk_drew BK220.out);have n4_:=aM (blk_drew BK225.out);have n5_:=aM (blk_drew BK226.out);have n6_:=aM (blk_drew BK230.out);have n7_:=aM (below_drew1 HB.out);clear HO_227001;clear HO_231000;clear BK219;clear BK220;clear BK225;clear BK226;clear BK230;clear HB;have HO_227001:=n0_;have HO_231000:=n1_;have BK219:=n2_;have BK220:=n3_;have BK225:=n4_;have BK226:=n5_;have BK230:=n6_;have HB:=n7_;clear n0_ n1_ n2_ n3_ n4_ n5_ n6_ n7_;refine start_ (n:=5) (S:=fun w'=>w'.cell? ⟨gb226,0,none⟩=some (.int .i64 a0_0)∧w'.cell? ⟨gb226,1,none⟩=some (.slice Ao180 x227001_1.length co180)∧w'.cell? ⟨gb230,0,none⟩=some (u231000)) (ds:=[]) #[false,false,false,false,false] (by kernel_rfl) rfl rfl ⟨(blk_cell BK226.out 0).trans rfl,(blk_cell BK226.out 1).trans rfl,(blk_cell BK230.out 0).trans rfl⟩ (fun hHeld=>?_)
            generalize wr.drew=w181 at HO_227001 HO_231000 BK219 BK220 BK225 BK226 BK230 HB hHeld ⊢;refine take_ (i:=0) (N:=some 120) (v:=?_) (a':=?_) #[true,false,false,false,false] rfl rfl (by kernel_rfl) (fun _ _ _ h=>h) (Or.inl ⟨by rfl,?_⟩) hHeld ?_ ?_
            rotate_left
            ·rintro w' ⟨s0,s1,s2⟩;go_simp
             with_reducible rfl
            rotate_left
            ·simp only[Act.put,sA,sZ,sC,i64_w,i32_w];rfl
            refine take_ (i:=1) (N:=some 121) (v:=?_) (a':=?_) #[true,true,false,false,false] rfl rfl (by kernel_rfl) (fun _ _ _ h=>h) (Or.inl ⟨by rfl,?_⟩) hHeld ?_ ?_
            rotate_left
            ·rintro w' ⟨s0,s1,s2⟩;go_simp
             with_reducible rfl
            rotate_left
            ·simp only[Act.put,sA,sZ,sC,i64_w,i32_w];rfl
            refine one_ (i:=2) (N:=none) #[true,true,true,false,false] rfl rfl (by kernel_rfl) (by decide) (fun K hK=>?_)
            have hs182:w181.cell? ⟨gb220,0,none⟩=some (.int .i64 x221000_1):=(blk_cell BK220.out 0).trans rfl;have hfs182:=blk_frozen BK220.out 0;have hns182_0:=NB219_220.out;have hns182_2:=NB225_220.out;have hns182_3:=NB226_220.out;have hns182_4:=NB230_220.out;have hms182_0:=NB220_219.out;have hms182_2:=NB220_225.out;have hms182_3:=NB220_226.out;have hms182_4:=NB220_230.out;have hs183:w181.cell? ⟨gb220,1,none⟩=some (.slice none 0 0):=(blk_cell BK220.out 1).trans rfl;have hfs183:=blk_frozen BK220.out 1;have hns183_0:=NB219_220.out;have hns183_2:=NB225_220.out;have hns183_3:=NB226_220.out;have hns183_4:=NB230_220.out;have hms183_0:=NB220_219.out;have hms183_2:=NB220_225.out;have hms183_3:=NB220_226.out;have hms183_4:=NB220_230.out;refine skip_ (w1:=?_) (by rfl) rfl ?_ ?_
            rotate_left
            ·go_simp
             rfl
            refine hK.out _ _ ⟨((cell_far (p:=⟨gb220,_,none⟩) NB226_220.out _).trans (((cell_far (p:=⟨gb220,_,none⟩) NB226_220.out _).trans (hHeld.1)))),((cell_far (p:=⟨gb220,_,none⟩) NB226_220.out _).trans (((cell_far (p:=⟨gb220,_,none⟩) NB226_220.out _).trans (hHeld.2.1)))),((cell_far (p:=⟨gb220,_,none⟩) NB230_220.out _).trans (((cell_far (p:=⟨gb220,_,none⟩) NB230_220.out _).trans (hHeld.2.2))))⟩ (fun hHeld=>?_)
            clear hK K;refine pure_ (i:=3) (N:=some 5) (v:=?_) (a':=?_) #[true,true,true,true,false] rfl rfl (by kernel_rfl) (fun _ _ _ h=>h) (Or.inl ⟨by rfl,?_⟩) ?_ ?_
            rotate_left
            ·intro w';go_simp
             with_reducible rfl
            rotate_left
            ·simp only[Act.put,sA,sZ,sC,i64_w,i32_w];rfl
            refine pure_ (i:=4) (N:=some 6) (v:=?_) (a':=?_) #[true,true,true,true,true] rfl rfl (by kernel_rfl) (fun _ _ _ h=>h) (Or.inl ⟨by rfl,?_⟩) ?_ ?_
            rotate_left
            ·intro w';go_simp
             with_reducible rfl
            rotate_left
            ·simp only[Act.put,sA,sZ,sC,i64_w,i32_w];rfl
            refine done_ (by kernel_rfl) ?_
            try go_wp2
            refine bodyPost_ret (results_ctt rfl _ _ gb220 24 #[.int .i64 a0_0,.slice Ao180 x227001_1.length co180] (0,0) _ rfl (by refine bD ?_;refine blk_put (cs:=#[.int .i64 a0_0,.slice none 0 0]) ?_ 1 _ rfl;refine bD ?_;refine blk_put (cs:=#[.int .i64 x221000_1,.slice none 0 0]) ?_ 0 _ rfl;(with_reducible repeat(first|refine blk_drewN ?_ _|refine blk_drew ?_|refine blk_alloc ?_ _));exact BK220.out) Try.underlying24 rfl (by kernel_rfl)) rfl ?_
            exact⟨_,_,eW,by(with_reducible repeat(first|apply Kd.S_alloc|apply Kd.S_drewN|apply Kd.S_drew));exact Kd.S_mono (Kd.S_far (p:=⟨gb220,1,none⟩) (Kd.S_far (p:=⟨gb220,0,none⟩) (Kd.S_types HO_227001.out BK220.out (by decide)) (fun _ hk=>hk.2) (.int .i64 a0_0)) (fun _ hk=>hk.2) (.slice Ao180 x227001_1.length co180)) (fun _ hk=>hk.1.1),by(with_reducible repeat(first|apply Kd.R_alloc|apply Kd.R_drewN|apply Kd.R_drew));exact Kd.R_mono (Kd.R_far (p:=⟨gb220,1,none⟩) (Kd.R_far (p:=⟨gb220,0,none⟩) (Kd.R_types HO_231000.out BK220.out (by decide)) (fun _ hk=>hk.2) (.int .i64 a0_0)) (fun _ hk=>hk.2) (.slice Ao180 x227001_1.length co180)) (fun _ hk=>trivial),pB⟩
      ·rw[if_neg c24] at H;exact absurd H (by simp)
     ·rw[if_neg c23] at H;exact absurd H (by simp)
   ·rw[if_neg c7] at H;have c7b0:(t223 == 0)=false:=beq_eq_false_iff_ne.mpr c7;have c7b1:(t223 != 0)=true:=bne_iff_ne.mpr c7;simp only[Option.some.injEq,Prod.mk.injEq] at H;obtain⟨rfl,rfl,rfl,rfl⟩:=H;have hmf_:∀ (fn:Fn) (first cap:Array Value) (w:World),(Instr.makeFunc fn first cap).run Try.prog w=.ok (.func fn first cap) w:=fun _ _ _ _=>rfl
    go_enter Try.func18,Try.ntmps18
    go_wp2_with (first|((with_reducible refine gate_dst (N:=2) rfl ?_);refine box_event ?hg (N:=2) ?hd (cs:=#[.int .i64 a0_0,.slice A0_1 l0_1.length c0_1]) (t:=24) ?hr ?_;(case hd=>rfl);(case hg=>rfl);(case hr=>first|(go_simp;done)|(go_simp;rfl));intro gb219 hg w184 hbox hb;have BK219:=aM (hbox);have GW219:=aM (gW hg:w.heap.size≤gb219);have GE219:=aM (gW hg:w.heap.size≤gb219);replace HB:=aM (below_step pB hb);clear hb hbox hg)|((with_reducible refine gate_dst (N:=4) rfl ?_);refine box_event ?hg (N:=4) ?hd (cs:=#[.int .i64 0,.slice none 0 0]) (t:=24) ?hr ?_;(case hd=>rfl);(case hg=>rfl);(case hr=>first|(go_simp;done)|(go_simp;rfl));intro gb220 hg w185 hbox hb;have BK220:=aM (hbox);have GW220:=aM (gW hg:w.heap.size≤gb220);have GE220:=aM (gW hg:w.heap.size≤gb220);have NB219_220:=aM (nL hg BK219:gb219≠gb220);have NB220_219:=aM (nG hg BK219:gb220≠gb219);replace BK219:=aM (kB BK219 hb);replace HB:=aM (below_step pB hb);clear hb hbox hg;have hnb186:=NB219_220.out;have hnc186:=NB220_219.out;obtain⟨hcz187_0,hcz187_1,hfz187_0,hfz187_1⟩:=bk2 BK219)|((with_reducible refine gate_callee (f:=13) rfl ?_);refine goesL_ (some 22) rfl rfl Try.func13 (by kernel_rfl) rfl #[.agg #[.int .i64 a0_0,.slice A0_1 l0_1.length c0_1]] rfl mA ?_;(with_reducible refine(Bzb.calls k a0_0 _ _ l0_1 t221 _ ?side1 ?side2 A3.out).mono ?_);(case side1=>exact cX (Kd.C_below HR0_1.out HB.out));(case side2=>exact HC0_1.out);rintro e w188 ⟨rfl,hb⟩;refine⟨_,rfl,?_⟩;replace BK219:=aM (kB BK219 hb);replace BK220:=aM (kB BK220 hb);replace HB:=aM (below_step pB hb);(try clear hb);(try clear hb2);(try clear hk);(try clear hi);obtain⟨hcz189_0,hcz189_1,hfz189_0,hfz189_1⟩:=bk2 BK219;have p222:0≤(0:Int):=(by omega);have q222:0 < (l0_1.length:Int):=oE aS;obtain⟨ad222,A222_0,c222_0,e222,hx222_0,hl222_0,hi222_0⟩:=at_L1 HR0_1.out 0 p222 q222;cases e222;have qi222:(0 < l0_1.length)=True:=eq_true (by omega);(try rw[show((0:Int)).toNat=0 from rfl] at hx222_0);(try rw[Addr.add_zero'] at hx222_0);replace hx222_0:=(HB.out.cell (World.block_lt_of_cell? w _ hx222_0)).trans hx222_0;have HR222_0:=aM hi222_0;have HC222_0:=aM hl222_0;clear hi222_0 hl222_0;replace p222:=eq_true p222;replace q222:=eq_true q222)|((with_reducible refine gate_callee (f:=26) rfl ?_);refine goesL_ (some 34) rfl rfl Try.func26 (by kernel_rfl) rfl #[.slice A1 l1.length c1,.int .i64 ((rd_L1 l0_1 0).length:Int)] rfl mA ?_;(with_reducible refine(Czm.calls k _ _ l1 ((rd_L1 l0_1 0).length:Int) t223 _ ?side1 ?side2 A6.out).mono ?_);(case side1=>exact cX (Kd.C_below HR1.out HB.out));(case side2=>exact HC1.out);rintro e w190 ⟨rfl,hb⟩;refine⟨_,rfl,?_⟩;replace BK219:=aM (kB BK219 hb);replace BK220:=aM (kB BK220 hb);replace HB:=aM (below_step pB hb);(try clear hb);(try clear hb2);(try clear hk);(try clear hi);obtain⟨hcz191_0,hcz191_1,hfz191_0,hfz191_1⟩:=bk2 BK220))
    refine bodyPost_ret (results_ctt rfl _ _ gb220 24 #[.int .i64 0,.slice none 0 0] (0,0) _ rfl (by refine bD ?_;refine blk_put (cs:=#[.int .i64 0,.slice none 0 0]) ?_ 1 _ rfl;refine bD ?_;refine blk_put (cs:=#[.int .i64 0,.slice none 0 0]) ?_ 0 _ rfl;(with_reducible repeat(first|refine blk_drewN ?_ _|refine blk_drew ?_|refine blk_alloc ?_ _));exact BK220.out) Try.underlying24 rfl (by kernel_rfl)) rfl ?_
    exact⟨_,_,eW,by first|exact Kd.S_nil _ _ _ _ _|exact Kd.N_nil _ _ _ _ _|exact Kd.V_nil _ _ _ _ _|exact Kd.Q_nil _ _ _ _ _|exact Kd.R_nil _ _ _ _ _,by first|exact Kd.R_nil _ _ _ _ _|exact Kd.N_nil _ _ _ _ _|exact Kd.V_nil _ _ _ _ _|exact Kd.Q_nil _ _ _ _ _|exact Kd.S_nil _ _ _ _ _,pB⟩
  ·rw[if_neg c5] at H;exact absurd H (by simp)
 ·rw[if_neg c4] at H;have c4b0:(t221 == 0)=false:=beq_eq_false_iff_ne.mpr c4;have c4b1:(t221 != 0)=true:=bne_iff_ne.mpr c4;simp only[Option.some.injEq,Prod.mk.injEq] at H;obtain⟨rfl,rfl,rfl,rfl⟩:=H;have hmf_:∀ (fn:Fn) (first cap:Array Value) (w:World),(Instr.makeFunc fn first cap).run Try.prog w=.ok (.func fn first cap) w:=fun _ _ _ _=>rfl
  go_enter Try.func18,Try.ntmps18
  go_wp2_with (first|((with_reducible refine gate_dst (N:=2) rfl ?_);refine box_event ?hg (N:=2) ?hd (cs:=#[.int .i64 a0_0,.slice A0_1 l0_1.length c0_1]) (t:=24) ?hr ?_;(case hd=>rfl);(case hg=>rfl);(case hr=>first|(go_simp;done)|(go_simp;rfl));intro gb219 hg w192 hbox hb;have BK219:=aM (hbox);have GW219:=aM (gW hg:w.heap.size≤gb219);have GE219:=aM (gW hg:w.heap.size≤gb219);replace HB:=aM (below_step pB hb);clear hb hbox hg)|((with_reducible refine gate_dst (N:=4) rfl ?_);refine box_event ?hg (N:=4) ?hd (cs:=#[.int .i64 0,.slice none 0 0]) (t:=24) ?hr ?_;(case hd=>rfl);(case hg=>rfl);(case hr=>first|(go_simp;done)|(go_simp;rfl));intro gb220 hg w193 hbox hb;have BK220:=aM (hbox);have GW220:=aM (gW hg:w.heap.size≤gb220);have GE220:=aM (gW hg:w.heap.size≤gb220);have NB219_220:=aM (nL hg BK219:gb219≠gb220);have NB220_219:=aM (nG hg BK219:gb220≠gb219);replace BK219:=aM (kB BK219 hb);replace HB:=aM (below_step pB hb);clear hb hbox hg;have hnb194:=NB219_220.out;have hnc194:=NB220_219.out;obtain⟨hcz195_0,hcz195_1,hfz195_0,hfz195_1⟩:=bk2 BK219)|((with_reducible refine gate_callee (f:=13) rfl ?_);refine goesL_ (some 22) rfl rfl Try.func13 (by kernel_rfl) rfl #[.agg #[.int .i64 a0_0,.slice A0_1 l0_1.length c0_1]] rfl mA ?_;(with_reducible refine(Bzb.calls k a0_0 _ _ l0_1 t221 _ ?side1 ?side2 A3.out).mono ?_);(case side1=>exact cX (Kd.C_below HR0_1.out HB.out));(case side2=>exact HC0_1.out);rintro e w196 ⟨rfl,hb⟩;refine⟨_,rfl,?_⟩;replace BK219:=aM (kB BK219 hb);replace BK220:=aM (kB BK220 hb);replace HB:=aM (below_step pB hb);(try clear hb);(try clear hb2);(try clear hk);(try clear hi);obtain⟨hcz197_0,hcz197_1,hfz197_0,hfz197_1⟩:=bk2 BK220))
  refine bodyPost_ret (results_ctt rfl _ _ gb220 24 #[.int .i64 0,.slice none 0 0] (0,0) _ rfl (by refine bD ?_;refine blk_put (cs:=#[.int .i64 0,.slice none 0 0]) ?_ 1 _ rfl;refine bD ?_;refine blk_put (cs:=#[.int .i64 0,.slice none 0 0]) ?_ 0 _ rfl;(with_reducible repeat(first|refine blk_drewN ?_ _|refine blk_drew ?_|refine blk_alloc ?_ _));exact BK220.out) Try.underlying24 rfl (by kernel_rfl)) rfl ?_
  exact⟨_,_,eW,by first|exact Kd.S_nil _ _ _ _ _|exact Kd.N_nil _ _ _ _ _|exact Kd.V_nil _ _ _ _ _|exact Kd.Q_nil _ _ _ _ _|exact Kd.R_nil _ _ _ _ _,by first|exact Kd.R_nil _ _ _ _ _|exact Kd.N_nil _ _ _ _ _|exact Kd.V_nil _ _ _ _ _|exact Kd.Q_nil _ _ _ _ _|exact Kd.S_nil _ _ _ _ _,pB⟩

end Go.Proofs.Ytpnfdhhfdidlmaa.Print
