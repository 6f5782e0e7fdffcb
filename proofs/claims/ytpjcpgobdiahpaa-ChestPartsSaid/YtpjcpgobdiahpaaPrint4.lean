import Derived.Test.YtpjcpgobdiahpaaPrint0
namespace Go.Proofs.Ytpjcpgobdiahpaa.Print
open Go.RowKit Go.Proofs.YtpjcpgobdiahpaaW.PrintWords Go.Proofs.YtpjcpgobdiahpaaW.PrintLast Go.Proofs.YtpjcpgobdiahpaaW.PrintMore
attribute [local go_sem] max2_int min2_int max_two min_two max_three min_three max_four min_four
set_option linter.unusedVariables false
set_option maxRecDepth 100000
set_option maxHeartbeats 8000000
set_option linter.unusedSimpArgs false

def Bzy.l0:Nat→Int→List Int→Int→Int→Int→List Int→Option (Int × List Int)
 | 0,_,_,_,_,_,_=>none
 | k+1,x2,x22,x23,x24,x126000,x126001=>if x24 < x23 then(if 0≤x24 then(if x24 < (x22.length:Int) then(if x24 < (x126001.length:Int) then(Bzy.l0 k x2 x22 x23 (wrap64 (x24+1)) x126000 (x126001.set (x24:Int).toNat (wrap64 ((rd x126001 x24)+(wrap64 (x2 * (rd x22 x24))))))) else(none)) else(none)) else(none)) else(some (x126000,x126001))
def Bzy.f (k:Nat) (a0_0:Int) (l0_1:List Int) (l1:List Int) (a2:Int):Option (Int × List Int):=if 0≤(l0_1.length:Int) then(if((l0_1.length:Int):Int).toNat≤35184372088832 then((Ezp.f (List.replicate ((l0_1.length:Int):Int).toNat 0) l0_1).bind fun bt126=>(Bzy.l0 k a2 l1 (l1.length:Int) 0 a0_0 bt126.2)) else(none)) else(none)
theorem Bzy.mono_l:∀ k,(∀ y0 y1 y2 y3 y4 y5,LeO (Bzy.l0 k y0 y1 y2 y3 y4 y5) (Bzy.l0 (k+1) y0 y1 y2 y3 y4 y5))
 | 0=>fun _ _ _ _ _ _ r h=>by simp [Bzy.l0] at h
 | k+1=>by
  have ih0:=Bzy.mono_l k
  ·intro y0 y1 y2 y3 y4 y5;unfold Bzy.l0;with_reducible repeat' first|exact ih0 _ _ _ _ _ _|exact LeO.refl _|exact LeO.none _|refine LeO.ite ?_ ?_|refine LeO.bind ?_ (fun _=>?_)
theorem Bzy.mono:∀ a0 a1 a2 a3 k,LeO (Bzy.f k a0 a1 a2 a3) (Bzy.f (k+1) a0 a1 a2 a3):=by
 intro a0 a1 a2 a3 k;have ih0:=Bzy.mono_l k;unfold Bzy.f;with_reducible repeat' first|exact ih0 _ _ _ _ _ _|exact LeO.refl _|exact LeO.none _|refine LeO.ite ?_ ?_|refine LeO.bind ?_ (fun _=>?_)
def Bzy.T1:Bool × List (List Nat × List Nat):=(true,[([],[]),([0],[0]),([],[]),([2],[2]),([3],[3]),([4,4],[4]),([1,5],[1,5]),([],[]),([7,6,0,1,2,3,4,5,6,7],[6,7])])
def Bzy.B1:List Nat:=[0,1,0,4,12,28,63,0,255]
theorem Bzy.tab1:rtab .any (opsOf Try.f39 1)=Bzy.T1:=by kernel_rfl
theorem Bzy.bits1:waitsOk Bzy.T1.2 Bzy.B1=true:=by kernel_rfl
theorem Bzy.calls (k:Nat) (a0_0:Int) (A0_1:Option Addr) (c0_1:Nat) (l0_1:List Int) (A1:Option Addr) (c1:Nat) (l1:List Int) (a2:Int) (r1:Int) (r2:List Int) (w:World) (hr0_1:Kd.C (Kd.int .i64) w A0_1 l0_1.length l0_1) (hc0_1:l0_1.length≤c0_1) (hr1:Kd.C (Kd.int .i64) w A1 l1.length l1) (hc1:l1.length≤c1) (h:Bzy.f k a0_0 l0_1 l1 a2=some (r1,r2)) :
  Calls Try.prog 39 #[.agg #[.int .i64 a0_0,.slice A0_1 l0_1.length c0_1],.slice A1 l1.length c1,.int .i64 a2] w fun e w'=>∃ v1_:Value,e=.returned (.agg #[.int .i64 r1,v1_])∧Kd.R (Kd.int .i64) 3 w' w.heap.size (fun _=>True) v1_ r2∧Below w.heap.size w w':=by
 have hu24:=Try.underlying24;have HR0_1:=aM hr0_1;have HC0_1:=aM hc0_1;clear hr0_1 hc0_1;have HR1:=aM hr1;have HC1:=aM hc1;clear hr1 hc1;have HB:=aM (Below.refl w.heap.size w);have H:(if 0≤(l0_1.length:Int) then(if((l0_1.length:Int):Int).toNat≤35184372088832 then((Ezp.f (List.replicate ((l0_1.length:Int):Int).toNat 0) l0_1).bind fun bt126=>(Bzy.l0 k a2 l1 (l1.length:Int) 0 a0_0 bt126.2)) else(none)) else(none))=some (r1,r2):=h
 clear h;by_cases c4:0≤(l0_1.length:Int)
 ·rw[if_pos c4] at H;have c4b0:=eq_true c4;have c4b1:decide (0≤(l0_1.length:Int))=true:=dE c4;clear c4;by_cases c5:((l0_1.length:Int):Int).toNat≤35184372088832
  ·rw[if_pos c5] at H;have c5b0:=eq_true c5;have c5b1:decide (((l0_1.length:Int):Int).toNat≤35184372088832)=true:=dE c5;clear c5;obtain⟨y122,hy122⟩:∃ y_:List Int,y_=(List.replicate ((l0_1.length:Int):Int).toNat 0):=⟨_,rfl⟩;replace H:((Ezp.f y122 l0_1).bind fun bt126=>(Bzy.l0 k a2 l1 (l1.length:Int) 0 a0_0 bt126.2))=some (r1,r2):=by first|(rw[hy122];with_reducible exact H)|(have H2_:=(Option.bind_some _ _).symm.trans H;rw[hy122];with_reducible exact H2_)|(have H2_:=(Option.bind_some _ _).symm.trans H;with_reducible exact H2_)|with_reducible exact H|(rw[hy122];exact H)|exact H
   have Ny122:=aM hy122;clear hy122;replace H:=bS H;obtain⟨⟨t126,t127⟩,A60,H⟩:=H;(try dsimp only at H);have A6:=aM A60;clear A60;have H':=aM H;clear H;go_enter Try.func39,Try.ntmps39
   try go_wp2_with (first|((with_reducible refine gate_dst (N:=3) rfl ?_);refine box_event ?hg (N:=3) ?hd (cs:=#[.int .i64 a0_0,.slice A0_1 l0_1.length c0_1]) (t:=24) ?hr ?_;(case hd=>rfl);(case hg=>rfl);(case hr=>first|(go_simp;done)|(go_simp;rfl));intro gb120 hg w7 hbox hb;have BK120:=aM (hbox);have GW120:=aM (gW hg:w.heap.size≤gb120);have GE120:=aM (gW hg:w.heap.size≤gb120);replace HB:=aM (below_step pB hb);clear hb hbox hg)|((with_reducible refine gate_dst (N:=6) rfl ?_);refine box_event ?hg (N:=6) ?hd (cs:=#[.int .i64 0,.slice none 0 0]) (t:=24) ?hr ?_;(case hd=>rfl);(case hg=>rfl);(case hr=>first|(go_simp;done)|(go_simp;rfl));intro gb121 hg w8 hbox hb;have BK121:=aM (hbox);have GW121:=aM (gW hg:w.heap.size≤gb121);have GE121:=aM (gW hg:w.heap.size≤gb121);have NB120_121:=aM (nL hg BK120:gb120≠gb121);have NB121_120:=aM (nG hg BK120:gb121≠gb120);replace BK120:=aM (kB BK120 hb);replace HB:=aM (below_step pB hb);clear hb hbox hg))
   have n0_:=aM (blk_drew BK120.out);have n1_:=aM (blk_drew BK121.out);have n2_:=aM (below_drew1 HB.out);clear BK120;clear BK121;clear HB;have BK120:=n0_;have BK121:=n1_;have HB:=n2_;clear n0_ n1_ n2_;refine start_ (n:=9) (S:=fun w'=>True) (ds:=[]) #[false,false,false,false,false,false,false,false,false] (by kernel_rfl) rfl rfl trivial (fun hHeld=>?_);refine with_tabW Bzy.tab1 Bzy.bits1 (fun HT_ HW_=>?_)
   generalize w8.drew=w9 at BK120 BK121 HB hHeld ⊢;refine pU (i:=0) (N:=some 10) HT_ #[true,false,false,false,false,false,false,false,false] ?_;refine pU (i:=2) (N:=some 12) HT_ #[true,false,true,false,false,false,false,false,false] ?_;refine inv_at [1,3,4,5,6,7,8] (fun a0_ b a w'=>∃ (v123:Value) (gb125:Nat) (m6_:Value) (m7_:Value),a=putSel a0_ b [(1,11,.int .i64 a0_0),(3,13,.slice A0_1 l0_1.length c0_1),(4,14,.int .i64 (l0_1.length:Int)),(5,15,v123),(6,16,m6_),(7,7,m7_)]∧(w'.heap[gb120]?=some (.cells #[.int .i64 a0_0,.slice A0_1 l0_1.length c0_1] 24 (0,0)))∧(w'.heap[gb121]?=some (.cells #[.int .i64 0,.slice none 0 0] 24 (0,0)))∧(Below w.heap.size w w')∧(b 5=true→Kd.R (Kd.int .i64) 3 w' w.heap.size (fun _=>True) v123 y122)∧(b 7=true→b 8=false→w'.heap[gb125]?=some (.cells #[.int .i64 0,.slice none 0 0] 24 (0,0)))∧(b 7=true→w.heap.size≤gb125)∧(b 7=true→w.heap.size≤gb125)∧(b 7=true→gb120≠gb125)∧(b 7=true→gb125≠gb120)∧(b 7=true→gb121≠gb125)∧(b 7=true→gb125≠gb121)∧(b 8=true→w'.heap[gb125]?=some (.cells #[.int .i64 a0_0,v123] 24 (0,0)))∧(b 6=true→(m6_:Value)=.agg #[.int .i64 a0_0,v123])∧(b 7=true→(m7_:Value)=.pointer (some ⟨gb125,0,none⟩))) HT_.out HW_.out (by kernel_rfl) (by kernel_rfl) ?_ ?_ ?_
   ·exact⟨.bool false,0,.bool false,.bool false,by simp only[putSel,Bool.false_eq_true,if_false],BK120.out,BK121.out,HB.out,fun h_=>absurd h_ (by decide),fun h_=>absurd h_ (by decide),fun h_=>absurd h_ (by decide),fun h_=>absurd h_ (by decide),fun h_=>absurd h_ (by decide),fun h_=>absurd h_ (by decide),fun h_=>absurd h_ (by decide),fun h_=>absurd h_ (by decide),fun h_=>absurd h_ (by decide),fun h_=>absurd h_ (by decide),fun h_=>absurd h_ (by decide)⟩
   ·skip
    clear BK120 BK121 HB;refine steps_cons ?_ ?_
    ·rintro b a w' ⟨v123,gb125,m6_,m7_,ha,Q_BK120,Q_BK121,Q_HB,Q_HO124,Q_BK125,Q_GW125,Q_GE125,Q_NB120_125,Q_NB125_120,Q_NB121_125,Q_NB125_121,Q_BK125_e8,Q_X6_,Q_X7_⟩ hb_ hon hoff;refine⟨_,rfl,fun K hK=>?_⟩
     have e10:a.tmps[10]?=some (.pointer (some ⟨gb120,0,none⟩)):=by rw[ha];exact(putSel_off rfl).trans rfl
     replace ha:=aM ha;have BK120:=aM Q_BK120;have BK121:=aM Q_BK121;have HB:=aM Q_HB;have hc0_:w'.cell? ⟨gb120,0,none⟩=some (.int .i64 a0_0):=(blk_cell BK120.out 0).trans rfl;have hc1_:w'.cell? ⟨gb120,1,none⟩=some (.slice A0_1 l0_1.length c0_1):=(blk_cell BK120.out 1).trans rfl;refine value_ (w1:=w') (v:=.int .i64 a0_0) (by rfl) rfl ?_ ?_
     ·go_simp
      (try simp only[i64_w])
      try rfl
     refine hK.out _ _ ⟨v123,gb125,m6_,m7_,(by rw[ha.out];exact putSel_upk 0 hb_ rfl rfl rfl),Q_BK120,Q_BK121,Q_HB,Q_HO124,Q_BK125,Q_GW125,Q_GE125,Q_NB120_125,Q_NB125_120,Q_NB121_125,Q_NB125_121,fun h0_=>absurd ((hoff 8 (by kernel_rfl)).symm.trans h0_) (by decide),fun h0_=>absurd ((hoff 6 (by kernel_rfl)).symm.trans h0_) (by decide),Q_X7_⟩
    refine steps_cons ?_ ?_
    ·rintro b a w' ⟨v123,gb125,m6_,m7_,ha,Q_BK120,Q_BK121,Q_HB,Q_HO124,Q_BK125,Q_GW125,Q_GE125,Q_NB120_125,Q_NB125_120,Q_NB121_125,Q_NB125_121,Q_BK125_e8,Q_X6_,Q_X7_⟩ hb_ hon hoff;refine⟨_,rfl,fun K hK=>?_⟩
     have e12:a.tmps[12]?=some (.pointer (some ⟨gb120,1,none⟩)):=by rw[ha];exact(putSel_off rfl).trans rfl
     replace ha:=aM ha;have BK120:=aM Q_BK120;have BK121:=aM Q_BK121;have HB:=aM Q_HB;have hc0_:w'.cell? ⟨gb120,0,none⟩=some (.int .i64 a0_0):=(blk_cell BK120.out 0).trans rfl;have hc1_:w'.cell? ⟨gb120,1,none⟩=some (.slice A0_1 l0_1.length c0_1):=(blk_cell BK120.out 1).trans rfl;refine value_ (w1:=w') (v:=.slice A0_1 l0_1.length c0_1) (by rfl) rfl ?_ ?_
     ·go_simp
      (try simp only[i64_w])
      try rfl
     refine hK.out _ _ ⟨v123,gb125,m6_,m7_,(by rw[ha.out];exact putSel_upk 1 hb_ rfl rfl rfl),Q_BK120,Q_BK121,Q_HB,fun h0_=>absurd ((hoff 5 (by kernel_rfl)).symm.trans h0_) (by decide),Q_BK125,Q_GW125,Q_GE125,Q_NB120_125,Q_NB125_120,Q_NB121_125,Q_NB125_121,fun h0_=>absurd ((hoff 8 (by kernel_rfl)).symm.trans h0_) (by decide),fun h0_=>absurd ((hoff 6 (by kernel_rfl)).symm.trans h0_) (by decide),Q_X7_⟩
    refine steps_cons ?_ ?_
    ·rintro b a w' ⟨v123,gb125,m6_,m7_,ha,Q_BK120,Q_BK121,Q_HB,Q_HO124,Q_BK125,Q_GW125,Q_GE125,Q_NB120_125,Q_NB125_120,Q_NB121_125,Q_NB125_121,Q_BK125_e8,Q_X6_,Q_X7_⟩ hb_ hon hoff;refine⟨_,rfl,fun K hK=>?_⟩
     have e13:a.tmps[13]?=some (.slice A0_1 l0_1.length c0_1):=by rw[ha];exact putSel_on (e:=(3,13,.slice A0_1 l0_1.length c0_1)) 1 rfl rfl (hon 3 (by kernel_rfl)) rfl
     replace ha:=aM ha;have BK120:=aM Q_BK120;have BK121:=aM Q_BK121;have HB:=aM Q_HB;refine value_ (w1:=w') (v:=.int .i64 (l0_1.length:Int)) (by rfl) rfl ?_ ?_
     ·go_simp
      (try simp only[i64_w])
      try rfl
     refine hK.out _ _ ⟨v123,gb125,m6_,m7_,(by rw[ha.out];exact putSel_upk 2 hb_ rfl rfl rfl),Q_BK120,Q_BK121,Q_HB,fun h0_=>absurd ((hoff 5 (by kernel_rfl)).symm.trans h0_) (by decide),Q_BK125,Q_GW125,Q_GE125,Q_NB120_125,Q_NB125_120,Q_NB121_125,Q_NB125_121,fun h0_=>absurd ((hoff 8 (by kernel_rfl)).symm.trans h0_) (by decide),fun h0_=>absurd ((hoff 6 (by kernel_rfl)).symm.trans h0_) (by decide),Q_X7_⟩
    refine steps_cons ?_ ?_
    ·rintro b a w' ⟨v123,gb125,m6_,m7_,ha,Q_BK120,Q_BK121,Q_HB,Q_HO124,Q_BK125,Q_GW125,Q_GE125,Q_NB120_125,Q_NB125_120,Q_NB121_125,Q_NB125_121,Q_BK125_e8,Q_X6_,Q_X7_⟩ hb_ hon hoff;refine⟨_,rfl,fun K hK=>?_⟩
     have e14:a.tmps[14]?=some (.int .i64 (l0_1.length:Int)):=by rw[ha];exact putSel_on (e:=(4,14,.int .i64 (l0_1.length:Int))) 2 rfl rfl (hon 4 (by kernel_rfl)) rfl
     replace ha:=aM ha;have BK120:=aM Q_BK120;have BK121:=aM Q_BK121;have HB:=aM Q_HB;refine Kd.R_make_step (Kd.int .i64) _ 3 (by rfl) (N:=15) rfl 22 _ _ rfl (l0_1.length:Int) (by first|rfl|exact eval_some (by assumption)) (by first|rfl|exact eval_some (by assumption)) Try.underlying22 (.int .i64 0) 8 info3 rfl (by decide) (by omega) 0 (ok:=fun _=>True) (okp:=fun _=>True) rfl (fun _ hk=>hk) trivial (oE aS) (Nat.le_trans (Nat.mul_le_mul_right _ (oE aS:(l0_1.length:Int).toNat≤35184372088832)) (by omega)) (Below.refl _ _) (Nat.le_refl _) ?_
     intro v123 w10 ho11 hb hg_ hnew_;clear hg_ hnew_;(first|rw[← Ny122.out] at ho11|(simp only[Int.reduceToNat] at ho11;rw[← Ny122.out] at ho11))
     have n0_:=aM (Kd.R_lower ho11 (below_size pB));have n1_:=aM (kB BK120 hb);have n2_:=aM (kB BK121 hb);have n3_:=aM (below_step pB hb);have z_BK125:=fun(h0_:b 7=true) (h1_:b 8=false)=>(show w10.heap[gb125]?=some (.cells #[.int .i64 0,.slice none 0 0] 24 (0,0)) from by first|exact(blk_below (g:=gb125) (o:=.cells #[.int .i64 0,.slice none 0 0] 24 (0,0)) (by(with_reducible repeat(first|refine blk_drewN ?_ _|refine blk_drew ?_|refine blk_alloc ?_ _));exact(Q_BK125 h0_ h1_)) hb))
     clear BK120;clear BK121;clear HB;have HO124:=n0_;have BK120:=n1_;have BK121:=n2_;have HB:=n3_;clear n0_ n1_ n2_ n3_;clear hb ho11;obtain⟨Ao12,co12,eo12⟩:=Kd.R_slice HO124.out;(first|subst eo12|(injection eo12 with f1_ f2_ f3_;have f4_:=f1_.symm;have f5_:=f3_.symm;clear f1_ f2_ f3_;subst f4_;subst f5_))
     refine hK.out _ _ ⟨.slice Ao12 y122.length co12,gb125,m6_,m7_,(by rw[ha.out];exact putSel_upk 3 hb_ rfl rfl rfl),(kW BK120),(kW BK121),pB,fun _=>(rX HO124.out),z_BK125,Q_GW125,Q_GE125,Q_NB120_125,Q_NB125_120,Q_NB121_125,Q_NB125_121,fun h0_=>absurd ((hoff 8 (by kernel_rfl)).symm.trans h0_) (by decide),fun h0_=>absurd ((hoff 6 (by kernel_rfl)).symm.trans h0_) (by decide),Q_X7_⟩
    refine steps_cons ?_ ?_
    ·rintro b a w' ⟨v123,gb125,m6_,m7_,ha,Q_BK120,Q_BK121,Q_HB,Q_HO124,Q_BK125,Q_GW125,Q_GE125,Q_NB120_125,Q_NB125_120,Q_NB121_125,Q_NB125_121,Q_BK125_e8,Q_X6_,Q_X7_⟩ hb_ hon hoff;refine⟨_,rfl,fun K hK=>?_⟩
     have e11:a.tmps[11]?=some (.int .i64 a0_0):=by rw[ha];exact putSel_on (e:=(1,11,.int .i64 a0_0)) 0 rfl rfl (hon 1 (by kernel_rfl)) rfl
     have e15:a.tmps[15]?=some (v123):=by rw[ha];exact putSel_on (e:=(5,15,v123)) 3 rfl rfl (hon 5 (by kernel_rfl)) rfl
     replace ha:=aM ha;have BK120:=aM Q_BK120;have BK121:=aM Q_BK121;have HB:=aM Q_HB;have HO124:=aM (Q_HO124 (hon 5 (by kernel_rfl)))
     obtain⟨Ao6_0,co6_0,eo_⟩:=Kd.R_slice HO124.out;subst eo_;refine value_ (w1:=w') (v:=.agg #[.int .i64 a0_0,.slice Ao6_0 y122.length co6_0]) (by rfl) rfl ?_ ?_
     ·go_simp
      (try simp only[i64_w])
      try rfl
     refine hK.out _ _ ⟨.slice Ao6_0 y122.length co6_0,gb125,(.agg #[.int .i64 a0_0,.slice Ao6_0 y122.length co6_0]),m7_,(by rw[ha.out];exact putSel_upk 4 hb_ rfl rfl rfl),Q_BK120,Q_BK121,Q_HB,Q_HO124,Q_BK125,Q_GW125,Q_GE125,Q_NB120_125,Q_NB125_120,Q_NB121_125,Q_NB125_121,fun h0_=>absurd ((hoff 8 (by kernel_rfl)).symm.trans h0_) (by decide),fun _=>rfl,Q_X7_⟩
    refine steps_cons ?_ ?_
    ·rintro b a w' ⟨v123,gb125,m6_,m7_,ha,Q_BK120,Q_BK121,Q_HB,Q_HO124,Q_BK125,Q_GW125,Q_GE125,Q_NB120_125,Q_NB125_120,Q_NB121_125,Q_NB125_121,Q_BK125_e8,Q_X6_,Q_X7_⟩ hb_ hon hoff;refine⟨_,rfl,fun K hK=>?_⟩
     replace ha:=aM ha;have BK120:=aM Q_BK120;have BK121:=aM Q_BK121;have HB:=aM Q_HB;refine box_step ?hg (N:=7) ?hd (cs:=#[.int .i64 0,.slice none 0 0]) (t:=24) ?hr ?_;(case hd=>rfl);(case hg=>rfl);(case hr=>first|(go_simp;done)|(go_simp;rfl))
     intro gb125 hg w10 hbox hb;have n0_:=aM (kB BK120 hb);have n1_:=aM (kB BK121 hb);have n2_:=aM (below_step pB hb);have n3_:=aM (hbox);have n4_:=aM (gW hg:w.heap.size≤gb125);have n5_:=aM (gW hg:w.heap.size≤gb125);have n6_:=aM (nL hg BK120:gb120≠gb125);have n7_:=aM (nG hg BK120:gb125≠gb120);have n8_:=aM (nL hg BK121:gb121≠gb125);have n9_:=aM (nG hg BK121:gb125≠gb121);have z_HO124:=fun(h0_:b 5=true)=>(show Kd.R (Kd.int .i64) 3 w10 w.heap.size (fun _=>True) v123 y122 from by first|exact(Kd.R_below (rX (Q_HO124 h0_)) hb)|exact Kd.R_mono (Kd.R_below (rX (Q_HO124 h0_)) hb) (fun _ h_=>by first|trivial|exact h_|exact h_.1))
     clear BK120;clear BK121;clear HB;have BK120:=n0_;have BK121:=n1_;have HB:=n2_;have BK125:=n3_;have GW125:=n4_;have GE125:=n5_;have NB120_125:=n6_;have NB125_120:=n7_;have NB121_125:=n8_;have NB125_121:=n9_;clear n0_ n1_ n2_ n3_ n4_ n5_ n6_ n7_ n8_ n9_;clear hb hbox hg;refine hK.out _ _ ⟨v123,gb125,m6_,(.pointer (some ⟨gb125,0,none⟩)),(by rw[ha.out];exact putSel_upk 5 hb_ rfl rfl rfl),(kW BK120),(kW BK121),pB,z_HO124,fun _ _=>(kW BK125),fun _=>GW125.out,fun _=>GE125.out,fun _=>NB120_125.out,fun _=>NB125_120.out,fun _=>NB121_125.out,fun _=>NB125_121.out,fun h0_=>absurd ((hoff 8 (by kernel_rfl)).symm.trans h0_) (by decide),Q_X6_,fun _=>rfl⟩
    refine steps_cons ?_ ?_
    ·rintro b a w' ⟨v123,gb125,m6_,m7_,ha,Q_BK120,Q_BK121,Q_HB,Q_HO124,Q_BK125,Q_GW125,Q_GE125,Q_NB120_125,Q_NB125_120,Q_NB121_125,Q_NB125_121,Q_BK125_e8,Q_X6_,Q_X7_⟩ hb_ hon hoff;refine⟨_,rfl,fun K hK=>?_⟩
     have e7:a.tmps[7]?=some (m7_):=by rw[ha];exact putSel_on (e:=(7,7,m7_)) 5 rfl rfl (hon 7 (by kernel_rfl)) rfl
     rw[Q_X7_ (hon 7 (by kernel_rfl))] at e7
     have e16:a.tmps[16]?=some (m6_):=by rw[ha];exact putSel_on (e:=(6,16,m6_)) 4 rfl rfl (hon 6 (by kernel_rfl)) rfl
     rw[Q_X6_ (hon 6 (by kernel_rfl))] at e16
     replace ha:=aM ha;have BK120:=aM Q_BK120;have BK121:=aM Q_BK121;have HB:=aM Q_HB;have HO124:=aM (Q_HO124 (hon 5 (by kernel_rfl)))
     have BK125:=aM (Q_BK125 (hon 7 (by kernel_rfl)) hb_)
     have GW125:=aM (Q_GW125 (hon 7 (by kernel_rfl)))
     have GE125:=aM (Q_GE125 (hon 7 (by kernel_rfl)))
     have NB120_125:=aM (Q_NB120_125 (hon 7 (by kernel_rfl)))
     have NB125_120:=aM (Q_NB125_120 (hon 7 (by kernel_rfl)))
     have NB121_125:=aM (Q_NB121_125 (hon 7 (by kernel_rfl)))
     have NB125_121:=aM (Q_NB125_121 (hon 7 (by kernel_rfl)))
     obtain⟨Ao15,co15,eo15⟩:=Kd.R_slice HO124.out;(first|subst eo15|(injection eo15 with f1_ f2_ f3_;have f4_:=f1_.symm;have f5_:=f3_.symm;clear f1_ f2_ f3_;subst f4_;subst f5_))
     have hs16:w'.cell? ⟨gb125,0,none⟩=some (.int .i64 0):=(blk_cell BK125.out 0).trans rfl;have hfs16:=blk_frozen BK125.out 0;have hns16_0:=NB120_125.out;have hns16_1:=NB121_125.out;have hms16_0:=NB125_120.out;have hms16_1:=NB125_121.out;have hs17:w'.cell? ⟨gb125,1,none⟩=some (.slice none 0 0):=(blk_cell BK125.out 1).trans rfl;have hfs17:=blk_frozen BK125.out 1;have hns17_0:=NB120_125.out;have hns17_1:=NB121_125.out;have hms17_0:=NB125_120.out;have hms17_1:=NB125_121.out;refine skip_ (w1:=?_) (by rfl) rfl ?_ ?_
     rotate_left
     ·go_simp
      rfl
     refine hK.out _ _ ⟨.slice Ao15 y122.length co15,gb125,m6_,m7_,(by rw[ha.out];exact putSel_none (v:=undef) rfl),(by refine bD ?_;refine blk_far ?_ NB120_125.out _;refine bD ?_;refine blk_far ?_ NB120_125.out _;(with_reducible repeat(first|refine blk_drewN ?_ _|refine blk_drew ?_|refine blk_alloc ?_ _));exact BK120.out),(by refine bD ?_;refine blk_far ?_ NB121_125.out _;refine bD ?_;refine blk_far ?_ NB121_125.out _;(with_reducible repeat(first|refine blk_drewN ?_ _|refine blk_drew ?_|refine blk_alloc ?_ _));exact BK121.out),pB,fun _=>(rX (Kd.R_mono (Kd.R_far (p:=⟨gb125,1,none⟩) (Kd.R_far (p:=⟨gb125,0,none⟩) (Kd.R_types HO124.out BK125.out (by decide)) (fun _ hk=>hk.2) (.int .i64 a0_0)) (fun _ hk=>hk.2) (.slice Ao15 y122.length co15)) (fun _ hk=>trivial))),fun _ h1_=>absurd ((up_self b 8).symm.trans h1_) (by decide),fun _=>GW125.out,fun _=>GE125.out,fun _=>NB120_125.out,fun _=>NB125_120.out,fun _=>NB121_125.out,fun _=>NB125_121.out,fun _=>(by refine bD ?_;refine blk_put (cs:=#[.int .i64 a0_0,.slice none 0 0]) ?_ 1 _ rfl;refine bD ?_;refine blk_put (cs:=#[.int .i64 0,.slice none 0 0]) ?_ 0 _ rfl;(with_reducible repeat(first|refine blk_drewN ?_ _|refine blk_drew ?_|refine blk_alloc ?_ _));exact BK125.out),Q_X6_,Q_X7_⟩
    exact steps_nil
   rintro b a w16 hall ⟨v123,gb125,m6_,m7_,ha,Q_BK120,Q_BK121,Q_HB,Q_HO124,Q_BK125,Q_GW125,Q_GE125,Q_NB120_125,Q_NB125_120,Q_NB121_125,Q_NB125_121,Q_BK125_e8,Q_X6_,Q_X7_⟩;clear BK120 BK121 HB;have hb1_:=hall 1 (by kernel_rfl)
   have hb3_:=hall 3 (by kernel_rfl)
   have hb4_:=hall 4 (by kernel_rfl)
   have hb5_:=hall 5 (by kernel_rfl)
   have hb6_:=hall 6 (by kernel_rfl)
   have hb7_:=hall 7 (by kernel_rfl)
   have hb8_:=hall 8 (by kernel_rfl)
   subst ha;obtain rfl:=(Q_X6_ hb6_).symm;obtain rfl:=(Q_X7_ hb7_).symm;simp only[putSel,hb1_,hb3_,hb4_,hb5_,hb6_,hb7_,hb8_,if_true,Act.put,sA,sZ,sC];have BK120:=aM Q_BK120;clear Q_BK120;have BK121:=aM Q_BK121;clear Q_BK121;have HB:=aM Q_HB;clear Q_HB;have HO124:=aM (Q_HO124 hb5_);clear Q_HO124;clear Q_BK125;have GW125:=aM (Q_GW125 hb7_);clear Q_GW125;have GE125:=aM (Q_GE125 hb7_);clear Q_GE125;have NB120_125:=aM (Q_NB120_125 hb7_);clear Q_NB120_125;have NB125_120:=aM (Q_NB125_120 hb7_);clear Q_NB125_120;have NB121_125:=aM (Q_NB121_125 hb7_);clear Q_NB121_125;have NB125_121:=aM (Q_NB125_121 hb7_);clear Q_NB125_121;have BK125:=aM (Q_BK125_e8 hb8_);clear Q_BK125_e8;clear hall hb1_ hb3_ hb4_ hb5_ hb6_ hb7_ hb8_;obtain⟨Ao17,co17,eo17⟩:=Kd.R_slice HO124.out;(first|subst eo17|(injection eo17 with f1_ f2_ f3_;have f4_:=f1_.symm;have f5_:=f3_.symm;clear f1_ f2_ f3_;subst f4_;subst f5_))
   have hnb18:=NB125_120.out;have hnc18:=NB120_125.out;have hnb19:=NB125_121.out;have hnc19:=NB121_125.out;obtain⟨hcz20_0,hcz20_1,hfz20_0,hfz20_1⟩:=bk2 BK125;have hnb21:=NB120_121.out;have hnc21:=NB121_120.out;obtain⟨hcz22_0,hcz22_1,hfz22_0,hfz22_1⟩:=bk2 BK120;try go_wp2_with (first|((with_reducible refine gate_builtin (b:=.copy) rfl ?_);refine copyL_ (some 21) rfl rfl rfl (.slice Ao17 y122.length co17) (.slice A0_1 l0_1.length c0_1) rfl rfl ?_;(with_reducible refine(Ezp.calls (by kernel_rfl) (fun k_=>some k_=(.slice Ao17 y122.length co17:Value).ownBlock) (.slice Ao17 y122.length co17) y122 _ _ l0_1 t126 t127 w _ ?side1 ?side2 ?side3 ?side4 A6.out).mono ?_);(case side1=>repeat(first|(with_reducible first|exact HB.out|apply below_alloc|apply pw_below_drewN|apply below_drew1|refine below_set ?_ GE120.out|refine below_set ?_ GE121.out|refine below_set ?_ GE125.out)|exact HB.out));(case side2=>exact Kd.R_tight rfl HO124.out);(case side3=>exact Kd.C_kept_came (Kd.heap_int .i64) HR0_1.out pB (fun k_ hs_=>(fun e_=>Kd.R_base HO124.out k_ e_.symm) hs_));(case side4=>exact HC0_1.out);rintro e w23 ⟨rfl,hy0,hb,hkp⟩;refine⟨_,rfl,?_⟩;replace BK120:=aM (blk_kept (kW BK120) hkp (fun hs_=>(fun e_=>(Kd.R_ne HO124.out BK120.out (by decide)) e_) hs_));replace BK121:=aM (blk_kept (kW BK121) hkp (fun hs_=>(fun e_=>(Kd.R_ne HO124.out BK121.out (by decide)) e_) hs_));replace BK125:=aM (blk_kept (kW BK125) hkp (fun hs_=>(fun e_=>(Kd.R_ne HO124.out BK125.out (by decide)) e_) hs_));replace HO124:=aM (Kd.R_reok rfl hy0 (fun k_ e_=>HO124.out.1 k_ e_));replace HB:=aM (hb);(try clear hb);(try clear hkp);(try clear hy0)))
   try simp only[Act.put,sA,sZ,sC]
   go_loopg [24] k (fun kq v24 w'=>∃ (x24_1:Int) (x126001_1:List Int) (u126001:Value),v24=.int .i64 x24_1∧Aside0 (Bzy.l0 kq a2 l1 (l1.length:Int) x24_1 a0_0 x126001_1=some (r1,r2))∧Aside0 (kq≤k)∧Aside0 (Kd.R (Kd.int .i64) 3 w' w.heap.size (fun _=>True) u126001 x126001_1)∧Aside0 (w'.heap[gb120]?=some (.cells #[.int .i64 a0_0,(.slice A0_1 l0_1.length c0_1)] 24 (0,0)))∧Aside0 (w'.heap[gb121]?=some (.cells #[.int .i64 0,(.slice none 0 0)] 24 (0,0)))∧Aside0 (w'.heap[gb125]?=some (.cells #[.int .i64 a0_0,u126001] 24 (0,0)))∧Aside0 (Below w.heap.size w w'))
   case atStart=>exact⟨(0),(t127),(.slice Ao17 y122.length co17),sD,H',⟨Nat.le_refl _⟩,⟨rX HO124.out⟩,⟨by(with_reducible repeat(first|refine blk_drewN ?_ _|refine blk_drew ?_|refine blk_alloc ?_ _));exact BK120.out⟩,⟨by(with_reducible repeat(first|refine blk_drewN ?_ _|refine blk_drew ?_|refine blk_alloc ?_ _));exact BK121.out⟩,⟨by(with_reducible repeat(first|refine blk_drewN ?_ _|refine blk_drew ?_|refine blk_alloc ?_ _));exact BK125.out⟩,⟨pB⟩⟩
   case round =>
    clear H';try clear c1
    try clear c2
    try clear p2
    try clear c3
    try clear c4
    try clear c4b0
    try clear c4b1
    try clear c5
    try clear c5b0
    try clear c5b1
    try clear c8
    try clear c18
    try clear c19
    try clear c21
    try clear hcz20_0
    try clear hcz20_1
    try clear hcz22_0
    try clear hcz22_1
    try clear hfz20_0
    try clear hfz20_1
    try clear hfz22_0
    try clear hfz22_1
    obtain⟨x24_1,x126001_1,u126001,rfl,HA,HK1,HO_126001,BK120,BK121,BK125,HB⟩:=hrel;cases gk with
    | zero=>exact absurd HA.out (by simp [Bzy.l0])
    | succ k1 =>
     have H:=HA.out;clear HA;simp only[Bzy.l0] at H;by_cases c24:x24_1 < (l1.length:Int)
     ·rw[if_pos c24] at H;have c24b0:decide (x24_1 < (l1.length:Int))=true:=dE c24;clear c24;by_cases c25:0≤x24_1
      ·rw[if_pos c25] at H;have c25b0:decide (0≤x24_1)=true:=dE c25;clear c25;by_cases c26:x24_1 < (l1.length:Int)
       ·rw[if_pos c26] at H;have c26b0:decide (x24_1 < (l1.length:Int))=true:=dE c26;clear c26;by_cases c27:x24_1 < (x126001_1.length:Int)
        ·rw[if_pos c27] at H;have c27b0:decide (x24_1 < (x126001_1.length:Int))=true:=dE c27;clear c27;obtain⟨y130,hy130⟩:∃ y_:List Int,y_=(x126001_1.set (x24_1:Int).toNat (wrap64 ((rd x126001_1 x24_1)+(wrap64 (a2 * (rd l1 x24_1)))))):=⟨_,rfl⟩;replace H:(Bzy.l0 k1 a2 l1 (l1.length:Int) (wrap64 (x24_1+1)) a0_0 y130)=some (r1,r2):=by first|(rw[hy130];with_reducible exact H)|(have H2_:=(Option.bind_some _ _).symm.trans H;rw[hy130];with_reducible exact H2_)|(have H2_:=(Option.bind_some _ _).symm.trans H;with_reducible exact H2_)|with_reducible exact H|(rw[hy130];exact H)|exact H
         have Ny130:=aM hy130;clear hy130;have H':=aM H;clear H;have p128:0≤(x24_1:Int):=oE aS
         have q128:x24_1 < (l1.length:Int):=oE aS
         obtain⟨ad128,e128,hx128_0⟩:=Kd.at_int HR1.out x24_1 p128 q128;cases e128
         replace hx128_0:=(HB.out.cell (World.block_lt_of_cell? w _ hx128_0)).trans hx128_0;replace p128:=eq_true p128;replace q128:=eq_true q128;have hnb29:=NB125_120.out;have hnc29:=NB120_125.out;have hnb30:=NB125_121.out;have hnc30:=NB121_125.out;obtain⟨hcz31_0,hcz31_1,hfz31_0,hfz31_1⟩:=bk2 BK125;obtain⟨Ao32,co32,eo32⟩:=Kd.R_slice HO_126001.out;subst eo32;have p129:0≤(x24_1:Int):=oE aS
         have q129:x24_1 < (x126001_1.length:Int):=oE aS
         obtain⟨ad129,e129,hx129_0⟩:=Kd.at_int (Kd.R_reads' HO_126001.out).2.2 x24_1 p129 q129;cases e129
         replace p129:=eq_true p129;replace q129:=eq_true q129;have p28:0≤(x24_1:Int):=oE aS
         have q28:(x24_1:Int) < ((x126001_1.length:Int):Int):=oE aS
         obtain⟨go28,co28,eo28,gb28,gl28,cl28,HG28⟩:=Kd.R_form HO_126001.out (by omega)
         (first|cases eo28|(injection eo28 with ea_ en_ ec_;(first|subst ea_|(injection ea_ with ea_;subst ea_));subst ec_;clear en_))
         have GB28:=aM gb28;have GG28:=aM HG28;clear gb28 gl28 HG28;(first|simp only[add_plain] at hx129_0|skip)
         obtain⟨hx28_0,hf28_0⟩:=Kd.R_celln 0 HO_126001.out (x24_1:Int) p28 q28;replace p28:=eq_true p28;replace q28:=eq_true q28;have HP33:=Kd.R_putg HO_126001.out (x24_1:Int) (wrap64 ((rd x126001_1 x24_1)+(wrap64 (a2 * (rd l1 x24_1)))));go_wp2_with (first|((with_reducible refine gate_store (t:=3) (p:=38) rfl ?_);refine store_event (t:=3) (p:=38) (v:=?vo_w34) (w1:=(wr.setCell ⟨go28,(x24_1:Int).toNat,none⟩ (.int .i64 (wrap64 ((rd x126001_1 x24_1)+(wrap64 (a2 * (rd l1 x24_1)))))))) ?hg ?ho ?hn ?hr ?_;(case ho=>rfl);(case hg=>rfl);(case hn=>rfl);(case hr=>first|(go_simp;done)|(go_simp;rfl));intro w34 hw;have hg:wr.grownBy w34 (some go28):=(by rw[hw];exact HP33.2);have hp_:Kd.R (Kd.int .i64) 3 w34 w.heap.size (fun _=>True) (.slice (some ⟨go28,0,none⟩) x126001_1.length co32) y130:=(by rw[hw,Ny130.out];exact HP33.1);clear HP33;replace BK120:=aM (blk_grown (g:=gb120) (o:=.cells #[.int .i64 a0_0,.slice A0_1 l0_1.length c0_1] 24 (0,0)) (kW BK120) hg (Kd.R_ne HO_126001.out BK120.out (by decide)));replace BK121:=aM (blk_grown (g:=gb121) (o:=.cells #[.int .i64 0,.slice none 0 0] 24 (0,0)) (kW BK121) hg (Kd.R_ne HO_126001.out BK121.out (by decide)));replace BK125:=aM (blk_grown (g:=gb125) (o:=.cells #[.int .i64 a0_0,.slice (some ⟨go28,0,none⟩) x126001_1.length co32] 24 (0,0)) (kW BK125) hg (Kd.R_ne HO_126001.out BK125.out (by decide)));replace HO_126001:=aM (hp_);replace HB:=aM ((by rw[hw];exact below_set (HB.out) GB28.out:Below w.heap.size w w34));clear hg hw hp_))
         go_roundg k1
         case measure=>have:=HK1.out;omega
         case rel=>exact⟨(wrap64 (x24_1+1)),(y130),(.slice (some ⟨go28,0,none⟩) x126001_1.length co32),sD,H',⟨by have:=HK1.out;omega⟩,⟨rX HO_126001.out⟩,⟨by(with_reducible repeat(first|refine blk_drewN ?_ _|refine blk_drew ?_|refine blk_alloc ?_ _));exact BK120.out⟩,⟨by(with_reducible repeat(first|refine blk_drewN ?_ _|refine blk_drew ?_|refine blk_alloc ?_ _));exact BK121.out⟩,⟨by(with_reducible repeat(first|refine blk_drewN ?_ _|refine blk_drew ?_|refine blk_alloc ?_ _));exact BK125.out⟩,⟨pB⟩⟩
        ·rw[if_neg c27] at H;exact absurd H (by simp)
       ·rw[if_neg c26] at H;exact absurd H (by simp)
      ·rw[if_neg c25] at H;exact absurd H (by simp)
     ·rw[if_neg c24] at H;have c24b0:decide (x24_1 < (l1.length:Int))=false:=decide_eq_false c24;clear c24;simp only[Option.some.injEq,Prod.mk.injEq] at H;obtain⟨rfl,rfl⟩:=H;have hnb35:=NB125_120.out;have hnc35:=NB120_125.out;have hnb36:=NB125_121.out;have hnc36:=NB121_125.out;obtain⟨hcz37_0,hcz37_1,hfz37_0,hfz37_1⟩:=bk2 BK125;have hnb38:=NB121_120.out;have hnc38:=NB120_121.out;obtain⟨hcz39_0,hcz39_1,hfz39_0,hfz39_1⟩:=bk2 BK121;obtain⟨Ao40,co40,eo40⟩:=Kd.R_slice HO_126001.out;subst eo40;go_wp2
      refine bodyPost_ret (results_cell_row rfl _ _ gb121 24 #[.int .i64 a0_0,.slice Ao40 x126001_1.length co40] (0,0) _ rfl (by refine bD ?_;refine blk_put (cs:=#[.int .i64 a0_0,.slice none 0 0]) ?_ 1 _ rfl;refine bD ?_;refine blk_put (cs:=#[.int .i64 0,.slice none 0 0]) ?_ 0 _ rfl;(with_reducible repeat(first|refine blk_drewN ?_ _|refine blk_drew ?_|refine blk_alloc ?_ _));exact BK121.out) Try.underlying24 rfl (by kernel_rfl)) rfl ?_
      exact⟨_,eW,by(with_reducible repeat(first|apply Kd.R_alloc|apply Kd.R_drewN|apply Kd.R_drew));exact Kd.R_mono (Kd.R_far (p:=⟨gb121,1,none⟩) (Kd.R_far (p:=⟨gb121,0,none⟩) (Kd.R_types HO_126001.out BK121.out (by decide)) (fun _ hk=>hk.2) (.int .i64 a0_0)) (fun _ hk=>hk.2) (.slice Ao40 x126001_1.length co40)) (fun _ hk=>trivial),pB⟩
  ·rw[if_neg c5] at H;exact absurd H (by simp)
 ·rw[if_neg c4] at H;exact absurd H (by simp)

end Go.Proofs.Ytpjcpgobdiahpaa.Print
