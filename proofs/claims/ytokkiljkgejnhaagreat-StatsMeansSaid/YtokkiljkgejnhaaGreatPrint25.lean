import Derived.Test.YtokkiljkgejnhaaGreatPrint0
import Derived.Test.YtokkiljkgejnhaaGreatPrint14
import Derived.Test.YtokkiljkgejnhaaGreatPrint19
namespace Go.Proofs.YtokkiljkgejnhaaGreat.Print
open Go.RowKit Go.Proofs.YtokkiljkgejnhaaGreatW.PrintWords Go.Proofs.YtokkiljkgejnhaaGreatW.PrintLast Go.Proofs.YtokkiljkgejnhaaGreatW.PrintMore
attribute [local go_sem] max2_int min2_int max_two min_two max_three min_three max_four min_four
set_option linter.unusedVariables false
set_option maxRecDepth 100000
set_option maxHeartbeats 8000000
set_option linter.unusedSimpArgs false

def Gzz.f (a0_0:Bool) (l0_1:List Int) (l0_2:List Int):Option (Bool × List Int × List Int):=if a0_0=true then(if([]:List Int).length+l0_1.length < 17592186044416 then(if([]:List Int).length+l0_2.length < 17592186044416 then(some (false,(([]:List Int) ++ l0_1),(([]:List Int) ++ l0_2))) else(none)) else(none)) else(if([]:List Int).length+l0_1.length < 17592186044416 then(if([]:List Int).length+l0_2.length < 17592186044416 then(some (decide (0 < l0_1.length),(([]:List Int) ++ l0_1),(([]:List Int) ++ l0_2))) else(none)) else(none))
def Gzz.T1:Bool × List (List Nat × List Nat):=(true,[([],[]),([0],[0]),([1],[1]),([2],[2]),([3],[3]),([4,3],[3,4]),([5,3],[3,5]),([6,3],[3,6]),([3,7],[3,7]),([],[]),([9],[9]),([10,3],[10]),([],[]),([12],[12]),([13,11],[13]),([8,11,14],[8,11,14]),([15,14,0,1,2,3,4,5,6,7,8,9,10,11,12,13,14,15],[15])])
def Gzz.B1:List Nat:=[0,1,3,7,15,31,63,127,255,0,512,1551,0,4096,15887,32767,65535]
theorem Gzz.tab1:rtab .any (opsOf Tryz.f48 1)=Gzz.T1:=by kernel_rfl
theorem Gzz.bits1:waitsOk Gzz.T1.2 Gzz.B1=true:=by kernel_rfl
theorem Gzz.calls (a6:Bool) (a7:Option Addr) (a8:Nat) (b4:List Int) (b5:Option Addr) (b6:Nat) (b7:List Int) (b8:Bool) (b9:List Int) (d0:List Int) (w:World) (d6:Kd.C (Kd.int .i64) w a7 b4.length b4) (d7:b4.length≤a8) (d8:Kd.C (Kd.int .i64) w b5 b7.length b7) (d9:b7.length≤b6) (h:Gzz.f a6 b4 b7=some (b8,b9,d0)) :
  Calls Tryz.prog 48 #[.agg #[.bool a6,.slice a7 b4.length a8,.slice b5 b7.length b6]] w fun e w'=>∃ v1_ v2_:Value,e=.returned (.agg #[.bool b8,v1_,v2_])∧Kd.R (Kd.int .i64) 3 w' w.heap.size (fun k_=>some k_≠(v2_:Value).ownBlock) v1_ b9∧Kd.R (Kd.int .i64) 3 w' w.heap.size (fun k_=>some k_≠(v1_:Value).ownBlock) v2_ d0∧Below w.heap.size w w':=by
 have hu26:=Tryz.underlying26;have e6:=aM d6;have e7:=aM d7;clear d6 d7;have e8:=aM d8;have e9:=aM d9;clear d8 d9;have HB:=aM (Below.refl w.heap.size w);have H:(if a6=true then(if([]:List Int).length+b4.length < 17592186044416 then(if([]:List Int).length+b7.length < 17592186044416 then(some (false,(([]:List Int) ++ b4),(([]:List Int) ++ b7))) else(none)) else(none)) else(if([]:List Int).length+b4.length < 17592186044416 then(if([]:List Int).length+b7.length < 17592186044416 then(some (decide (0 < b4.length),(([]:List Int) ++ b4),(([]:List Int) ++ b7))) else(none)) else(none)))=some (b8,b9,d0):=h
 clear h;by_cases c2:a6=true
 ·subst c2;rw[if_pos rfl] at H;obtain⟨c3,H⟩:=iO H;have LMc3:=aM c3;clear c3;obtain⟨f3,f4⟩:∃ y_:List Int,y_=(([]:List Int) ++ b4):=⟨_,rfl⟩;replace H:(if([]:List Int).length+b7.length < 17592186044416 then(some (false,f3,(([]:List Int) ++ b7))) else(none))=some (b8,b9,d0):=yE f4 H
  have f6:=aM f4;clear f4;obtain⟨c4,H⟩:=iO H;have LMc4:=aM c4;clear c4;obtain⟨f9,g4⟩:∃ y_:List Int,y_=(([]:List Int) ++ b7):=⟨_,rfl⟩;replace H:(some (false,f3,f9))=some (b8,b9,d0):=yE g4 H
  have g5:=aM g4;clear g4;obtain⟨rfl,rfl,rfl⟩:=q3 H;go_enter Tryz.func48,Tryz.ntmps48
  try go_wp2_with (first|((with_reducible refine gd 1 rfl ?_);refine bxg #[.bool true,.slice a7 b4.length a8,.slice b5 b7.length b6] 26 ?_;intro g6 hg g7 g8 hb;have g9:=gA w hg;have j3:=gA w hg;replace HB:=bB hb;clear hb hg)|((with_reducible refine gd 2 rfl ?_);refine bxg #[.bool false,.slice none 0 0,.slice none 0 0] 26 ?_;intro j4 hg j5 j6 hb;have j7:=gA w hg;have j8:=gA w hg;have j9:=nl hg g8;have l5:=ng hg g8;replace g8:=kb g8 hb;replace HB:=bB hb;clear hb hg))
  have n0_:=aM (blk_drew g8.out);have n1_:=aM (blk_drew j6.out);have n2_:=aM (below_drew1 HB.out);clear g8 j6 HB;have g8:=n0_;have j6:=n1_;have HB:=n2_;clear n0_ n1_ n2_;refine start_ (n:=17) (S:=fun w'=>w'.cell? ⟨g6,0,none⟩=some (.bool true)∧w'.cell? ⟨g6,1,none⟩=some (.slice a7 b4.length a8)∧w'.cell? ⟨g6,2,none⟩=some (.slice b5 b7.length b6)) (ds:=[]) (bA 17 0) (by kernel_rfl) rfl rfl ⟨(blk_cell g8.out 0).trans rfl,(blk_cell g8.out 1).trans rfl,(blk_cell g8.out 2).trans rfl⟩ (fun hHeld=>?_);refine with_tabW Gzz.tab1 Gzz.bits1 (fun HT_ HW_=>?_)
  generalize j5.drew=l6 at g8 j6 HB hHeld ⊢;refine pS 0 3 HT_ ?_;refine pS 9 12 HT_ ?_;refine pS 12 15 HT_ ?_;refine tU 1 4 HT_ HW_ hHeld ?_;refine pS 2 5 HT_ ?_;refine pS 3 6 HT_ ?_;refine pN 4 7 HT_ ?_;refine pN 5 8 HT_ ?_;refine pN 6 9 HT_ ?_;refine pN 7 10 HT_ ?_;refine pS 8 11 HT_ ?_;refine tU 10 13 HT_ HW_ hHeld ?_;refine tU 13 16 HT_ HW_ hHeld ?_;refine oU 11 (some 14) HT_ fun K hK=>?_
  refine Kd.R_append_rows_step (Kd.int .i64) (w0:=w) w.heap.size (by rfl) (.const (.slice none 0 0)) (.tmp 13) 24 3 (.int .i64 0) 8 rfl Tryz.underlying24 info3 rfl (by decide) (by omega) (.slice none 0 0) ([]:List Int) b4 _ _ _ (fun _=>True) (fun _=>False) rfl rfl ?aO ?aR (fun _ _ h=>h) (fun _ h=>h.elim) ?aF ?aB ?aS ?aL ?_
  (case aR=>exact cB e6)
  (case aB=>exact pB)
  (case aF=>exact(fun _ _=>trivial))
  (case aO=>exact((Kd.R_nil _ _ _ _ (fun _=>True))))
  (case aS=>exact(below_size pB))
  (case aL=>have:=LMc3.out;omega)
  intro l7 l8 ho hb hg hat;rw[← f6.out] at ho;have n0_:=aM (blk_grown (g:=g6) (o:=.cells #[.bool true,.slice a7 b4.length a8,.slice b5 b7.length b6] 26 (0,0)) (kW g8) hg (by simp [Value.ownBlock]))
  have n1_:=aM (blk_grown (g:=j4) (o:=.cells #[.bool false,.slice none 0 0,.slice none 0 0] 26 (0,0)) (kW j6) hg (by simp [Value.ownBlock]))
  have n2_:=aM (hb);have n3_:=aM (ho);clear g8 j6 HB;have g8:=n0_;have j6:=n1_;have HB:=n2_;have l9:=n3_;clear n0_ n1_ n2_ n3_ ho hb hg hat;refine hK.out _ _ ⟨(blk_cell g8.out 0).trans rfl,(blk_cell g8.out 1).trans rfl,(blk_cell g8.out 2).trans rfl⟩ (fun hHeld=>?_)
  clear hK K;refine nm 14 ?_;refine oU 14 (some 17) HT_ fun K hK=>?_
  refine Kd.R_append_rows_step (Kd.int .i64) (w0:=w) w.heap.size (by rfl) (.const (.slice none 0 0)) (.tmp 16) 24 3 (.int .i64 0) 8 rfl Tryz.underlying24 info3 rfl (by decide) (by omega) (.slice none 0 0) ([]:List Int) b7 _ _ _ (fun k_=>some k_≠(l7:Value).ownBlock) (fun _=>False) rfl rfl ?aO ?aR (fun _ _ h=>h) (fun _ h=>h.elim) ?aF ?aB ?aS ?aL ?_
  (case aR=>exact cB e8)
  (case aB=>exact pB)
  (case aF=>exact(fun k_ hk=>Kd.fresh' (Kd.R_lt (rX l9.out)) k_ hk))
  (case aO=>exact((Kd.R_nil _ _ _ _ (fun k_=>some k_≠(l7:Value).ownBlock))))
  (case aS=>exact(below_size pB))
  (case aL=>have:=LMc4.out;omega)
  intro m0 m3 ho hb hg hat;rw[← g5.out] at ho;have n0_:=aM (blk_grown (g:=g6) (o:=.cells #[.bool true,.slice a7 b4.length a8,.slice b5 b7.length b6] 26 (0,0)) (kW g8) hg (by simp [Value.ownBlock]))
  have n1_:=aM (blk_grown (g:=j4) (o:=.cells #[.bool false,.slice none 0 0,.slice none 0 0] 26 (0,0)) (kW j6) hg (by simp [Value.ownBlock]))
  have n2_:=aM (Kd.R_after (Kd.R_apart_nil (rX l9.out)) hg hat);have n3_:=aM (hb);have n4_:=aM (ho);clear g8 j6 l9 HB;have g8:=n0_;have j6:=n1_;have l9:=n2_;have HB:=n3_;have m4:=n4_;clear n0_ n1_ n2_ n3_ n4_ ho hb hg hat;obtain⟨m5,m6,m7⟩:=Kd.R_slice m4.out;(first|subst m7|(injection m7 with f1_ f2_ f3_;have f4_:=f1_.symm;have f5_:=f3_.symm;clear f1_ f2_ f3_;subst f4_;subst f5_))
  obtain⟨m8,m9,n0⟩:=Kd.R_slice l9.out;(first|subst n0|(injection n0 with f1_ f2_ f3_;have f4_:=f1_.symm;have f5_:=f3_.symm;clear f1_ f2_ f3_;subst f4_;subst f5_))
  refine hK.out _ _ ⟨(blk_cell g8.out 0).trans rfl,(blk_cell g8.out 1).trans rfl,(blk_cell g8.out 2).trans rfl⟩ (fun hHeld=>?_)
  clear hK K;refine nm 17 ?_;refine pS 15 18 HT_ ?_;refine oU 16 none HT_ fun K hK=>?_
  have n6:m3.cell? ⟨j4,0,none⟩=some (.bool false):=(blk_cell j6.out 0).trans rfl;have hfs12:=blk_frozen j6.out 0;have hns12_0:=j9.out;have hms12_0:=l5.out;have n7:m3.cell? ⟨j4,1,none⟩=some (.slice none 0 0):=(blk_cell j6.out 1).trans rfl;have hfs13:=blk_frozen j6.out 1;have hns13_0:=j9.out;have hms13_0:=l5.out;have n8:m3.cell? ⟨j4,2,none⟩=some (.slice none 0 0):=(blk_cell j6.out 2).trans rfl;have hfs14:=blk_frozen j6.out 2;have hns14_0:=j9.out;have hms14_0:=l5.out;refine skip_ (w1:=?_) (by rfl) rfl ?_ ?_
  rotate_left
  ·go_simp
   rfl
  refine hK.out _ _ ⟨((cell_far (p:=⟨j4,_,none⟩) j9.out _).trans (((cell_far (p:=⟨j4,_,none⟩) j9.out _).trans (((cell_far (p:=⟨j4,_,none⟩) j9.out _).trans (hHeld.1)))))),((cell_far (p:=⟨j4,_,none⟩) j9.out _).trans (((cell_far (p:=⟨j4,_,none⟩) j9.out _).trans (((cell_far (p:=⟨j4,_,none⟩) j9.out _).trans (hHeld.2.1)))))),((cell_far (p:=⟨j4,_,none⟩) j9.out _).trans (((cell_far (p:=⟨j4,_,none⟩) j9.out _).trans (((cell_far (p:=⟨j4,_,none⟩) j9.out _).trans (hHeld.2.2))))))⟩ (fun hHeld=>?_)
  clear hK K;refine done_ (done_of HT_.out (by kernel_rfl)) ?_
  try go_wp2
  refine bodyPost_ret (results_cell_row rfl _ _ j4 26 #[.bool false,.slice m8 f3.length m9,.slice m5 f9.length m6] (0,0) _ rfl (kQ j6) Tryz.underlying26 rfl (by kernel_rfl)) rfl ?_
  exact⟨_,_,eW,by exact Kd.R_mono (rT l9 j6) (fun _ hk=>hk.2),by exact Kd.R_mono (rT m4 j6) (fun _ hk=>hk),pB⟩
 ·obtain rfl:=bN c2;rw[if_neg nF] at H
  by_cases n9:([]:List Int).length+b4.length < 17592186044416
  ·rw[if_pos n9] at H;have LMc15:=aM n9;clear n9;obtain⟨o0,o8⟩:∃ y_:List Int,y_=(([]:List Int) ++ b4):=⟨_,rfl⟩;replace H:(if([]:List Int).length+b7.length < 17592186044416 then(some (decide (0 < b4.length),o0,(([]:List Int) ++ b7))) else(none))=some (b8,b9,d0):=yE o8 H
   have o9:=aM o8;clear o8;obtain⟨p0,H⟩:=iO H;have LMc16:=aM p0;clear p0;obtain⟨p3,p4⟩:∃ y_:List Int,y_=(([]:List Int) ++ b7):=⟨_,rfl⟩;replace H:(some (decide (0 < b4.length),o0,p3))=some (b8,b9,d0):=yE p4 H
   have p5:=aM p4;clear p4;obtain⟨rfl,rfl,rfl⟩:=q3 H;go_enter Tryz.func48,Tryz.ntmps48
   try go_wp2_with (first|((with_reducible refine gd 1 rfl ?_);refine bxg #[.bool false,.slice a7 b4.length a8,.slice b5 b7.length b6] 26 ?_;intro g6 hg r5 g8 hb;have g9:=gA w hg;have j3:=gA w hg;replace HB:=bB hb;clear hb hg)|((with_reducible refine gd 2 rfl ?_);refine bxg #[.bool false,.slice none 0 0,.slice none 0 0] 26 ?_;intro j4 hg r6 j6 hb;have j7:=gA w hg;have j8:=gA w hg;have j9:=nl hg g8;have l5:=ng hg g8;replace g8:=kb g8 hb;replace HB:=bB hb;clear hb hg))
   have n0_:=aM (blk_drew g8.out);have n1_:=aM (blk_drew j6.out);have n2_:=aM (below_drew1 HB.out);clear g8 j6 HB;have g8:=n0_;have j6:=n1_;have HB:=n2_;clear n0_ n1_ n2_;refine start_ (n:=17) (S:=fun w'=>w'.cell? ⟨g6,0,none⟩=some (.bool false)∧w'.cell? ⟨g6,1,none⟩=some (.slice a7 b4.length a8)∧w'.cell? ⟨g6,2,none⟩=some (.slice b5 b7.length b6)) (ds:=[]) (bA 17 0) (by kernel_rfl) rfl rfl ⟨(blk_cell g8.out 0).trans rfl,(blk_cell g8.out 1).trans rfl,(blk_cell g8.out 2).trans rfl⟩ (fun hHeld=>?_);refine with_tabW Gzz.tab1 Gzz.bits1 (fun HT_ HW_=>?_)
   generalize r6.drew=r7 at g8 j6 HB hHeld ⊢;refine pS 0 3 HT_ ?_;refine pS 9 12 HT_ ?_;refine pS 12 15 HT_ ?_;refine tU 1 4 HT_ HW_ hHeld ?_;refine pS 2 5 HT_ ?_;refine pS 3 6 HT_ ?_;refine pS 4 7 HT_ ?_;refine tU 5 8 HT_ HW_ hHeld ?_;refine pS 6 9 HT_ ?_;refine pS 7 10 HT_ ?_;refine pS 8 11 HT_ ?_;refine tU 10 13 HT_ HW_ hHeld ?_;refine tU 13 16 HT_ HW_ hHeld ?_;refine oU 11 (some 14) HT_ fun K hK=>?_
   refine Kd.R_append_rows_step (Kd.int .i64) (w0:=w) w.heap.size (by rfl) (.const (.slice none 0 0)) (.tmp 13) 24 3 (.int .i64 0) 8 rfl Tryz.underlying24 info3 rfl (by decide) (by omega) (.slice none 0 0) ([]:List Int) b4 _ _ _ (fun _=>True) (fun _=>False) rfl rfl ?aO ?aR (fun _ _ h=>h) (fun _ h=>h.elim) ?aF ?aB ?aS ?aL ?_
   (case aR=>exact cB e6)
   (case aB=>exact pB)
   (case aF=>exact(fun _ _=>trivial))
   (case aO=>exact((Kd.R_nil _ _ _ _ (fun _=>True))))
   (case aS=>exact(below_size pB))
   (case aL=>have:=LMc15.out;omega)
   intro r8 r9 ho hb hg hat;rw[← o9.out] at ho;have n0_:=aM (blk_grown (g:=g6) (o:=.cells #[.bool false,.slice a7 b4.length a8,.slice b5 b7.length b6] 26 (0,0)) (kW g8) hg (by simp [Value.ownBlock]))
   have n1_:=aM (blk_grown (g:=j4) (o:=.cells #[.bool false,.slice none 0 0,.slice none 0 0] 26 (0,0)) (kW j6) hg (by simp [Value.ownBlock]))
   have n2_:=aM (hb);have n3_:=aM (ho);clear g8 j6 HB;have g8:=n0_;have j6:=n1_;have HB:=n2_;have t6:=n3_;clear n0_ n1_ n2_ n3_ ho hb hg hat;refine hK.out _ _ ⟨(blk_cell g8.out 0).trans rfl,(blk_cell g8.out 1).trans rfl,(blk_cell g8.out 2).trans rfl⟩ (fun hHeld=>?_)
   clear hK K;refine nm 14 ?_;refine oU 14 (some 17) HT_ fun K hK=>?_
   refine Kd.R_append_rows_step (Kd.int .i64) (w0:=w) w.heap.size (by rfl) (.const (.slice none 0 0)) (.tmp 16) 24 3 (.int .i64 0) 8 rfl Tryz.underlying24 info3 rfl (by decide) (by omega) (.slice none 0 0) ([]:List Int) b7 _ _ _ (fun k_=>some k_≠(r8:Value).ownBlock) (fun _=>False) rfl rfl ?aO ?aR (fun _ _ h=>h) (fun _ h=>h.elim) ?aF ?aB ?aS ?aL ?_
   (case aR=>exact cB e8)
   (case aB=>exact pB)
   (case aF=>exact(fun k_ hk=>Kd.fresh' (Kd.R_lt (rX t6.out)) k_ hk))
   (case aO=>exact((Kd.R_nil _ _ _ _ (fun k_=>some k_≠(r8:Value).ownBlock))))
   (case aS=>exact(below_size pB))
   (case aL=>have:=LMc16.out;omega)
   intro t7 t8 ho hb hg hat;rw[← p5.out] at ho;have n0_:=aM (blk_grown (g:=g6) (o:=.cells #[.bool false,.slice a7 b4.length a8,.slice b5 b7.length b6] 26 (0,0)) (kW g8) hg (by simp [Value.ownBlock]))
   have n1_:=aM (blk_grown (g:=j4) (o:=.cells #[.bool false,.slice none 0 0,.slice none 0 0] 26 (0,0)) (kW j6) hg (by simp [Value.ownBlock]))
   have n2_:=aM (Kd.R_after (Kd.R_apart_nil (rX t6.out)) hg hat);have n3_:=aM (hb);have n4_:=aM (ho);clear g8 j6 t6 HB;have g8:=n0_;have j6:=n1_;have t6:=n2_;have HB:=n3_;have z1:=n4_;clear n0_ n1_ n2_ n3_ n4_ ho hb hg hat;obtain⟨z2,z6,z7⟩:=Kd.R_slice z1.out;(first|subst z7|(injection z7 with f1_ f2_ f3_;have f4_:=f1_.symm;have f5_:=f3_.symm;clear f1_ f2_ f3_;subst f4_;subst f5_))
   obtain⟨z8,B0,B5⟩:=Kd.R_slice t6.out;(first|subst B5|(injection B5 with f1_ f2_ f3_;have f4_:=f1_.symm;have f5_:=f3_.symm;clear f1_ f2_ f3_;subst f4_;subst f5_))
   refine hK.out _ _ ⟨(blk_cell g8.out 0).trans rfl,(blk_cell g8.out 1).trans rfl,(blk_cell g8.out 2).trans rfl⟩ (fun hHeld=>?_)
   clear hK K;refine nm 17 ?_;refine pS 15 18 HT_ ?_;refine oU 16 none HT_ fun K hK=>?_
   have B6:t8.cell? ⟨j4,0,none⟩=some (.bool false):=(blk_cell j6.out 0).trans rfl;have hfs24:=blk_frozen j6.out 0;have hns24_0:=j9.out;have hms24_0:=l5.out;have B8:t8.cell? ⟨j4,1,none⟩=some (.slice none 0 0):=(blk_cell j6.out 1).trans rfl;have hfs25:=blk_frozen j6.out 1;have hns25_0:=j9.out;have hms25_0:=l5.out;have B9:t8.cell? ⟨j4,2,none⟩=some (.slice none 0 0):=(blk_cell j6.out 2).trans rfl;have hfs26:=blk_frozen j6.out 2;have hns26_0:=j9.out;have hms26_0:=l5.out;refine skip_ (w1:=?_) (by rfl) rfl ?_ ?_
   rotate_left
   ·go_simp
    rfl
   refine hK.out _ _ ⟨((cell_far (p:=⟨j4,_,none⟩) j9.out _).trans (((cell_far (p:=⟨j4,_,none⟩) j9.out _).trans (((cell_far (p:=⟨j4,_,none⟩) j9.out _).trans (hHeld.1)))))),((cell_far (p:=⟨j4,_,none⟩) j9.out _).trans (((cell_far (p:=⟨j4,_,none⟩) j9.out _).trans (((cell_far (p:=⟨j4,_,none⟩) j9.out _).trans (hHeld.2.1)))))),((cell_far (p:=⟨j4,_,none⟩) j9.out _).trans (((cell_far (p:=⟨j4,_,none⟩) j9.out _).trans (((cell_far (p:=⟨j4,_,none⟩) j9.out _).trans (hHeld.2.2))))))⟩ (fun hHeld=>?_)
   clear hK K;refine done_ (done_of HT_.out (by kernel_rfl)) ?_
   try go_wp2
   refine bodyPost_ret (results_cell_row rfl _ _ j4 26 #[.bool (decide (0 < b4.length)),.slice z8 o0.length B0,.slice z2 p3.length z6] (0,0) _ rfl (kQ j6) Tryz.underlying26 rfl (by kernel_rfl)) rfl ?_
   exact⟨_,_,eW,by exact Kd.R_mono (rT t6 j6) (fun _ hk=>hk.2),by exact Kd.R_mono (rT z1 j6) (fun _ hk=>hk),pB⟩
  ·rw[if_neg n9] at H;exact absurd H (by simp)


def Gzy.f (k:Nat) (a0_0:Bool) (l0_1:List Int) (l0_2:List Int) (a1_0:Bool) (l1_1:List Int) (l1_2:List Int):Option (Bool × List Int × List Int × Int):=(Dzj.f k (([(⟨a0_0,l0_1,l0_2⟩:S26),(⟨a1_0,l1_1,l1_2⟩:S26)]:List (S26)))).bind fun t404=>(if t404=true then((Gzz.f a1_0 l1_1 l1_2).bind fun bt405=>((Gzk.f k a0_0 l0_1 l0_2 bt405.1 bt405.2.1 bt405.2.2).bind fun bt412=>(some (bt412.1,bt412.2.1,bt412.2.2.1,bt412.2.2.2)))) else(some (false,([]:List Int),([]:List Int),3)))
theorem Gzy.mono:∀ a6 a7 a8 b4 b5 b6 k,LeO (Gzy.f k a6 a7 a8 b4 b5 b6) (Gzy.f (k+1) a6 a7 a8 b4 b5 b6):=by
 intro a6 a7 a8 b4 b5 b6 k;unfold Gzy.f;have i0:=@Gzk.mono;have i1:=@Dzj.mono;exact mM
def Gzy.T3:Bool × List (List Nat × List Nat):=(true,[([],[]),([],[]),([1],[1]),([0,2,2],[0,2]),([3],[3]),([3],[3]),([4,3,0,1,2,3,4,5],[4]),([5,6,0,1,2,3,4,5,6],[5])])
def Gzy.B3:List Nat:=[0,0,2,7,15,15,63,127]
theorem Gzy.tab3:rtab .any (opsOf Tryz.f26 3)=Gzy.T3:=by kernel_rfl
theorem Gzy.bits3:waitsOk Gzy.T3.2 Gzy.B3=true:=by kernel_rfl
theorem Gzy.calls (k:Nat) (a6:Bool) (a7:Nat→Prop) (a8:Option Addr) (b4:Nat) (b5:List Int) (b6:Nat→Prop) (b7:Option Addr) (b8:Nat) (b9:List Int) (d0:Bool) (d6:Nat→Prop) (d7:Option Addr) (d8:Nat) (d9:List Int) (e6:Nat→Prop) (e7:Option Addr) (e8:Nat) (e9:List Int) (f3:Bool) (f4:List Int) (f6:List Int) (f9:Int) (w:World) (g4:Kd.V (Kd.int .i64) 3 w w.heap.size (fun k_=>a7 k_) (.slice a8 b5.length b4) b5) (g5:Kd.V (Kd.int .i64) 3 w w.heap.size (fun k_=>b6 k_) (.slice b7 b9.length b8) b9) (g6:Kd.V (Kd.int .i64) 3 w w.heap.size (fun k_=>d6 k_) (.slice d7 d9.length d8) d9) (g7:Kd.V (Kd.int .i64) 3 w w.heap.size (fun k_=>e6 k_) (.slice e7 e9.length e8) e9) (h:Gzy.f k a6 b5 b9 d0 d9 e9=some (f3,f4,f6,f9)) :
  Calls Tryz.prog 26 #[.agg #[.bool a6,.slice a8 b5.length b4,.slice b7 b9.length b8],.agg #[.bool d0,.slice d7 d9.length d8,.slice e7 e9.length e8]] w fun e w'=>∃ v1_ v2_:Value,e=.returned (.tuple #[.agg #[.bool f3,v1_,v2_],.int .i64 f9])∧Kd.R (Kd.int .i64) 3 w' w.heap.size (fun k_=>(w.heap.size≤k_)∧some k_≠(v2_:Value).ownBlock) v1_ f4∧Kd.R (Kd.int .i64) 3 w' w.heap.size (fun k_=>(w.heap.size≤k_)∧some k_≠(v1_:Value).ownBlock) v2_ f6∧Below w.heap.size w w':=by
 have hu26:=Tryz.underlying26;have g8:=aM (show Kd.V (Kd.int .i64) 3 w w.heap.size (fun k_=>((a7 k_∨b6 k_∨d6 k_∨e6 k_)∨w.heap.size≤k_)) (.slice a8 b5.length b4) b5 from Kd.V_mono g4 (fun k_ hk=>.inl (.inl hk)))
 have g9:=aM (show Kd.V (Kd.int .i64) 3 w w.heap.size (fun k_=>((a7 k_∨b6 k_∨d6 k_∨e6 k_)∨w.heap.size≤k_)) (.slice b7 b9.length b8) b9 from Kd.V_mono g5 (fun k_ hk=>.inl (.inr (.inl hk))))
 have j3:=aM (show Kd.V (Kd.int .i64) 3 w w.heap.size (fun k_=>((a7 k_∨b6 k_∨d6 k_∨e6 k_)∨w.heap.size≤k_)) (.slice d7 d9.length d8) d9 from Kd.V_mono g6 (fun k_ hk=>.inl (.inr (.inr (.inl hk)))))
 have j4:=aM (show Kd.V (Kd.int .i64) 3 w w.heap.size (fun k_=>((a7 k_∨b6 k_∨d6 k_∨e6 k_)∨w.heap.size≤k_)) (.slice e7 e9.length e8) e9 from Kd.V_mono g7 (fun k_ hk=>.inl (.inr (.inr (.inr hk)))))
 have HB:=aM (Below.refl w.heap.size w);have H:((Dzj.f k (([(⟨a6,b5,b9⟩:S26),(⟨d0,d9,e9⟩:S26)]:List (S26)))).bind fun j5=>(if j5=true then((Gzz.f d0 d9 e9).bind fun j6=>((Gzk.f k a6 b5 b9 j6.1 j6.2.1 j6.2.2).bind fun j7=>(some (j7.1,j7.2.1,j7.2.2.1,j7.2.2.2)))) else(some (false,([]:List Int),([]:List Int),3))))=some (f3,f4,f6,f9):=h
 clear h;obtain⟨j8,j9⟩:∃ y_:List (S26),y_=(([(⟨a6,b5,b9⟩:S26),(⟨d0,d9,e9⟩:S26)]:List (S26))):=⟨_,rfl⟩;replace H:((Dzj.f k j8).bind fun j5=>(if j5=true then((Gzz.f d0 d9 e9).bind fun j6=>((Gzk.f k a6 b5 b9 j6.1 j6.2.1 j6.2.2).bind fun j7=>(some (j7.1,j7.2.1,j7.2.2.1,j7.2.2.2)))) else(some (false,([]:List Int),([]:List Int),3))))=some (f3,f4,f6,f9):=yE j9 H
 have l5:=aM j9;clear j9;obtain⟨j5,l6,H⟩:=bT H;(try dsimp only at H);by_cases c4:j5=true
 ·subst c4;rw[if_pos rfl] at H;obtain⟨⟨l7,l8,l9⟩,m0,H⟩:=bT H;(try dsimp only at H);replace H:=bS H;obtain⟨⟨m3,m4,m5,m6⟩,m7,H⟩:=H;replace H:(some (m3,m4,m5,m6))=some (f3,f4,f6,f9):=H;have m8:=aM m7;clear m7;obtain⟨rfl,rfl,rfl,rfl⟩:=q4 H;go_enter Tryz.func26,Tryz.ntmps26
  try go_wp2_with (first|((with_reducible refine gd 2 rfl ?_);refine bx #[.bool a6,.slice a8 b5.length b4,.slice b7 b9.length b8] 26 ?_;intro m9 hg n0 n6 hb;have n7:=gA w hg;have n8:=gA w hg;replace g8:=vG g8 hg hb;replace g9:=vG g9 hg hb;replace j3:=vG j3 hg hb;replace j4:=vG j4 hg hb;replace HB:=bB hb;clear hb hg)|((with_reducible refine gd 3 rfl ?_);refine bx #[.bool d0,.slice d7 d9.length d8,.slice e7 e9.length e8] 26 ?_;intro n9 hg o0 o8 hb;have o9:=gA w hg;have p0:=gA w hg;have p3:=nl hg n6;have p4:=ng hg n6;replace g8:=vG g8 hg hb;replace g9:=vG g9 hg hb;replace j3:=vG j3 hg hb;replace j4:=vG j4 hg hb;replace n6:=kb n6 hb;replace HB:=bB hb;clear hb hg)|((with_reducible refine gd 4 rfl ?_);refine bx #[.bool false,.slice none 0 0,.slice none 0 0] 26 ?_;intro p5 hg r5 r6 hb;have r7:=gA w hg;have r8:=gA w hg;have r9:=nl hg n6;have t6:=ng hg n6;have t7:=nl hg o8;have t8:=ng hg o8;replace g8:=vG g8 hg hb;replace g9:=vG g9 hg hb;replace j3:=vG j3 hg hb;replace j4:=vG j4 hg hb;replace n6:=kb n6 hb;replace o8:=kb o8 hb;replace HB:=bB hb;clear hb hg;have z1:=p3.out;have z2:=p4.out;have z6:=r9.out;have z7:=t6.out;obtain⟨z8,B0,B5,B6,B8,B9⟩:=bk3 n6;have C0:=t7.out;have C1:=t8.out;obtain⟨C2,C3,C4,C6,C7,C8⟩:=bk3 o8)|((with_reducible refine gate_dst (N:=8) rfl ?_);refine Kd.N_lit k26 _ 26 ?hg (N':=8) ?hd (xs:=([(⟨a6,b5,b9⟩:S26),(⟨d0,d9,e9⟩:S26)]:List (S26))) (inner:=[.bool a6,.slice a8 b5.length b4,.slice b7 b9.length b8,.bool d0,.slice d7 d9.length d8,.slice e7 e9.length e8]) (ok:=(fun k_=>((a7 k_∨b6 k_∨d6 k_∨e6 k_)∨w.heap.size≤k_)∧k_≠m9∧k_≠n9∧k_≠p5)) (okp:=(fun k_=>((a7 k_∨b6 k_∨d6 k_∨e6 k_)∨w.heap.size≤k_)∧k_≠m9∧k_≠n9∧k_≠p5)) ?hr ?hp (fun _ hk=>hk) ((show ∀ k_,r5.heap.size≤k_→(fun k_=>((a7 k_∨b6 k_∨d6 k_∨e6 k_)∨w.heap.size≤k_)∧k_≠m9∧k_≠n9∧k_≠p5) k_ from fun k_ hk=>⟨(.inr (Nat.le_trans (below_size pB) hk)),fB n6 hk,fB o8 hk,fB r6 hk⟩) _ (Nat.le_refl _)) (Below.refl _ _) (Nat.le_refl _) (by simp) ?_;(case hd=>rfl);(case hg=>rfl);(case hr=>first|(go_simp;done)|(go_simp;rfl));(case hp=>exact(Reps.c3 (show Kd.FK k26 _ _ (⟨a6,b5,b9⟩:S26) [.bool a6,.slice a8 b5.length b4,.slice b7 b9.length b8] from(k26_mkF _ _ (⟨a6,b5,b9⟩:S26) (Kd.V_reads' (Kd.V_mono (ok':=(fun k_=>((a7 k_∨b6 k_∨d6 k_∨e6 k_)∨w.heap.size≤k_)∧k_≠m9∧k_≠n9∧k_≠p5)) (g8.out) (fun k_ hk=>⟨hk.1.1.1,⟨hk.1.1.2,⟨hk.1.2,hk.2⟩⟩⟩))).2.1 (Kd.V_F (Kd.V_mono (ok':=(fun k_=>((a7 k_∨b6 k_∨d6 k_∨e6 k_)∨w.heap.size≤k_)∧k_≠m9∧k_≠n9∧k_≠p5)) (g8.out) (fun k_ hk=>⟨hk.1.1.1,⟨hk.1.1.2,⟨hk.1.2,hk.2⟩⟩⟩))) (Kd.V_reads' (Kd.V_mono (ok':=(fun k_=>((a7 k_∨b6 k_∨d6 k_∨e6 k_)∨w.heap.size≤k_)∧k_≠m9∧k_≠n9∧k_≠p5)) (g9.out) (fun k_ hk=>⟨hk.1.1.1,⟨hk.1.1.2,⟨hk.1.2,hk.2⟩⟩⟩))).2.1 (Kd.V_F (Kd.V_mono (ok':=(fun k_=>((a7 k_∨b6 k_∨d6 k_∨e6 k_)∨w.heap.size≤k_)∧k_≠m9∧k_≠n9∧k_≠p5)) (g9.out) (fun k_ hk=>⟨hk.1.1.1,⟨hk.1.1.2,⟨hk.1.2,hk.2⟩⟩⟩))))) (Reps.c3 (show Kd.FK k26 _ _ (⟨d0,d9,e9⟩:S26) [.bool d0,.slice d7 d9.length d8,.slice e7 e9.length e8] from(k26_mkF _ _ (⟨d0,d9,e9⟩:S26) (Kd.V_reads' (Kd.V_mono (ok':=(fun k_=>((a7 k_∨b6 k_∨d6 k_∨e6 k_)∨w.heap.size≤k_)∧k_≠m9∧k_≠n9∧k_≠p5)) (j3.out) (fun k_ hk=>⟨hk.1.1.1,⟨hk.1.1.2,⟨hk.1.2,hk.2⟩⟩⟩))).2.1 (Kd.V_F (Kd.V_mono (ok':=(fun k_=>((a7 k_∨b6 k_∨d6 k_∨e6 k_)∨w.heap.size≤k_)∧k_≠m9∧k_≠n9∧k_≠p5)) (j3.out) (fun k_ hk=>⟨hk.1.1.1,⟨hk.1.1.2,⟨hk.1.2,hk.2⟩⟩⟩))) (Kd.V_reads' (Kd.V_mono (ok':=(fun k_=>((a7 k_∨b6 k_∨d6 k_∨e6 k_)∨w.heap.size≤k_)∧k_≠m9∧k_≠n9∧k_≠p5)) (j4.out) (fun k_ hk=>⟨hk.1.1.1,⟨hk.1.1.2,⟨hk.1.2,hk.2⟩⟩⟩))).2.1 (Kd.V_F (Kd.V_mono (ok':=(fun k_=>((a7 k_∨b6 k_∨d6 k_∨e6 k_)∨w.heap.size≤k_)∧k_≠m9∧k_≠n9∧k_≠p5)) (j4.out) (fun k_ hk=>⟨hk.1.1.1,⟨hk.1.1.2,⟨hk.1.2,hk.2⟩⟩⟩))))) (Reps.none _ _))));intro C9 D0 D1 hb hg_ hnew_;clear hg_ hnew_;replace D1:=nY l5 D1;have D2:=aM (Kd.N_lower D1 (below_size pB));replace g8:=aM (Kd.V_elder' (vX g8.out) (Kd.N_base D1) hb);replace g9:=aM (Kd.V_elder' (vX g9.out) (Kd.N_base D1) hb);replace j3:=aM (Kd.V_elder' (vX j3.out) (Kd.N_base D1) hb);replace j4:=aM (Kd.V_elder' (vX j4.out) (Kd.N_base D1) hb);replace n6:=kb n6 hb;replace o8:=kb o8 hb;replace r6:=kb r6 hb;replace HB:=bB hb;clear hb D1;obtain⟨D3,D4,rfl⟩:=Kd.N_slice D2.out)|((with_reducible refine gc 43 rfl ?_);refine gC 43 (some 9) Tryz.func43 #[.slice D3 j8.length D4] ?_;(with_reducible refine(Dzj.calls k _ _ j8 true _ ?_ ?_ l6.out).mono ?_);exact cN D2;exact lN D2;rintro e D5 ⟨rfl,hb⟩;refine⟨_,rfl,?_⟩;replace g8:=vB g8 hb;replace g9:=vB g9 hb;replace j3:=vB j3 hb;replace j4:=vB j4 hb;replace D2:=nB D2 hb;replace n6:=kb n6 hb;replace o8:=kb o8 hb;replace r6:=kb r6 hb;replace HB:=bB hb;clear hb))
  have n0_:=aM (Kd.V_drew g8.out);have n1_:=aM (Kd.V_drew g9.out);have n2_:=aM (Kd.V_drew j3.out);have n3_:=aM (Kd.V_drew j4.out);have n4_:=aM (Kd.N_drew D2.out);have n5_:=aM (blk_drew n6.out);have n6_:=aM (blk_drew o8.out);have n7_:=aM (blk_drew r6.out);have n8_:=aM (below_drew1 HB.out);clear g8 g9 j3 j4 D2 n6 o8 r6 HB;have g8:=n0_;have g9:=n1_;have j3:=n2_;have j4:=n3_;have D2:=n4_;have n6:=n5_;have o8:=n6_;have r6:=n7_;have HB:=n8_;clear n0_ n1_ n2_ n3_ n4_ n5_ n6_ n7_ n8_;refine start_ (n:=8) (S:=fun w'=>w'.cell? ⟨m9,0,none⟩=some (.bool a6)∧w'.cell? ⟨m9,1,none⟩=some (.slice a8 b5.length b4)∧w'.cell? ⟨m9,2,none⟩=some (.slice b7 b9.length b8)∧w'.cell? ⟨n9,0,none⟩=some (.bool d0)∧w'.cell? ⟨n9,1,none⟩=some (.slice d7 d9.length d8)∧w'.cell? ⟨n9,2,none⟩=some (.slice e7 e9.length e8)) (ds:=[]) (bA 8 0) (by kernel_rfl) rfl rfl ⟨(blk_cell n6.out 0).trans rfl,(blk_cell n6.out 1).trans rfl,(blk_cell n6.out 2).trans rfl,(blk_cell o8.out 0).trans rfl,(blk_cell o8.out 1).trans rfl,(blk_cell o8.out 2).trans rfl⟩ (fun hHeld=>?_);refine with_tabW Gzy.tab3 Gzy.bits3 (fun HT_ HW_=>?_)
  generalize D5.drew=D6 at g8 g9 j3 j4 D2 n6 o8 r6 HB hHeld ⊢;refine tU 0 12 HT_ HW_ hHeld ?_;refine tU 1 13 HT_ HW_ hHeld ?_;refine oU 2 (some 14) HT_ fun K hK=>?_
  refine goes_ Tryz.func48 (by kernel_rfl) rfl #[.agg #[.bool d0,.slice d7 d9.length d8,.slice e7 e9.length e8]] (by rfl) rfl rfl mA ?_
  with_reducible refine(Gzz.calls d0 _ _ d9 _ _ e9 l7 l8 l9 _ ?side1 ?side2 ?side3 ?side4 m0.out).mono ?_
  (case side1=>exact cV j3)
  (case side2=>exact lV j3)
  (case side3=>exact cV j4)
  (case side4=>exact lV j4)
  rintro e D7 ⟨D8,D9,rfl,E0,E1,hb⟩;refine⟨_,rfl,?_⟩;have n0_:=vO g8 hb E0 E1
  have n1_:=vO g9 hb E0 E1
  have n2_:=vO j3 hb E0 E1
  have n3_:=vO j4 hb E0 E1
  have n4_:=nO D2 hb E0 E1
  have n5_:=rL (Kd.R_newM (M:=fun k_=>(w.heap.size≤k_)) E0 (below_size pB) (fun k_ h_=>h_))
  have n6_:=rL (Kd.R_newM (M:=fun k_=>(w.heap.size≤k_)) E1 (below_size pB) (fun k_ h_=>h_))
  have n7_:=kb n6 hb;have n8_:=kb o8 hb;have n9_:=kb r6 hb;have E2:=bB hb;clear g8 g9 j3 j4 D2 n6 o8 r6 HB;have g8:=n0_;have g9:=n1_;have j3:=n2_;have j4:=n3_;have D2:=n4_;have E3:=n5_;have E4:=n6_;have n6:=n7_;have o8:=n8_;have r6:=n9_;have HB:=E2;clear n0_ n1_ n2_ n3_ n4_ n5_ n6_ n7_ n8_ n9_ E2;(try clear hb)
  (try clear E5)
  (try clear hk)
  (try clear hi)
  (try clear E0)
  (try clear E1)
  obtain⟨E6,E7,E8⟩:=Kd.R_slice E3.out;(first|subst E8|(injection E8 with f1_ f2_ f3_;have f4_:=f1_.symm;have f5_:=f3_.symm;clear f1_ f2_ f3_;subst f4_;subst f5_))
  obtain⟨E9,F0,F1⟩:=Kd.R_slice E4.out;(first|subst F1|(injection F1 with f1_ f2_ f3_;have f4_:=f1_.symm;have f5_:=f3_.symm;clear f1_ f2_ f3_;subst f4_;subst f5_))
  refine hK.out _ _ ⟨(blk_cell n6.out 0).trans rfl,(blk_cell n6.out 1).trans rfl,(blk_cell n6.out 2).trans rfl,(blk_cell o8.out 0).trans rfl,(blk_cell o8.out 1).trans rfl,(blk_cell o8.out 2).trans rfl⟩ (fun hHeld=>?_)
  clear hK K;refine nm 14 ?_;refine oU 3 (some 15) HT_ fun K hK=>?_
  refine goes_ Tryz.func47 (by kernel_rfl) rfl #[.agg #[.bool a6,.slice a8 b5.length b4,.slice b7 b9.length b8],.agg #[.bool l7,.slice E6 l8.length E7,.slice E9 l9.length F0]] (by rfl) rfl rfl mA ?_
  with_reducible refine(Gzk.calls k a6 _ _ b5 _ _ b9 l7 _ _ l8 _ _ l9 m3 m4 m5 m6 _ ?side1 ?side2 ?side3 ?side4 ?side5 ?side6 ?side7 ?side8 m8.out).mono ?_
  (case side1=>exact cV g8)
  (case side2=>exact lV g8)
  (case side3=>exact cV g9)
  (case side4=>exact lV g9)
  (case side5=>exact cR E3)
  (case side6=>exact lR E3)
  (case side7=>exact cR E4)
  (case side8=>exact lR E4)
  rintro e F2 ⟨F3,F4,rfl,E0,E1,hb⟩;refine⟨_,rfl,?_⟩;have n0_:=vO g8 hb E0 E1
  have n1_:=vO g9 hb E0 E1
  have n2_:=vO j3 hb E0 E1
  have n3_:=vO j4 hb E0 E1
  have n4_:=nO D2 hb E0 E1
  have n5_:=rO E3 hb E0 E1
  have n6_:=rO E4 hb E0 E1
  have n7_:=rL (rn (rn (Kd.R_newM (M:=fun k_=>(w.heap.size≤k_)) E0 (below_size pB) (fun k_ h_=>h_)) E3) E4)
  have n8_:=rL (rn (rn (Kd.R_newM (M:=fun k_=>(w.heap.size≤k_)) E1 (below_size pB) (fun k_ h_=>h_)) E3) E4)
  have n9_:=kb n6 hb;have E2:=kb o8 hb;have F5:=kb r6 hb;have F6:=bB hb;clear g8 g9 j3 j4 D2 E3 E4 n6 o8 r6 HB;have g8:=n0_;have g9:=n1_;have j3:=n2_;have j4:=n3_;have D2:=n4_;have E3:=n5_;have E4:=n6_;have F7:=n7_;have F8:=n8_;have n6:=n9_;have o8:=E2;have r6:=F5;have HB:=F6;clear n0_ n1_ n2_ n3_ n4_ n5_ n6_ n7_ n8_ n9_ E2 F5 F6;(try clear hb)
  (try clear E5)
  (try clear hk)
  (try clear hi)
  (try clear E0)
  (try clear E1)
  obtain⟨F9,G0,G4⟩:=Kd.R_slice F7.out;(first|subst G4|(injection G4 with f1_ f2_ f3_;have f4_:=f1_.symm;have f5_:=f3_.symm;clear f1_ f2_ f3_;subst f4_;subst f5_))
  obtain⟨G5,G6,G7⟩:=Kd.R_slice F8.out;(first|subst G7|(injection G7 with f1_ f2_ f3_;have f4_:=f1_.symm;have f5_:=f3_.symm;clear f1_ f2_ f3_;subst f4_;subst f5_))
  refine hK.out _ _ ⟨(blk_cell n6.out 0).trans rfl,(blk_cell n6.out 1).trans rfl,(blk_cell n6.out 2).trans rfl,(blk_cell o8.out 0).trans rfl,(blk_cell o8.out 1).trans rfl,(blk_cell o8.out 2).trans rfl⟩ (fun hHeld=>?_)
  clear hK K;refine nm 15 ?_;refine pS 4 16 HT_ ?_;refine pS 5 17 HT_ ?_;refine oU 6 none HT_ fun K hK=>?_
  have G8:F2.cell? ⟨p5,0,none⟩=some (.bool false):=(blk_cell r6.out 0).trans rfl;have hfs24:=blk_frozen r6.out 0;have hns24_0:=r9.out;have hns24_1:=t7.out;have hms24_0:=t6.out;have hms24_1:=t8.out;have G9:F2.cell? ⟨p5,1,none⟩=some (.slice none 0 0):=(blk_cell r6.out 1).trans rfl;have hfs26:=blk_frozen r6.out 1;have hns26_0:=r9.out;have hns26_1:=t7.out;have hms26_0:=t6.out;have hms26_1:=t8.out;have H5:F2.cell? ⟨p5,2,none⟩=some (.slice none 0 0):=(blk_cell r6.out 2).trans rfl;have hfs28:=blk_frozen r6.out 2;have hns28_0:=r9.out;have hns28_1:=t7.out;have hms28_0:=t6.out;have hms28_1:=t8.out;refine skip_ (w1:=?_) (by rfl) rfl ?_ ?_
  rotate_left
  ·go_simp
   rfl
  refine hK.out _ _ ⟨((cell_far (p:=⟨p5,_,none⟩) r9.out _).trans (((cell_far (p:=⟨p5,_,none⟩) r9.out _).trans (((cell_far (p:=⟨p5,_,none⟩) r9.out _).trans (hHeld.1)))))),((cell_far (p:=⟨p5,_,none⟩) r9.out _).trans (((cell_far (p:=⟨p5,_,none⟩) r9.out _).trans (((cell_far (p:=⟨p5,_,none⟩) r9.out _).trans (hHeld.2.1)))))),((cell_far (p:=⟨p5,_,none⟩) r9.out _).trans (((cell_far (p:=⟨p5,_,none⟩) r9.out _).trans (((cell_far (p:=⟨p5,_,none⟩) r9.out _).trans (hHeld.2.2.1)))))),((cell_far (p:=⟨p5,_,none⟩) t7.out _).trans (((cell_far (p:=⟨p5,_,none⟩) t7.out _).trans (((cell_far (p:=⟨p5,_,none⟩) t7.out _).trans (hHeld.2.2.2.1)))))),((cell_far (p:=⟨p5,_,none⟩) t7.out _).trans (((cell_far (p:=⟨p5,_,none⟩) t7.out _).trans (((cell_far (p:=⟨p5,_,none⟩) t7.out _).trans (hHeld.2.2.2.2.1)))))),((cell_far (p:=⟨p5,_,none⟩) t7.out _).trans (((cell_far (p:=⟨p5,_,none⟩) t7.out _).trans (((cell_far (p:=⟨p5,_,none⟩) t7.out _).trans (hHeld.2.2.2.2.2))))))⟩ (fun hHeld=>?_)
  clear hK K;refine pS 7 5 HT_ ?_;refine done_ (done_of HT_.out (by kernel_rfl)) ?_
  try go_wp2
  refine bodyPost_ret (results_ct rfl _ _ p5 26 #[.bool m3,.slice F9 m4.length G0,.slice G5 m5.length G6] (0,0) _ rfl (kQ r6) Tryz.underlying26 rfl (by kernel_rfl)) rfl ?_
  exact⟨_,_,eW,by exact Kd.R_mono (rT F7 r6) (fun _ hk=>⟨hk.1.1.1,hk.1.1.2⟩),by exact Kd.R_mono (rT F8 r6) (fun _ hk=>⟨hk.1.1.1,hk.1.1.2⟩),pB⟩
 ·obtain rfl:=bN c4;rw[if_neg nF] at H
  obtain⟨rfl,rfl,rfl,rfl⟩:=q4 H;go_enter Tryz.func26,Tryz.ntmps26
  go_wp2_with (first|((with_reducible refine gd 2 rfl ?_);refine bx #[.bool a6,.slice a8 b5.length b4,.slice b7 b9.length b8] 26 ?_;intro m9 hg H6 n6 hb;have n7:=gA w hg;have n8:=gA w hg;replace g8:=vG g8 hg hb;replace g9:=vG g9 hg hb;replace j3:=vG j3 hg hb;replace j4:=vG j4 hg hb;replace HB:=bB hb;clear hb hg)|((with_reducible refine gd 3 rfl ?_);refine bx #[.bool d0,.slice d7 d9.length d8,.slice e7 e9.length e8] 26 ?_;intro n9 hg H7 o8 hb;have o9:=gA w hg;have p0:=gA w hg;have p3:=nl hg n6;have p4:=ng hg n6;replace g8:=vG g8 hg hb;replace g9:=vG g9 hg hb;replace j3:=vG j3 hg hb;replace j4:=vG j4 hg hb;replace n6:=kb n6 hb;replace HB:=bB hb;clear hb hg)|((with_reducible refine gd 4 rfl ?_);refine bx #[.bool false,.slice none 0 0,.slice none 0 0] 26 ?_;intro p5 hg H8 r6 hb;have r7:=gA w hg;have r8:=gA w hg;have r9:=nl hg n6;have t6:=ng hg n6;have t7:=nl hg o8;have t8:=ng hg o8;replace g8:=vG g8 hg hb;replace g9:=vG g9 hg hb;replace j3:=vG j3 hg hb;replace j4:=vG j4 hg hb;replace n6:=kb n6 hb;replace o8:=kb o8 hb;replace HB:=bB hb;clear hb hg;have H9:=p3.out;have I0:=p4.out;have I1:=r9.out;have I2:=t6.out;obtain⟨I3,I4,I5,I6,I7,I8⟩:=bk3 n6;have I9:=t7.out;have J0:=t8.out;obtain⟨J1,J2,J3,J4,J5,J6⟩:=bk3 o8)|((with_reducible refine gate_dst (N:=8) rfl ?_);refine Kd.N_lit k26 _ 26 ?hg (N':=8) ?hd (xs:=([(⟨a6,b5,b9⟩:S26),(⟨d0,d9,e9⟩:S26)]:List (S26))) (inner:=[.bool a6,.slice a8 b5.length b4,.slice b7 b9.length b8,.bool d0,.slice d7 d9.length d8,.slice e7 e9.length e8]) (ok:=(fun k_=>((a7 k_∨b6 k_∨d6 k_∨e6 k_)∨w.heap.size≤k_)∧k_≠m9∧k_≠n9∧k_≠p5)) (okp:=(fun k_=>((a7 k_∨b6 k_∨d6 k_∨e6 k_)∨w.heap.size≤k_)∧k_≠m9∧k_≠n9∧k_≠p5)) ?hr ?hp (fun _ hk=>hk) ((show ∀ k_,H8.heap.size≤k_→(fun k_=>((a7 k_∨b6 k_∨d6 k_∨e6 k_)∨w.heap.size≤k_)∧k_≠m9∧k_≠n9∧k_≠p5) k_ from fun k_ hk=>⟨(.inr (Nat.le_trans (below_size pB) hk)),fB n6 hk,fB o8 hk,fB r6 hk⟩) _ (Nat.le_refl _)) (Below.refl _ _) (Nat.le_refl _) (by simp) ?_;(case hd=>rfl);(case hg=>rfl);(case hr=>first|(go_simp;done)|(go_simp;rfl));(case hp=>exact(Reps.c3 (show Kd.FK k26 _ _ (⟨a6,b5,b9⟩:S26) [.bool a6,.slice a8 b5.length b4,.slice b7 b9.length b8] from(k26_mkF _ _ (⟨a6,b5,b9⟩:S26) (Kd.V_reads' (Kd.V_mono (ok':=(fun k_=>((a7 k_∨b6 k_∨d6 k_∨e6 k_)∨w.heap.size≤k_)∧k_≠m9∧k_≠n9∧k_≠p5)) (g8.out) (fun k_ hk=>⟨hk.1.1.1,⟨hk.1.1.2,⟨hk.1.2,hk.2⟩⟩⟩))).2.1 (Kd.V_F (Kd.V_mono (ok':=(fun k_=>((a7 k_∨b6 k_∨d6 k_∨e6 k_)∨w.heap.size≤k_)∧k_≠m9∧k_≠n9∧k_≠p5)) (g8.out) (fun k_ hk=>⟨hk.1.1.1,⟨hk.1.1.2,⟨hk.1.2,hk.2⟩⟩⟩))) (Kd.V_reads' (Kd.V_mono (ok':=(fun k_=>((a7 k_∨b6 k_∨d6 k_∨e6 k_)∨w.heap.size≤k_)∧k_≠m9∧k_≠n9∧k_≠p5)) (g9.out) (fun k_ hk=>⟨hk.1.1.1,⟨hk.1.1.2,⟨hk.1.2,hk.2⟩⟩⟩))).2.1 (Kd.V_F (Kd.V_mono (ok':=(fun k_=>((a7 k_∨b6 k_∨d6 k_∨e6 k_)∨w.heap.size≤k_)∧k_≠m9∧k_≠n9∧k_≠p5)) (g9.out) (fun k_ hk=>⟨hk.1.1.1,⟨hk.1.1.2,⟨hk.1.2,hk.2⟩⟩⟩))))) (Reps.c3 (show Kd.FK k26 _ _ (⟨d0,d9,e9⟩:S26) [.bool d0,.slice d7 d9.length d8,.slice e7 e9.length e8] from(k26_mkF _ _ (⟨d0,d9,e9⟩:S26) (Kd.V_reads' (Kd.V_mono (ok':=(fun k_=>((a7 k_∨b6 k_∨d6 k_∨e6 k_)∨w.heap.size≤k_)∧k_≠m9∧k_≠n9∧k_≠p5)) (j3.out) (fun k_ hk=>⟨hk.1.1.1,⟨hk.1.1.2,⟨hk.1.2,hk.2⟩⟩⟩))).2.1 (Kd.V_F (Kd.V_mono (ok':=(fun k_=>((a7 k_∨b6 k_∨d6 k_∨e6 k_)∨w.heap.size≤k_)∧k_≠m9∧k_≠n9∧k_≠p5)) (j3.out) (fun k_ hk=>⟨hk.1.1.1,⟨hk.1.1.2,⟨hk.1.2,hk.2⟩⟩⟩))) (Kd.V_reads' (Kd.V_mono (ok':=(fun k_=>((a7 k_∨b6 k_∨d6 k_∨e6 k_)∨w.heap.size≤k_)∧k_≠m9∧k_≠n9∧k_≠p5)) (j4.out) (fun k_ hk=>⟨hk.1.1.1,⟨hk.1.1.2,⟨hk.1.2,hk.2⟩⟩⟩))).2.1 (Kd.V_F (Kd.V_mono (ok':=(fun k_=>((a7 k_∨b6 k_∨d6 k_∨e6 k_)∨w.heap.size≤k_)∧k_≠m9∧k_≠n9∧k_≠p5)) (j4.out) (fun k_ hk=>⟨hk.1.1.1,⟨hk.1.1.2,⟨hk.1.2,hk.2⟩⟩⟩))))) (Reps.none _ _))));intro C9 J7 J8 hb hg_ hnew_;clear hg_ hnew_;replace J8:=nY l5 J8;have D2:=aM (Kd.N_lower J8 (below_size pB));replace g8:=aM (Kd.V_elder' (vX g8.out) (Kd.N_base J8) hb);replace g9:=aM (Kd.V_elder' (vX g9.out) (Kd.N_base J8) hb);replace j3:=aM (Kd.V_elder' (vX j3.out) (Kd.N_base J8) hb);replace j4:=aM (Kd.V_elder' (vX j4.out) (Kd.N_base J8) hb);replace n6:=kb n6 hb;replace o8:=kb o8 hb;replace r6:=kb r6 hb;replace HB:=bB hb;clear hb J8;obtain⟨J9,K0,rfl⟩:=Kd.N_slice D2.out)|((with_reducible refine gc 43 rfl ?_);refine gC 43 (some 9) Tryz.func43 #[.slice J9 j8.length K0] ?_;(with_reducible refine(Dzj.calls k _ _ j8 false _ ?_ ?_ l6.out).mono ?_);exact cN D2;exact lN D2;rintro e K1 ⟨rfl,hb⟩;refine⟨_,rfl,?_⟩;replace g8:=vB g8 hb;replace g9:=vB g9 hb;replace j3:=vB j3 hb;replace j4:=vB j4 hb;replace D2:=nB D2 hb;replace n6:=kb n6 hb;replace o8:=kb o8 hb;replace r6:=kb r6 hb;replace HB:=bB hb;clear hb;obtain⟨K2,K3,K4,K5,K6,K7⟩:=bk3 r6))
  refine bodyPost_ret (results_ct rfl _ _ p5 26 #[.bool false,.slice none 0 0,.slice none 0 0] (0,0) _ rfl (kQ r6) Tryz.underlying26 rfl (by kernel_rfl)) rfl ?_
  exact⟨_,_,eW,nK,nK,pB⟩

end Go.Proofs.YtokkiljkgejnhaaGreat.Print
