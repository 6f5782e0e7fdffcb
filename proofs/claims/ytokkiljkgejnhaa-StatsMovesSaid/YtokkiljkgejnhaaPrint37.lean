import Derived.Test.YtokkiljkgejnhaaPrint0
namespace Go.Proofs.Ytokkiljkgejnhaa.Print
open Go.RowKit Go.Proofs.YtokkiljkgejnhaaW.PrintWords Go.Proofs.YtokkiljkgejnhaaW.PrintLast Go.Proofs.YtokkiljkgejnhaaW.PrintMore
attribute [local go_sem] max2_int min2_int max_two min_two max_three min_three max_four min_four
set_option linter.unusedVariables false
set_option maxRecDepth 100000
set_option maxHeartbeats 8000000
set_option linter.unusedSimpArgs false

def Dzx.f (a0_0:Bool) (l0_1:List Int) (l0_2:List Int):Option (Bool × List Int × List Int):=if a0_0=true then(if([]:List Int).length+l0_1.length < 17592186044416 then(if([]:List Int).length+l0_2.length < 17592186044416 then(some (false,(([]:List Int) ++ l0_1),(([]:List Int) ++ l0_2))) else(none)) else(none)) else(if([]:List Int).length+l0_1.length < 17592186044416 then(if([]:List Int).length+l0_2.length < 17592186044416 then(some (decide (0 < l0_1.length),(([]:List Int) ++ l0_1),(([]:List Int) ++ l0_2))) else(none)) else(none))
def Dzx.T1:Bool × List (List Nat × List Nat):=(true,[([],[]),([0],[0]),([1],[1]),([2],[2]),([3],[3]),([4,3],[3,4]),([5,3],[3,5]),([6,3],[3,6]),([3,7],[3,7]),([],[]),([9],[9]),([10,3],[10]),([],[]),([12],[12]),([13,11],[13]),([8,11,14],[8,11,14]),([15,14,0,1,2,3,4,5,6,7,8,9,10,11,12,13,14,15],[15])])
def Dzx.B1:List Nat:=[0,1,3,7,15,31,63,127,255,0,512,1551,0,4096,15887,32767,65535]
theorem Dzx.tab1:rtab .any (opsOf Try.f45 1)=Dzx.T1:=by kernel_rfl
theorem Dzx.bits1:waitsOk Dzx.T1.2 Dzx.B1=true:=by kernel_rfl
theorem Dzx.calls (a6:Bool) (a7:Option Addr) (a8:Nat) (b4:List Int) (b5:Option Addr) (b6:Nat) (b7:List Int) (b8:Bool) (b9:List Int) (d0:List Int) (w:World) (d6:Kd.C (Kd.int .i64) w a7 b4.length b4) (d7:b4.length≤a8) (d8:Kd.C (Kd.int .i64) w b5 b7.length b7) (d9:b7.length≤b6) (h:Dzx.f a6 b4 b7=some (b8,b9,d0)) :
  Calls Try.prog 45 #[.agg #[.bool a6,.slice a7 b4.length a8,.slice b5 b7.length b6]] w fun e w'=>∃ v1_ v2_:Value,e=.returned (.agg #[.bool b8,v1_,v2_])∧Kd.R (Kd.int .i64) 3 w' w.heap.size (fun k_=>some k_≠(v2_:Value).ownBlock) v1_ b9∧Kd.R (Kd.int .i64) 3 w' w.heap.size (fun k_=>some k_≠(v1_:Value).ownBlock) v2_ d0∧Below w.heap.size w w':=by
 have hu38:=Try.underlying38;have e6:=aM d6;have e7:=aM d7;clear d6 d7;have e8:=aM d8;have e9:=aM d9;clear d8 d9;have HB:=aM (Below.refl w.heap.size w);have H:(if a6=true then(if([]:List Int).length+b4.length < 17592186044416 then(if([]:List Int).length+b7.length < 17592186044416 then(some (false,(([]:List Int) ++ b4),(([]:List Int) ++ b7))) else(none)) else(none)) else(if([]:List Int).length+b4.length < 17592186044416 then(if([]:List Int).length+b7.length < 17592186044416 then(some (decide (0 < b4.length),(([]:List Int) ++ b4),(([]:List Int) ++ b7))) else(none)) else(none)))=some (b8,b9,d0):=h
 clear h;by_cases c2:a6=true
 ·subst c2;rw[if_pos rfl] at H;obtain⟨c3,H⟩:=iO H;have LMc3:=aM c3;clear c3;obtain⟨f3,f4⟩:∃ y_:List Int,y_=(([]:List Int) ++ b4):=⟨_,rfl⟩;replace H:(if([]:List Int).length+b7.length < 17592186044416 then(some (false,f3,(([]:List Int) ++ b7))) else(none))=some (b8,b9,d0):=yE f4 H
  have f6:=aM f4;clear f4;obtain⟨c4,H⟩:=iO H;have LMc4:=aM c4;clear c4;obtain⟨f9,g4⟩:∃ y_:List Int,y_=(([]:List Int) ++ b7):=⟨_,rfl⟩;replace H:(some (false,f3,f9))=some (b8,b9,d0):=yE g4 H
  have g5:=aM g4;clear g4;obtain⟨rfl,rfl,rfl⟩:=q3 H;go_enter Try.func45,Try.ntmps45
  try go_wp2_with (first|((with_reducible refine gd 1 rfl ?_);refine bxg #[.bool true,.slice a7 b4.length a8,.slice b5 b7.length b6] 38 ?_;intro g6 hg g7 g8 hb;have g9:=gA w hg;have j5:=gA w hg;replace HB:=bB hb;clear hb hg)|((with_reducible refine gd 2 rfl ?_);refine bxg #[.bool false,.slice none 0 0,.slice none 0 0] 38 ?_;intro j6 hg j7 j8 hb;have j9:=gA w hg;have l5:=gA w hg;have l6:=nl hg g8;have l7:=ng hg g8;replace g8:=kb g8 hb;replace HB:=bB hb;clear hb hg))
  have n0_:=aM (blk_drew g8.out);have n1_:=aM (blk_drew j8.out);have n2_:=aM (below_drew1 HB.out);clear g8;clear j8;clear HB;have g8:=n0_;have j8:=n1_;have HB:=n2_;clear n0_ n1_ n2_;refine start_ (n:=17) (S:=fun w'=>w'.cell? ⟨g6,0,none⟩=some (.bool true)∧w'.cell? ⟨g6,1,none⟩=some (.slice a7 b4.length a8)∧w'.cell? ⟨g6,2,none⟩=some (.slice b5 b7.length b6)) (ds:=[]) (bA 17 0) (by kernel_rfl) rfl rfl ⟨(blk_cell g8.out 0).trans rfl,(blk_cell g8.out 1).trans rfl,(blk_cell g8.out 2).trans rfl⟩ (fun hHeld=>?_);refine with_tabW Dzx.tab1 Dzx.bits1 (fun HT_ HW_=>?_)
  generalize j7.drew=l8 at g8 j8 HB hHeld ⊢;refine pS 0 3 HT_ ?_;refine pS 9 12 HT_ ?_;refine pS 12 15 HT_ ?_;refine tU 1 4 HT_ HW_ hHeld ?_;refine pS 2 5 HT_ ?_;refine pS 3 6 HT_ ?_;refine pN 4 7 HT_ ?_;refine pN 5 8 HT_ ?_;refine pN 6 9 HT_ ?_;refine pN 7 10 HT_ ?_;refine pS 8 11 HT_ ?_;refine tU 10 13 HT_ HW_ hHeld ?_;refine tU 13 16 HT_ HW_ hHeld ?_;refine oU 11 (some 14) HT_ fun K hK=>?_
  refine Kd.R_append_rows_step (Kd.int .i64) (w0:=w) w.heap.size (by rfl) (.const (.slice none 0 0)) (.tmp 13) 36 3 (.int .i64 0) 8 rfl Try.underlying36 info3 rfl (by decide) (by omega) (.slice none 0 0) ([]:List Int) b4 _ _ _ (fun _=>True) (fun _=>False) rfl rfl ?aO ?aR (fun _ _ h=>h) (fun _ h=>h.elim) ?aF ?aB ?aS ?aL ?_
  (case aR=>exact cB e6)
  (case aB=>exact pB)
  (case aF=>exact(fun _ _=>trivial))
  (case aO=>exact((Kd.R_nil _ _ _ _ (fun _=>True))))
  (case aS=>exact(below_size pB))
  (case aL=>have:=LMc3.out;omega)
  intro l9 m0 ho hb hg hat;rw[← f6.out] at ho;have n0_:=aM (blk_grown (g:=g6) (o:=.cells #[.bool true,.slice a7 b4.length a8,.slice b5 b7.length b6] 38 (0,0)) (kW g8) hg (by simp [Value.ownBlock]))
  have n1_:=aM (blk_grown (g:=j6) (o:=.cells #[.bool false,.slice none 0 0,.slice none 0 0] 38 (0,0)) (kW j8) hg (by simp [Value.ownBlock]))
  have n2_:=aM (hb);have n3_:=aM (ho);clear g8;clear j8;clear HB;have g8:=n0_;have j8:=n1_;have HB:=n2_;have m2:=n3_;clear n0_ n1_ n2_ n3_;clear ho hb hg hat;refine hK.out _ _ ⟨(blk_cell g8.out 0).trans rfl,(blk_cell g8.out 1).trans rfl,(blk_cell g8.out 2).trans rfl⟩ (fun hHeld=>?_)
  clear hK K;refine nm 14 ?_;refine oU 14 (some 17) HT_ fun K hK=>?_
  refine Kd.R_append_rows_step (Kd.int .i64) (w0:=w) w.heap.size (by rfl) (.const (.slice none 0 0)) (.tmp 16) 36 3 (.int .i64 0) 8 rfl Try.underlying36 info3 rfl (by decide) (by omega) (.slice none 0 0) ([]:List Int) b7 _ _ _ (fun k_=>some k_≠(l9:Value).ownBlock) (fun _=>False) rfl rfl ?aO ?aR (fun _ _ h=>h) (fun _ h=>h.elim) ?aF ?aB ?aS ?aL ?_
  (case aR=>exact cB e8)
  (case aB=>exact pB)
  (case aF=>exact(fun k_ hk=>Kd.fresh' (Kd.R_lt (rX m2.out)) k_ hk))
  (case aO=>exact((Kd.R_nil _ _ _ _ (fun k_=>some k_≠(l9:Value).ownBlock))))
  (case aS=>exact(below_size pB))
  (case aL=>have:=LMc4.out;omega)
  intro m3 m4 ho hb hg hat;rw[← g5.out] at ho;have n0_:=aM (blk_grown (g:=g6) (o:=.cells #[.bool true,.slice a7 b4.length a8,.slice b5 b7.length b6] 38 (0,0)) (kW g8) hg (by simp [Value.ownBlock]))
  have n1_:=aM (blk_grown (g:=j6) (o:=.cells #[.bool false,.slice none 0 0,.slice none 0 0] 38 (0,0)) (kW j8) hg (by simp [Value.ownBlock]))
  have n2_:=aM (Kd.R_after (Kd.R_apart_nil (rX m2.out)) hg hat);have n3_:=aM (hb);have n4_:=aM (ho);clear g8;clear j8;clear m2;clear HB;have g8:=n0_;have j8:=n1_;have m2:=n2_;have HB:=n3_;have m5:=n4_;clear n0_ n1_ n2_ n3_ n4_;clear ho hb hg hat;obtain⟨m6,m7,m8⟩:=Kd.R_slice m5.out;(first|subst m8|(injection m8 with f1_ f2_ f3_;have f4_:=f1_.symm;have f5_:=f3_.symm;clear f1_ f2_ f3_;subst f4_;subst f5_))
  obtain⟨m9,n0,n6⟩:=Kd.R_slice m2.out;(first|subst n6|(injection n6 with f1_ f2_ f3_;have f4_:=f1_.symm;have f5_:=f3_.symm;clear f1_ f2_ f3_;subst f4_;subst f5_))
  refine hK.out _ _ ⟨(blk_cell g8.out 0).trans rfl,(blk_cell g8.out 1).trans rfl,(blk_cell g8.out 2).trans rfl⟩ (fun hHeld=>?_)
  clear hK K;refine nm 17 ?_;refine pS 15 18 HT_ ?_;refine oU 16 none HT_ fun K hK=>?_
  have n7:m4.cell? ⟨j6,0,none⟩=some (.bool false):=(blk_cell j8.out 0).trans rfl;have hfs12:=blk_frozen j8.out 0;have hns12_0:=l6.out;have hms12_0:=l7.out;have n8:m4.cell? ⟨j6,1,none⟩=some (.slice none 0 0):=(blk_cell j8.out 1).trans rfl;have hfs13:=blk_frozen j8.out 1;have hns13_0:=l6.out;have hms13_0:=l7.out;have n9:m4.cell? ⟨j6,2,none⟩=some (.slice none 0 0):=(blk_cell j8.out 2).trans rfl;have hfs14:=blk_frozen j8.out 2;have hns14_0:=l6.out;have hms14_0:=l7.out;refine skip_ (w1:=?_) (by rfl) rfl ?_ ?_
  rotate_left
  ·go_simp
   rfl
  refine hK.out _ _ ⟨((cell_far (p:=⟨j6,_,none⟩) l6.out _).trans (((cell_far (p:=⟨j6,_,none⟩) l6.out _).trans (((cell_far (p:=⟨j6,_,none⟩) l6.out _).trans (hHeld.1)))))),((cell_far (p:=⟨j6,_,none⟩) l6.out _).trans (((cell_far (p:=⟨j6,_,none⟩) l6.out _).trans (((cell_far (p:=⟨j6,_,none⟩) l6.out _).trans (hHeld.2.1)))))),((cell_far (p:=⟨j6,_,none⟩) l6.out _).trans (((cell_far (p:=⟨j6,_,none⟩) l6.out _).trans (((cell_far (p:=⟨j6,_,none⟩) l6.out _).trans (hHeld.2.2))))))⟩ (fun hHeld=>?_)
  clear hK K;refine done_ (done_of HT_.out (by kernel_rfl)) ?_
  try go_wp2
  refine bodyPost_ret (results_cell_row rfl _ _ j6 38 #[.bool false,.slice m9 f3.length n0,.slice m6 f9.length m7] (0,0) _ rfl (kQ j8) Try.underlying38 rfl (by kernel_rfl)) rfl ?_
  exact⟨_,_,eW,by exact Kd.R_mono (rT m2 j8) (fun _ hk=>hk.2),by exact Kd.R_mono (rT m5 j8) (fun _ hk=>hk),pB⟩
 ·obtain rfl:=bN c2;rw[if_neg nF] at H
  by_cases o0:([]:List Int).length+b4.length < 17592186044416
  ·rw[if_pos o0] at H;have LMc15:=aM o0;clear o0;obtain⟨o8,o9⟩:∃ y_:List Int,y_=(([]:List Int) ++ b4):=⟨_,rfl⟩;replace H:(if([]:List Int).length+b7.length < 17592186044416 then(some (decide (0 < b4.length),o8,(([]:List Int) ++ b7))) else(none))=some (b8,b9,d0):=yE o9 H
   have p0:=aM o9;clear o9;obtain⟨p4,H⟩:=iO H;have LMc16:=aM p4;clear p4;obtain⟨p5,p9⟩:∃ y_:List Int,y_=(([]:List Int) ++ b7):=⟨_,rfl⟩;replace H:(some (decide (0 < b4.length),o8,p5))=some (b8,b9,d0):=yE p9 H
   have r5:=aM p9;clear p9;obtain⟨rfl,rfl,rfl⟩:=q3 H;go_enter Try.func45,Try.ntmps45
   try go_wp2_with (first|((with_reducible refine gd 1 rfl ?_);refine bxg #[.bool false,.slice a7 b4.length a8,.slice b5 b7.length b6] 38 ?_;intro g6 hg r6 g8 hb;have g9:=gA w hg;have j5:=gA w hg;replace HB:=bB hb;clear hb hg)|((with_reducible refine gd 2 rfl ?_);refine bxg #[.bool false,.slice none 0 0,.slice none 0 0] 38 ?_;intro j6 hg r7 j8 hb;have j9:=gA w hg;have l5:=gA w hg;have l6:=nl hg g8;have l7:=ng hg g8;replace g8:=kb g8 hb;replace HB:=bB hb;clear hb hg))
   have n0_:=aM (blk_drew g8.out);have n1_:=aM (blk_drew j8.out);have n2_:=aM (below_drew1 HB.out);clear g8;clear j8;clear HB;have g8:=n0_;have j8:=n1_;have HB:=n2_;clear n0_ n1_ n2_;refine start_ (n:=17) (S:=fun w'=>w'.cell? ⟨g6,0,none⟩=some (.bool false)∧w'.cell? ⟨g6,1,none⟩=some (.slice a7 b4.length a8)∧w'.cell? ⟨g6,2,none⟩=some (.slice b5 b7.length b6)) (ds:=[]) (bA 17 0) (by kernel_rfl) rfl rfl ⟨(blk_cell g8.out 0).trans rfl,(blk_cell g8.out 1).trans rfl,(blk_cell g8.out 2).trans rfl⟩ (fun hHeld=>?_);refine with_tabW Dzx.tab1 Dzx.bits1 (fun HT_ HW_=>?_)
   generalize r7.drew=r8 at g8 j8 HB hHeld ⊢;refine pS 0 3 HT_ ?_;refine pS 9 12 HT_ ?_;refine pS 12 15 HT_ ?_;refine tU 1 4 HT_ HW_ hHeld ?_;refine pS 2 5 HT_ ?_;refine pS 3 6 HT_ ?_;refine pS 4 7 HT_ ?_;refine tU 5 8 HT_ HW_ hHeld ?_;refine pS 6 9 HT_ ?_;refine pS 7 10 HT_ ?_;refine pS 8 11 HT_ ?_;refine tU 10 13 HT_ HW_ hHeld ?_;refine tU 13 16 HT_ HW_ hHeld ?_;refine oU 11 (some 14) HT_ fun K hK=>?_
   refine Kd.R_append_rows_step (Kd.int .i64) (w0:=w) w.heap.size (by rfl) (.const (.slice none 0 0)) (.tmp 13) 36 3 (.int .i64 0) 8 rfl Try.underlying36 info3 rfl (by decide) (by omega) (.slice none 0 0) ([]:List Int) b4 _ _ _ (fun _=>True) (fun _=>False) rfl rfl ?aO ?aR (fun _ _ h=>h) (fun _ h=>h.elim) ?aF ?aB ?aS ?aL ?_
   (case aR=>exact cB e6)
   (case aB=>exact pB)
   (case aF=>exact(fun _ _=>trivial))
   (case aO=>exact((Kd.R_nil _ _ _ _ (fun _=>True))))
   (case aS=>exact(below_size pB))
   (case aL=>have:=LMc15.out;omega)
   intro r9 t6 ho hb hg hat;rw[← p0.out] at ho;have n0_:=aM (blk_grown (g:=g6) (o:=.cells #[.bool false,.slice a7 b4.length a8,.slice b5 b7.length b6] 38 (0,0)) (kW g8) hg (by simp [Value.ownBlock]))
   have n1_:=aM (blk_grown (g:=j6) (o:=.cells #[.bool false,.slice none 0 0,.slice none 0 0] 38 (0,0)) (kW j8) hg (by simp [Value.ownBlock]))
   have n2_:=aM (hb);have n3_:=aM (ho);clear g8;clear j8;clear HB;have g8:=n0_;have j8:=n1_;have HB:=n2_;have t7:=n3_;clear n0_ n1_ n2_ n3_;clear ho hb hg hat;refine hK.out _ _ ⟨(blk_cell g8.out 0).trans rfl,(blk_cell g8.out 1).trans rfl,(blk_cell g8.out 2).trans rfl⟩ (fun hHeld=>?_)
   clear hK K;refine nm 14 ?_;refine oU 14 (some 17) HT_ fun K hK=>?_
   refine Kd.R_append_rows_step (Kd.int .i64) (w0:=w) w.heap.size (by rfl) (.const (.slice none 0 0)) (.tmp 16) 36 3 (.int .i64 0) 8 rfl Try.underlying36 info3 rfl (by decide) (by omega) (.slice none 0 0) ([]:List Int) b7 _ _ _ (fun k_=>some k_≠(r9:Value).ownBlock) (fun _=>False) rfl rfl ?aO ?aR (fun _ _ h=>h) (fun _ h=>h.elim) ?aF ?aB ?aS ?aL ?_
   (case aR=>exact cB e8)
   (case aB=>exact pB)
   (case aF=>exact(fun k_ hk=>Kd.fresh' (Kd.R_lt (rX t7.out)) k_ hk))
   (case aO=>exact((Kd.R_nil _ _ _ _ (fun k_=>some k_≠(r9:Value).ownBlock))))
   (case aS=>exact(below_size pB))
   (case aL=>have:=LMc16.out;omega)
   intro t8 z1 ho hb hg hat;rw[← r5.out] at ho;have n0_:=aM (blk_grown (g:=g6) (o:=.cells #[.bool false,.slice a7 b4.length a8,.slice b5 b7.length b6] 38 (0,0)) (kW g8) hg (by simp [Value.ownBlock]))
   have n1_:=aM (blk_grown (g:=j6) (o:=.cells #[.bool false,.slice none 0 0,.slice none 0 0] 38 (0,0)) (kW j8) hg (by simp [Value.ownBlock]))
   have n2_:=aM (Kd.R_after (Kd.R_apart_nil (rX t7.out)) hg hat);have n3_:=aM (hb);have n4_:=aM (ho);clear g8;clear j8;clear t7;clear HB;have g8:=n0_;have j8:=n1_;have t7:=n2_;have HB:=n3_;have z2:=n4_;clear n0_ n1_ n2_ n3_ n4_;clear ho hb hg hat;obtain⟨z6,z7,z8⟩:=Kd.R_slice z2.out;(first|subst z8|(injection z8 with f1_ f2_ f3_;have f4_:=f1_.symm;have f5_:=f3_.symm;clear f1_ f2_ f3_;subst f4_;subst f5_))
   obtain⟨B0,B5,B6⟩:=Kd.R_slice t7.out;(first|subst B6|(injection B6 with f1_ f2_ f3_;have f4_:=f1_.symm;have f5_:=f3_.symm;clear f1_ f2_ f3_;subst f4_;subst f5_))
   refine hK.out _ _ ⟨(blk_cell g8.out 0).trans rfl,(blk_cell g8.out 1).trans rfl,(blk_cell g8.out 2).trans rfl⟩ (fun hHeld=>?_)
   clear hK K;refine nm 17 ?_;refine pS 15 18 HT_ ?_;refine oU 16 none HT_ fun K hK=>?_
   have B8:z1.cell? ⟨j6,0,none⟩=some (.bool false):=(blk_cell j8.out 0).trans rfl;have hfs24:=blk_frozen j8.out 0;have hns24_0:=l6.out;have hms24_0:=l7.out;have B9:z1.cell? ⟨j6,1,none⟩=some (.slice none 0 0):=(blk_cell j8.out 1).trans rfl;have hfs25:=blk_frozen j8.out 1;have hns25_0:=l6.out;have hms25_0:=l7.out;have C0:z1.cell? ⟨j6,2,none⟩=some (.slice none 0 0):=(blk_cell j8.out 2).trans rfl;have hfs26:=blk_frozen j8.out 2;have hns26_0:=l6.out;have hms26_0:=l7.out;refine skip_ (w1:=?_) (by rfl) rfl ?_ ?_
   rotate_left
   ·go_simp
    rfl
   refine hK.out _ _ ⟨((cell_far (p:=⟨j6,_,none⟩) l6.out _).trans (((cell_far (p:=⟨j6,_,none⟩) l6.out _).trans (((cell_far (p:=⟨j6,_,none⟩) l6.out _).trans (hHeld.1)))))),((cell_far (p:=⟨j6,_,none⟩) l6.out _).trans (((cell_far (p:=⟨j6,_,none⟩) l6.out _).trans (((cell_far (p:=⟨j6,_,none⟩) l6.out _).trans (hHeld.2.1)))))),((cell_far (p:=⟨j6,_,none⟩) l6.out _).trans (((cell_far (p:=⟨j6,_,none⟩) l6.out _).trans (((cell_far (p:=⟨j6,_,none⟩) l6.out _).trans (hHeld.2.2))))))⟩ (fun hHeld=>?_)
   clear hK K;refine done_ (done_of HT_.out (by kernel_rfl)) ?_
   try go_wp2
   refine bodyPost_ret (results_cell_row rfl _ _ j6 38 #[.bool (decide (0 < b4.length)),.slice B0 o8.length B5,.slice z6 p5.length z7] (0,0) _ rfl (kQ j8) Try.underlying38 rfl (by kernel_rfl)) rfl ?_
   exact⟨_,_,eW,by exact Kd.R_mono (rT t7 j8) (fun _ hk=>hk.2),by exact Kd.R_mono (rT z2 j8) (fun _ hk=>hk),pB⟩
  ·rw[if_neg o0] at H;exact absurd H (by simp)

end Go.Proofs.Ytokkiljkgejnhaa.Print
