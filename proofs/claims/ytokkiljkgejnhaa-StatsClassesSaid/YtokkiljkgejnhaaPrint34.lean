import Derived.Test.YtokkiljkgejnhaaPrint0
namespace Go.Proofs.Ytokkiljkgejnhaa.Print
open Go.RowKit Go.Proofs.YtokkiljkgejnhaaW.PrintWords Go.Proofs.YtokkiljkgejnhaaW.PrintLast Go.Proofs.YtokkiljkgejnhaaW.PrintMore
attribute [local go_sem] max2_int min2_int max_two min_two max_three min_three max_four min_four
set_option linter.unusedVariables false
set_option maxRecDepth 100000
set_option maxHeartbeats 8000000
set_option linter.unusedSimpArgs false

def Dzx.f (a0_0:Bool) (l0_1:List Int) (l0_2:List Int):Option (Bool × List Int × List Int):=if a0_0=true then(if([]:List Int).length+l0_1.length < 17592186044416 then(if([]:List Int).length+l0_2.length < 17592186044416 then(some (false,(([]:List Int) ++ l0_1),(([]:List Int) ++ l0_2))) else(none)) else(none)) else(if([]:List Int).length+l0_1.length < 17592186044416 then(if([]:List Int).length+l0_2.length < 17592186044416 then(some (decide (0 < l0_1.length),(([]:List Int) ++ l0_1),(([]:List Int) ++ l0_2))) else(none)) else(none))
def Dzx.T1:Bool × List (List Nat × List Nat):=(true,[([],[]),([0],[0]),([1],[1]),([2],[2]),([3],[3]),([4,3],[3,4]),([5,3],[3,5]),([6,3],[3,6]),([3,7],[3,7]),([],[]),([9],[9]),([10,3],[10]),([],[]),([12],[12]),([13,11],[13]),([8,11,14],[8,11,14]),([15,14,0,1,2,3,4,5,6,7,8,9,10,11,12,13,14,15],[15])])
def Dzx.B1:List Nat:=[0,1,3,7,15,31,63,127,255,0,512,1551,0,4096,15887,32767,65535]
theorem Dzx.tab1:rtab .any (opsOf Try.f45 1)=Dzx.T1:=by kernel_rfl
theorem Dzx.bits1:waitsOk Dzx.T1.2 Dzx.B1=true:=by kernel_rfl
theorem Dzx.calls (a0_0:Bool) (A0_1:Option Addr) (c0_1:Nat) (l0_1:List Int) (A0_2:Option Addr) (c0_2:Nat) (l0_2:List Int) (r1:Bool) (r2:List Int) (r3:List Int) (w:World) (hr0_1:Kd.C (Kd.int .i64) w A0_1 l0_1.length l0_1) (hc0_1:l0_1.length≤c0_1) (hr0_2:Kd.C (Kd.int .i64) w A0_2 l0_2.length l0_2) (hc0_2:l0_2.length≤c0_2) (h:Dzx.f a0_0 l0_1 l0_2=some (r1,r2,r3)) :
  Calls Try.prog 45 #[.agg #[.bool a0_0,.slice A0_1 l0_1.length c0_1,.slice A0_2 l0_2.length c0_2]] w fun e w'=>∃ v1_ v2_:Value,e=.returned (.agg #[.bool r1,v1_,v2_])∧Kd.R (Kd.int .i64) 3 w' w.heap.size (fun k_=>some k_≠(v2_:Value).ownBlock) v1_ r2∧Kd.R (Kd.int .i64) 3 w' w.heap.size (fun k_=>some k_≠(v1_:Value).ownBlock) v2_ r3∧Below w.heap.size w w':=by
 have hu38:=Try.underlying38;have HR0_1:=aM hr0_1;have HC0_1:=aM hc0_1;clear hr0_1 hc0_1;have HR0_2:=aM hr0_2;have HC0_2:=aM hc0_2;clear hr0_2 hc0_2;have HB:=aM (Below.refl w.heap.size w);have H:(if a0_0=true then(if([]:List Int).length+l0_1.length < 17592186044416 then(if([]:List Int).length+l0_2.length < 17592186044416 then(some (false,(([]:List Int) ++ l0_1),(([]:List Int) ++ l0_2))) else(none)) else(none)) else(if([]:List Int).length+l0_1.length < 17592186044416 then(if([]:List Int).length+l0_2.length < 17592186044416 then(some (decide (0 < l0_1.length),(([]:List Int) ++ l0_1),(([]:List Int) ++ l0_2))) else(none)) else(none)))=some (r1,r2,r3):=h
 clear h;by_cases c2:a0_0=true
 ·subst c2;rw[if_pos rfl] at H;by_cases c3:([]:List Int).length+l0_1.length < 17592186044416
  ·rw[if_pos c3] at H;have LMc3:=aM c3;clear c3;obtain⟨y560,hy560⟩:∃ y_:List Int,y_=(([]:List Int) ++ l0_1):=⟨_,rfl⟩;replace H:(if([]:List Int).length+l0_2.length < 17592186044416 then(some (false,y560,(([]:List Int) ++ l0_2))) else(none))=some (r1,r2,r3):=by first|(rw[hy560];with_reducible exact H)|(have H2_:=(Option.bind_some _ _).symm.trans H;rw[hy560];with_reducible exact H2_)|(have H2_:=(Option.bind_some _ _).symm.trans H;with_reducible exact H2_)|with_reducible exact H|(rw[hy560];exact H)|exact H
   have Ny560:=aM hy560;clear hy560;by_cases c4:([]:List Int).length+l0_2.length < 17592186044416
   ·rw[if_pos c4] at H;have LMc4:=aM c4;clear c4;obtain⟨y563,hy563⟩:∃ y_:List Int,y_=(([]:List Int) ++ l0_2):=⟨_,rfl⟩;replace H:(some (false,y560,y563))=some (r1,r2,r3):=by first|(rw[hy563];with_reducible exact H)|(have H2_:=(Option.bind_some _ _).symm.trans H;rw[hy563];with_reducible exact H2_)|(have H2_:=(Option.bind_some _ _).symm.trans H;with_reducible exact H2_)|with_reducible exact H|(rw[hy563];exact H)|exact H
    have Ny563:=aM hy563;clear hy563;simp only[Option.some.injEq,Prod.mk.injEq] at H;obtain⟨rfl,rfl,rfl⟩:=H;go_enter Try.func45,Try.ntmps45
    try go_wp2_with (first|((with_reducible refine gate_dst (N:=1) rfl ?_);(try(refine gate_guard (by rfl) ?_;dsimp only));refine box_event ?hg (N:=1) ?hd (cs:=#[.bool true,.slice A0_1 l0_1.length c0_1,.slice A0_2 l0_2.length c0_2]) (t:=38) ?hr ?_;(case hd=>rfl);(case hg=>rfl);(case hr=>first|(go_simp;done)|(go_simp;rfl));intro gb558 hg w5 hbox hb;have BK558:=aM (hbox);have GW558:=aM (gW hg:w.heap.size≤gb558);have GE558:=aM (gW hg:w.heap.size≤gb558);replace HB:=aM (below_step pB hb);clear hb hbox hg)|((with_reducible refine gate_dst (N:=2) rfl ?_);(try(refine gate_guard (by rfl) ?_;dsimp only));refine box_event ?hg (N:=2) ?hd (cs:=#[.bool false,.slice none 0 0,.slice none 0 0]) (t:=38) ?hr ?_;(case hd=>rfl);(case hg=>rfl);(case hr=>first|(go_simp;done)|(go_simp;rfl));intro gb559 hg w6 hbox hb;have BK559:=aM (hbox);have GW559:=aM (gW hg:w.heap.size≤gb559);have GE559:=aM (gW hg:w.heap.size≤gb559);have NB558_559:=aM (nL hg BK558:gb558≠gb559);have NB559_558:=aM (nG hg BK558:gb559≠gb558);replace BK558:=aM (kB BK558 hb);replace HB:=aM (below_step pB hb);clear hb hbox hg))
    have n0_:=aM (blk_drew BK558.out);have n1_:=aM (blk_drew BK559.out);have n2_:=aM (below_drew1 HB.out);clear BK558;clear BK559;clear HB;have BK558:=n0_;have BK559:=n1_;have HB:=n2_;clear n0_ n1_ n2_;refine start_ (n:=17) (S:=fun w'=>w'.cell? ⟨gb558,0,none⟩=some (.bool true)∧w'.cell? ⟨gb558,1,none⟩=some (.slice A0_1 l0_1.length c0_1)∧w'.cell? ⟨gb558,2,none⟩=some (.slice A0_2 l0_2.length c0_2)) (ds:=[]) #[false,false,false,false,false,false,false,false,false,false,false,false,false,false,false,false,false] (by kernel_rfl) rfl rfl ⟨(blk_cell BK558.out 0).trans rfl,(blk_cell BK558.out 1).trans rfl,(blk_cell BK558.out 2).trans rfl⟩ (fun hHeld=>?_);refine with_tabW Dzx.tab1 Dzx.bits1 (fun HT_ HW_=>?_)
    generalize w6.drew=w7 at BK558 BK559 HB hHeld ⊢;refine pU (i:=0) (N:=some 3) HT_ #[true,false,false,false,false,false,false,false,false,false,false,false,false,false,false,false,false] ?_;refine pU (i:=9) (N:=some 12) HT_ #[true,false,false,false,false,false,false,false,false,true,false,false,false,false,false,false,false] ?_;refine pU (i:=12) (N:=some 15) HT_ #[true,false,false,false,false,false,false,false,false,true,false,false,true,false,false,false,false] ?_;refine take_ (i:=1) (N:=some 4) (v:=?_) (a':=?_) #[true,true,false,false,false,false,false,false,false,true,false,false,true,false,false,false,false] rfl rfl (take_ofW HT_.out HW_.out (by kernel_rfl)) (fun _ _ _ h=>h) (Or.inl ⟨by rfl,?_⟩) hHeld ?_ ?_
    rotate_left
    ·rintro w' ⟨s0,s1,s2⟩;go_simp
     with_reducible rfl
    rotate_left
    ·simp only[Act.put,sA,sZ,sC,i64_w,i32_w];rfl
    refine pU (i:=2) (N:=some 5) HT_ #[true,true,true,false,false,false,false,false,false,true,false,false,true,false,false,false,false] ?_;refine pU (i:=3) (N:=some 6) HT_ #[true,true,true,true,false,false,false,false,false,true,false,false,true,false,false,false,false] ?_;refine pure_ (i:=4) (N:=some 7) (v:=undef) (a':=?_) #[true,true,true,true,true,false,false,false,false,true,false,false,true,false,false,false,false] rfl rfl (any_of HT_.out (by kernel_rfl)) (fun _ _ _ h=>h) (Or.inr ⟨by rfl,rfl⟩) ?_ ?_
    rotate_left
    ·simp only[Act.put,sA,sZ,sC,i64_w,i32_w];rfl
    refine pure_ (i:=5) (N:=some 8) (v:=undef) (a':=?_) #[true,true,true,true,true,true,false,false,false,true,false,false,true,false,false,false,false] rfl rfl (any_of HT_.out (by kernel_rfl)) (fun _ _ _ h=>h) (Or.inr ⟨by rfl,rfl⟩) ?_ ?_
    rotate_left
    ·simp only[Act.put,sA,sZ,sC,i64_w,i32_w];rfl
    refine pure_ (i:=6) (N:=some 9) (v:=undef) (a':=?_) #[true,true,true,true,true,true,true,false,false,true,false,false,true,false,false,false,false] rfl rfl (any_of HT_.out (by kernel_rfl)) (fun _ _ _ h=>h) (Or.inr ⟨by rfl,rfl⟩) ?_ ?_
    rotate_left
    ·simp only[Act.put,sA,sZ,sC,i64_w,i32_w];rfl
    refine pure_ (i:=7) (N:=some 10) (v:=undef) (a':=?_) #[true,true,true,true,true,true,true,true,false,true,false,false,true,false,false,false,false] rfl rfl (any_of HT_.out (by kernel_rfl)) (fun _ _ _ h=>h) (Or.inr ⟨by rfl,rfl⟩) ?_ ?_
    rotate_left
    ·simp only[Act.put,sA,sZ,sC,i64_w,i32_w];rfl
    refine pU (i:=8) (N:=some 11) HT_ #[true,true,true,true,true,true,true,true,true,true,false,false,true,false,false,false,false] ?_;refine take_ (i:=10) (N:=some 13) (v:=?_) (a':=?_) #[true,true,true,true,true,true,true,true,true,true,true,false,true,false,false,false,false] rfl rfl (take_ofW HT_.out HW_.out (by kernel_rfl)) (fun _ _ _ h=>h) (Or.inl ⟨by rfl,?_⟩) hHeld ?_ ?_
    rotate_left
    ·rintro w' ⟨s0,s1,s2⟩;go_simp
     with_reducible rfl
    rotate_left
    ·simp only[Act.put,sA,sZ,sC,i64_w,i32_w];rfl
    refine take_ (i:=13) (N:=some 16) (v:=?_) (a':=?_) #[true,true,true,true,true,true,true,true,true,true,true,false,true,true,false,false,false] rfl rfl (take_ofW HT_.out HW_.out (by kernel_rfl)) (fun _ _ _ h=>h) (Or.inl ⟨by rfl,?_⟩) hHeld ?_ ?_
    rotate_left
    ·rintro w' ⟨s0,s1,s2⟩;go_simp
     with_reducible rfl
    rotate_left
    ·simp only[Act.put,sA,sZ,sC,i64_w,i32_w];rfl
    refine one_ (i:=11) (N:=some 14) #[true,true,true,true,true,true,true,true,true,true,true,true,true,true,false,false,false] rfl rfl (one_of HT_.out (by kernel_rfl)) (by decide) (fun K hK=>?_)
    refine Kd.R_append_rows_step (Kd.int .i64) (w0:=w) w.heap.size (by rfl) (.const (.slice none 0 0)) (.tmp 13) 36 3 (.int .i64 0) 8 rfl Try.underlying36 info3 rfl (by decide) (by omega) (.slice none 0 0) ([]:List Int) l0_1 _ _ _ (fun _=>True) (fun _=>False) rfl rfl ?aO ?aR (fun _ _ h=>h) (fun _ h=>h.elim) ?aF ?aB ?aS ?aL ?_
    (case aR=>exact cX (Kd.C_below HR0_1.out HB.out))
    (case aB=>exact pB)
    (case aF=>exact(fun _ _=>trivial))
    (case aO=>exact((Kd.R_nil _ _ _ _ (fun _=>True))))
    (case aS=>exact(below_size pB))
    (case aL=>have:=LMc3.out;omega)
    intro v561 w8 ho hb hg hat;rw[← Ny560.out] at ho;have n0_:=aM (blk_grown (g:=gb558) (o:=.cells #[.bool true,.slice A0_1 l0_1.length c0_1,.slice A0_2 l0_2.length c0_2] 38 (0,0)) (kW BK558) hg (by simp [Value.ownBlock]))
    have n1_:=aM (blk_grown (g:=gb559) (o:=.cells #[.bool false,.slice none 0 0,.slice none 0 0] 38 (0,0)) (kW BK559) hg (by simp [Value.ownBlock]))
    have n2_:=aM (hb);have n3_:=aM (ho);clear BK558;clear BK559;clear HB;have BK558:=n0_;have BK559:=n1_;have HB:=n2_;have HO562:=n3_;clear n0_ n1_ n2_ n3_;clear ho hb hg hat;refine hK.out _ _ ⟨(blk_cell BK558.out 0).trans rfl,(blk_cell BK558.out 1).trans rfl,(blk_cell BK558.out 2).trans rfl⟩ (fun hHeld=>?_)
    clear hK K;refine norm_ (a':=?_) ?_ ?_;rotate_left
    ·show Act.put _ (some 14) _=_
     simp only[Act.put,sA,sZ,sC,i64_w,i32_w];rfl
    refine one_ (i:=14) (N:=some 17) #[true,true,true,true,true,true,true,true,true,true,true,true,true,true,true,false,false] rfl rfl (one_of HT_.out (by kernel_rfl)) (by decide) (fun K hK=>?_)
    refine Kd.R_append_rows_step (Kd.int .i64) (w0:=w) w.heap.size (by rfl) (.const (.slice none 0 0)) (.tmp 16) 36 3 (.int .i64 0) 8 rfl Try.underlying36 info3 rfl (by decide) (by omega) (.slice none 0 0) ([]:List Int) l0_2 _ _ _ (fun k_=>some k_≠(v561:Value).ownBlock) (fun _=>False) rfl rfl ?aO ?aR (fun _ _ h=>h) (fun _ h=>h.elim) ?aF ?aB ?aS ?aL ?_
    (case aR=>exact cX (Kd.C_below HR0_2.out HB.out))
    (case aB=>exact pB)
    (case aF=>exact(fun k_ hk=>Kd.fresh' (Kd.R_lt (rX HO562.out)) k_ hk))
    (case aO=>exact((Kd.R_nil _ _ _ _ (fun k_=>some k_≠(v561:Value).ownBlock))))
    (case aS=>exact(below_size pB))
    (case aL=>have:=LMc4.out;omega)
    intro v564 w9 ho hb hg hat;rw[← Ny563.out] at ho;have n0_:=aM (blk_grown (g:=gb558) (o:=.cells #[.bool true,.slice A0_1 l0_1.length c0_1,.slice A0_2 l0_2.length c0_2] 38 (0,0)) (kW BK558) hg (by simp [Value.ownBlock]))
    have n1_:=aM (blk_grown (g:=gb559) (o:=.cells #[.bool false,.slice none 0 0,.slice none 0 0] 38 (0,0)) (kW BK559) hg (by simp [Value.ownBlock]))
    have n2_:=aM (Kd.R_after (Kd.R_apart_nil (rX HO562.out)) hg hat);have n3_:=aM (hb);have n4_:=aM (ho);clear BK558;clear BK559;clear HO562;clear HB;have BK558:=n0_;have BK559:=n1_;have HO562:=n2_;have HB:=n3_;have HO565:=n4_;clear n0_ n1_ n2_ n3_ n4_;clear ho hb hg hat;obtain⟨Ao10,co10,eo10⟩:=Kd.R_slice HO565.out;(first|subst eo10|(injection eo10 with f1_ f2_ f3_;have f4_:=f1_.symm;have f5_:=f3_.symm;clear f1_ f2_ f3_;subst f4_;subst f5_))
    obtain⟨Ao11,co11,eo11⟩:=Kd.R_slice HO562.out;(first|subst eo11|(injection eo11 with f1_ f2_ f3_;have f4_:=f1_.symm;have f5_:=f3_.symm;clear f1_ f2_ f3_;subst f4_;subst f5_))
    refine hK.out _ _ ⟨(blk_cell BK558.out 0).trans rfl,(blk_cell BK558.out 1).trans rfl,(blk_cell BK558.out 2).trans rfl⟩ (fun hHeld=>?_)
    clear hK K;refine norm_ (a':=?_) ?_ ?_;rotate_left
    ·show Act.put _ (some 17) _=_
     simp only[Act.put,sA,sZ,sC,i64_w,i32_w];rfl
    refine pU (i:=15) (N:=some 18) HT_ #[true,true,true,true,true,true,true,true,true,true,true,true,true,true,true,true,false] ?_;refine one_ (i:=16) (N:=none) #[true,true,true,true,true,true,true,true,true,true,true,true,true,true,true,true,true] rfl rfl (one_of HT_.out (by kernel_rfl)) (by decide) (fun K hK=>?_)
    have hs12:w9.cell? ⟨gb559,0,none⟩=some (.bool false):=(blk_cell BK559.out 0).trans rfl;have hfs12:=blk_frozen BK559.out 0;have hns12_0:=NB558_559.out;have hms12_0:=NB559_558.out;have hs13:w9.cell? ⟨gb559,1,none⟩=some (.slice none 0 0):=(blk_cell BK559.out 1).trans rfl;have hfs13:=blk_frozen BK559.out 1;have hns13_0:=NB558_559.out;have hms13_0:=NB559_558.out;have hs14:w9.cell? ⟨gb559,2,none⟩=some (.slice none 0 0):=(blk_cell BK559.out 2).trans rfl;have hfs14:=blk_frozen BK559.out 2;have hns14_0:=NB558_559.out;have hms14_0:=NB559_558.out;refine skip_ (w1:=?_) (by rfl) rfl ?_ ?_
    rotate_left
    ·go_simp
     rfl
    refine hK.out _ _ ⟨((cell_far (p:=⟨gb559,_,none⟩) NB558_559.out _).trans (((cell_far (p:=⟨gb559,_,none⟩) NB558_559.out _).trans (((cell_far (p:=⟨gb559,_,none⟩) NB558_559.out _).trans (hHeld.1)))))),((cell_far (p:=⟨gb559,_,none⟩) NB558_559.out _).trans (((cell_far (p:=⟨gb559,_,none⟩) NB558_559.out _).trans (((cell_far (p:=⟨gb559,_,none⟩) NB558_559.out _).trans (hHeld.2.1)))))),((cell_far (p:=⟨gb559,_,none⟩) NB558_559.out _).trans (((cell_far (p:=⟨gb559,_,none⟩) NB558_559.out _).trans (((cell_far (p:=⟨gb559,_,none⟩) NB558_559.out _).trans (hHeld.2.2))))))⟩ (fun hHeld=>?_)
    clear hK K;refine done_ (done_of HT_.out (by kernel_rfl)) ?_
    try go_wp2
    refine bodyPost_ret (results_cell_row rfl _ _ gb559 38 #[.bool false,.slice Ao11 y560.length co11,.slice Ao10 y563.length co10] (0,0) _ rfl (by refine bD ?_;refine blk_put (cs:=#[.bool false,.slice Ao11 y560.length co11,.slice none 0 0]) ?_ 2 _ rfl;refine bD ?_;refine blk_put (cs:=#[.bool false,.slice none 0 0,.slice none 0 0]) ?_ 1 _ rfl;refine bD ?_;refine blk_put (cs:=#[.bool false,.slice none 0 0,.slice none 0 0]) ?_ 0 _ rfl;(with_reducible repeat(first|refine blk_drewN ?_ _|refine blk_drew ?_|refine blk_alloc ?_ _));exact BK559.out) Try.underlying38 rfl (by kernel_rfl)) rfl ?_
    exact⟨_,_,eW,by(with_reducible repeat(first|apply Kd.R_alloc|apply Kd.R_drewN|apply Kd.R_drew));exact Kd.R_mono (Kd.R_far (p:=⟨gb559,2,none⟩) (Kd.R_far (p:=⟨gb559,1,none⟩) (Kd.R_far (p:=⟨gb559,0,none⟩) (Kd.R_types HO562.out BK559.out (by decide)) (fun _ hk=>hk.2) (.bool false)) (fun _ hk=>hk.2) (.slice Ao11 y560.length co11)) (fun _ hk=>hk.2) (.slice Ao10 y563.length co10)) (fun _ hk=>hk.1.2),by(with_reducible repeat(first|apply Kd.R_alloc|apply Kd.R_drewN|apply Kd.R_drew));exact Kd.R_mono (Kd.R_far (p:=⟨gb559,2,none⟩) (Kd.R_far (p:=⟨gb559,1,none⟩) (Kd.R_far (p:=⟨gb559,0,none⟩) (Kd.R_types HO565.out BK559.out (by decide)) (fun _ hk=>hk.2) (.bool false)) (fun _ hk=>hk.2) (.slice Ao11 y560.length co11)) (fun _ hk=>hk.2) (.slice Ao10 y563.length co10)) (fun _ hk=>hk.1),pB⟩
   ·rw[if_neg c4] at H;exact absurd H (by simp)
  ·rw[if_neg c3] at H;exact absurd H (by simp)
 ·replace c2:=Bool.eq_false_iff.mpr c2;subst c2;rw[if_neg (show ¬ (false=true) by decide)] at H
  by_cases c15:([]:List Int).length+l0_1.length < 17592186044416
  ·rw[if_pos c15] at H;have LMc15:=aM c15;clear c15;obtain⟨y566,hy566⟩:∃ y_:List Int,y_=(([]:List Int) ++ l0_1):=⟨_,rfl⟩;replace H:(if([]:List Int).length+l0_2.length < 17592186044416 then(some (decide (0 < l0_1.length),y566,(([]:List Int) ++ l0_2))) else(none))=some (r1,r2,r3):=by first|(rw[hy566];with_reducible exact H)|(have H2_:=(Option.bind_some _ _).symm.trans H;rw[hy566];with_reducible exact H2_)|(have H2_:=(Option.bind_some _ _).symm.trans H;with_reducible exact H2_)|with_reducible exact H|(rw[hy566];exact H)|exact H
   have Ny566:=aM hy566;clear hy566;by_cases c16:([]:List Int).length+l0_2.length < 17592186044416
   ·rw[if_pos c16] at H;have LMc16:=aM c16;clear c16;obtain⟨y569,hy569⟩:∃ y_:List Int,y_=(([]:List Int) ++ l0_2):=⟨_,rfl⟩;replace H:(some (decide (0 < l0_1.length),y566,y569))=some (r1,r2,r3):=by first|(rw[hy569];with_reducible exact H)|(have H2_:=(Option.bind_some _ _).symm.trans H;rw[hy569];with_reducible exact H2_)|(have H2_:=(Option.bind_some _ _).symm.trans H;with_reducible exact H2_)|with_reducible exact H|(rw[hy569];exact H)|exact H
    have Ny569:=aM hy569;clear hy569;simp only[Option.some.injEq,Prod.mk.injEq] at H;obtain⟨rfl,rfl,rfl⟩:=H;go_enter Try.func45,Try.ntmps45
    try go_wp2_with (first|((with_reducible refine gate_dst (N:=1) rfl ?_);(try(refine gate_guard (by rfl) ?_;dsimp only));refine box_event ?hg (N:=1) ?hd (cs:=#[.bool false,.slice A0_1 l0_1.length c0_1,.slice A0_2 l0_2.length c0_2]) (t:=38) ?hr ?_;(case hd=>rfl);(case hg=>rfl);(case hr=>first|(go_simp;done)|(go_simp;rfl));intro gb558 hg w17 hbox hb;have BK558:=aM (hbox);have GW558:=aM (gW hg:w.heap.size≤gb558);have GE558:=aM (gW hg:w.heap.size≤gb558);replace HB:=aM (below_step pB hb);clear hb hbox hg)|((with_reducible refine gate_dst (N:=2) rfl ?_);(try(refine gate_guard (by rfl) ?_;dsimp only));refine box_event ?hg (N:=2) ?hd (cs:=#[.bool false,.slice none 0 0,.slice none 0 0]) (t:=38) ?hr ?_;(case hd=>rfl);(case hg=>rfl);(case hr=>first|(go_simp;done)|(go_simp;rfl));intro gb559 hg w18 hbox hb;have BK559:=aM (hbox);have GW559:=aM (gW hg:w.heap.size≤gb559);have GE559:=aM (gW hg:w.heap.size≤gb559);have NB558_559:=aM (nL hg BK558:gb558≠gb559);have NB559_558:=aM (nG hg BK558:gb559≠gb558);replace BK558:=aM (kB BK558 hb);replace HB:=aM (below_step pB hb);clear hb hbox hg))
    have n0_:=aM (blk_drew BK558.out);have n1_:=aM (blk_drew BK559.out);have n2_:=aM (below_drew1 HB.out);clear BK558;clear BK559;clear HB;have BK558:=n0_;have BK559:=n1_;have HB:=n2_;clear n0_ n1_ n2_;refine start_ (n:=17) (S:=fun w'=>w'.cell? ⟨gb558,0,none⟩=some (.bool false)∧w'.cell? ⟨gb558,1,none⟩=some (.slice A0_1 l0_1.length c0_1)∧w'.cell? ⟨gb558,2,none⟩=some (.slice A0_2 l0_2.length c0_2)) (ds:=[]) #[false,false,false,false,false,false,false,false,false,false,false,false,false,false,false,false,false] (by kernel_rfl) rfl rfl ⟨(blk_cell BK558.out 0).trans rfl,(blk_cell BK558.out 1).trans rfl,(blk_cell BK558.out 2).trans rfl⟩ (fun hHeld=>?_);refine with_tabW Dzx.tab1 Dzx.bits1 (fun HT_ HW_=>?_)
    generalize w18.drew=w19 at BK558 BK559 HB hHeld ⊢;refine pU (i:=0) (N:=some 3) HT_ #[true,false,false,false,false,false,false,false,false,false,false,false,false,false,false,false,false] ?_;refine pU (i:=9) (N:=some 12) HT_ #[true,false,false,false,false,false,false,false,false,true,false,false,false,false,false,false,false] ?_;refine pU (i:=12) (N:=some 15) HT_ #[true,false,false,false,false,false,false,false,false,true,false,false,true,false,false,false,false] ?_;refine take_ (i:=1) (N:=some 4) (v:=?_) (a':=?_) #[true,true,false,false,false,false,false,false,false,true,false,false,true,false,false,false,false] rfl rfl (take_ofW HT_.out HW_.out (by kernel_rfl)) (fun _ _ _ h=>h) (Or.inl ⟨by rfl,?_⟩) hHeld ?_ ?_
    rotate_left
    ·rintro w' ⟨s0,s1,s2⟩;go_simp
     with_reducible rfl
    rotate_left
    ·simp only[Act.put,sA,sZ,sC,i64_w,i32_w];rfl
    refine pU (i:=2) (N:=some 5) HT_ #[true,true,true,false,false,false,false,false,false,true,false,false,true,false,false,false,false] ?_;refine pU (i:=3) (N:=some 6) HT_ #[true,true,true,true,false,false,false,false,false,true,false,false,true,false,false,false,false] ?_;refine pU (i:=4) (N:=some 7) HT_ #[true,true,true,true,true,false,false,false,false,true,false,false,true,false,false,false,false] ?_;refine take_ (i:=5) (N:=some 8) (v:=?_) (a':=?_) #[true,true,true,true,true,true,false,false,false,true,false,false,true,false,false,false,false] rfl rfl (take_ofW HT_.out HW_.out (by kernel_rfl)) (fun _ _ _ h=>h) (Or.inl ⟨by rfl,?_⟩) hHeld ?_ ?_
    rotate_left
    ·rintro w' ⟨s0,s1,s2⟩;go_simp
     with_reducible rfl
    rotate_left
    ·simp only[Act.put,sA,sZ,sC,i64_w,i32_w];rfl
    refine pU (i:=6) (N:=some 9) HT_ #[true,true,true,true,true,true,true,false,false,true,false,false,true,false,false,false,false] ?_;refine pU (i:=7) (N:=some 10) HT_ #[true,true,true,true,true,true,true,true,false,true,false,false,true,false,false,false,false] ?_;refine pU (i:=8) (N:=some 11) HT_ #[true,true,true,true,true,true,true,true,true,true,false,false,true,false,false,false,false] ?_;refine take_ (i:=10) (N:=some 13) (v:=?_) (a':=?_) #[true,true,true,true,true,true,true,true,true,true,true,false,true,false,false,false,false] rfl rfl (take_ofW HT_.out HW_.out (by kernel_rfl)) (fun _ _ _ h=>h) (Or.inl ⟨by rfl,?_⟩) hHeld ?_ ?_
    rotate_left
    ·rintro w' ⟨s0,s1,s2⟩;go_simp
     with_reducible rfl
    rotate_left
    ·simp only[Act.put,sA,sZ,sC,i64_w,i32_w];rfl
    refine take_ (i:=13) (N:=some 16) (v:=?_) (a':=?_) #[true,true,true,true,true,true,true,true,true,true,true,false,true,true,false,false,false] rfl rfl (take_ofW HT_.out HW_.out (by kernel_rfl)) (fun _ _ _ h=>h) (Or.inl ⟨by rfl,?_⟩) hHeld ?_ ?_
    rotate_left
    ·rintro w' ⟨s0,s1,s2⟩;go_simp
     with_reducible rfl
    rotate_left
    ·simp only[Act.put,sA,sZ,sC,i64_w,i32_w];rfl
    refine one_ (i:=11) (N:=some 14) #[true,true,true,true,true,true,true,true,true,true,true,true,true,true,false,false,false] rfl rfl (one_of HT_.out (by kernel_rfl)) (by decide) (fun K hK=>?_)
    refine Kd.R_append_rows_step (Kd.int .i64) (w0:=w) w.heap.size (by rfl) (.const (.slice none 0 0)) (.tmp 13) 36 3 (.int .i64 0) 8 rfl Try.underlying36 info3 rfl (by decide) (by omega) (.slice none 0 0) ([]:List Int) l0_1 _ _ _ (fun _=>True) (fun _=>False) rfl rfl ?aO ?aR (fun _ _ h=>h) (fun _ h=>h.elim) ?aF ?aB ?aS ?aL ?_
    (case aR=>exact cX (Kd.C_below HR0_1.out HB.out))
    (case aB=>exact pB)
    (case aF=>exact(fun _ _=>trivial))
    (case aO=>exact((Kd.R_nil _ _ _ _ (fun _=>True))))
    (case aS=>exact(below_size pB))
    (case aL=>have:=LMc15.out;omega)
    intro v567 w20 ho hb hg hat;rw[← Ny566.out] at ho;have n0_:=aM (blk_grown (g:=gb558) (o:=.cells #[.bool false,.slice A0_1 l0_1.length c0_1,.slice A0_2 l0_2.length c0_2] 38 (0,0)) (kW BK558) hg (by simp [Value.ownBlock]))
    have n1_:=aM (blk_grown (g:=gb559) (o:=.cells #[.bool false,.slice none 0 0,.slice none 0 0] 38 (0,0)) (kW BK559) hg (by simp [Value.ownBlock]))
    have n2_:=aM (hb);have n3_:=aM (ho);clear BK558;clear BK559;clear HB;have BK558:=n0_;have BK559:=n1_;have HB:=n2_;have HO568:=n3_;clear n0_ n1_ n2_ n3_;clear ho hb hg hat;refine hK.out _ _ ⟨(blk_cell BK558.out 0).trans rfl,(blk_cell BK558.out 1).trans rfl,(blk_cell BK558.out 2).trans rfl⟩ (fun hHeld=>?_)
    clear hK K;refine norm_ (a':=?_) ?_ ?_;rotate_left
    ·show Act.put _ (some 14) _=_
     simp only[Act.put,sA,sZ,sC,i64_w,i32_w];rfl
    refine one_ (i:=14) (N:=some 17) #[true,true,true,true,true,true,true,true,true,true,true,true,true,true,true,false,false] rfl rfl (one_of HT_.out (by kernel_rfl)) (by decide) (fun K hK=>?_)
    refine Kd.R_append_rows_step (Kd.int .i64) (w0:=w) w.heap.size (by rfl) (.const (.slice none 0 0)) (.tmp 16) 36 3 (.int .i64 0) 8 rfl Try.underlying36 info3 rfl (by decide) (by omega) (.slice none 0 0) ([]:List Int) l0_2 _ _ _ (fun k_=>some k_≠(v567:Value).ownBlock) (fun _=>False) rfl rfl ?aO ?aR (fun _ _ h=>h) (fun _ h=>h.elim) ?aF ?aB ?aS ?aL ?_
    (case aR=>exact cX (Kd.C_below HR0_2.out HB.out))
    (case aB=>exact pB)
    (case aF=>exact(fun k_ hk=>Kd.fresh' (Kd.R_lt (rX HO568.out)) k_ hk))
    (case aO=>exact((Kd.R_nil _ _ _ _ (fun k_=>some k_≠(v567:Value).ownBlock))))
    (case aS=>exact(below_size pB))
    (case aL=>have:=LMc16.out;omega)
    intro v570 w21 ho hb hg hat;rw[← Ny569.out] at ho;have n0_:=aM (blk_grown (g:=gb558) (o:=.cells #[.bool false,.slice A0_1 l0_1.length c0_1,.slice A0_2 l0_2.length c0_2] 38 (0,0)) (kW BK558) hg (by simp [Value.ownBlock]))
    have n1_:=aM (blk_grown (g:=gb559) (o:=.cells #[.bool false,.slice none 0 0,.slice none 0 0] 38 (0,0)) (kW BK559) hg (by simp [Value.ownBlock]))
    have n2_:=aM (Kd.R_after (Kd.R_apart_nil (rX HO568.out)) hg hat);have n3_:=aM (hb);have n4_:=aM (ho);clear BK558;clear BK559;clear HO568;clear HB;have BK558:=n0_;have BK559:=n1_;have HO568:=n2_;have HB:=n3_;have HO571:=n4_;clear n0_ n1_ n2_ n3_ n4_;clear ho hb hg hat;obtain⟨Ao22,co22,eo22⟩:=Kd.R_slice HO571.out;(first|subst eo22|(injection eo22 with f1_ f2_ f3_;have f4_:=f1_.symm;have f5_:=f3_.symm;clear f1_ f2_ f3_;subst f4_;subst f5_))
    obtain⟨Ao23,co23,eo23⟩:=Kd.R_slice HO568.out;(first|subst eo23|(injection eo23 with f1_ f2_ f3_;have f4_:=f1_.symm;have f5_:=f3_.symm;clear f1_ f2_ f3_;subst f4_;subst f5_))
    refine hK.out _ _ ⟨(blk_cell BK558.out 0).trans rfl,(blk_cell BK558.out 1).trans rfl,(blk_cell BK558.out 2).trans rfl⟩ (fun hHeld=>?_)
    clear hK K;refine norm_ (a':=?_) ?_ ?_;rotate_left
    ·show Act.put _ (some 17) _=_
     simp only[Act.put,sA,sZ,sC,i64_w,i32_w];rfl
    refine pU (i:=15) (N:=some 18) HT_ #[true,true,true,true,true,true,true,true,true,true,true,true,true,true,true,true,false] ?_;refine one_ (i:=16) (N:=none) #[true,true,true,true,true,true,true,true,true,true,true,true,true,true,true,true,true] rfl rfl (one_of HT_.out (by kernel_rfl)) (by decide) (fun K hK=>?_)
    have hs24:w21.cell? ⟨gb559,0,none⟩=some (.bool false):=(blk_cell BK559.out 0).trans rfl;have hfs24:=blk_frozen BK559.out 0;have hns24_0:=NB558_559.out;have hms24_0:=NB559_558.out;have hs25:w21.cell? ⟨gb559,1,none⟩=some (.slice none 0 0):=(blk_cell BK559.out 1).trans rfl;have hfs25:=blk_frozen BK559.out 1;have hns25_0:=NB558_559.out;have hms25_0:=NB559_558.out;have hs26:w21.cell? ⟨gb559,2,none⟩=some (.slice none 0 0):=(blk_cell BK559.out 2).trans rfl;have hfs26:=blk_frozen BK559.out 2;have hns26_0:=NB558_559.out;have hms26_0:=NB559_558.out;refine skip_ (w1:=?_) (by rfl) rfl ?_ ?_
    rotate_left
    ·go_simp
     rfl
    refine hK.out _ _ ⟨((cell_far (p:=⟨gb559,_,none⟩) NB558_559.out _).trans (((cell_far (p:=⟨gb559,_,none⟩) NB558_559.out _).trans (((cell_far (p:=⟨gb559,_,none⟩) NB558_559.out _).trans (hHeld.1)))))),((cell_far (p:=⟨gb559,_,none⟩) NB558_559.out _).trans (((cell_far (p:=⟨gb559,_,none⟩) NB558_559.out _).trans (((cell_far (p:=⟨gb559,_,none⟩) NB558_559.out _).trans (hHeld.2.1)))))),((cell_far (p:=⟨gb559,_,none⟩) NB558_559.out _).trans (((cell_far (p:=⟨gb559,_,none⟩) NB558_559.out _).trans (((cell_far (p:=⟨gb559,_,none⟩) NB558_559.out _).trans (hHeld.2.2))))))⟩ (fun hHeld=>?_)
    clear hK K;refine done_ (done_of HT_.out (by kernel_rfl)) ?_
    try go_wp2
    refine bodyPost_ret (results_cell_row rfl _ _ gb559 38 #[.bool (decide (0 < l0_1.length)),.slice Ao23 y566.length co23,.slice Ao22 y569.length co22] (0,0) _ rfl (by refine bD ?_;refine blk_put (cs:=#[.bool (decide (0 < l0_1.length)),.slice Ao23 y566.length co23,.slice none 0 0]) ?_ 2 _ rfl;refine bD ?_;refine blk_put (cs:=#[.bool (decide (0 < l0_1.length)),.slice none 0 0,.slice none 0 0]) ?_ 1 _ rfl;refine bD ?_;refine blk_put (cs:=#[.bool false,.slice none 0 0,.slice none 0 0]) ?_ 0 _ rfl;(with_reducible repeat(first|refine blk_drewN ?_ _|refine blk_drew ?_|refine blk_alloc ?_ _));exact BK559.out) Try.underlying38 rfl (by kernel_rfl)) rfl ?_
    exact⟨_,_,eW,by(with_reducible repeat(first|apply Kd.R_alloc|apply Kd.R_drewN|apply Kd.R_drew));exact Kd.R_mono (Kd.R_far (p:=⟨gb559,2,none⟩) (Kd.R_far (p:=⟨gb559,1,none⟩) (Kd.R_far (p:=⟨gb559,0,none⟩) (Kd.R_types HO568.out BK559.out (by decide)) (fun _ hk=>hk.2) (.bool (decide (0 < l0_1.length)))) (fun _ hk=>hk.2) (.slice Ao23 y566.length co23)) (fun _ hk=>hk.2) (.slice Ao22 y569.length co22)) (fun _ hk=>hk.1.2),by(with_reducible repeat(first|apply Kd.R_alloc|apply Kd.R_drewN|apply Kd.R_drew));exact Kd.R_mono (Kd.R_far (p:=⟨gb559,2,none⟩) (Kd.R_far (p:=⟨gb559,1,none⟩) (Kd.R_far (p:=⟨gb559,0,none⟩) (Kd.R_types HO571.out BK559.out (by decide)) (fun _ hk=>hk.2) (.bool (decide (0 < l0_1.length)))) (fun _ hk=>hk.2) (.slice Ao23 y566.length co23)) (fun _ hk=>hk.2) (.slice Ao22 y569.length co22)) (fun _ hk=>hk.1),pB⟩
   ·rw[if_neg c16] at H;exact absurd H (by simp)
  ·rw[if_neg c15] at H;exact absurd H (by simp)

end Go.Proofs.Ytokkiljkgejnhaa.Print
