import Derived.Test.YtokkiljkgejnhaaGreatPrint0
import Derived.Test.YtokkiljkgejnhaaGreatPrint42
import Derived.Test.YtokkiljkgejnhaaGreatPrint57
import Derived.Test.YtokkiljkgejnhaaGreatPrint49
import Derived.Test.YtokkiljkgejnhaaGreatPrint53
namespace Go.Proofs.YtokkiljkgejnhaaGreat.Print
open Go.RowKit Go.Proofs.YtokkiljkgejnhaaGreatW.PrintWords Go.Proofs.YtokkiljkgejnhaaGreatW.PrintLast Go.Proofs.YtokkiljkgejnhaaGreatW.PrintMore
attribute [local go_sem] max2_int min2_int max_two min_two max_three min_three max_four min_four
set_option linter.unusedVariables false
set_option maxRecDepth 100000
set_option maxHeartbeats 8000000
set_option linter.unusedSimpArgs false

def Fzk.f (k:Nat) (l0:List Int):Option (Bool × List Int × List Int × Int):=(Bzx.f k l0).bind fun t1056=>(if t1056=0 then((Bzb.f k l0).bind fun t1057=>((Dzf.f k t1057).bind fun bt1060=>(some (bt1060.1,bt1060.2.1,bt1060.2.2,0)))) else(some (false,([]:List Int),([]:List Int),t1056)))
theorem Fzk.mono:∀ a6 k,LeO (Fzk.f k a6) (Fzk.f (k+1) a6):=by
 intro a6 k;unfold Fzk.f;have i0:=@Bzx.mono;have i1:=@Dzf.mono;have i2:=@Bzb.mono;exact mM
theorem Fzk.calls (k:Nat) (a6:Option Addr) (a7:Nat) (l0:List Int) (a8:Bool) (b4:List Int) (b5:List Int) (b6:Int) (w:World) (b7:Kd.C (Kd.int .i64) w a6 l0.length l0) (b8:l0.length≤a7) (h:Fzk.f k l0=some (a8,b4,b5,b6)) :
  Calls Tryz.prog 6 #[.slice a6 l0.length a7] w fun e w'=>∃ v1_ v2_:Value,e=.returned (.tuple #[.agg #[.bool a8,v1_,v2_],.int .i64 b6])∧Kd.R (Kd.int .i64) 3 w' w.heap.size (fun k_=>some k_≠(v2_:Value).ownBlock) v1_ b4∧Kd.R (Kd.int .i64) 3 w' w.heap.size (fun k_=>some k_≠(v1_:Value).ownBlock) v2_ b5∧Below w.heap.size w w':=by
 have hu26:=Tryz.underlying26;have b9:=aM b7;have d0:=aM b8;clear b7 b8;have HB:=aM (Below.refl w.heap.size w);have H:((Bzx.f k l0).bind fun d6=>(if d6=0 then((Bzb.f k l0).bind fun d7=>((Dzf.f k d7).bind fun d8=>(some (d8.1,d8.2.1,d8.2.2,0)))) else(some (false,([]:List Int),([]:List Int),d6))))=some (a8,b4,b5,b6):=h
 clear h;obtain⟨d6,d9,H⟩:=bT H;(try dsimp only at H);by_cases c3:d6=0
 ·rw[if_pos c3] at H;obtain⟨e6,e7⟩:=bE c3;clear c3;obtain⟨d7,e8,H⟩:=bT H;(try dsimp only at H);replace H:=bS H;obtain⟨⟨e9,f3,f4⟩,f6,H⟩:=H;replace H:(some (e9,f3,f4,0))=some (a8,b4,b5,b6):=H;have f9:=aM f6;clear f6;obtain⟨rfl,rfl,rfl,rfl⟩:=q4 H;go_enter Tryz.func6,Tryz.ntmps6
  go_wp2_with (first|((with_reducible refine gd 2 rfl ?_);refine bx #[.bool false,.slice none 0 0,.slice none 0 0] 26 ?_;intro g4 hg g5 g6 hb;have g7:=gA w hg;have g8:=gA w hg;replace HB:=bB hb;clear hb hg)|((with_reducible refine gc 10 rfl ?_);refine gC 10 (some 6) Tryz.func10 #[.slice a6 l0.length a7] ?_;(with_reducible refine(Bzx.calls k _ _ l0 d6 _ ?_ ?_ d9.out).mono ?_);exact cB b9;exact d0.out;rintro e w' ⟨rfl,⟨nd,rfl⟩⟩;refine⟨_,rfl,?_⟩;(try(rw[drewN_self g5];generalize hq_:World.drewN g5 _=g5;have n0_:Aside0 (g5.heap[g4]?=some (.cells #[.bool false,.slice none 0 0,.slice none 0 0] 26 (0,0))):=⟨by rw[← hq_];exact(kW g6)⟩;have n1_:Aside0 (Below w.heap.size w g5):=⟨by rw[← hq_];exact pB⟩;clear g6 HB hq_;have g6:=n0_;have HB:=n1_;clear n0_ n1_;have hcqgb1055_0:g5.cell? ⟨g4,0,none⟩=some (.bool false):=(blk_cell g6.out 0).trans rfl;have hfqgb1055_0:=blk_frozen g6.out 0;have hcqgb1055_1:g5.cell? ⟨g4,1,none⟩=some (.slice none 0 0):=(blk_cell g6.out 1).trans rfl;have hfqgb1055_1:=blk_frozen g6.out 1;have hcqgb1055_2:g5.cell? ⟨g4,2,none⟩=some (.slice none 0 0):=(blk_cell g6.out 2).trans rfl;have hfqgb1055_2:=blk_frozen g6.out 2)))|((with_reducible refine gc 21 rfl ?_);refine gC 21 (some 12) Tryz.func21 #[.slice a6 l0.length a7] ?_;(with_reducible refine(Bzb.calls k _ _ l0 d7 _ ?_ ?_ e8.out).mono ?_);exact cB b9;exact d0.out;rintro e g9 ⟨j3,rfl,j4,hb⟩;refine⟨_,rfl,?_⟩;have j5:=aM (Kd.S_lower (Kd.S_newB j4 (g:=g4) (o:=.cells #[.bool false,.slice none 0 0,.slice none 0 0] 26 (0,0)) (kW g6)) (below_size pB));replace g6:=kb g6 hb;replace HB:=bB hb;clear hb j4;obtain⟨j6,j7,rfl⟩:=Kd.S_slice j5.out)|((with_reducible refine gc 20 rfl ?_);refine gC 20 (some 13) Tryz.func20 #[.slice j6 d7.length j7] ?_;(with_reducible refine(Dzf.calls k _ _ d7 e9 f3 f4 _ ?_ ?_ f9.out).mono ?_);(focus(repeat(first|exact(Kd.S_reads' j5.out).2.2|(with_reducible refine Kd.C_alloc ?_ _)|(with_reducible refine Kd.C_drewN ?_ _)|(with_reducible refine Kd.C_drew ?_))));(focus(exact(Kd.S_reads' j5.out).2.1));rintro e j8 ⟨j9,l5,rfl,j4,l6,hb⟩;refine⟨_,rfl,?_⟩;have l7:=rL j4;have l8:=rL l6;replace j5:=sO j5 hb j4 l6;replace g6:=kb g6 hb;replace HB:=bB hb;clear hb j4 l6;obtain⟨l9,m0,m3,m4,m5,m6⟩:=bk3 g6;obtain⟨m7,m8,rfl⟩:=Kd.R_slice l7.out;obtain⟨m9,n0,rfl⟩:=Kd.R_slice l8.out))
  refine bodyPost_ret (results_ct rfl _ _ g4 26 #[.bool e9,.slice m7 f3.length m8,.slice m9 f4.length n0] (0,0) _ rfl (kQ g6) Tryz.underlying26 rfl (by kernel_rfl)) rfl ?_
  exact⟨_,_,eW,by exact Kd.R_mono (rT l7 g6) (fun _ hk=>hk),by exact Kd.R_mono (rT l8 g6) (fun _ hk=>hk),pB⟩
 ·rw[if_neg c3] at H;obtain⟨e6,e7⟩:=bI c3;obtain⟨rfl,rfl,rfl,rfl⟩:=q4 H;go_enter Tryz.func6,Tryz.ntmps6
  go_wp2_with (first|((with_reducible refine gd 2 rfl ?_);refine bx #[.bool false,.slice none 0 0,.slice none 0 0] 26 ?_;intro g4 hg n6 g6 hb;have g7:=gA w hg;have g8:=gA w hg;replace HB:=bB hb;clear hb hg)|((with_reducible refine gc 10 rfl ?_);refine gC 10 (some 6) Tryz.func10 #[.slice a6 l0.length a7] ?_;(with_reducible refine(Bzx.calls k _ _ l0 d6 _ ?_ ?_ d9.out).mono ?_);exact cB b9;exact d0.out;rintro e w' ⟨rfl,⟨nd,rfl⟩⟩;refine⟨_,rfl,?_⟩;(try(rw[drewN_self n6];generalize hq_:World.drewN n6 _=n6;have n0_:Aside0 (n6.heap[g4]?=some (.cells #[.bool false,.slice none 0 0,.slice none 0 0] 26 (0,0))):=⟨by rw[← hq_];exact(kW g6)⟩;have n1_:Aside0 (Below w.heap.size w n6):=⟨by rw[← hq_];exact pB⟩;clear g6 HB hq_;have g6:=n0_;have HB:=n1_;clear n0_ n1_;have hcqgb1055_0:n6.cell? ⟨g4,0,none⟩=some (.bool false):=(blk_cell g6.out 0).trans rfl;have hfqgb1055_0:=blk_frozen g6.out 0;have hcqgb1055_1:n6.cell? ⟨g4,1,none⟩=some (.slice none 0 0):=(blk_cell g6.out 1).trans rfl;have hfqgb1055_1:=blk_frozen g6.out 1;have hcqgb1055_2:n6.cell? ⟨g4,2,none⟩=some (.slice none 0 0):=(blk_cell g6.out 2).trans rfl;have hfqgb1055_2:=blk_frozen g6.out 2));obtain⟨n7,n8,n9,o0,o8,o9⟩:=bk3 g6))
  refine bodyPost_ret (results_ct rfl _ _ g4 26 #[.bool false,.slice none 0 0,.slice none 0 0] (0,0) _ rfl (kQ g6) Tryz.underlying26 rfl (by kernel_rfl)) rfl ?_
  exact⟨_,_,eW,nK,nK,pB⟩

def Gzx.f (a0_0:Bool) (l0_1:List Int) (l0_2:List Int):Option (Bool × List Int × List Int):=if a0_0=true then(some (false,l0_1,l0_2)) else(some (decide (0 < l0_1.length),l0_1,l0_2))
theorem Gzx.calls (a6:Bool) (a7:Nat→Prop) (a8:Option Addr) (b4:Nat) (b5:List Int) (b6:Nat→Prop) (b7:Option Addr) (b8:Nat) (b9:List Int) (d0:Bool) (d6:List Int) (d7:List Int) (w:World) (d8:Kd.V (Kd.int .i64) 3 w w.heap.size (fun k_=>a7 k_) (.slice a8 b5.length b4) b5) (d9:Kd.V (Kd.int .i64) 3 w w.heap.size (fun k_=>b6 k_) (.slice b7 b9.length b8) b9) (h:Gzx.f a6 b5 b9=some (d0,d6,d7)) :
  Calls Tryz.prog 51 #[.agg #[.bool a6,.slice a8 b5.length b4,.slice b7 b9.length b8]] w fun e w'=>∃ v1_ v2_:Value,e=.returned (.agg #[.bool d0,v1_,v2_])∧Kd.V (Kd.int .i64) 3 w' w.heap.size (fun k_=>((a7 k_∨b6 k_)∨w.heap.size≤k_)) v1_ d6∧Kd.V (Kd.int .i64) 3 w' w.heap.size (fun k_=>((a7 k_∨b6 k_)∨w.heap.size≤k_)) v2_ d7∧Below w.heap.size w w':=by
 have hu26:=Tryz.underlying26;have e6:=aM (show Kd.V (Kd.int .i64) 3 w w.heap.size (fun k_=>((a7 k_∨b6 k_)∨w.heap.size≤k_)) (.slice a8 b5.length b4) b5 from Kd.V_mono d8 (fun k_ hk=>.inl (.inl hk)))
 have e7:=aM (show Kd.V (Kd.int .i64) 3 w w.heap.size (fun k_=>((a7 k_∨b6 k_)∨w.heap.size≤k_)) (.slice b7 b9.length b8) b9 from Kd.V_mono d9 (fun k_ hk=>.inl (.inr hk)))
 have HB:=aM (Below.refl w.heap.size w);have H:(if a6=true then(some (false,b5,b9)) else(some (decide (0 < b5.length),b5,b9)))=some (d0,d6,d7):=h
 clear h;by_cases c2:a6=true
 ·subst c2;rw[if_pos rfl] at H;obtain⟨rfl,rfl,rfl⟩:=q3 H;go_enter Tryz.func51,Tryz.ntmps51
  go_wp2_with (first|((with_reducible refine gd 1 rfl ?_);refine bxg #[.bool true,.slice a8 b5.length b4,.slice b7 b9.length b8] 26 ?_;intro e8 hg e9 f3 hb;have f4:=gA w hg;have f6:=gA w hg;replace e6:=vG e6 hg hb;replace e7:=vG e7 hg hb;replace HB:=bB hb;clear hb hg)|((with_reducible refine gd 2 rfl ?_);refine bxg #[.bool false,.slice none 0 0,.slice none 0 0] 26 ?_;intro f9 hg g4 g5 hb;have g6:=gA w hg;have g7:=gA w hg;have g8:=nl hg f3;have g9:=ng hg f3;replace e6:=vG e6 hg hb;replace e7:=vG e7 hg hb;replace f3:=kb f3 hb;replace HB:=bB hb;clear hb hg;have j3:=g8.out;have j4:=g9.out;obtain⟨j5,j6,j7,j8,j9,l5⟩:=bk3 f3;obtain⟨l6,l7,l8,l9,m0,m3⟩:=bk3 g5))
  refine bodyPost_ret (results_cell_row rfl _ _ f9 26 #[.bool false,.slice a8 b5.length b4,.slice b7 b9.length b8] (0,0) _ rfl (by refine bD ?_;refine blk_put (cs:=#[.bool false,.slice a8 b5.length b4,.slice none 0 0]) ?_ 2 _ rfl;refine bD ?_;refine blk_put (cs:=#[.bool false,.slice none 0 0,.slice none 0 0]) ?_ 1 _ rfl;refine bD ?_;refine blk_put (cs:=#[.bool false,.slice none 0 0,.slice none 0 0]) ?_ 0 _ rfl;refine bD ?_;refine blk_far ?_ g9.out _;(with_reducible repeat(first|refine blk_drewN ?_ _|refine blk_drew ?_|refine blk_alloc ?_ _));exact g5.out) Tryz.underlying26 rfl (by kernel_rfl)) rfl ?_
  exact⟨_,_,eW,by exact vX (Kd.V_mono (Kd.V_far (p:=⟨f9,2,none⟩) (Kd.V_far (p:=⟨f9,1,none⟩) (Kd.V_far (p:=⟨f9,0,none⟩) (Kd.V_far (p:=⟨e8,0,none⟩) (Kd.V_mono (Kd.V_mono e6.out (fun k_ hk=>(⟨hk,hk.1.2⟩:_∧k_≠e8))) (fun k_ hk=>(⟨hk,hk.1.2⟩:_∧k_≠f9))) (fun _ hk=>hk.1.2) (.bool false)) (fun _ hk=>hk.2) (.bool false)) (fun _ hk=>hk.2) (.slice a8 b5.length b4)) (fun _ hk=>hk.2) (.slice b7 b9.length b8)) (fun _ hk=>hk.1.1.1.1)),by exact vX (Kd.V_mono (Kd.V_far (p:=⟨f9,2,none⟩) (Kd.V_far (p:=⟨f9,1,none⟩) (Kd.V_far (p:=⟨f9,0,none⟩) (Kd.V_far (p:=⟨e8,0,none⟩) (Kd.V_mono (Kd.V_mono e7.out (fun k_ hk=>(⟨hk,hk.1.2⟩:_∧k_≠e8))) (fun k_ hk=>(⟨hk,hk.1.2⟩:_∧k_≠f9))) (fun _ hk=>hk.1.2) (.bool false)) (fun _ hk=>hk.2) (.bool false)) (fun _ hk=>hk.2) (.slice a8 b5.length b4)) (fun _ hk=>hk.2) (.slice b7 b9.length b8)) (fun _ hk=>hk.1.1.1.1)),pB⟩
 ·obtain rfl:=bN c2;rw[if_neg nF] at H
  obtain⟨rfl,rfl,rfl⟩:=q3 H;go_enter Tryz.func51,Tryz.ntmps51
  go_wp2_with (first|((with_reducible refine gd 1 rfl ?_);refine bxg #[.bool false,.slice a8 b5.length b4,.slice b7 b9.length b8] 26 ?_;intro e8 hg m4 f3 hb;have f4:=gA w hg;have f6:=gA w hg;replace e6:=vG e6 hg hb;replace e7:=vG e7 hg hb;replace HB:=bB hb;clear hb hg)|((with_reducible refine gd 2 rfl ?_);refine bxg #[.bool false,.slice none 0 0,.slice none 0 0] 26 ?_;intro f9 hg m5 g5 hb;have g6:=gA w hg;have g7:=gA w hg;have g8:=nl hg f3;have g9:=ng hg f3;replace e6:=vG e6 hg hb;replace e7:=vG e7 hg hb;replace f3:=kb f3 hb;replace HB:=bB hb;clear hb hg;have m6:=g8.out;have m7:=g9.out;obtain⟨m8,m9,n0,n6,n7,n8⟩:=bk3 f3;obtain⟨n9,o0,o8,o9,p0,p3⟩:=bk3 g5))
  refine bodyPost_ret (results_cell_row rfl _ _ f9 26 #[.bool (decide (0 < b5.length)),.slice a8 b5.length b4,.slice b7 b9.length b8] (0,0) _ rfl (by refine bD ?_;refine blk_put (cs:=#[.bool (decide (0 < b5.length)),.slice a8 b5.length b4,.slice none 0 0]) ?_ 2 _ rfl;refine bD ?_;refine blk_put (cs:=#[.bool (decide (0 < b5.length)),.slice none 0 0,.slice none 0 0]) ?_ 1 _ rfl;refine bD ?_;refine blk_put (cs:=#[.bool false,.slice none 0 0,.slice none 0 0]) ?_ 0 _ rfl;refine bD ?_;refine blk_far ?_ g9.out _;(with_reducible repeat(first|refine blk_drewN ?_ _|refine blk_drew ?_|refine blk_alloc ?_ _));exact g5.out) Tryz.underlying26 rfl (by kernel_rfl)) rfl ?_
  exact⟨_,_,eW,by exact vX (Kd.V_mono (Kd.V_far (p:=⟨f9,2,none⟩) (Kd.V_far (p:=⟨f9,1,none⟩) (Kd.V_far (p:=⟨f9,0,none⟩) (Kd.V_far (p:=⟨e8,0,none⟩) (Kd.V_mono (Kd.V_mono e6.out (fun k_ hk=>(⟨hk,hk.1.2⟩:_∧k_≠e8))) (fun k_ hk=>(⟨hk,hk.1.2⟩:_∧k_≠f9))) (fun _ hk=>hk.1.2) (.bool (decide (0 < b5.length)))) (fun _ hk=>hk.2) (.bool (decide (0 < b5.length)))) (fun _ hk=>hk.2) (.slice a8 b5.length b4)) (fun _ hk=>hk.2) (.slice b7 b9.length b8)) (fun _ hk=>hk.1.1.1.1)),by exact vX (Kd.V_mono (Kd.V_far (p:=⟨f9,2,none⟩) (Kd.V_far (p:=⟨f9,1,none⟩) (Kd.V_far (p:=⟨f9,0,none⟩) (Kd.V_far (p:=⟨e8,0,none⟩) (Kd.V_mono (Kd.V_mono e7.out (fun k_ hk=>(⟨hk,hk.1.2⟩:_∧k_≠e8))) (fun k_ hk=>(⟨hk,hk.1.2⟩:_∧k_≠f9))) (fun _ hk=>hk.1.2) (.bool (decide (0 < b5.length)))) (fun _ hk=>hk.2) (.bool (decide (0 < b5.length)))) (fun _ hk=>hk.2) (.slice a8 b5.length b4)) (fun _ hk=>hk.2) (.slice b7 b9.length b8)) (fun _ hk=>hk.1.1.1.1)),pB⟩


def Czz.j0:Nat→Bool→Bool→List Int→List Int→Bool→List Int→List Int→Option (Bool × List Int × List Int × Int)
 | 0,_,_,_,_,_,_,_=>none
 | k+1,x13,x1070000,x1070001,x1070002,x1071000,x1071001,x1071002=>if x13=true then(some (false,([]:List Int),([]:List Int),3)) else((Gzx.f x1071000 x1071001 x1071002).bind fun bt1074=>((Bzq.f k x1070000 x1070001 x1070002 bt1074.1 bt1074.2.1 bt1074.2.2).bind fun bt1081=>(some (bt1081.1,bt1081.2.1,bt1081.2.2.1,bt1081.2.2.2))))
def Czz.f (k:Nat) (a0_0:Bool) (l0_1:List Int) (l0_2:List Int) (a1_0:Bool) (l1_1:List Int) (l1_2:List Int):Option (Bool × List Int × List Int × Int):=(Azq.f k a0_0 l0_1 l0_2).bind fun t1072=>(if t1072=true then((Azq.f k a1_0 l1_1 l1_2).bind fun t1073=>(Czz.j0 k (!t1073) a0_0 l0_1 l0_2 a1_0 l1_1 l1_2)) else(Czz.j0 k true a0_0 l0_1 l0_2 a1_0 l1_1 l1_2))
theorem Czz.mono_l:∀ k,(∀ a6 a7 a8 b4 b5 b6 b7,LeO (Czz.j0 k a6 a7 a8 b4 b5 b6 b7) (Czz.j0 (k+1) a6 a7 a8 b4 b5 b6 b7))
 | 0=>fun _ _ _ _ _ _ _ r h=>by simp [Czz.j0] at h
 | k+1=>by
  have ih0:=Czz.mono_l k
  ·intro a6 a7 a8 b4 b5 b6 b7;unfold Czz.j0;have i0:=@Bzq.mono;have i1:=@Azq.mono;exact mM
theorem Czz.mono:∀ a6 a7 a8 b4 b5 b6 k,LeO (Czz.f k a6 a7 a8 b4 b5 b6) (Czz.f (k+1) a6 a7 a8 b4 b5 b6):=by
 intro a6 a7 a8 b4 b5 b6 k;have ih0:=Czz.mono_l k;unfold Czz.f;have i0:=@Bzq.mono;have i1:=@Azq.mono;exact mM
def Czz.T3:Bool × List (List Nat × List Nat):=(true,[([],[]),([],[]),([1],[1]),([0,2,2],[0,2]),([3],[3]),([3],[3]),([4,3,0,1,2,3,4,5],[4]),([5,6,0,1,2,3,4,5,6],[5])])
def Czz.B3:List Nat:=[0,0,2,7,15,15,63,127]
theorem Czz.tab3:rtab .any (opsOf Tryz.f27 3)=Czz.T3:=by kernel_rfl
theorem Czz.bits3:waitsOk Czz.T3.2 Czz.B3=true:=by kernel_rfl
theorem Czz.calls (k:Nat) (a6:Bool) (a7:Option Addr) (a8:Nat) (b4:List Int) (b5:Option Addr) (b6:Nat) (b7:List Int) (b8:Bool) (b9:Option Addr) (d0:Nat) (d6:List Int) (d7:Option Addr) (d8:Nat) (d9:List Int) (e6:Bool) (e7:List Int) (e8:List Int) (e9:Int) (w:World) (f3:Kd.C (Kd.int .i64) w a7 b4.length b4) (f4:b4.length≤a8) (f6:Kd.C (Kd.int .i64) w b5 b7.length b7) (f9:b7.length≤b6) (g4:Kd.C (Kd.int .i64) w b9 d6.length d6) (g5:d6.length≤d0) (g6:Kd.C (Kd.int .i64) w d7 d9.length d9) (g7:d9.length≤d8) (h:Czz.f k a6 b4 b7 b8 d6 d9=some (e6,e7,e8,e9)) :
  Calls Tryz.prog 27 #[.agg #[.bool a6,.slice a7 b4.length a8,.slice b5 b7.length b6],.agg #[.bool b8,.slice b9 d6.length d0,.slice d7 d9.length d8]] w fun e w'=>∃ v1_ v2_:Value,e=.returned (.tuple #[.agg #[.bool e6,v1_,v2_],.int .i64 e9])∧Kd.R (Kd.int .i64) 3 w' w.heap.size (fun k_=>some k_≠(v2_:Value).ownBlock) v1_ e7∧Kd.R (Kd.int .i64) 3 w' w.heap.size (fun k_=>some k_≠(v1_:Value).ownBlock) v2_ e8∧Below w.heap.size w w':=by
 have hu26:=Tryz.underlying26;have g8:=aM f3;have g9:=aM f4;clear f3 f4;have j3:=aM f6;have j4:=aM f9;clear f6 f9;have j5:=aM g4;have j6:=aM g5;clear g4 g5;have j7:=aM g6;have j8:=aM g7;clear g6 g7;have HB:=aM (Below.refl w.heap.size w);have H:((Azq.f k a6 b4 b7).bind fun j9=>(if j9=true then((Azq.f k b8 d6 d9).bind fun l5=>(Czz.j0 k (!l5) a6 b4 b7 b8 d6 d9)) else(Czz.j0 k true a6 b4 b7 b8 d6 d9)))=some (e6,e7,e8,e9):=h
 clear h;have l6:=aM H;clear H;go_enter Tryz.func27,Tryz.ntmps27
 go_upto_region 1 with (first|((with_reducible refine gd 2 rfl ?_);refine bx #[.bool a6,.slice a7 b4.length a8,.slice b5 b7.length b6] 26 ?_;intro l7 hg l8 l9 hb;have m0:=gA w hg;have m3:=gA w hg;replace HB:=bB hb;clear hb hg)|((with_reducible refine gd 3 rfl ?_);refine bx #[.bool b8,.slice b9 d6.length d0,.slice d7 d9.length d8] 26 ?_;intro m4 hg m5 m6 hb;have m7:=gA w hg;have m8:=gA w hg;have m9:=nl hg l9;have n0:=ng hg l9;replace l9:=kb l9 hb;replace HB:=bB hb;clear hb hg)|((with_reducible refine gd 4 rfl ?_);refine bx #[.bool false,.slice none 0 0,.slice none 0 0] 26 ?_;intro n6 hg n7 n8 hb;have n9:=gA w hg;have o0:=gA w hg;have o8:=nl hg l9;have o9:=ng hg l9;have p0:=nl hg m6;have p3:=ng hg m6;replace l9:=kb l9 hb;replace m6:=kb m6 hb;replace HB:=bB hb;clear hb hg))
 (try simp only[Act.put,sA,sZ,sC])
 go_cut [13] (fun p4 wc=>∃ (kq:Nat) (p5:Bool),p4=.bool p5∧Aside0 (Czz.j0 kq p5 a6 b4 b7 b8 d6 d9=some (e6,e7,e8,e9))∧Aside0 (kq≤k)∧Aside0 (wc.heap[l7]?=some (.cells #[.bool a6,(.slice a7 b4.length a8),(.slice b5 b7.length b6)] 26 (0,0)))∧Aside0 (wc.heap[m4]?=some (.cells #[.bool b8,(.slice b9 d6.length d0),(.slice d7 d9.length d8)] 26 (0,0)))∧Aside0 (wc.heap[n6]?=some (.cells #[.bool false,(.slice none 0 0),(.slice none 0 0)] 26 (0,0)))∧Aside0 (Below w.heap.size w wc))
 case first =>
  have H:=l6.out;clear l6;obtain⟨j9,r5,H⟩:=bT H;(try dsimp only at H);by_cases c8:j9=true
  ·subst c8;rw[if_pos rfl] at H;obtain⟨l5,r6,H⟩:=bT H;(try dsimp only at H);have H':=aM H;clear H;have r7:=m9.out;have r8:=n0.out;have r9:=o8.out;have t6:=o9.out;obtain⟨t7,t8,z1,z2,z6,z7⟩:=bk3 l9;go_wp2_with (first|((with_reducible refine gc 49 rfl ?_);refine gC 49 (some 7) Tryz.func49 #[.agg #[.bool a6,.slice a7 b4.length a8,.slice b5 b7.length b6]] ?_;(with_reducible refine(Azq.calls k a6 _ _ b4 _ _ b7 true _ ?_ ?_ ?_ ?_ r5.out).mono ?_);exact cB g8;exact g9.out;exact cB j3;exact j4.out;rintro e z8 ⟨rfl,hb⟩;refine⟨_,rfl,?_⟩;replace l9:=kb l9 hb;replace m6:=kb m6 hb;replace n8:=kb n8 hb;replace HB:=bB hb;clear hb;have B0:=p0.out;have B5:=p3.out;obtain⟨B6,B8,B9,C0,C1,C2⟩:=bk3 m6)|(go_at_call 49;(with_reducible refine(Azq.calls k b8 _ _ d6 _ _ d9 l5 _ ?_ ?_ ?_ ?_ r6.out).mono ?_);exact cB j5;exact j6.out;exact cB j7;exact j8.out;rintro e C3 ⟨rfl,hb⟩;replace l9:=kb l9 hb;replace m6:=kb m6 hb;replace n8:=kb n8 hb;replace HB:=bB hb;clear hb))
   go_meet
   case rel=>exact⟨_,(!l5),sD,H',⟨by first|omega|exact Nat.le_refl _⟩,⟨by exact kW l9⟩,⟨by exact kW m6⟩,⟨by exact kW n8⟩,⟨pB⟩⟩
  ·obtain rfl:=bN c8;rw[if_neg nF] at H
   have H':=aM H;clear H;have C4:=m9.out;have C6:=n0.out;have C7:=o8.out;have C8:=o9.out;obtain⟨C9,D0,D1,D2,D3,D4⟩:=bk3 l9;go_wp2_with (first|((with_reducible refine gc 49 rfl ?_);refine gC 49 (some 7) Tryz.func49 #[.agg #[.bool a6,.slice a7 b4.length a8,.slice b5 b7.length b6]] ?_;(with_reducible refine(Azq.calls k a6 _ _ b4 _ _ b7 false _ ?_ ?_ ?_ ?_ r5.out).mono ?_);exact cB g8;exact g9.out;exact cB j3;exact j4.out;rintro e D5 ⟨rfl,hb⟩;refine⟨_,rfl,?_⟩;replace l9:=kb l9 hb;replace m6:=kb m6 hb;replace n8:=kb n8 hb;replace HB:=bB hb;clear hb))
   go_meet
   case rel=>exact⟨_,(true),sD,H',⟨by first|omega|exact Nat.le_refl _⟩,⟨by exact kW l9⟩,⟨by exact kW m6⟩,⟨by exact kW n8⟩,⟨pB⟩⟩
 case rest =>
  clear l6;try clear D6
  obtain⟨kq,p5,rfl,HA,D7,l9,m6,n8,HB⟩:=hcut;cases kq with
  | zero=>exact absurd HA.out (by simp [Czz.j0])
  | succ D8 =>
   have H:=HA.out;clear HA;simp only[Czz.j0] at H;by_cases D9:p5=true
   ·subst D9;rw[if_pos rfl] at H;obtain⟨rfl,rfl,rfl,rfl⟩:=q4 H;have E0:=o9.out;have E1:=o8.out;have E2:=p3.out;have E3:=p0.out;obtain⟨E4,E5,E6,E7,E8,E9⟩:=bk3 n8;go_wp2
    refine bodyPost_ret (results_ct rfl _ _ n6 26 #[.bool false,.slice none 0 0,.slice none 0 0] (0,0) _ rfl (kQ n8) Tryz.underlying26 rfl (by kernel_rfl)) rfl ?_
    exact⟨_,_,eW,nK,nK,pB⟩
   ·obtain rfl:=bN D9;rw[if_neg nF] at H
    obtain⟨⟨F0,F1,F2⟩,F3,H⟩:=bT H;(try dsimp only at H);replace H:=bS H;obtain⟨⟨F4,F5,F6,F7⟩,F8,H⟩:=H;replace H:(some (F4,F5,F6,F7))=some (e6,e7,e8,e9):=H;have F9:=aM F8;clear F8;obtain⟨rfl,rfl,rfl,rfl⟩:=q4 H;try go_wp2
    have n0_:=aM (blk_drew l9.out);have n1_:=aM (blk_drew m6.out);have n2_:=aM (blk_drew n8.out);have n3_:=aM (below_drew1 HB.out);clear l9 m6 n8 HB;have l9:=n0_;have m6:=n1_;have n8:=n2_;have HB:=n3_;clear n0_ n1_ n2_ n3_;refine start_ (n:=8) (S:=fun w'=>w'.cell? ⟨l7,0,none⟩=some (.bool a6)∧w'.cell? ⟨l7,1,none⟩=some (.slice a7 b4.length a8)∧w'.cell? ⟨l7,2,none⟩=some (.slice b5 b7.length b6)∧w'.cell? ⟨m4,0,none⟩=some (.bool b8)∧w'.cell? ⟨m4,1,none⟩=some (.slice b9 d6.length d0)∧w'.cell? ⟨m4,2,none⟩=some (.slice d7 d9.length d8)) (ds:=[]) (bA 8 0) (by kernel_rfl) rfl rfl ⟨(blk_cell l9.out 0).trans rfl,(blk_cell l9.out 1).trans rfl,(blk_cell l9.out 2).trans rfl,(blk_cell m6.out 0).trans rfl,(blk_cell m6.out 1).trans rfl,(blk_cell m6.out 2).trans rfl⟩ (fun hHeld=>?_);refine with_tabW Czz.tab3 Czz.bits3 (fun HT_ HW_=>?_)
    generalize wc.drew=G0 at l9 m6 n8 HB hHeld ⊢;refine tU 0 15 HT_ HW_ hHeld ?_;refine tU 1 16 HT_ HW_ hHeld ?_;refine oU 2 (some 17) HT_ fun K hK=>?_
    refine goes_ Tryz.func51 (by kernel_rfl) rfl #[.agg #[.bool b8,.slice b9 d6.length d0,.slice d7 d9.length d8]] (by rfl) rfl rfl mA ?_
    with_reducible refine(Gzx.calls b8 (fun k_=>k_ < w.heap.size) _ _ d6 (fun k_=>k_ < w.heap.size) _ _ d9 F0 F1 F2 _ ?side1 ?side2 F3.out).mono ?_
    (case side1=>exact Kd.V_mk j6.out (Kd.F_below (Kd.C_F (Kd.heap_int .i64) j5.out) pB))
    (case side2=>exact Kd.V_mk j8.out (Kd.F_below (Kd.C_F (Kd.heap_int .i64) j7.out) pB))
    rintro e G4 ⟨G5,G6,rfl,G7,G8,hb⟩;refine⟨_,rfl,?_⟩;have n0_:=vL (ok':=fun k_=>k_≠l7∧k_≠m4∧k_≠n6) G7 (fun k_ hk_=>⟨Or.elim hk_ (fun hs_=>Or.elim hs_ (fun hs_=>fun e_=>Nat.not_le.2 hs_ (by rw[e_];exact m0.out)) (fun hs_=>fun e_=>Nat.not_le.2 hs_ (by rw[e_];exact m0.out))) (fun hn_=>(fB l9 hn_)),Or.elim hk_ (fun hs_=>Or.elim hs_ (fun hs_=>fun e_=>Nat.not_le.2 hs_ (by rw[e_];exact m7.out)) (fun hs_=>fun e_=>Nat.not_le.2 hs_ (by rw[e_];exact m7.out))) (fun hn_=>(fB m6 hn_)),Or.elim hk_ (fun hs_=>Or.elim hs_ (fun hs_=>fun e_=>Nat.not_le.2 hs_ (by rw[e_];exact n9.out)) (fun hs_=>fun e_=>Nat.not_le.2 hs_ (by rw[e_];exact n9.out))) (fun hn_=>(fB n8 hn_))⟩)
    have n1_:=vL (ok':=fun k_=>k_≠l7∧k_≠m4∧k_≠n6) G8 (fun k_ hk_=>⟨Or.elim hk_ (fun hs_=>Or.elim hs_ (fun hs_=>fun e_=>Nat.not_le.2 hs_ (by rw[e_];exact m0.out)) (fun hs_=>fun e_=>Nat.not_le.2 hs_ (by rw[e_];exact m0.out))) (fun hn_=>(fB l9 hn_)),Or.elim hk_ (fun hs_=>Or.elim hs_ (fun hs_=>fun e_=>Nat.not_le.2 hs_ (by rw[e_];exact m7.out)) (fun hs_=>fun e_=>Nat.not_le.2 hs_ (by rw[e_];exact m7.out))) (fun hn_=>(fB m6 hn_)),Or.elim hk_ (fun hs_=>Or.elim hs_ (fun hs_=>fun e_=>Nat.not_le.2 hs_ (by rw[e_];exact n9.out)) (fun hs_=>fun e_=>Nat.not_le.2 hs_ (by rw[e_];exact n9.out))) (fun hn_=>(fB n8 hn_))⟩)
    have n2_:=kb l9 hb;have n3_:=kb m6 hb;have n4_:=kb n8 hb;have n5_:=bB hb;clear l9 m6 n8 HB;have G9:=n0_;have H5:=n1_;have l9:=n2_;have m6:=n3_;have n8:=n4_;have HB:=n5_;clear n0_ n1_ n2_ n3_ n4_ n5_;(try clear hb)
    (try clear H6)
    (try clear hk)
    (try clear hi)
    (try clear G7)
    (try clear G8)
    obtain⟨H7,H8,H9⟩:=Kd.V_slice G9.out;(first|subst H9|(injection H9 with f1_ f2_ f3_;have f4_:=f1_.symm;have f5_:=f3_.symm;clear f1_ f2_ f3_;subst f4_;subst f5_))
    obtain⟨I0,I1,I2⟩:=Kd.V_slice H5.out;(first|subst I2|(injection I2 with f1_ f2_ f3_;have f4_:=f1_.symm;have f5_:=f3_.symm;clear f1_ f2_ f3_;subst f4_;subst f5_))
    refine hK.out _ _ ⟨(blk_cell l9.out 0).trans rfl,(blk_cell l9.out 1).trans rfl,(blk_cell l9.out 2).trans rfl,(blk_cell m6.out 0).trans rfl,(blk_cell m6.out 1).trans rfl,(blk_cell m6.out 2).trans rfl⟩ (fun hHeld=>?_)
    clear hK K;refine nm 17 ?_;refine oU 3 (some 18) HT_ fun K hK=>?_
    refine goes_ Tryz.func50 (by kernel_rfl) rfl #[.agg #[.bool a6,.slice a7 b4.length a8,.slice b5 b7.length b6],.agg #[.bool F0,.slice H7 F1.length H8,.slice I0 F2.length I1]] (by rfl) rfl rfl mA ?_
    with_reducible refine(Bzq.calls D8 a6 _ _ b4 _ _ b7 F0 _ _ F1 _ _ F2 F4 F5 F6 F7 _ ?side1 ?side2 ?side3 ?side4 ?side5 ?side6 ?side7 ?side8 F9.out).mono ?_
    (case side1=>exact cB g8)
    (case side2=>exact g9.out)
    (case side3=>exact cB j3)
    (case side4=>exact j4.out)
    (case side5=>exact cV G9)
    (case side6=>exact lV G9)
    (case side7=>exact cV H5)
    (case side8=>exact lV H5)
    rintro e I3 ⟨I4,I5,rfl,G7,G8,hb⟩;refine⟨_,rfl,?_⟩;have n0_:=vO G9 hb G7 G8
    have n1_:=vO H5 hb G7 G8
    have n2_:=rL G7;have n3_:=rL G8;have n4_:=kb l9 hb;have n5_:=kb m6 hb;have n6_:=kb n8 hb;have n7_:=bB hb;clear G9 H5 l9 m6 n8 HB;have G9:=n0_;have H5:=n1_;have I6:=n2_;have I7:=n3_;have l9:=n4_;have m6:=n5_;have n8:=n6_;have HB:=n7_;clear n0_ n1_ n2_ n3_ n4_ n5_ n6_ n7_;(try clear hb)
    (try clear H6)
    (try clear hk)
    (try clear hi)
    (try clear G7)
    (try clear G8)
    obtain⟨I8,I9,J0⟩:=Kd.R_slice I6.out;(first|subst J0|(injection J0 with f1_ f2_ f3_;have f4_:=f1_.symm;have f5_:=f3_.symm;clear f1_ f2_ f3_;subst f4_;subst f5_))
    obtain⟨J1,J2,J3⟩:=Kd.R_slice I7.out;(first|subst J3|(injection J3 with f1_ f2_ f3_;have f4_:=f1_.symm;have f5_:=f3_.symm;clear f1_ f2_ f3_;subst f4_;subst f5_))
    refine hK.out _ _ ⟨(blk_cell l9.out 0).trans rfl,(blk_cell l9.out 1).trans rfl,(blk_cell l9.out 2).trans rfl,(blk_cell m6.out 0).trans rfl,(blk_cell m6.out 1).trans rfl,(blk_cell m6.out 2).trans rfl⟩ (fun hHeld=>?_)
    clear hK K;refine nm 18 ?_;refine pS 4 19 HT_ ?_;refine pS 5 20 HT_ ?_;refine oU 6 none HT_ fun K hK=>?_
    have J4:I3.cell? ⟨n6,0,none⟩=some (.bool false):=(blk_cell n8.out 0).trans rfl;have hfs32:=blk_frozen n8.out 0;have hns32_0:=o8.out;have hns32_1:=p0.out;have hms32_0:=o9.out;have hms32_1:=p3.out;have J5:I3.cell? ⟨n6,1,none⟩=some (.slice none 0 0):=(blk_cell n8.out 1).trans rfl;have hfs34:=blk_frozen n8.out 1;have hns34_0:=o8.out;have hns34_1:=p0.out;have hms34_0:=o9.out;have hms34_1:=p3.out;have J6:I3.cell? ⟨n6,2,none⟩=some (.slice none 0 0):=(blk_cell n8.out 2).trans rfl;have hfs36:=blk_frozen n8.out 2;have hns36_0:=o8.out;have hns36_1:=p0.out;have hms36_0:=o9.out;have hms36_1:=p3.out;refine skip_ (w1:=?_) (by rfl) rfl ?_ ?_
    rotate_left
    ·go_simp
     rfl
    refine hK.out _ _ ⟨((cell_far (p:=⟨n6,_,none⟩) o8.out _).trans (((cell_far (p:=⟨n6,_,none⟩) o8.out _).trans (((cell_far (p:=⟨n6,_,none⟩) o8.out _).trans (hHeld.1)))))),((cell_far (p:=⟨n6,_,none⟩) o8.out _).trans (((cell_far (p:=⟨n6,_,none⟩) o8.out _).trans (((cell_far (p:=⟨n6,_,none⟩) o8.out _).trans (hHeld.2.1)))))),((cell_far (p:=⟨n6,_,none⟩) o8.out _).trans (((cell_far (p:=⟨n6,_,none⟩) o8.out _).trans (((cell_far (p:=⟨n6,_,none⟩) o8.out _).trans (hHeld.2.2.1)))))),((cell_far (p:=⟨n6,_,none⟩) p0.out _).trans (((cell_far (p:=⟨n6,_,none⟩) p0.out _).trans (((cell_far (p:=⟨n6,_,none⟩) p0.out _).trans (hHeld.2.2.2.1)))))),((cell_far (p:=⟨n6,_,none⟩) p0.out _).trans (((cell_far (p:=⟨n6,_,none⟩) p0.out _).trans (((cell_far (p:=⟨n6,_,none⟩) p0.out _).trans (hHeld.2.2.2.2.1)))))),((cell_far (p:=⟨n6,_,none⟩) p0.out _).trans (((cell_far (p:=⟨n6,_,none⟩) p0.out _).trans (((cell_far (p:=⟨n6,_,none⟩) p0.out _).trans (hHeld.2.2.2.2.2))))))⟩ (fun hHeld=>?_)
    clear hK K;refine pS 7 5 HT_ ?_;refine done_ (done_of HT_.out (by kernel_rfl)) ?_
    try go_wp2
    refine bodyPost_ret (results_ct rfl _ _ n6 26 #[.bool F4,.slice I8 F5.length I9,.slice J1 F6.length J2] (0,0) _ rfl (kQ n8) Tryz.underlying26 rfl (by kernel_rfl)) rfl ?_
    exact⟨_,_,eW,by exact Kd.R_mono (rT I6 n8) (fun _ hk=>hk),by exact Kd.R_mono (rT I7 n8) (fun _ hk=>hk),pB⟩

end Go.Proofs.YtokkiljkgejnhaaGreat.Print
