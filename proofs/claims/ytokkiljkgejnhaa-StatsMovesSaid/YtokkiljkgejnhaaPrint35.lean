import Derived.Test.YtokkiljkgejnhaaPrint0
import Derived.Test.YtokkiljkgejnhaaPrint25
import Derived.Test.YtokkiljkgejnhaaPrint27
import Derived.Test.YtokkiljkgejnhaaPrint28
import Derived.Test.YtokkiljkgejnhaaPrint32
namespace Go.Proofs.Ytokkiljkgejnhaa.Print
open Go.RowKit Go.Proofs.YtokkiljkgejnhaaW.PrintWords Go.Proofs.YtokkiljkgejnhaaW.PrintLast Go.Proofs.YtokkiljkgejnhaaW.PrintMore
attribute [local go_sem] max2_int min2_int max_two min_two max_three min_three max_four min_four
set_option linter.unusedVariables false
set_option maxRecDepth 100000
set_option maxHeartbeats 8000000
set_option linter.unusedSimpArgs false

/-- What the last step of Add computes: the sign,the sum,the error. -/
def Ezb.f (k:Nat) (na nb:Bool) (x y:List Int):Option (Bool × List Int × Int) :=
 if na=nb then(Czp.f k x y).bind fun t=>some (na,t.1,t.2) else(Fzj.f k x y).bind fun c=>if c.1 < 0 then(Czk.f k y x).bind fun t=>some (nb,t.1,t.2) else(Czk.f k x y).bind fun t=>some (na,t.1,t.2)
theorem Ezb.mono:∀ a6 a7 a8 b4 k,LeO (Ezb.f k a6 a7 a8 b4) (Ezb.f (k+1) a6 a7 a8 b4):=by
 intro a6 a7 a8 b4 k;unfold Ezb.f;exact LeO.ite (LeO.bind (Czp.mono _ _ k) (fun _=>LeO.refl _)) (LeO.bind (Fzj.mono _ _ k) (fun _=>LeO.ite (LeO.bind (Czk.mono _ _ k) (fun _=>LeO.refl _)) (LeO.bind (Czk.mono _ _ k) (fun _=>LeO.refl _))))
def AddS (gx gy gs gn:Nat):Nat→Prop:=fun k_=>k_=gx∨k_=gy∨k_=gs∨k_=gn
theorem Ezb.calls (k B:Nat) (ga gb gx gy gs gn:Nat) (na nb:Bool) (ua1 ua2 ub1 ub2:Value) (Ax:Option Addr) (cx:Nat) (x:List Int) (Ay:Option Addr) (cy:Nat) (y:List Int) (vs:Value) (a6:Bool) (a7:List Int) (a8:Int) (b4 w:World) (hB:Below B b4 w)
  (ha:w.heap[ga]?=some (.cells #[.bool na,ua1,ua2] 38 (0,0))) (hb:w.heap[gb]?=some (.cells #[.bool nb,ub1,ub2] 38 (0,0))) (hx:w.heap[gx]?=some (.cells #[.slice Ax x.length cx] 36 (0,0))) (hy:w.heap[gy]?=some (.cells #[.slice Ay y.length cy] 36 (0,0))) (hs:w.heap[gs]?=some (.cells #[vs] 36 (0,0))) (hn:w.heap[gn]?=some (.cells #[.bool na] 4 (0,0)))
  (nxy:gx≠gy) (nsx:gs≠gx) (nsy:gs≠gy) (bx:B≤gx) (bY:B≤gy) (bs:B≤gs) (bn:B≤gn)
  (hrx:∀ W_,Kept w W_ (AddS gx gy gs gn)→Kd.C (Kd.int .i64) W_ Ax x.length x) (hcx:x.length≤cx) (hry:∀ W_,Kept w W_ (AddS gx gy gs gn)→Kd.C (Kd.int .i64) W_ Ay y.length y) (hcy:y.length≤cy) (h:Ezb.f k na nb x y=some (a6,a7,a8)) :
  Calls Try.prog 50 #[.pointer (some ⟨ga,0,none⟩),.pointer (some ⟨gb,0,none⟩),.pointer (some ⟨gx,0,none⟩),.pointer (some ⟨gy,0,none⟩),.pointer (some ⟨gs,0,none⟩),.pointer (some ⟨gn,0,none⟩)] w fun e W'=>∃ v:Value,e=.returned (.int .i64 a8)∧W'.heap[gn]?=some (.cells #[.bool a6] 4 (0,0))∧W'.heap[gs]?=some (.cells #[v] 36 (0,0))∧Kd.R (Kd.int .i64) 3 W' w.heap.size (fun _=>True) v a7∧Kept w W' (AddS gx gy gs gn)∧Below B b4 W':=by
 have nsn:=blk_ne hs hn (by decide)
 have nxn:=blk_ne hx hn (by decide)
 have nyn:=blk_ne hy hn (by decide)
 have nas:=blk_ne ha hs (by decide)
 have nbs:=blk_ne hb hs (by decide)
 have nbx:=blk_ne hb hx (by decide)
 have nby:=blk_ne hb hy (by decide)
 have lx:=blk_lt hx;have ly:=blk_lt hy;have ls:=blk_lt hs;have ln:=blk_lt hn;have HBB:=aM hB;have HX:=aM hx;have HY:=aM hy;have HS:=aM hs;have HN:=aM hn;have HA:=aM ha;have HBb:=aM hb;have HRX:=aM hrx;have HRY:=aM hry;have HCX:=aM hcx;have HCY:=aM hcy;obtain⟨hczA_0,hczA_1,hczA_2,hfzA_0,hfzA_1,hfzA_2⟩:=bk3 HA;obtain⟨hczB_0,hczB_1,hczB_2,hfzB_0,hfzB_1,hfzB_2⟩:=bk3 HBb;obtain⟨hczX,hfzX⟩:=bk1 HX;obtain⟨hczY,hfzY⟩:=bk1 HY;obtain⟨hczS,hfzS⟩:=bk1 HS;obtain⟨hczN,hfzN⟩:=bk1 HN;clear hB hx hy hs hn ha hb hrx hry hcx hcy;have HKK:=aM (Kept.refl w (AddS gx gy gs gn));unfold Ezb.f at h;by_cases b5:na=nb
 ·subst b5;rw[if_pos rfl,Option.bind_eq_some_iff] at h;obtain⟨⟨t,b6⟩,ht,h⟩:=h;simp only[Option.some.injEq,Prod.mk.injEq] at h;obtain⟨rfl,rfl,rfl⟩:=h;have HT:=aM ht;clear ht;have b7:(na == na)=true:=by simp
  go_enter Try.func50,Try.ntmps50
  go_wp2_with (first|((with_reducible refine gc 51 rfl ?_);refine gC 51 (some 18) Try.func51 #[.slice Ax x.length cx,.slice Ay y.length cy] ?_;(with_reducible refine(Czp.calls k _ _ x _ _ y t b6 _ ?_ ?_ ?_ ?_ HT.out).mono ?_);exact HRX.out _ HKK.out;exact HCX.out;exact HRY.out _ HKK.out;exact HCY.out;rintro e b8 ⟨b9,rfl,d0,hb⟩;refine⟨_,rfl,?_⟩;obtain⟨Ao_,co_,eo_⟩:=Kd.R_slice d0;subst eo_;have HO:=aM d0;have HS1:=kb HS hb;have HN1:=kb HN hb;obtain⟨hczS1,hfzS1⟩:=bk1 HS1;have d6:=aM hb;clear hb d0))
  go_ret
  refine⟨_,rfl,blk_far (p:=⟨gs,0,none⟩) HN1.out (Ne.symm nsn) _,blk_put HS1.out 0 _ rfl,?_,kept_far d6.out (Nat.le_refl _) (.inr (.inr (.inl rfl))) _,below_far HBB.out (Nat.le_trans bs (Nat.le_of_lt ls)) d6.out bs _⟩;exact Kd.R_mono (Kd.R_far (p:=⟨gs,0,none⟩) (ok:=fun k_=>w.heap.size≤k_) (Kd.R_reok rfl HO.out (fun k_ hk_=>Kd.R_base HO.out k_ hk_)) (fun k_ hk_ e_=>by have e_:k_=gs:=e_;omega) _) (fun _ _=>trivial)
 ·rw[if_neg b5,Option.bind_eq_some_iff] at h;obtain⟨⟨cv,ce⟩,hcv,h⟩:=h;by_cases d7:cv < 0
  ·rw[if_pos d7,Option.bind_eq_some_iff] at h;obtain⟨⟨t,b6⟩,ht,h⟩:=h;simp only[Option.some.injEq,Prod.mk.injEq] at h;obtain⟨rfl,rfl,rfl⟩:=h;have HT:=aM ht;have HCV:=aM hcv;clear ht hcv;have b7:(na == nb)=false:=by simpa using b5
   have d8:decide (cv < 0)=true:=dE d7;go_enter Try.func50,Try.ntmps50
   go_wp2_with (first|((with_reducible refine gc 52 rfl ?_);refine gC 52 (some 25) Try.func52 #[.slice Ax x.length cx,.slice Ay y.length cy] ?_;(with_reducible refine(Fzj.calls k _ _ x _ _ y cv ce _ ?_ ?_ ?_ ?_ HCV.out).mono ?_);exact HRX.out _ HKK.out;exact HCX.out;exact HRY.out _ HKK.out;exact HCY.out;rintro e d9 ⟨rfl,e6⟩;have hb:=e6.below;clear e6;refine⟨_,rfl,?_⟩;replace HA:=kb HA hb;replace HBb:=kb HBb hb;replace HX:=kb HX hb;replace HY:=kb HY hb;replace HS:=kb HS hb;replace HN:=kb HN hb;replace HKK:=aM (kept_trans HKK.out (show Kept _ d9 (AddS gx gy gs gn) from⟨hb.size,fun i hi _=>hb.block i hi⟩));replace HBB:=aM (HBB.out.trans (hb.mono (Nat.le_trans bs (Nat.le_of_lt ls))));have HLE:=aM hb.size;clear hczX hczY hfzX hfzY hczS hfzS hczN hfzN;obtain⟨hczX,hfzX⟩:=bk1 HX;obtain⟨hczY,hfzY⟩:=bk1 HY;clear hb))
   have HXd:=aM (blk_drew HX.out);have HYd:=aM (blk_drew HY.out);have HSd:=aM (blk_drew HS.out);have HNd:=aM (blk_drew HN.out);have HBd:=aM (blk_drew HBb.out);have HKd:=aM (show Kept w d9.drew (AddS gx gy gs gn) from HKK.out)
   have HBBd:=aM (below_drew1 HBB.out);have HLd:=aM (show w.heap.size≤d9.drew.heap.size from HLE.out)
   refine start_ (n:=7) (S:=fun W=>W.cell? ⟨gb,0,none⟩=some (.bool nb)) (ds:=[]) (bA 7 0) (by kernel_rfl) rfl rfl ((blk_cell HBd.out 0).trans rfl) (fun hHeld=>?_)
   clear HX HY HS HN HBb HKK HBB HLE hczX hfzX hczY hfzY;generalize d9.drew=wd at HXd HYd HSd HNd HBd HKd HBBd HLd hHeld ⊢;obtain⟨hczX,hfzX⟩:=bk1 HXd;obtain⟨hczY,hfzY⟩:=bk1 HYd;obtain⟨hczN,hfzN⟩:=bk1 HNd;refine pure_ (i:=2) (N:=some 32) (v:=?_) (a':=?_) (bA 7 4) rfl rfl (by kernel_rfl) (fun _ _ _ h=>h) (Or.inl ⟨by rfl,?_⟩) ?_ ?_
   rotate_left
   ·intro w';go_simp
    with_reducible rfl
   rotate_left
   ·simp only[Act.put,sA,sZ,sC,i64_w,i32_w];rfl
   refine take_ (i:=3) (N:=some 33) (v:=?_) (a':=?_) (bA 7 12) rfl rfl (by kernel_rfl) (fun _ _ _ h=>h) (Or.inl ⟨by rfl,?_⟩) hHeld ?_ ?_
   rotate_left
   ·intro w' e7;go_simp
    with_reducible rfl
   rotate_left
   ·simp only[Act.put,sA,sZ,sC,i64_w,i32_w];rfl
   refine two_ (i:=0) (j:=1) (Ni:=some 30) (Nj:=some 31) (bA 7 13) (bA 7 14) rfl rfl rfl rfl (by kernel_rfl) (by decide) (by decide) (fun K hK=>?_) (fun K hK=>?_)
   refine value_ (v:=?_) (w1:=wd) (by rfl) rfl ?_ ?_
   rotate_left
   ·go_simp
    rfl
   refine hK.out _ _ hHeld (fun _=>?_)
   clear hK K;refine nm 30 ?_;refine one_ (i:=1) (N:=some 31) (bA 7 15) rfl rfl (by kernel_rfl) (by decide) (fun K hK=>?_)
   refine value_ (v:=?_) (w1:=wd) (by rfl) rfl ?_ ?_
   rotate_left
   ·go_simp
    rfl
   refine hK.out _ _ hHeld (fun _=>?_)
   clear hK K;refine nm 31 ?_;rotate_left
   refine value_ (v:=?_) (w1:=wd) (by rfl) rfl ?_ ?_
   rotate_left
   ·go_simp
    rfl
   refine hK.out _ _ hHeld (fun _=>?_)
   clear hK K;refine nm 31 ?_;refine one_ (i:=0) (N:=some 30) (bA 7 15) rfl rfl (by kernel_rfl) (by decide) (fun K hK=>?_)
   refine value_ (v:=?_) (w1:=wd) (by rfl) rfl ?_ ?_
   rotate_left
   ·go_simp
    rfl
   refine hK.out _ _ hHeld (fun _=>?_)
   clear hK K;refine nm 30 ?_;all_goals
    refine one_ (i:=4) (N:=none) (bA 7 31) rfl rfl (by kernel_rfl) (by decide) (fun K hK=>?_)
    refine skip_ (w1:=?_) (by rfl) rfl ?_ ?_
    rotate_left
    ·go_simp
     rfl
    have hH4:(wd.setCell ⟨gx,0,none⟩ (.slice Ay y.length cy)).cell? ⟨gb,0,none⟩=some (.bool nb):=(cell_far nbx _).trans hHeld;refine hK.out _ _ hH4 (fun _=>?_)
    clear hK K;have hfzY4:(wd.setCell ⟨gx,0,none⟩ (.slice Ay y.length cy)).frozen? ⟨gy,0,none⟩=false:=blk_frozen (blk_far (p:=⟨gx,0,none⟩) HYd.out (Ne.symm nxy) _) 0;have hczY4:(wd.setCell ⟨gx,0,none⟩ (.slice Ay y.length cy)).cell? ⟨gy,0,none⟩=some (.slice Ay y.length cy):=(cell_far (Ne.symm nxy) _).trans hczY;refine one_ (i:=5) (N:=none) (bA 7 63) rfl rfl (by kernel_rfl) (by decide) (fun K hK=>?_)
    refine skip_ (w1:=?_) (by rfl) rfl ?_ ?_
    rotate_left
    ·go_simp
     rfl
    refine hK.out _ _ ((cell_far nby _).trans hH4) (fun _=>?_)
    clear hK K;have hfzN5:((wd.setCell ⟨gx,0,none⟩ (.slice Ay y.length cy)).setCell ⟨gy,0,none⟩ (.slice Ax x.length cx)).frozen? ⟨gn,0,none⟩=false:=blk_frozen (blk_far (p:=⟨gy,0,none⟩) (blk_far (p:=⟨gx,0,none⟩) HNd.out (Ne.symm nxn) _) (Ne.symm nyn) _) 0;have hczN5:((wd.setCell ⟨gx,0,none⟩ (.slice Ay y.length cy)).setCell ⟨gy,0,none⟩ (.slice Ax x.length cx)).cell? ⟨gn,0,none⟩=some (.bool na):=(cell_far (Ne.symm nyn) _).trans ((cell_far (Ne.symm nxn) _).trans hczN);refine one_ (i:=6) (N:=none) (bA 7 127) rfl rfl (by kernel_rfl) (by decide) (fun K hK=>?_)
    refine skip_ (w1:=?_) (by rfl) rfl ?_ ?_
    rotate_left
    ·go_simp
     rfl
    have nbn:gb≠gn:=blk_ne HBd.out HNd.out (by decide)
    refine hK.out _ _ ((cell_far nbn _).trans ((cell_far nby _).trans hH4)) (fun _=>?_)
    clear hK K;refine done_ (by kernel_rfl) ?_
    have HX:=aM (blk_far (p:=⟨gn,0,none⟩) (blk_far (p:=⟨gy,0,none⟩) (blk_put HXd.out 0 (.slice Ay y.length cy) rfl) nxy (.slice Ax x.length cx)) nxn (.bool nb));have HY:=aM (blk_far (p:=⟨gn,0,none⟩) (blk_put (blk_far (p:=⟨gx,0,none⟩) HYd.out (Ne.symm nxy) (.slice Ay y.length cy)) 0 (.slice Ax x.length cx) rfl) nyn (.bool nb));have HN:=aM (blk_put (blk_far (p:=⟨gy,0,none⟩) (blk_far (p:=⟨gx,0,none⟩) HNd.out (Ne.symm nxn) (.slice Ay y.length cy)) (Ne.symm nyn) (.slice Ax x.length cx)) 0 (.bool nb) rfl);have HS:=aM (blk_far (p:=⟨gn,0,none⟩) (blk_far (p:=⟨gy,0,none⟩) (blk_far (p:=⟨gx,0,none⟩) HSd.out nsx (.slice Ay y.length cy)) nsy (.slice Ax x.length cx)) nsn (.bool nb));have HKK:=aM (((HKd.out.setCell (p:=⟨gx,0,none⟩) (.inl (.inl rfl)) (.slice Ay y.length cy)).setCell (p:=⟨gy,0,none⟩) (.inl (.inr (.inl rfl))) (.slice Ax x.length cx)).setCell (p:=⟨gn,0,none⟩) (.inl (.inr (.inr (.inr rfl)))) (.bool nb));have HBB:=aM (((HBBd.out.setCell (p:=⟨gx,0,none⟩) bx (.slice Ay y.length cy)).setCell (p:=⟨gy,0,none⟩) bY (.slice Ax x.length cx)).setCell (p:=⟨gn,0,none⟩) bn (.bool nb));have HLE:=aM (show w.heap.size≤(((wd.setCell ⟨gx,0,none⟩ (.slice Ay y.length cy)).setCell ⟨gy,0,none⟩ (.slice Ax x.length cx)).setCell ⟨gn,0,none⟩ (.bool nb)).heap.size from HKK.out.1)
    clear HXd HYd HSd HNd HBd HKd HBBd HLd hHeld hczX hfzX hczY hfzY hczN hfzN hH4 hfzY4 hczY4 hfzN5 hczN5 nbn;generalize (((wd.setCell ⟨gx,0,none⟩ (.slice Ay y.length cy)).setCell ⟨gy,0,none⟩ (.slice Ax x.length cx)).setCell ⟨gn,0,none⟩ (.bool nb))=wq at HX HY HN HS HKK HBB HLE ⊢;obtain⟨hczX,hfzX⟩:=bk1 HX;obtain⟨hczY,hfzY⟩:=bk1 HY;go_wp2_with (first|((with_reducible refine gc 53 rfl ?_);refine gC 53 (some 37) Try.func53 #[.slice Ay y.length cy,.slice Ax x.length cx] ?_;(with_reducible refine(Czk.calls k _ _ y _ _ x t b6 _ ?_ ?_ ?_ ?_ HT.out).mono ?_);exact HRY.out _ HKK.out;exact HCY.out;exact HRX.out _ HKK.out;exact HCX.out;rintro e b8 ⟨b9,rfl,d0,hb⟩;refine⟨_,rfl,?_⟩;obtain⟨Ao_,co_,eo_⟩:=Kd.R_slice d0;subst eo_;have HO:=aM d0;have HS1:=kb HS hb;have HN1:=kb HN hb;obtain⟨hczS1,hfzS1⟩:=bk1 HS1;have d6:=aM hb;clear hb d0))
    go_ret
    have hle9:=HLE.out;refine⟨_,rfl,blk_far (p:=⟨gs,0,none⟩) HN1.out (Ne.symm nsn) _,blk_put HS1.out 0 _ rfl,?_,kept_trans HKK.out (kept_far d6.out (Nat.le_refl _) (.inr (.inr (.inl rfl))) _),below_far HBB.out (Nat.le_trans (Nat.le_trans bs (Nat.le_of_lt ls)) hle9) d6.out bs _⟩;exact Kd.R_lower (Kd.R_mono (Kd.R_far (p:=⟨gs,0,none⟩) (ok:=fun k_=>wq.heap.size≤k_) (Kd.R_reok rfl HO.out (fun k_ hk_=>Kd.R_base HO.out k_ hk_)) (fun k_ hk_ e_=>by have e_:k_=gs:=e_;omega) _) (fun _ _=>trivial)) hle9
  rw[if_neg d7,Option.bind_eq_some_iff] at h;obtain⟨⟨t,b6⟩,ht,h⟩:=h;simp only[Option.some.injEq,Prod.mk.injEq] at h;obtain⟨rfl,rfl,rfl⟩:=h;have HT:=aM ht;have HCV:=aM hcv;clear ht hcv;have b7:(na == nb)=false:=by simpa using b5
  have d8:decide (cv < 0)=false:=decide_eq_false d7;go_enter Try.func50,Try.ntmps50
  go_wp2_with (first|((with_reducible refine gc 52 rfl ?_);refine gC 52 (some 25) Try.func52 #[.slice Ax x.length cx,.slice Ay y.length cy] ?_;(with_reducible refine(Fzj.calls k _ _ x _ _ y cv ce _ ?_ ?_ ?_ ?_ HCV.out).mono ?_);exact HRX.out _ HKK.out;exact HCX.out;exact HRY.out _ HKK.out;exact HCY.out;rintro e d9 ⟨rfl,e6⟩;have hb:=e6.below;clear e6;refine⟨_,rfl,?_⟩;replace HA:=kb HA hb;replace HBb:=kb HBb hb;replace HX:=kb HX hb;replace HY:=kb HY hb;replace HS:=kb HS hb;replace HN:=kb HN hb;replace HKK:=aM (kept_trans HKK.out (show Kept _ d9 (AddS gx gy gs gn) from⟨hb.size,fun i hi _=>hb.block i hi⟩));replace HBB:=aM (HBB.out.trans (hb.mono (Nat.le_trans bs (Nat.le_of_lt ls))));have HLE:=aM hb.size;clear hczX hczY hfzX hfzY hczS hfzS hczN hfzN;obtain⟨hczX,hfzX⟩:=bk1 HX;obtain⟨hczY,hfzY⟩:=bk1 HY;clear hb)|((with_reducible refine gc 53 rfl ?_);refine gC 53 (some 37) Try.func53 #[.slice Ax x.length cx,.slice Ay y.length cy] ?_;(with_reducible refine(Czk.calls k _ _ x _ _ y t b6 _ ?_ ?_ ?_ ?_ HT.out).mono ?_);exact HRX.out _ HKK.out;exact HCX.out;exact HRY.out _ HKK.out;exact HCY.out;rintro e b8 ⟨b9,rfl,d0,hb⟩;refine⟨_,rfl,?_⟩;obtain⟨Ao_,co_,eo_⟩:=Kd.R_slice d0;subst eo_;have HO:=aM d0;have HS1:=kb HS hb;have HN1:=kb HN hb;obtain⟨hczS1,hfzS1⟩:=bk1 HS1;have d6:=aM hb;clear hb d0))
  go_ret
  have hle9:=HLE.out;refine⟨rfl,blk_far (p:=⟨gs,0,none⟩) HN1.out (Ne.symm nsn) _,_,blk_put HS1.out 0 _ rfl,?_,kept_trans HKK.out (kept_far d6.out (Nat.le_refl _) (.inr (.inr (.inl rfl))) _),below_far HBB.out (Nat.le_trans (Nat.le_trans bs (Nat.le_of_lt ls)) hle9) d6.out bs _⟩;exact Kd.R_lower (Kd.R_mono (Kd.R_far (p:=⟨gs,0,none⟩) (ok:=fun k_=>d9.heap.size≤k_) (Kd.R_reok rfl HO.out (fun k_ hk_=>Kd.R_base HO.out k_ hk_)) (fun k_ hk_ e_=>by have e_:k_=gs:=e_;omega) _) (fun _ _=>trivial)) hle9
/-- A variable that holds a row of its own. -/
structure Bx_ (W:World) (N g:Nat) (v:Value) (x:List Int):Prop where
 cell:W.heap[g]?=some (.cells #[v] 36 (0,0))
 row:Kd.R (Kd.int .i64) 3 W N (fun k_=>N≤k_) v x
theorem Bx_.step {W W1:World} {N g g':Nat} {v u:Value} {x:List Int} (h:Bx_ W N g v x) (hb:Below W.heap.size W W1) (hne:g≠g') (hlt:g' < N):Bx_ (W1.setCell ⟨g',0,none⟩ u) N g v x :=
 ⟨blk_far (p:=⟨g',0,none⟩) (blk_below h.cell hb) hne u,Kd.R_far (p:=⟨g',0,none⟩) (Kd.R_below h.row hb) (fun k_ hk_ e_=>by have e_:k_=g':=e_;omega) u⟩
theorem Bx_.new {W W1:World} {N g:Nat} {v o:Value} {x:List Int} (hg:W1.heap[g]?=some (.cells #[o] 36 (0,0))) (h:Kd.R (Kd.int .i64) 3 W1 W.heap.size (fun _=>True) v x) (hN:N≤W.heap.size) (hlt:g < N):Bx_ (W1.setCell ⟨g,0,none⟩ v) N g v x :=
 ⟨blk_put hg 0 v rfl,Kd.R_far (p:=⟨g,0,none⟩) (Kd.R_lower (Kd.R_reok rfl h (fun k_ hk_=>Nat.le_trans hN (Kd.R_base h k_ hk_))) hN) (fun k_ hk_ e_=>by have e_:k_=g:=e_;omega) v⟩
theorem Bx_.kept {W W1:World} {N g:Nat} {v:Value} {x:List Int} {S:Nat→Prop} (h:Bx_ W N g v x) (hk:Kept W W1 S) (hg:¬ S g) (hS:∀ k,N≤k→¬ S k):Bx_ W1 N g v x :=
 ⟨blk_kept h.cell hk hg,Kd.R_mono (Kd.R_keptB h.row hk hS) (fun _ hk_=>hk_.1)⟩
theorem Bx_.reads {W W1:World} {N g n c:Nat} {A:Option Addr} {x:List Int} {S:Nat→Prop} (h:Bx_ W N g (.slice A n c) x) (hk:Kept W W1 S) (hS:∀ k,N≤k→¬ S k):Kd.C (Kd.int .i64) W1 A x.length x:=(Kd.R_reads' (Kd.R_keptB h.row hk hS)).2.2
def Ezj.f (k:Nat) (na nb:Bool) (aP aQ bP bQ:List Int):Option (Int × Bool × List Int × List Int) :=
 (Bzy.f k aP bQ).bind fun x=>if x.2=0 then(Bzy.f k bP aQ).bind fun y=>if y.2=0 then(Bzy.f k aQ bQ).bind fun q=>if q.2=0 then(Ezb.f k na nb x.1 y.1).bind fun t=>some (t.2.2,t.1,t.2.1,q.1) else some (q.2,na,([]:List Int),([]:List Int)) else some (y.2,na,([]:List Int),([]:List Int)) else some (x.2,na,([]:List Int),([]:List Int))
theorem Ezj.mono:∀ a6 a7 a8 b4 b5 b6 k,LeO (Ezj.f k a6 a7 a8 b4 b5 b6) (Ezj.f (k+1) a6 a7 a8 b4 b5 b6):=by
 intro a6 a7 a8 b4 b5 b6 k;unfold Ezj.f;exact LeO.bind (Bzy.mono _ _ k) (fun _=>LeO.ite (LeO.bind (Bzy.mono _ _ k) (fun _=>LeO.ite (LeO.bind (Bzy.mono _ _ k) (fun _=>LeO.ite (LeO.bind (Ezb.mono _ _ _ _ k) (fun _=>LeO.refl _)) (LeO.refl _))) (LeO.refl _))) (LeO.refl _))
def AddS5 (gx gy gq gs gn:Nat):Nat→Prop:=fun k_=>k_=gx∨k_=gy∨k_=gq∨k_=gs∨k_=gn
/-- What the four steps leave. -/
structure Fin4 (B:Nat) (w0 w W:World) (gx gy gq gs gn:Nat) (r:Int) (neg:Bool) (sum q:List Int):Prop where
 kept:Kept w W (AddS5 gx gy gq gs gn)
 below:Below B w0 W
 fin:r=0→∃ vs vq:Value,W.heap[gn]?=some (.cells #[.bool neg] 4 (0,0))∧Bx_ W w.heap.size gs vs sum∧Bx_ W w.heap.size gq vq q
set_option maxHeartbeats 4000000 in
theorem Ezj.calls (k B a6 a7 a8 ga gb gx gy gq gs gn:Nat) (na nb:Bool) (ua1 ua2 ub1 ub2:Value) (AaP:Option Addr) (caP:Nat) (aP:List Int) (AaQ:Option Addr) (caQ:Nat) (aQ:List Int) (AbP:Option Addr) (cbP:Nat) (bP:List Int) (AbQ:Option Addr) (cbQ:Nat) (bQ:List Int) (b4:Int) (b5:Bool) (b6 b7:List Int) (g cg:Nat) (b8 w:World) (hB:Below B b8 w)
  (hg:w.heap[g]?=some (.cells #[.func (.func (thkFn 67 a6).1) #[] (thkFn 67 a6).2,.func (.func (thkFn 67 a7).1) #[] (thkFn 67 a7).2,.func (.func (thkFn 67 a8).1) #[] (thkFn 67 a8).2,.func (.func 50) #[] #[.pointer (some ⟨ga,0,none⟩),.pointer (some ⟨gb,0,none⟩),.pointer (some ⟨gx,0,none⟩),.pointer (some ⟨gy,0,none⟩),.pointer (some ⟨gs,0,none⟩),.pointer (some ⟨gn,0,none⟩)]] 66 (0,0)))
  (b9:Thk w a6 gx AaP aP.length caP AbQ bQ.length cbQ) (d0:Thk w a7 gy AbP bP.length cbP AaQ aQ.length caQ) (d6:Thk w a8 gq AaQ aQ.length caQ AbQ bQ.length cbQ)
  (ha:w.heap[ga]?=some (.cells #[.bool na,ua1,ua2] 38 (0,0))) (hb:w.heap[gb]?=some (.cells #[.bool nb,ub1,ub2] 38 (0,0)))
  (hx:w.heap[gx]?=some (.cells #[.slice none 0 0] 36 (0,0))) (hy:w.heap[gy]?=some (.cells #[.slice none 0 0] 36 (0,0))) (hq:w.heap[gq]?=some (.cells #[.slice none 0 0] 36 (0,0))) (hs:w.heap[gs]?=some (.cells #[.slice none 0 0] 36 (0,0))) (hn:w.heap[gn]?=some (.cells #[.bool na] 4 (0,0)))
  (o1:gx < gy) (o2:gy < gq) (o3:gq < gs) (o4:gs < gn) (o5:gn < a6) (o6:a6+2 < a7) (o7:a7+2 < a8) (hBx:B≤gx)
  (d7:∀ W_,Kept w W_ (AddS5 gx gy gq gs gn)→Kd.C (Kd.int .i64) W_ AaP aP.length aP) (d8:aP.length≤caP) (d9:∀ W_,Kept w W_ (AddS5 gx gy gq gs gn)→Kd.C (Kd.int .i64) W_ AaQ aQ.length aQ) (e6:aQ.length≤caQ)
  (e7:∀ W_,Kept w W_ (AddS5 gx gy gq gs gn)→Kd.C (Kd.int .i64) W_ AbP bP.length bP) (e8:bP.length≤cbP) (e9:∀ W_,Kept w W_ (AddS5 gx gy gq gs gn)→Kd.C (Kd.int .i64) W_ AbQ bQ.length bQ) (f3:bQ.length≤cbQ)
  (h:Ezj.f k na nb aP aQ bP bQ=some (b4,b5,b6,b7)) :
  Calls Try.prog 48 #[.slice (some ⟨g,0,none⟩) 4 cg] w fun e w'=>e=.returned (.int .i64 b4)∧Fin4 B b8 w w' gx gy gq gs gn b4 b5 b6 b7:=by
 have hfn:∃ fn,Try.prog.funcs[67]?=some fn∧(fn.name == "runtime.NumGoroutine")=false∧fn.body.isSome=true:=⟨_,Try.func67,by kernel_rfl,rfl⟩
 have hfn1:∃ fn,Try.prog.funcs[50]?=some fn∧(fn.name == "runtime.NumGoroutine")=false∧fn.body.isSome=true:=⟨_,Try.func50,by kernel_rfl,rfl⟩
 have lx:=blk_lt hx;have ly:=blk_lt hy;have lq:=blk_lt hq;have ls:=blk_lt hs;have ln:=blk_lt hn;have f4:=blk_ne hg hx (by decide)
 have f6:=blk_ne hg hn (by decide)
 have f9:=blk_ne hg hy (by decide)
 have g4:=blk_ne hg hq (by decide)
 have g5:=blk_ne hg hs (by decide)
 have g6:=blk_ne ha hx (by decide)
 have g7:=blk_ne ha hy (by decide)
 have g8:=blk_ne ha hq (by decide)
 have g9:=blk_ne ha hs (by decide)
 have j5:=blk_ne ha hn (by decide)
 have d1:=blk_ne hb hx (by decide)
 have d2:=blk_ne hb hy (by decide)
 have d3:=blk_ne hb hq (by decide)
 have d4:=blk_ne hb hs (by decide)
 have d5:=blk_ne hb hn (by decide)
 have nS:∀ i,i≠gx→i≠gy→i≠gq→i≠gs→i≠gn→¬ AddS5 gx gy gq gs gn i:=fun i j6 j7 j8 j9 l5 l6=>by
  unfold AddS5 at l6;omega
 have far:∀ (W:World) (i:Nat) (o:Obj),Kept w W (AddS5 gx gy gq gs gn)→i≠gx→i≠gy→i≠gq→i≠gs→i≠gn→w.heap[i]?=some o→W.heap[i]?=some o:=fun W i o hk j6 j7 j8 j9 l5 ho=>blk_kept ho hk (nS i j6 j7 j8 j9 l5)
 have thk:∀ (W:World) (b gp:Nat) (A A':Option Addr) (n c n' c':Nat),Kept w W (AddS5 gx gy gq gs gn)→gn < b→Thk w b gp A n c A' n' c'→Thk W b gp A n c A' n' c':=fun W b gp A A' n c n' c' hk hb hT =>
  ⟨far W b _ hk (by omega) (by omega) (by omega) (by omega) (by omega) hT.tp,far W (b+1) _ hk (by omega) (by omega) (by omega) (by omega) (by omega) hT.fa,far W (b+2) _ hk (by omega) (by omega) (by omega) (by omega) (by omega) hT.fb,hT.lt⟩
 let I:Nat→World→Prop:=fun j W=>Kept w W (AddS5 gx gy gq gs gn)∧Below B b8 W∧match j with
  | 0=>W=w
  | 1=>∃ (v:Value) (x:List Int),Bzy.f k aP bQ=some (x,0)∧Bx_ W w.heap.size gx v x∧Kept w W (fun k_=>k_=gx)
  | 2=>∃ (v l7:Value) (x y:List Int),Bzy.f k aP bQ=some (x,0)∧Bzy.f k bP aQ=some (y,0)∧Bx_ W w.heap.size gx v x∧Bx_ W w.heap.size gy l7 y∧Kept w W (fun k_=>k_=gx∨k_=gy)
  | 3=>∃ (v l7 l8:Value) (x y q:List Int),Bzy.f k aP bQ=some (x,0)∧Bzy.f k bP aQ=some (y,0)∧Bzy.f k aQ bQ=some (q,0)∧Bx_ W w.heap.size gx v x∧Bx_ W w.heap.size gy l7 y∧Bx_ W w.heap.size gq l8 q∧Kept w W (fun k_=>k_=gx∨k_=gy∨k_=gq)
  | _=>Fin4 B b8 w W gx gy gq gs gn 0 b5 b6 b7∧b4=0
 let Qr:Int→World→Prop:=fun r W=>Fin4 B b8 w W gx gy gq gs gn r b5 b6 b7∧r=b4
 unfold Ezj.f at h;rw[Option.bind_eq_some_iff] at h;obtain⟨⟨x,l9⟩,m0,h⟩:=h;have hS:Steps_ [thkFn 67 a6,thkFn 67 a7,thkFn 67 a8,(50,#[.pointer (some ⟨ga,0,none⟩),.pointer (some ⟨gb,0,none⟩),.pointer (some ⟨gx,0,none⟩),.pointer (some ⟨gy,0,none⟩),.pointer (some ⟨gs,0,none⟩),.pointer (some ⟨gn,0,none⟩)])] ⟨g,0,none⟩ I Qr:=by
  refine⟨fun j W hI i x hx=>?_,fun j W z hI hz=>?_,fun W hI=>⟨hI.2.2.1,hI.2.2.2.symm⟩⟩
  ·rw[add_plain];have j6:=far W g _ hI.1 f4 f9 g4 g5 f6 hg;rw[blk_cell j6 i];match i,hx with
   | 0,hx=>cases hx;rfl
   | 1,hx=>cases hx;rfl
   | 2,hx=>cases hx;rfl
   | 3,hx=>cases hx;rfl
   | i+4,hx=>simp at hx
  ·match j,hz,hI with
   | 0,hz,hI =>
    cases hz
    obtain⟨hk,hbl,hw⟩:=hI;cases hw
    refine⟨hfn,?_⟩;refine(Ezf.calls k a6 gx AaP caP aP AbQ cbQ bQ _ x l9 w b9 hx (d7 w hk) d8 (e9 w hk) f3 m0).mono ?_;rintro e W' ⟨W1,v,rfl,rfl,hR,m2⟩;have hkx:Kept w (W1.setCell ⟨gx,0,none⟩ v) (fun k_=>k_=gx):=kept_far (S:=fun k_=>k_=gx) m2 (Nat.le_refl _) rfl v
    have hk5:Kept w (W1.setCell ⟨gx,0,none⟩ v) (AddS5 gx gy gq gs gn):=kept_far m2 (Nat.le_refl _) (.inl rfl) v;have hbl1:=below_far hbl (Nat.le_trans hBx (Nat.le_of_lt lx)) m2 hBx v;refine⟨l9,rfl,fun m3=>?_,fun m3=>?_⟩
    ·subst m3;exact⟨hk5,hbl1,v,x,m0,Bx_.new (blk_below hx m2) hR (Nat.le_refl _) lx,hkx⟩
    ·simp only[if_neg m3,Option.some.injEq,Prod.mk.injEq] at h;obtain⟨rfl,rfl,rfl,rfl⟩:=h;exact⟨⟨hk5,hbl1,fun m4=>absurd m4 m3⟩,rfl⟩
   | 1,hz,hI =>
    cases hz
    obtain⟨hk,hbl,v,x',m5,hbx,hkx⟩:=hI;rw[m0] at m5;cases m5
    simp only[if_true] at h;rw[Option.bind_eq_some_iff] at h;obtain⟨⟨y,m6⟩,m7,h⟩:=h;have hyW:=blk_kept hy hkx (by omega)
    refine⟨hfn,?_⟩;refine(Ezf.calls k a7 gy AbP cbP bP AaQ caQ aQ _ y m6 W (thk W _ _ _ _ _ _ _ _ hk (by omega) d0) hyW (e7 W hk) e8 (d9 W hk) e6 m7).mono ?_
    rintro e W' ⟨W1,l7,rfl,rfl,hR,m2⟩;have hkx2:Kept w (W1.setCell ⟨gy,0,none⟩ l7) (fun k_=>k_=gx∨k_=gy):=kept_trans ⟨hkx.1,fun i hi hn=>hkx.2 i hi (fun e_=>hn (.inl e_))⟩ (kept_far m2 (Nat.le_refl _) (.inr rfl) l7)
    have hk5:Kept w (W1.setCell ⟨gy,0,none⟩ l7) (AddS5 gx gy gq gs gn):=kept_trans hk (kept_far m2 (Nat.le_refl _) (.inr (.inl rfl)) l7);have hbl1:=below_far hbl (Nat.le_trans (Nat.le_trans hBx (Nat.le_of_lt lx)) hk.1) m2 (show B≤gy by omega) l7
    refine⟨m6,rfl,fun m3=>?_,fun m3=>?_⟩
    ·subst m3;exact⟨hk5,hbl1,v,l7,x,y,m0,m7,hbx.step m2 (by omega) ly,Bx_.new (blk_below hyW m2) hR hk.1 ly,hkx2⟩
    ·simp only[if_neg m3,Option.some.injEq,Prod.mk.injEq] at h;obtain⟨rfl,rfl,rfl,rfl⟩:=h;exact⟨⟨hk5,hbl1,fun m4=>absurd m4 m3⟩,rfl⟩
   | 2,hz,hI =>
    cases hz
    obtain⟨hk,hbl,v,l7,x',y,m5,m7,hbx,hby,hkx⟩:=hI;rw[m0] at m5;cases m5
    simp only[if_true,m7,Option.bind_some] at h;rw[Option.bind_eq_some_iff] at h;obtain⟨⟨q,m8⟩,m9,h⟩:=h;have hqW:=blk_kept hq hkx (by omega)
    refine⟨hfn,?_⟩;refine(Ezf.calls k a8 gq AaQ caQ aQ AbQ cbQ bQ _ q m8 W (thk W _ _ _ _ _ _ _ _ hk (by omega) d6) hqW (d9 W hk) e6 (e9 W hk) f3 m9).mono ?_
    rintro e W' ⟨W1,l8,rfl,rfl,hR,m2⟩;have hkx2:Kept w (W1.setCell ⟨gq,0,none⟩ l8) (fun k_=>k_=gx∨k_=gy∨k_=gq):=kept_trans ⟨hkx.1,fun i hi hn=>hkx.2 i hi (fun e_=>hn (by omega))⟩ (kept_far m2 (Nat.le_refl _) (.inr (.inr rfl)) l8)
    have hk5:Kept w (W1.setCell ⟨gq,0,none⟩ l8) (AddS5 gx gy gq gs gn):=kept_trans hk (kept_far m2 (Nat.le_refl _) (.inr (.inr (.inl rfl))) l8);have hbl1:=below_far hbl (Nat.le_trans (Nat.le_trans hBx (Nat.le_of_lt lx)) hk.1) m2 (show B≤gq by omega) l8
    refine⟨m8,rfl,fun m3=>?_,fun m3=>?_⟩
    ·subst m3;exact⟨hk5,hbl1,v,l7,l8,x,y,q,m0,m7,m9,hbx.step m2 (by omega) lq,hby.step m2 (by omega) lq,Bx_.new (blk_below hqW m2) hR hk.1 lq,hkx2⟩
    ·simp only[if_neg m3,Option.some.injEq,Prod.mk.injEq] at h;obtain⟨rfl,rfl,rfl,rfl⟩:=h;exact⟨⟨hk5,hbl1,fun m4=>absurd m4 m3⟩,rfl⟩
   | 3,hz,hI =>
    cases hz
    obtain⟨hk,hbl,v,l7,l8,x',y,q,m5,m7,m9,hbx,hby,hbq,hkx⟩:=hI;rw[m0] at m5;cases m5
    simp only[if_true,m7,m9,Option.bind_some] at h;rw[Option.bind_eq_some_iff] at h;obtain⟨⟨n0,n6,n7⟩,n8,h⟩:=h;simp only[Option.some.injEq,Prod.mk.injEq] at h;obtain⟨rfl,rfl,rfl,rfl⟩:=h;have hsW:=blk_kept hs hkx (by omega)
    have hnW:=blk_kept hn hkx (by omega)
    have haW:=far W ga _ hk g6 g7 g8 g9 j5 ha;have hbW:=far W gb _ hk d1 d2 d3 d4 d5 hb;obtain⟨Ax,cx,ex⟩:=Kd.R_slice hbx.row;subst ex;obtain⟨Ay,cy,ey⟩:=Kd.R_slice hby.row;subst ey;have hS4:∀ k_,w.heap.size≤k_→¬ AddS gx gy gs gn k_:=fun k_ j6 j7=>by unfold AddS at j7;omega
    refine⟨hfn1,?_⟩;refine(Ezb.calls k B ga gb gx gy gs gn na nb ua1 ua2 ub1 ub2 Ax cx x Ay cy y _ n0 n6 n7 b8 W hbl haW hbW hbx.cell hby.cell hsW hnW (by omega) (by omega) (by omega) hBx (by omega) (by omega) (by omega) (fun W_ hk_=>hbx.reads hk_ hS4) (Kd.R_reads' hbx.row).2.1 (fun W_ hk_=>hby.reads hk_ hS4) (Kd.R_reads' hby.row).2.1 n8).mono ?_
    rintro e W' ⟨vs,rfl,hn',hs',hR',hk',hb'⟩;have hk5:Kept w W' (AddS5 gx gy gq gs gn):=kept_trans hk ⟨hk'.1,fun i hi hn=>hk'.2 i hi (fun e_=>hn (by unfold AddS at e_;unfold AddS5;omega))⟩
    have hfin:Fin4 B b8 w W' gx gy gq gs gn n7 n0 n6 q:=⟨hk5,hb',fun _=>⟨vs,l8,hn',⟨hs',Kd.R_lower (Kd.R_reok rfl hR' (fun k_ hk_=>Nat.le_trans hk.1 (Kd.R_base hR' k_ hk_))) hk.1⟩,hbq.kept hk' (fun e_=>by unfold AddS at e_;omega) hS4⟩⟩
    refine⟨n7,rfl,fun m3=>?_,fun m3=>⟨hfin,rfl⟩⟩
    subst m3;exact⟨hk5,hb',hfin,rfl⟩
   | j+4,hz,hI=>simp at hz
 have hI0:I 0 w:=⟨⟨Nat.le_refl _,fun _ _ _=>rfl⟩,hB,rfl⟩
 refine(Fzp.calls _ ⟨g,0,none⟩ cg w I Qr hS hI0 (by simp)).mono ?_
 rintro e w' ⟨r,rfl,hF,rfl⟩;exact⟨rfl,hF⟩
theorem rat_pair_C {W:World} {g:Nat} {T:TypeId} {n m:Bool} {A B A' B':Option Addr} {p q p' q':List Int} {c d c' d':Nat} (hb:W.heap[g]?=some (.cells #[.bool n,.slice A p.length c,.slice B q.length d,.bool m,.slice A' p'.length c',.slice B' q'.length d'] T (0,0)))
  (a6:Kd.C (Kd.int .i64) W A p.length p) (l1:p.length≤c) (a7:Kd.C (Kd.int .i64) W B q.length q) (l2:q.length≤d) (a8:Kd.C (Kd.int .i64) W A' p'.length p') (b4:p'.length≤c') (b5:Kd.C (Kd.int .i64) W B' q'.length q') (b6:q'.length≤d') :
  Kd.C k38 W (some ⟨g,0,none⟩) 2 [(⟨n,p,q⟩:S38),(⟨m,p',q'⟩:S38)]:=by
 refine⟨rfl,by simp,fun _=>⟨_,rfl,fun j x hj=>?_⟩⟩
 match j,hj with
 | 0,hj =>
  cases hj
  refine⟨_,rfl,k38_mk W ⟨n,p,q⟩ l1 a6 l2 a7,fun i u hu=>?_⟩
  rw[add_plain];refine(blk_cell hb _).trans ?_;match i,hu with
  | 0,hu=>exact hu
  | 1,hu=>exact hu
  | 2,hu=>exact hu
  | i+3,hu=>simp at hu
 | 1,hj =>
  cases hj
  refine⟨_,rfl,k38_mk W ⟨m,p',q'⟩ b4 a8 b6 b5,fun i u hu=>?_⟩
  rw[add_plain];refine(blk_cell hb _).trans ?_;match i,hu with
  | 0,hu=>exact hu
  | 1,hu=>exact hu
  | 2,hu=>exact hu
  | i+3,hu=>simp at hu
 | j+2,hj=>simp at hj
theorem C_blocks {w W:World} {A:Option Addr} {n:Nat} {xs:List Int} (h:Kd.C (Kd.int .i64) w A n xs) (hb:∀ i,i < w.heap.size→W.heap[i]?=w.heap[i]?):Kd.C (Kd.int .i64) W A n xs:=by
 refine⟨h.1,h.2.1,fun hp=>?_⟩
 obtain⟨ad,a6,a7⟩:=h.2.2 hp;refine⟨ad,a6,fun j q hj=>?_⟩
 obtain⟨cs,a8,b4,b5⟩:=a7 j q hj;refine⟨cs,a8,b4,fun i u hu=>?_⟩
 have b6:=b5 i u hu;rw[← b6];exact World.cell?_of_block (w:=w) (hb _ (World.block_lt_of_cell? w _ b6))
def Dzp.f (k:Nat) (a0_0:Bool) (l0_1:List Int) (l0_2:List Int) (a1_0:Bool) (l1_1:List Int) (l1_2:List Int):Option (Bool × List Int × List Int × Int) :=
 (Bzk.f k [(⟨a0_0,l0_1,l0_2⟩:S38),(⟨a1_0,l1_1,l1_2⟩:S38)]).bind fun t=>if t=true then((Ezj.f k a0_0 a1_0 l0_1 l0_2 l1_1 l1_2).bind fun b=>if b.1=0 then(Dzw.f k b.2.1 b.2.2.1 b.2.2.2).bind (fun c=>some (c.1,c.2.1,c.2.2.1,c.2.2.2)) else some (false,([]:List Int),([]:List Int),b.1)) else some (false,([]:List Int),([]:List Int),3)
theorem Dzp.mono:∀ a6 a7 a8 b4 b5 b6 k,LeO (Dzp.f k a6 a7 a8 b4 b5 b6) (Dzp.f (k+1) a6 a7 a8 b4 b5 b6):=by
 intro a6 a7 a8 b4 b5 b6 k;unfold Dzp.f;exact LeO.bind (Bzk.mono _ k) (fun _=>LeO.ite (LeO.bind (Ezj.mono _ _ _ _ _ _ k) (fun _=>LeO.ite (LeO.bind (Dzw.mono _ _ _ k) (fun _=>LeO.refl _)) (LeO.refl _))) (LeO.refl _))
theorem Dzp.calls (k:Nat) (a6:Bool) (a7:Option Addr) (a8:Nat) (b4:List Int) (b5:Option Addr) (b6:Nat) (b7:List Int) (b8:Bool) (b9:Option Addr) (d0:Nat) (d6:List Int) (d7:Option Addr) (d8:Nat) (d9:List Int) (e6:Bool) (e7:List Int) (e8:List Int) (e9:Int) (w:World) (f3:Kd.C (Kd.int .i64) w a7 b4.length b4) (f4:b4.length≤a8) (f6:Kd.C (Kd.int .i64) w b5 b7.length b7) (f9:b7.length≤b6) (g4:Kd.C (Kd.int .i64) w b9 d6.length d6) (g5:d6.length≤d0) (g6:Kd.C (Kd.int .i64) w d7 d9.length d9) (g7:d9.length≤d8) (h:Dzp.f k a6 b4 b7 b8 d6 d9=some (e6,e7,e8,e9)) :
  Calls Try.prog 29 #[.agg #[.bool a6,.slice a7 b4.length a8,.slice b5 b7.length b6],.agg #[.bool b8,.slice b9 d6.length d0,.slice d7 d9.length d8]] w fun e w'=>∃ v1_ v2_:Value,e=.returned (.tuple #[.agg #[.bool e6,v1_,v2_],.int .i64 e9])∧Kd.R (Kd.int .i64) 3 w' w.heap.size (fun k_=>some k_≠(v2_:Value).ownBlock) v1_ e7∧Kd.R (Kd.int .i64) 3 w' w.heap.size (fun k_=>some k_≠(v1_:Value).ownBlock) v2_ e8∧Below w.heap.size w w':=by
 have hmf_:∀ (fn:Fn) (first cap:Array Value) (w:World),(Instr.makeFunc fn first cap).run Try.prog w=.ok (.func fn first cap) w:=fun _ _ _ _=>rfl
 have H1:=aM f3;have H2:=aM f6;have H3:=aM g4;have H4:=aM g6;have L1:=aM f4;have L2:=aM f9;have L3:=aM g5;have L4:=aM g7;clear f3 f6 g4 g6 f4 f9 g5 g7;unfold Dzp.f at h;rw[Option.bind_eq_some_iff] at h;obtain⟨tv,hv,h⟩:=h;have HV:=aM hv;clear hv;have cV:∀ W,W=(((w.alloc (.cells #[.bool a6,.slice a7 b4.length a8,.slice b5 b7.length b6] 38)).alloc (.cells #[.bool b8,.slice b9 d6.length d0,.slice d7 d9.length d8] 38)).alloc (.cells #[.bool false,.slice none 0 0,.slice none 0 0] 38)).alloc (.cells #[.bool a6,.slice a7 b4.length a8,.slice b5 b7.length b6,.bool b8,.slice b9 d6.length d0,.slice d7 d9.length d8] 38)→Calls Try.prog 47 #[.slice (some ⟨w.heap.size+1+1+1,0,none⟩) 2 2] W fun e w'=>e=.returned (.bool tv)∧w'.heap[w.heap.size]?=some (.cells #[.bool a6,.slice a7 b4.length a8,.slice b5 b7.length b6] 38 (0,0))∧w'.heap[w.heap.size+1]?=some (.cells #[.bool b8,.slice b9 d6.length d0,.slice d7 d9.length d8] 38 (0,0))∧w'.heap[w.heap.size+1+1]?=some (.cells #[.bool false,.slice none 0 0,.slice none 0 0] 38 (0,0))∧Below w.heap.size w w':=by
  intro W hW;have ha:W.heap[w.heap.size]?=some (.cells #[.bool a6,.slice a7 b4.length a8,.slice b5 b7.length b6] 38 (0,0)):=by subst hW;exact blk_alloc (blk_alloc (blk_alloc (blk_new w _) _) _) _
  have hb:W.heap[w.heap.size+1]?=some (.cells #[.bool b8,.slice b9 d6.length d0,.slice d7 d9.length d8] 38 (0,0)):=by subst hW;simpa using blk_alloc (blk_alloc (blk_new (w.alloc (.cells #[.bool a6,.slice a7 b4.length a8,.slice b5 b7.length b6] 38)) (.cells #[.bool b8,.slice b9 d6.length d0,.slice d7 d9.length d8] 38)) _) _
  have hc:W.heap[w.heap.size+1+1]?=some (.cells #[.bool false,.slice none 0 0,.slice none 0 0] 38 (0,0)):=by subst hW;simpa using blk_alloc (blk_new ((w.alloc (.cells #[.bool a6,.slice a7 b4.length a8,.slice b5 b7.length b6] 38)).alloc (.cells #[.bool b8,.slice b9 d6.length d0,.slice d7 d9.length d8] 38)) (.cells #[.bool false,.slice none 0 0,.slice none 0 0] 38)) _
  have hd:W.heap[w.heap.size+1+1+1]?=some (.cells #[.bool a6,.slice a7 b4.length a8,.slice b5 b7.length b6,.bool b8,.slice b9 d6.length d0,.slice d7 d9.length d8] 38 (0,0)):=by subst hW;simpa using blk_new (((w.alloc (.cells #[.bool a6,.slice a7 b4.length a8,.slice b5 b7.length b6] 38)).alloc (.cells #[.bool b8,.slice b9 d6.length d0,.slice d7 d9.length d8] 38)).alloc (.cells #[.bool false,.slice none 0 0,.slice none 0 0] 38)) (.cells #[.bool a6,.slice a7 b4.length a8,.slice b5 b7.length b6,.bool b8,.slice b9 d6.length d0,.slice d7 d9.length d8] 38)
  have hw:Below w.heap.size w W:=by subst hW;exact((((Below.refl _ w).alloc (Nat.le_refl _) _).alloc (by simp) _).alloc (by simp;omega) _).alloc (by simp;omega) _
  refine(Bzk.calls k (some ⟨w.heap.size+1+1+1,0,none⟩) 2 [(⟨a6,b4,b7⟩:S38),(⟨b8,d6,d9⟩:S38)] tv W (rat_pair_C hd (Kd.C_below H1.out hw) L1.out (Kd.C_below H2.out hw) L2.out (Kd.C_below H3.out hw) L3.out (Kd.C_below H4.out hw) L4.out) (Nat.le_refl _) HV.out).mono ?_;rintro e w' ⟨rfl,g8⟩;exact⟨rfl,blk_below ha g8,blk_below hb g8,blk_below hc g8,hw.trans (g8.mono hw.size)⟩
 have CV:=aM cV;clear cV HV;cases tv with
 | false =>
  simp only[Bool.false_eq_true,if_false,Option.some.injEq,Prod.mk.injEq] at h;obtain⟨rfl,rfl,rfl,rfl⟩:=h;go_enter Try.func29,Try.ntmps29
  go_wp2_with (first|((with_reducible refine gate_callee (f:=47) rfl ?_);refine goesL_ (some 15) rfl rfl Try.func47 (by kernel_rfl) rfl #[.slice (some ⟨w.heap.size+1+1+1,0,none⟩) 2 2] rfl (by first|exact mA|(simp [Act.eval];done)) ?_;refine(CV.out _ rfl).mono ?_;rintro e g9 ⟨rfl,ha,hb,hc,hw⟩;refine⟨_,rfl,?_⟩;have HR:=aM hc;have HW:=aM hw;obtain⟨hczR_0,hczR_1,hczR_2,hfzR_0,hfzR_1,hfzR_2⟩:=bk3 HR;clear ha hb hc hw))
  refine bodyPost_ret (results_ct rfl _ _ (w.heap.size+1+1) 38 #[.bool false,.slice none 0 0,.slice none 0 0] (0,0) _ rfl (by refine blk_put (cs:=#[.bool false,.slice none 0 0,.slice none 0 0]) ?_ 2 _ rfl;refine blk_put (cs:=#[.bool false,.slice none 0 0,.slice none 0 0]) ?_ 1 _ rfl;refine blk_put (cs:=#[.bool false,.slice none 0 0,.slice none 0 0]) ?_ 0 _ rfl;exact HR.out) Try.underlying38 rfl (by kernel_rfl)) rfl ?_
  exact⟨_,_,rfl,Kd.R_nil _ _ _ _ _,Kd.R_nil _ _ _ _ _,((HW.out.setCell (p:=⟨w.heap.size+1+1,0,none⟩) (by show _≤w.heap.size+1+1;omega) _).setCell (p:=⟨w.heap.size+1+1,1,none⟩) (by show _≤w.heap.size+1+1;omega) _).setCell (p:=⟨w.heap.size+1+1,2,none⟩) (by show _≤w.heap.size+1+1;omega) _⟩
 | true =>
  simp only[if_true] at h;rw[Option.bind_eq_some_iff] at h;obtain⟨⟨j5,ng,sm,q⟩,hp,h⟩:=h;have HP:=aM hp;clear hp;go_enter Try.func29,Try.ntmps29
  go_wp2_with (first|((with_reducible refine gate_callee (f:=47) rfl ?_);refine goesL_ (some 15) rfl rfl Try.func47 (by kernel_rfl) rfl #[.slice (some ⟨w.heap.size+1+1+1,0,none⟩) 2 2] rfl (by first|exact mA|(simp [Act.eval];done)) ?_;refine(CV.out _ rfl).mono ?_;rintro e g9 ⟨rfl,ha,hb,hc,hw⟩;refine⟨_,rfl,?_⟩;have HA:=aM ha;have HBb:=aM hb;have HR:=aM hc;have HW:=aM hw;obtain⟨hczA_0,hczA_1,hczA_2,hfzA_0,hfzA_1,hfzA_2⟩:=bk3 HA;have j6:∀ o1 o2 o3 o4,((((g9.alloc o1).alloc o2).alloc o3).alloc o4).cell? ⟨w.heap.size,0,none⟩=some (.bool a6):=fun o1 o2 o3 o4=>(blk_cell (blk_alloc (blk_alloc (blk_alloc (blk_alloc HA.out o1) o2) o3) o4) 0).trans rfl;clear ha hb hc hw))
  clear j6 hczA_0 hczA_1 hczA_2 hfzA_0 hfzA_1 hfzA_2 CV;have j7:Below g9.heap.size g9 (((((g9.alloc (.cells #[.slice none 0 0] 36)).alloc (.cells #[.slice none 0 0] 36)).alloc (.cells #[.slice none 0 0] 36)).alloc (.cells #[.slice none 0 0] 36)).alloc (.cells #[.bool a6] 4)):=(((((Below.refl _ g9).alloc (Nat.le_refl _) _).alloc (by simp) _).alloc (by simp;omega) _).alloc (by simp;omega) _).alloc (by simp;omega) _
  have gx5:(((((g9.alloc (.cells #[.slice none 0 0] 36)).alloc (.cells #[.slice none 0 0] 36)).alloc (.cells #[.slice none 0 0] 36)).alloc (.cells #[.slice none 0 0] 36)).alloc (.cells #[.bool a6] 4)).heap[g9.heap.size]?=some (.cells #[.slice none 0 0] 36 (0,0)):=blk_alloc (blk_alloc (blk_alloc (blk_alloc (blk_new g9 _) _) _) _) _;have gy5:(((((g9.alloc (.cells #[.slice none 0 0] 36)).alloc (.cells #[.slice none 0 0] 36)).alloc (.cells #[.slice none 0 0] 36)).alloc (.cells #[.slice none 0 0] 36)).alloc (.cells #[.bool a6] 4)).heap[g9.heap.size+1]?=some (.cells #[.slice none 0 0] 36 (0,0)):=by simpa using blk_alloc (blk_alloc (blk_alloc (blk_new (g9.alloc (.cells #[.slice none 0 0] 36)) (.cells #[.slice none 0 0] 36)) (.cells #[.slice none 0 0] 36)) (.cells #[.slice none 0 0] 36)) (.cells #[.bool a6] 4)
  have gq5:(((((g9.alloc (.cells #[.slice none 0 0] 36)).alloc (.cells #[.slice none 0 0] 36)).alloc (.cells #[.slice none 0 0] 36)).alloc (.cells #[.slice none 0 0] 36)).alloc (.cells #[.bool a6] 4)).heap[g9.heap.size+1+1]?=some (.cells #[.slice none 0 0] 36 (0,0)):=by simpa using blk_alloc (blk_alloc (blk_new ((g9.alloc (.cells #[.slice none 0 0] 36)).alloc (.cells #[.slice none 0 0] 36)) (.cells #[.slice none 0 0] 36)) (.cells #[.slice none 0 0] 36)) (.cells #[.bool a6] 4)
  have gs5:(((((g9.alloc (.cells #[.slice none 0 0] 36)).alloc (.cells #[.slice none 0 0] 36)).alloc (.cells #[.slice none 0 0] 36)).alloc (.cells #[.slice none 0 0] 36)).alloc (.cells #[.bool a6] 4)).heap[g9.heap.size+1+1+1]?=some (.cells #[.slice none 0 0] 36 (0,0)):=by simpa using blk_alloc (blk_new (((g9.alloc (.cells #[.slice none 0 0] 36)).alloc (.cells #[.slice none 0 0] 36)).alloc (.cells #[.slice none 0 0] 36)) (.cells #[.slice none 0 0] 36)) (.cells #[.bool a6] 4)
  have gn5:(((((g9.alloc (.cells #[.slice none 0 0] 36)).alloc (.cells #[.slice none 0 0] 36)).alloc (.cells #[.slice none 0 0] 36)).alloc (.cells #[.slice none 0 0] 36)).alloc (.cells #[.bool a6] 4)).heap[g9.heap.size+1+1+1+1]?=some (.cells #[.bool a6] 4 (0,0)):=by simpa using blk_new ((((g9.alloc (.cells #[.slice none 0 0] 36)).alloc (.cells #[.slice none 0 0] 36)).alloc (.cells #[.slice none 0 0] 36)).alloc (.cells #[.slice none 0 0] 36)) (.cells #[.bool a6] 4)
  have j8:=blk_below HA.out j7;have j9:=blk_below HBb.out j7;have l5:=blk_below HR.out j7;have hwb:=HW.out.trans (j7.mono HW.out.size);clear j7 HA HBb HR;have hsz:=HW.out.size;clear HW;generalize (((((g9.alloc (.cells #[.slice none 0 0] 36)).alloc (.cells #[.slice none 0 0] 36)).alloc (.cells #[.slice none 0 0] 36)).alloc (.cells #[.slice none 0 0] 36)).alloc (.cells #[.bool a6] 4))=wA at *;obtain⟨gn,hgn⟩:∃ g,g=g9.heap.size+1+1+1+1:=⟨_,rfl⟩;obtain⟨gs,hgs⟩:∃ g,g=g9.heap.size+1+1+1:=⟨_,rfl⟩;obtain⟨gq,hgq⟩:∃ g,g=g9.heap.size+1+1:=⟨_,rfl⟩;obtain⟨gy,hgy⟩:∃ g,g=g9.heap.size+1:=⟨_,rfl⟩;obtain⟨gx,hgx⟩:∃ g,g=g9.heap.size:=⟨_,rfl⟩;obtain⟨gr,hgr⟩:∃ g,g=w.heap.size+1+1:=⟨_,rfl⟩;obtain⟨gb,hgb⟩:∃ g,g=w.heap.size+1:=⟨_,rfl⟩;obtain⟨ga,hga⟩:∃ g,g=w.heap.size:=⟨_,rfl⟩;have hlr:=blk_lt l5;rw[← hgn] at gn5;rw[← hgs] at gs5;rw[← hgq] at gq5;rw[← hgy] at gy5;rw[← hgx] at gx5;rw[← hgr] at l5 hlr;rw[← hgb] at j9;rw[← hga] at j8;rw[← hgn,← hgs,← hgq,← hgy,← hgx,← hgr,← hgb];have OR:=aM (show gx < gy∧gy < gq∧gq < gs∧gs < gn∧w.heap.size≤gr∧w.heap.size≤gx∧gr≠gx∧gr≠gy∧gr≠gq∧gr≠gs∧gr≠gn∧gn < wA.heap.size from by have:=blk_lt gn5;refine⟨by omega,by omega,by omega,by omega,by omega,by omega,?_,?_,?_,?_,?_,this⟩ <;> first|exact blk_ne l5 gx5 (by decide)|exact blk_ne l5 gy5 (by decide)|exact blk_ne l5 gq5 (by decide)|exact blk_ne l5 gs5 (by decide)|exact blk_ne l5 gn5 (by decide))
  clear hgn hgs hgq hgy hgx hgr hgb hsz hlr;have BX:=aM (blk_drew gx5);have BY:=aM (blk_drew gy5);have BQ:=aM (blk_drew gq5);have BS:=aM (blk_drew gs5);have BN:=aM (blk_drew gn5);have BA:=aM (blk_drew j8);have BB:=aM (blk_drew j9);have BR:=aM (blk_drew l5);have HW:=aM hwb.drew;have LN:=aM (show gn < wA.drew.heap.size from OR.out.2.2.2.2.2.2.2.2.2.2.2)
  clear gx5 gy5 gq5 gs5 gn5 j8 j9 l5 hwb;rw[← hga];have HGA:=aM hga;clear hga;refine start_ (n:=19) (S:=fun W=>W.cell? ⟨ga,1,none⟩=some (.slice a7 b4.length a8)∧W.cell? ⟨ga,2,none⟩=some (.slice b5 b7.length b6)∧W.cell? ⟨gb,1,none⟩=some (.slice b9 d6.length d0)∧W.cell? ⟨gb,2,none⟩=some (.slice d7 d9.length d8)) (ds:=[]) (bA 19 0) (by kernel_rfl) rfl rfl ⟨(blk_cell BA.out 1).trans rfl,(blk_cell BA.out 2).trans rfl,(blk_cell BB.out 1).trans rfl,(blk_cell BB.out 2).trans rfl⟩ (fun hHeld=>?_)
  generalize wA.drew=wd at BX BY BQ BS BN BA BB BR HW LN hHeld ⊢;refine pure_ (i:=0) (N:=some 20) (v:=?_) (a':=?_) (bA 19 1) rfl rfl (by kernel_rfl) (fun _ _ _ h=>h) (Or.inl ⟨by rfl,?_⟩) ?_ ?_
  rotate_left
  ·intro w';go_simp
   with_reducible rfl
  rotate_left
  ·simp only[Act.put,sA,sZ,sC,i64_w,i32_w];rfl
  refine take_ (i:=1) (N:=some 21) (v:=?_) (a':=?_) (bA 19 3) rfl rfl (by kernel_rfl) (fun _ _ _ h=>h) (Or.inl ⟨by rfl,?_⟩) hHeld ?_ ?_
  rotate_left
  ·intro w' l6;obtain⟨l7,l8,l9,m0⟩:=l6;go_simp
   with_reducible rfl
  rotate_left
  ·simp only[Act.put,sA,sZ,sC,i64_w,i32_w];rfl
  refine pure_ (i:=2) (N:=some 22) (v:=?_) (a':=?_) (bA 19 7) rfl rfl (by kernel_rfl) (fun _ _ _ h=>h) (Or.inl ⟨by rfl,?_⟩) ?_ ?_
  rotate_left
  ·intro w';go_simp
   with_reducible rfl
  rotate_left
  ·simp only[Act.put,sA,sZ,sC,i64_w,i32_w];rfl
  refine take_ (i:=3) (N:=some 23) (v:=?_) (a':=?_) (bA 19 15) rfl rfl (by kernel_rfl) (fun _ _ _ h=>h) (Or.inl ⟨by rfl,?_⟩) hHeld ?_ ?_
  rotate_left
  ·intro w' l6;obtain⟨l7,l8,l9,m0⟩:=l6;go_simp
   with_reducible rfl
  rotate_left
  ·simp only[Act.put,sA,sZ,sC,i64_w,i32_w];rfl
  refine pure_ (i:=5) (N:=some 25) (v:=?_) (a':=?_) (bA 19 47) rfl rfl (by kernel_rfl) (fun _ _ _ h=>h) (Or.inl ⟨by rfl,?_⟩) ?_ ?_
  rotate_left
  ·intro w';go_simp
   with_reducible rfl
  rotate_left
  ·simp only[Act.put,sA,sZ,sC,i64_w,i32_w];rfl
  refine take_ (i:=6) (N:=some 26) (v:=?_) (a':=?_) (bA 19 111) rfl rfl (by kernel_rfl) (fun _ _ _ h=>h) (Or.inl ⟨by rfl,?_⟩) hHeld ?_ ?_
  rotate_left
  ·intro w' l6;obtain⟨l7,l8,l9,m0⟩:=l6;go_simp
   with_reducible rfl
  rotate_left
  ·simp only[Act.put,sA,sZ,sC,i64_w,i32_w];rfl
  refine pure_ (i:=7) (N:=some 27) (v:=?_) (a':=?_) (bA 19 239) rfl rfl (by kernel_rfl) (fun _ _ _ h=>h) (Or.inl ⟨by rfl,?_⟩) ?_ ?_
  rotate_left
  ·intro w';go_simp
   with_reducible rfl
  rotate_left
  ·simp only[Act.put,sA,sZ,sC,i64_w,i32_w];rfl
  refine take_ (i:=8) (N:=some 28) (v:=?_) (a':=?_) (bA 19 495) rfl rfl (by kernel_rfl) (fun _ _ _ h=>h) (Or.inl ⟨by rfl,?_⟩) hHeld ?_ ?_
  rotate_left
  ·intro w' l6;obtain⟨l7,l8,l9,m0⟩:=l6;go_simp
   with_reducible rfl
  rotate_left
  ·simp only[Act.put,sA,sZ,sC,i64_w,i32_w];rfl
  refine pure_ (i:=10) (N:=some 30) (v:=?_) (a':=?_) (bA 19 1519) rfl rfl (by kernel_rfl) (fun _ _ _ h=>h) (Or.inl ⟨by rfl,?_⟩) ?_ ?_
  rotate_left
  ·intro w';go_simp
   with_reducible rfl
  rotate_left
  ·simp only[Act.put,sA,sZ,sC,i64_w,i32_w];rfl
  refine take_ (i:=11) (N:=some 31) (v:=?_) (a':=?_) (bA 19 3567) rfl rfl (by kernel_rfl) (fun _ _ _ h=>h) (Or.inl ⟨by rfl,?_⟩) hHeld ?_ ?_
  rotate_left
  ·intro w' l6;obtain⟨l7,l8,l9,m0⟩:=l6;go_simp
   with_reducible rfl
  rotate_left
  ·simp only[Act.put,sA,sZ,sC,i64_w,i32_w];rfl
  refine pure_ (i:=12) (N:=some 32) (v:=?_) (a':=?_) (bA 19 7663) rfl rfl (by kernel_rfl) (fun _ _ _ h=>h) (Or.inl ⟨by rfl,?_⟩) ?_ ?_
  rotate_left
  ·intro w';go_simp
   with_reducible rfl
  rotate_left
  ·simp only[Act.put,sA,sZ,sC,i64_w,i32_w];rfl
  refine take_ (i:=13) (N:=some 33) (v:=?_) (a':=?_) (bA 19 15855) rfl rfl (by kernel_rfl) (fun _ _ _ h=>h) (Or.inl ⟨by rfl,?_⟩) hHeld ?_ ?_
  rotate_left
  ·intro w' l6;obtain⟨l7,l8,l9,m0⟩:=l6;go_simp
   with_reducible rfl
  rotate_left
  ·simp only[Act.put,sA,sZ,sC,i64_w,i32_w];rfl
  refine pure_ (i:=15) (N:=some 35) (v:=?_) (a':=?_) (bA 19 48623) rfl rfl (by kernel_rfl) (fun _ _ _ h=>h) (Or.inl ⟨by rfl,?_⟩) ?_ ?_
  rotate_left
  ·intro w';go_simp
   with_reducible rfl
  rotate_left
  ·simp only[Act.put,sA,sZ,sC,i64_w,i32_w];rfl
  refine one_ (i:=4) (N:=some 24) (bA 19 48639) rfl rfl (by kernel_rfl) (by decide) (fun K hK=>?_)
  refine goes_ Try.func49 (by kernel_rfl) rfl #[.pointer (some ⟨gx,0,none⟩),.slice a7 b4.length a8,.slice d7 d9.length d8] (by rfl) rfl rfl mA ?_
  with_reducible refine(Dzf.calls gx _ _ _ _ _ _ _ (blk_lt BX.out)).mono ?_
  rintro e m2 ⟨m3,rfl,hT,hbs,hb⟩;refine⟨_,rfl,?_⟩;have G1:=aM (Nat.lt_of_lt_of_le LN.out hbs);have m4:=aM hT;replace BX:=kb BX hb;replace BY:=kb BY hb;replace BQ:=kb BQ hb;replace BS:=kb BS hb;replace BN:=kb BN hb;replace BA:=kb BA hb;replace BB:=kb BB hb;replace BR:=kb BR hb;replace HW:=aM (HW.out.trans (hb.mono HW.out.size));clear hT hbs hb;refine hK.out _ _ ⟨(blk_cell BA.out 1).trans rfl,(blk_cell BA.out 2).trans rfl,(blk_cell BB.out 1).trans rfl,(blk_cell BB.out 2).trans rfl⟩ (fun hHeld1=>?_)
  clear hK K;refine nm 24 ?_;refine one_ (i:=9) (N:=some 29) (bA 19 49151) rfl rfl (by kernel_rfl) (by decide) (fun K hK=>?_)
  refine goes_ Try.func49 (by kernel_rfl) rfl #[.pointer (some ⟨gy,0,none⟩),.slice b9 d6.length d0,.slice b5 b7.length b6] (by rfl) rfl rfl mA ?_
  with_reducible refine(Dzf.calls gy _ _ _ _ _ _ _ (blk_lt BY.out)).mono ?_
  rintro e m5 ⟨m6,rfl,hT,hbs,hb⟩;refine⟨_,rfl,?_⟩;have G2:=aM (Nat.lt_of_lt_of_le (blk_lt m4.out.fb) hbs);replace m4:=aM (m4.out.below hb);have m7:=aM hT;replace BX:=kb BX hb;replace BY:=kb BY hb;replace BQ:=kb BQ hb;replace BS:=kb BS hb;replace BN:=kb BN hb;replace BA:=kb BA hb;replace BB:=kb BB hb;replace BR:=kb BR hb;replace HW:=aM (HW.out.trans (hb.mono HW.out.size));clear hT hbs hb;refine hK.out _ _ ⟨(blk_cell BA.out 1).trans rfl,(blk_cell BA.out 2).trans rfl,(blk_cell BB.out 1).trans rfl,(blk_cell BB.out 2).trans rfl⟩ (fun hHeld2=>?_)
  clear hK K;refine nm 29 ?_;refine one_ (i:=14) (N:=some 34) (bA 19 65535) rfl rfl (by kernel_rfl) (by decide) (fun K hK=>?_)
  refine goes_ Try.func49 (by kernel_rfl) rfl #[.pointer (some ⟨gq,0,none⟩),.slice b5 b7.length b6,.slice d7 d9.length d8] (by rfl) rfl rfl mA ?_
  with_reducible refine(Dzf.calls gq _ _ _ _ _ _ _ (blk_lt BQ.out)).mono ?_
  rintro e m8 ⟨m9,rfl,hT,hbs,hb⟩;refine⟨_,rfl,?_⟩;have G3:=aM (Nat.lt_of_lt_of_le (blk_lt m7.out.fb) hbs);replace m4:=aM (m4.out.below hb);replace m7:=aM (m7.out.below hb);have n0:=aM hT;replace BX:=kb BX hb;replace BY:=kb BY hb;replace BQ:=kb BQ hb;replace BS:=kb BS hb;replace BN:=kb BN hb;replace BA:=kb BA hb;replace BB:=kb BB hb;replace BR:=kb BR hb;replace HW:=aM (HW.out.trans (hb.mono HW.out.size));clear hT hbs hb;refine hK.out _ _ ⟨(blk_cell BA.out 1).trans rfl,(blk_cell BA.out 2).trans rfl,(blk_cell BB.out 1).trans rfl,(blk_cell BB.out 2).trans rfl⟩ (fun hHeld3=>?_)
  clear hK K;refine nm 34 ?_;refine one_ (i:=16) (N:=some 36) (bA 19 131071) rfl rfl (by kernel_rfl) (by decide) (fun K hK=>?_)
  refine fun_lit_step ?hg (N:=36) ?hd (cs:=#[.func (.func (thkFn 67 m3).1) #[] (thkFn 67 m3).2,.func (.func (thkFn 67 m6).1) #[] (thkFn 67 m6).2,.func (.func (thkFn 67 m9).1) #[] (thkFn 67 m9).2,.func (.func 50) #[] #[.pointer (some ⟨ga,0,none⟩),.pointer (some ⟨gb,0,none⟩),.pointer (some ⟨gx,0,none⟩),.pointer (some ⟨gy,0,none⟩),.pointer (some ⟨gs,0,none⟩),.pointer (some ⟨gn,0,none⟩)]]) (t:=66) (n:=4) ?hr ?_;(case hd=>rfl);(case hg=>rfl);(case hr=>first|(go_simp;done)|(go_simp;rfl))
  intro gF n6 hbox hb;replace m4:=aM (m4.out.below hb);replace m7:=aM (m7.out.below hb);replace n0:=aM (n0.out.below hb);replace BX:=kb BX hb;replace BY:=kb BY hb;replace BQ:=kb BQ hb;replace BS:=kb BS hb;replace BN:=kb BN hb;replace BA:=kb BA hb;replace BB:=kb BB hb;replace BR:=kb BR hb;replace HW:=aM (HW.out.trans (hb.mono HW.out.size));have BF:=aM hbox;clear hbox hb;refine hK.out _ _ ⟨(blk_cell BA.out 1).trans rfl,(blk_cell BA.out 2).trans rfl,(blk_cell BB.out 1).trans rfl,(blk_cell BB.out 2).trans rfl⟩ (fun hHeld4=>?_)
  clear hK K;refine nm 36 ?_;refine one_ (i:=17) (N:=some 37) (bA 19 262143) rfl rfl (by kernel_rfl) (by decide) (fun K hK=>?_)
  refine goes_ Try.func48 (by kernel_rfl) rfl #[.slice (some ⟨gF,0,none⟩) 4 4] (by rfl) rfl rfl mA ?_
  have hkc:∀ (A:Option Addr) (l:List Int),Kd.C (Kd.int .i64) w A l.length l→∀ W_,Kept n6 W_ (AddS5 gx gy gq gs gn)→Kd.C (Kd.int .i64) W_ A l.length l:=fun A l hC W_ hk=>by
   have hle:=HW.out.size;have ho:=OR.out;exact C_blocks hC (fun i hi=>(hk.2 i (Nat.lt_of_lt_of_le hi hle) (by unfold AddS5;omega)).trans (HW.out.block i hi))
  refine(Ezj.calls k w.heap.size m3 m6 m9 ga gb gx gy gq gs gn a6 b8 _ _ _ _ a7 a8 b4 b5 b6 b7 b9 d0 d6 d7 d8 d9 j5 ng sm q gF 4 w n6 HW.out BF.out m4.out m7.out n0.out BA.out BB.out BX.out BY.out BQ.out BS.out BN.out OR.out.1 OR.out.2.1 OR.out.2.2.1 OR.out.2.2.2.1 G1.out G2.out G3.out OR.out.2.2.2.2.2.1 (hkc _ _ H1.out) L1.out (hkc _ _ H2.out) L2.out (hkc _ _ H3.out) L3.out (hkc _ _ H4.out) L4.out HP.out).mono ?_;rintro e n7 ⟨rfl,hF⟩;refine⟨_,rfl,?_⟩;have hnS:∀ i,i≠gx→i≠gy→i≠gq→i≠gs→i≠gn→¬ AddS5 gx gy gq gs gn i:=fun i g8 n8 n9 o0 o8 o9=>by unfold AddS5 at o9;omega
  have BA2:=aM (blk_kept BA.out hF.kept (hnS _ (blk_ne BA.out BX.out (by decide)) (blk_ne BA.out BY.out (by decide)) (blk_ne BA.out BQ.out (by decide)) (blk_ne BA.out BS.out (by decide)) (blk_ne BA.out BN.out (by decide))))
  have BB2:=aM (blk_kept BB.out hF.kept (hnS _ (blk_ne BB.out BX.out (by decide)) (blk_ne BB.out BY.out (by decide)) (blk_ne BB.out BQ.out (by decide)) (blk_ne BB.out BS.out (by decide)) (blk_ne BB.out BN.out (by decide))))
  have BR2:=aM (blk_kept BR.out hF.kept (hnS _ (blk_ne BR.out BX.out (by decide)) (blk_ne BR.out BY.out (by decide)) (blk_ne BR.out BQ.out (by decide)) (blk_ne BR.out BS.out (by decide)) (blk_ne BR.out BN.out (by decide))))
  have HW2:=aM hF.below;have HF:=aM hF.fin;have HGR:=aM (OR.out.2.2.2.2.1);have HSZ:=aM (Nat.le_trans HW.out.size hF.kept.1);have HS25:=aM HW.out.size;clear hF hkc hnS m4 m7 n0 BF BA BB BR BX BY BQ BS BN G1 G2 G3 HW LN;refine hK.out _ _ ⟨(blk_cell BA2.out 1).trans rfl,(blk_cell BA2.out 2).trans rfl,(blk_cell BB2.out 1).trans rfl,(blk_cell BB2.out 2).trans rfl⟩ (fun hHeld9=>?_)
  clear hK K hHeld9;refine nm 37 ?_;refine pure_ (i:=18) (N:=some 11) (v:=?_) (a':=?_) (bA 19 524287) rfl rfl (by kernel_rfl) (fun _ _ _ h=>h) (Or.inl ⟨by rfl,?_⟩) ?_ ?_
  rotate_left
  ·intro w';go_simp
   with_reducible rfl
  rotate_left
  ·simp only[Act.put,sA,sZ,sC,i64_w,i32_w];rfl
  refine done_ (by kernel_rfl) ?_
  clear BA2 BB2;by_cases c:j5=0
  ·subst c;simp only[if_true] at h;rw[Option.bind_eq_some_iff] at h;obtain⟨⟨d1,d2,d3,d4⟩,hd,h⟩:=h;simp only[Option.some.injEq,Prod.mk.injEq] at h;obtain⟨rfl,rfl,rfl,rfl⟩:=h;obtain⟨vs,vq,hn,hs,hq⟩:=HF.out rfl;obtain⟨As,cs,es⟩:=Kd.R_slice hs.row;subst es;obtain⟨Aq,cq,eq⟩:=Kd.R_slice hq.row;subst eq;have BN:=aM hn;have BS:=aM hs.cell;have BQ:=aM hq.cell;have RS:=aM (Kd.R_reads' hs.row);have RQ:=aM (Kd.R_reads' hq.row);have HD:=aM hd;clear hn hs hq hd HF;obtain⟨hczN,hfzN⟩:=bk1 BN;obtain⟨hczS,hfzS⟩:=bk1 BS;obtain⟨hczQ,hfzQ⟩:=bk1 BQ;go_wp2_with (first|((with_reducible refine gc 54 rfl ?_);refine gC 54 (some 45) Try.func54 #[.bool ng,.slice As sm.length cs,.slice Aq q.length cq] ?_;(with_reducible refine(Dzw.calls k ng _ _ sm _ _ q _ _ _ _ _ ?_ ?_ ?_ ?_ HD.out).mono ?_);exact RS.out.2.2;exact RS.out.2.1;exact RQ.out.2.2;exact RQ.out.2.1;rintro e p0 ⟨v1_,v2_,rfl,p4,p5,hb⟩;refine⟨_,rfl,?_⟩;have p9:=aM (Kd.R_lower p4 HSZ.out);have r5:=aM (Kd.R_lower p5 HSZ.out);have BKR:=kb BR2 hb;have r6:=aM (HW2.out.trans (hb.mono HSZ.out));obtain⟨As1,cs1,es1⟩:=Kd.R_slice p9.out;subst es1;obtain⟨As2,cs2,es2⟩:=Kd.R_slice r5.out;subst es2;obtain⟨hczR_0,hczR_1,hczR_2,hfzR_0,hfzR_1,hfzR_2⟩:=bk3 BKR;clear hb p4 p5))
   refine bodyPost_ret (results_ct rfl _ _ gr 38 #[.bool d1,.slice As1 d2.length cs1,.slice As2 d3.length cs2] (0,0) _ rfl (by refine blk_put (cs:=#[.bool d1,.slice As1 d2.length cs1,.slice none 0 0]) ?_ 2 _ rfl;refine blk_put (cs:=#[.bool d1,.slice none 0 0,.slice none 0 0]) ?_ 1 _ rfl;refine blk_put (cs:=#[.bool false,.slice none 0 0,.slice none 0 0]) ?_ 0 _ rfl;exact BKR.out) Try.underlying38 rfl (by kernel_rfl)) rfl ?_
   exact⟨_,_,by first|rfl|(simp;done),Kd.R_mono (Kd.R_far (p:=⟨gr,2,none⟩) (Kd.R_far (p:=⟨gr,1,none⟩) (Kd.R_far (p:=⟨gr,0,none⟩) (Kd.R_types p9.out BKR.out (by decide)) (fun _ hk=>hk.2) _) (fun _ hk=>hk.2) _) (fun _ hk=>hk.2) _) (fun _ hk=>hk.1),Kd.R_mono (Kd.R_far (p:=⟨gr,2,none⟩) (Kd.R_far (p:=⟨gr,1,none⟩) (Kd.R_far (p:=⟨gr,0,none⟩) (Kd.R_types r5.out BKR.out (by decide)) (fun _ hk=>hk.2) _) (fun _ hk=>hk.2) _) (fun _ hk=>hk.2) _) (fun _ hk=>hk.1),((r6.out.setCell (p:=⟨gr,0,none⟩) HGR.out _).setCell (p:=⟨gr,1,none⟩) HGR.out _).setCell (p:=⟨gr,2,none⟩) HGR.out _⟩
  ·simp only[if_neg c,Option.some.injEq,Prod.mk.injEq] at h;obtain⟨rfl,rfl,rfl,rfl⟩:=h;have r7:(j5 != 0)=true:=by simpa using c
   have m3:(j5 == 0)=false:=by simpa using c
   obtain⟨hczR_0,hczR_1,hczR_2,hfzR_0,hfzR_1,hfzR_2⟩:=bk3 BR2;go_wp2
   refine bodyPost_ret (results_ct rfl _ _ gr 38 #[.bool false,.slice none 0 0,.slice none 0 0] (0,0) _ rfl (by refine blk_put (cs:=#[.bool false,.slice none 0 0,.slice none 0 0]) ?_ 2 _ rfl;refine blk_put (cs:=#[.bool false,.slice none 0 0,.slice none 0 0]) ?_ 1 _ rfl;refine blk_put (cs:=#[.bool false,.slice none 0 0,.slice none 0 0]) ?_ 0 _ rfl;exact BR2.out) Try.underlying38 rfl (by kernel_rfl)) rfl ?_
   exact⟨_,_,by first|rfl|(simp;done),Kd.R_nil _ _ _ _ _,Kd.R_nil _ _ _ _ _,((HW2.out.setCell (p:=⟨gr,0,none⟩) HGR.out _).setCell (p:=⟨gr,1,none⟩) HGR.out _).setCell (p:=⟨gr,2,none⟩) HGR.out _⟩

end Go.Proofs.Ytokkiljkgejnhaa.Print
