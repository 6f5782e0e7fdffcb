import Derived.Test.YtbnpcplckcipfaaPrint0
import Derived.Test.YtbnpcplckcipfaaPrint12
import Derived.Test.YtbnpcplckcipfaaPrint15
import Derived.Test.YtbnpcplckcipfaaPrint20
namespace Go.Proofs.Ytbnpcplckcipfaa.Print
open Go.RowKit Go.Proofs.YtbnpcplckcipfaaW.PrintWords Go.Proofs.YtbnpcplckcipfaaW.PrintLast Go.Proofs.YtbnpcplckcipfaaW.PrintMore
attribute [local go_sem] max2_int min2_int max_two min_two max_three min_three max_four min_four
set_option linter.unusedVariables false
set_option maxRecDepth 100000
set_option maxHeartbeats 8000000
set_option linter.unusedSimpArgs false

/-- What the last step of Add computes: the sign,the sum,the error. -/
def Fzb.f (k:Nat) (na nb:Bool) (x y:List Int):Option (Bool × List Int × Int) :=
 if na=nb then(Dzy.f k x y).bind fun t=>some (na,t.1,t.2) else(Fzk.f k x y).bind fun c=>if c.1 < 0 then(Dzq.f k y x).bind fun t=>some (nb,t.1,t.2) else(Dzq.f k x y).bind fun t=>some (na,t.1,t.2)
theorem Fzb.mono:∀ a6 a7 a8 a9 k,LeO (Fzb.f k a6 a7 a8 a9) (Fzb.f (k+1) a6 a7 a8 a9):=by
 intro a6 a7 a8 a9 k;unfold Fzb.f;exact LeO.ite (LeO.bind (Dzy.mono _ _ k) (fun _=>LeO.refl _)) (LeO.bind (Fzk.mono _ _ k) (fun _=>LeO.ite (LeO.bind (Dzq.mono _ _ k) (fun _=>LeO.refl _)) (LeO.bind (Dzq.mono _ _ k) (fun _=>LeO.refl _))))
def AddS (gx gy gs gn:Nat):Nat→Prop:=fun k_=>k_=gx∨k_=gy∨k_=gs∨k_=gn
theorem Fzb.calls (k B:Nat) (ga gb gx gy gs gn:Nat) (na nb:Bool) (ua1 ua2 ub1 ub2:Value) (Ax:Option Addr) (cx:Nat) (x:List Int) (Ay:Option Addr) (cy:Nat) (y:List Int) (vs:Value) (a6:Bool) (a7:List Int) (a8:Int) (a9 w:World) (hB:Below B a9 w)
  (ha:w.heap[ga]?=some (.cells #[.bool na,ua1,ua2] 33 (0,0))) (hb:w.heap[gb]?=some (.cells #[.bool nb,ub1,ub2] 33 (0,0))) (hx:w.heap[gx]?=some (.cells #[.slice Ax x.length cx] 31 (0,0))) (hy:w.heap[gy]?=some (.cells #[.slice Ay y.length cy] 31 (0,0))) (hs:w.heap[gs]?=some (.cells #[vs] 31 (0,0))) (hn:w.heap[gn]?=some (.cells #[.bool na] 4 (0,0)))
  (nxy:gx≠gy) (nsx:gs≠gx) (nsy:gs≠gy) (bx:B≤gx) (bY:B≤gy) (bs:B≤gs) (bn:B≤gn)
  (hrx:∀ W_,Kept w W_ (AddS gx gy gs gn)→cI W_ Ax x) (hcx:x.length≤cx) (hry:∀ W_,Kept w W_ (AddS gx gy gs gn)→cI W_ Ay y) (hcy:y.length≤cy) (h:Fzb.f k na nb x y=some (a6,a7,a8)) :
  Calls Try.prog 88 #[.pointer (some ⟨ga,0,none⟩),.pointer (some ⟨gb,0,none⟩),.pointer (some ⟨gx,0,none⟩),.pointer (some ⟨gy,0,none⟩),.pointer (some ⟨gs,0,none⟩),.pointer (some ⟨gn,0,none⟩)] w fun e W'=>∃ v:Value,e=.returned (.int .i64 a8)∧W'.heap[gn]?=some (.cells #[.bool a6] 4 (0,0))∧W'.heap[gs]?=some (.cells #[v] 31 (0,0))∧rI W' w (fun _=>True) v a7∧Kept w W' (AddS gx gy gs gn)∧Below B a9 W':=by
 have nsn:=blk_ne hs hn (by decide)
 have nxn:=blk_ne hx hn (by decide)
 have nyn:=blk_ne hy hn (by decide)
 have nas:=blk_ne ha hs (by decide)
 have nbs:=blk_ne hb hs (by decide)
 have nbx:=blk_ne hb hx (by decide)
 have nby:=blk_ne hb hy (by decide)
 have lx:=blk_lt hx;have ly:=blk_lt hy;have ls:=blk_lt hs;have ln:=blk_lt hn;have HBB:=aM hB;have HX:=aM hx;have HY:=aM hy;have HS:=aM hs;have HN:=aM hn;have HA:=aM ha;have HBb:=aM hb;have HRX:=aM hrx;have HRY:=aM hry;have HCX:=aM hcx;have HCY:=aM hcy;obtain⟨hczA_0,hczA_1,hczA_2,hfzA_0,hfzA_1,hfzA_2⟩:=bk3 HA;obtain⟨hczB_0,hczB_1,hczB_2,hfzB_0,hfzB_1,hfzB_2⟩:=bk3 HBb;obtain⟨hczX,hfzX⟩:=bk1 HX;obtain⟨hczY,hfzY⟩:=bk1 HY;obtain⟨hczS,hfzS⟩:=bk1 HS;obtain⟨hczN,hfzN⟩:=bk1 HN;clear hB hx hy hs hn ha hb hrx hry hcx hcy;have HKK:=aM (Kept.refl w (AddS gx gy gs gn));unfold Fzb.f at h;by_cases b4:na=nb
 ·subst b4;rw[if_pos rfl,Option.bind_eq_some_iff] at h;obtain⟨⟨t,b5⟩,ht,h⟩:=h;simp only[Option.some.injEq,Prod.mk.injEq] at h;obtain⟨rfl,rfl,rfl⟩:=h;have HT:=aM ht;clear ht;have b6:(na == na)=true:=by simp
  go_enter Try.func88,Try.ntmps88
  go_wp2_with (first|((with_reducible refine gc 89 rfl ?_);refine gC 89 (some 18) Try.func89 #[.slice Ax x.length cx,.slice Ay y.length cy] ?_;(with_reducible refine(Dzy.calls k _ _ x _ _ y t b5 _ ?_ ?_ ?_ ?_ HT.out).mono ?_);exact HRX.out _ HKK.out;exact HCX.out;exact HRY.out _ HKK.out;exact HCY.out;rintro e b7 ⟨b8,rfl,b9,hb⟩;refine⟨_,rfl,?_⟩;obtain⟨Ao_,co_,eo_⟩:=Kd.R_slice b9;subst eo_;have HO:=aM b9;have HS1:=kb HS hb;have HN1:=kb HN hb;obtain⟨hczS1,hfzS1⟩:=bk1 HS1;have d6:=aM hb;clear hb b9))
  go_ret
  refine⟨_,rfl,blk_far (p:=⟨gs,0,none⟩) HN1.out (Ne.symm nsn) _,blk_put HS1.out 0 _ rfl,?_,kept_far d6.out (Nat.le_refl _) (.inr (.inr (.inl rfl))) _,below_far HBB.out (Nat.le_trans bs (Nat.le_of_lt ls)) d6.out bs _⟩;exact Kd.R_mono (Kd.R_far (p:=⟨gs,0,none⟩) (ok:=fun k_=>w.heap.size≤k_) (Kd.R_reok rfl HO.out (fun k_ hk_=>Kd.R_base HO.out k_ hk_)) (fun k_ hk_ e_=>by have e_:k_=gs:=e_;omega) _) (fun _ _=>trivial)
 ·rw[if_neg b4,Option.bind_eq_some_iff] at h;obtain⟨⟨cv,ce⟩,hcv,h⟩:=h;by_cases d7:cv < 0
  ·rw[if_pos d7,Option.bind_eq_some_iff] at h;obtain⟨⟨t,b5⟩,ht,h⟩:=h;simp only[Option.some.injEq,Prod.mk.injEq] at h;obtain⟨rfl,rfl,rfl⟩:=h;have HT:=aM ht;have HCV:=aM hcv;clear ht hcv;have b6:(na == nb)=false:=by simpa using b4
   have d8:decide (cv < 0)=true:=dE d7;go_enter Try.func88,Try.ntmps88
   go_wp2_with (first|((with_reducible refine gc 69 rfl ?_);refine gC 69 (some 25) Try.func69 #[.slice Ax x.length cx,.slice Ay y.length cy] ?_;(with_reducible refine(Fzk.calls k _ _ x _ _ y cv ce _ ?_ ?_ ?_ ?_ HCV.out).mono ?_);exact HRX.out _ HKK.out;exact HCX.out;exact HRY.out _ HKK.out;exact HCY.out;rintro e d9 ⟨rfl,e6⟩;have hb:=e6.below;clear e6;refine⟨_,rfl,?_⟩;replace HA:=kb HA hb;replace HBb:=kb HBb hb;replace HX:=kb HX hb;replace HY:=kb HY hb;replace HS:=kb HS hb;replace HN:=kb HN hb;replace HKK:=aM (kept_trans HKK.out (show Kept _ d9 (AddS gx gy gs gn) from⟨hb.size,fun i hi _=>hb.block i hi⟩));replace HBB:=aM (HBB.out.trans (hb.mono (Nat.le_trans bs (Nat.le_of_lt ls))));have HLE:=aM hb.size;clear hczX hczY hfzX hfzY hczS hfzS hczN hfzN;obtain⟨hczX,hfzX⟩:=bk1 HX;obtain⟨hczY,hfzY⟩:=bk1 HY;clear hb))
   have HXd:=aM (blk_drew HX.out);have HYd:=aM (blk_drew HY.out);have HSd:=aM (blk_drew HS.out);have HNd:=aM (blk_drew HN.out);have HBd:=aM (blk_drew HBb.out);have HKd:=aM (show Kept w d9.drew (AddS gx gy gs gn) from HKK.out)
   have HBBd:=aM (below_drew1 HBB.out);have HLd:=aM (show w.heap.size≤d9.drew.heap.size from HLE.out)
   refine start_ (n:=7) (S:=fun W=>W.cell? ⟨gb,0,none⟩=some (.bool nb)) (ds:=[]) (bA 7 0) (by kernel_rfl) rfl rfl ((blk_cell HBd.out 0).trans rfl) (fun hHeld=>?_)
   clear HX HY HS HN HBb HKK HBB HLE hczX hfzX hczY hfzY;generalize d9.drew=wd at HXd HYd HSd HNd HBd HKd HBBd HLd hHeld ⊢;obtain⟨hczX,hfzX⟩:=bk1 HXd;obtain⟨hczY,hfzY⟩:=bk1 HYd;obtain⟨hczN,hfzN⟩:=bk1 HNd;refine pV 2 32 (bA 7 4) ?_;refine tV 3 33 (bA 7 12) hHeld ?_;refine two_ (i:=0) (j:=1) (Ni:=some 30) (Nj:=some 31) (bA 7 13) (bA 7 14) rfl rfl rfl rfl (by kernel_rfl) (by decide) (by decide) (fun K hK=>?_) (fun K hK=>?_)
   refine value_ (v:=?_) (w1:=wd) (by rfl) rfl ?_ ?_
   rotate_left
   ·go_simp
    rfl
   refine hK.out _ _ hHeld (fun _=>?_)
   clear hK K;refine nm 30 ?_;refine one_ (i:=1) (N:=some 31) (bA 7 15) rfl rfl (by kernel_rfl) (by decide) (fun K hK=>?_)
   refine value_ (v:=?_) (w1:=wd) (by rfl) rfl ?_ ?_
   rotate_left
   ·go_simp
    rfl
   refine hK.out _ _ hHeld (fun _=>?_)
   clear hK K;refine nm 31 ?_;rotate_left
   refine value_ (v:=?_) (w1:=wd) (by rfl) rfl ?_ ?_
   rotate_left
   ·go_simp
    rfl
   refine hK.out _ _ hHeld (fun _=>?_)
   clear hK K;refine nm 31 ?_;refine one_ (i:=0) (N:=some 30) (bA 7 15) rfl rfl (by kernel_rfl) (by decide) (fun K hK=>?_)
   refine value_ (v:=?_) (w1:=wd) (by rfl) rfl ?_ ?_
   rotate_left
   ·go_simp
    rfl
   refine hK.out _ _ hHeld (fun _=>?_)
   clear hK K;refine nm 30 ?_;all_goals
    refine one_ (i:=4) (N:=none) (bA 7 31) rfl rfl (by kernel_rfl) (by decide) (fun K hK=>?_)
    refine skip_ (w1:=?_) (by rfl) rfl ?_ ?_
    rotate_left
    ·go_simp
     rfl
    have hH4:(wd.setCell ⟨gx,0,none⟩ (.slice Ay y.length cy)).cell? ⟨gb,0,none⟩=some (.bool nb):=(cell_far nbx _).trans hHeld;refine hK.out _ _ hH4 (fun _=>?_)
    clear hK K;have hfzY4:(wd.setCell ⟨gx,0,none⟩ (.slice Ay y.length cy)).frozen? ⟨gy,0,none⟩=false:=blk_frozen (blk_far (p:=⟨gx,0,none⟩) HYd.out (Ne.symm nxy) _) 0;have hczY4:(wd.setCell ⟨gx,0,none⟩ (.slice Ay y.length cy)).cell? ⟨gy,0,none⟩=some (.slice Ay y.length cy):=(cell_far (Ne.symm nxy) _).trans hczY;refine one_ (i:=5) (N:=none) (bA 7 63) rfl rfl (by kernel_rfl) (by decide) (fun K hK=>?_)
    refine skip_ (w1:=?_) (by rfl) rfl ?_ ?_
    rotate_left
    ·go_simp
     rfl
    refine hK.out _ _ ((cell_far nby _).trans hH4) (fun _=>?_)
    clear hK K;have hfzN5:((wd.setCell ⟨gx,0,none⟩ (.slice Ay y.length cy)).setCell ⟨gy,0,none⟩ (.slice Ax x.length cx)).frozen? ⟨gn,0,none⟩=false:=blk_frozen (blk_far (p:=⟨gy,0,none⟩) (blk_far (p:=⟨gx,0,none⟩) HNd.out (Ne.symm nxn) _) (Ne.symm nyn) _) 0;have hczN5:((wd.setCell ⟨gx,0,none⟩ (.slice Ay y.length cy)).setCell ⟨gy,0,none⟩ (.slice Ax x.length cx)).cell? ⟨gn,0,none⟩=some (.bool na):=(cell_far (Ne.symm nyn) _).trans ((cell_far (Ne.symm nxn) _).trans hczN);refine one_ (i:=6) (N:=none) (bA 7 127) rfl rfl (by kernel_rfl) (by decide) (fun K hK=>?_)
    refine skip_ (w1:=?_) (by rfl) rfl ?_ ?_
    rotate_left
    ·go_simp
     rfl
    have nbn:gb≠gn:=blk_ne HBd.out HNd.out (by decide)
    refine hK.out _ _ ((cell_far nbn _).trans ((cell_far nby _).trans hH4)) (fun _=>?_)
    clear hK K;refine done_ (by kernel_rfl) ?_
    have HX:=aM (blk_far (p:=⟨gn,0,none⟩) (blk_far (p:=⟨gy,0,none⟩) (blk_put HXd.out 0 (.slice Ay y.length cy) rfl) nxy (.slice Ax x.length cx)) nxn (.bool nb));have HY:=aM (blk_far (p:=⟨gn,0,none⟩) (blk_put (blk_far (p:=⟨gx,0,none⟩) HYd.out (Ne.symm nxy) (.slice Ay y.length cy)) 0 (.slice Ax x.length cx) rfl) nyn (.bool nb));have HN:=aM (blk_put (blk_far (p:=⟨gy,0,none⟩) (blk_far (p:=⟨gx,0,none⟩) HNd.out (Ne.symm nxn) (.slice Ay y.length cy)) (Ne.symm nyn) (.slice Ax x.length cx)) 0 (.bool nb) rfl);have HS:=aM (blk_far (p:=⟨gn,0,none⟩) (blk_far (p:=⟨gy,0,none⟩) (blk_far (p:=⟨gx,0,none⟩) HSd.out nsx (.slice Ay y.length cy)) nsy (.slice Ax x.length cx)) nsn (.bool nb));have HKK:=aM (((HKd.out.setCell (p:=⟨gx,0,none⟩) (.inl (.inl rfl)) (.slice Ay y.length cy)).setCell (p:=⟨gy,0,none⟩) (.inl (.inr (.inl rfl))) (.slice Ax x.length cx)).setCell (p:=⟨gn,0,none⟩) (.inl (.inr (.inr (.inr rfl)))) (.bool nb));have HBB:=aM (((HBBd.out.setCell (p:=⟨gx,0,none⟩) bx (.slice Ay y.length cy)).setCell (p:=⟨gy,0,none⟩) bY (.slice Ax x.length cx)).setCell (p:=⟨gn,0,none⟩) bn (.bool nb));have HLE:=aM (show w.heap.size≤(((wd.setCell ⟨gx,0,none⟩ (.slice Ay y.length cy)).setCell ⟨gy,0,none⟩ (.slice Ax x.length cx)).setCell ⟨gn,0,none⟩ (.bool nb)).heap.size from HKK.out.1)
    clear HXd HYd HSd HNd HBd HKd HBBd HLd hHeld hczX hfzX hczY hfzY hczN hfzN hH4 hfzY4 hczY4 hfzN5 hczN5 nbn;generalize (((wd.setCell ⟨gx,0,none⟩ (.slice Ay y.length cy)).setCell ⟨gy,0,none⟩ (.slice Ax x.length cx)).setCell ⟨gn,0,none⟩ (.bool nb))=wq at HX HY HN HS HKK HBB HLE ⊢;obtain⟨hczX,hfzX⟩:=bk1 HX;obtain⟨hczY,hfzY⟩:=bk1 HY;go_wp2_with (first|((with_reducible refine gc 90 rfl ?_);refine gC 90 (some 37) Try.func90 #[.slice Ay y.length cy,.slice Ax x.length cx] ?_;(with_reducible refine(Dzq.calls k _ _ y _ _ x t b5 _ ?_ ?_ ?_ ?_ HT.out).mono ?_);exact HRY.out _ HKK.out;exact HCY.out;exact HRX.out _ HKK.out;exact HCX.out;rintro e b7 ⟨b8,rfl,b9,hb⟩;refine⟨_,rfl,?_⟩;obtain⟨Ao_,co_,eo_⟩:=Kd.R_slice b9;subst eo_;have HO:=aM b9;have HS1:=kb HS hb;have HN1:=kb HN hb;obtain⟨hczS1,hfzS1⟩:=bk1 HS1;have d6:=aM hb;clear hb b9))
    go_ret
    have hle9:=HLE.out;refine⟨_,rfl,blk_far (p:=⟨gs,0,none⟩) HN1.out (Ne.symm nsn) _,blk_put HS1.out 0 _ rfl,?_,kept_trans HKK.out (kept_far d6.out (Nat.le_refl _) (.inr (.inr (.inl rfl))) _),below_far HBB.out (Nat.le_trans (Nat.le_trans bs (Nat.le_of_lt ls)) hle9) d6.out bs _⟩;exact Kd.R_lower (Kd.R_mono (Kd.R_far (p:=⟨gs,0,none⟩) (ok:=fun k_=>wq.heap.size≤k_) (Kd.R_reok rfl HO.out (fun k_ hk_=>Kd.R_base HO.out k_ hk_)) (fun k_ hk_ e_=>by have e_:k_=gs:=e_;omega) _) (fun _ _=>trivial)) hle9
  rw[if_neg d7,Option.bind_eq_some_iff] at h;obtain⟨⟨t,b5⟩,ht,h⟩:=h;simp only[Option.some.injEq,Prod.mk.injEq] at h;obtain⟨rfl,rfl,rfl⟩:=h;have HT:=aM ht;have HCV:=aM hcv;clear ht hcv;have b6:(na == nb)=false:=by simpa using b4
  have d8:decide (cv < 0)=false:=decide_eq_false d7;go_enter Try.func88,Try.ntmps88
  go_wp2_with (first|((with_reducible refine gc 69 rfl ?_);refine gC 69 (some 25) Try.func69 #[.slice Ax x.length cx,.slice Ay y.length cy] ?_;(with_reducible refine(Fzk.calls k _ _ x _ _ y cv ce _ ?_ ?_ ?_ ?_ HCV.out).mono ?_);exact HRX.out _ HKK.out;exact HCX.out;exact HRY.out _ HKK.out;exact HCY.out;rintro e d9 ⟨rfl,e6⟩;have hb:=e6.below;clear e6;refine⟨_,rfl,?_⟩;replace HA:=kb HA hb;replace HBb:=kb HBb hb;replace HX:=kb HX hb;replace HY:=kb HY hb;replace HS:=kb HS hb;replace HN:=kb HN hb;replace HKK:=aM (kept_trans HKK.out (show Kept _ d9 (AddS gx gy gs gn) from⟨hb.size,fun i hi _=>hb.block i hi⟩));replace HBB:=aM (HBB.out.trans (hb.mono (Nat.le_trans bs (Nat.le_of_lt ls))));have HLE:=aM hb.size;clear hczX hczY hfzX hfzY hczS hfzS hczN hfzN;obtain⟨hczX,hfzX⟩:=bk1 HX;obtain⟨hczY,hfzY⟩:=bk1 HY;clear hb)|((with_reducible refine gc 90 rfl ?_);refine gC 90 (some 37) Try.func90 #[.slice Ax x.length cx,.slice Ay y.length cy] ?_;(with_reducible refine(Dzq.calls k _ _ x _ _ y t b5 _ ?_ ?_ ?_ ?_ HT.out).mono ?_);exact HRX.out _ HKK.out;exact HCX.out;exact HRY.out _ HKK.out;exact HCY.out;rintro e b7 ⟨b8,rfl,b9,hb⟩;refine⟨_,rfl,?_⟩;obtain⟨Ao_,co_,eo_⟩:=Kd.R_slice b9;subst eo_;have HO:=aM b9;have HS1:=kb HS hb;have HN1:=kb HN hb;obtain⟨hczS1,hfzS1⟩:=bk1 HS1;have d6:=aM hb;clear hb b9))
  go_ret
  have hle9:=HLE.out;refine⟨rfl,blk_far (p:=⟨gs,0,none⟩) HN1.out (Ne.symm nsn) _,_,blk_put HS1.out 0 _ rfl,?_,kept_trans HKK.out (kept_far d6.out (Nat.le_refl _) (.inr (.inr (.inl rfl))) _),below_far HBB.out (Nat.le_trans (Nat.le_trans bs (Nat.le_of_lt ls)) hle9) d6.out bs _⟩;exact Kd.R_lower (Kd.R_mono (Kd.R_far (p:=⟨gs,0,none⟩) (ok:=fun k_=>d9.heap.size≤k_) (Kd.R_reok rfl HO.out (fun k_ hk_=>Kd.R_base HO.out k_ hk_)) (fun k_ hk_ e_=>by have e_:k_=gs:=e_;omega) _) (fun _ _=>trivial)) hle9
/-- A variable that holds a row of its own. -/
structure Bx_ (W:World) (N g:Nat) (v:Value) (x:List Int):Prop where
 cell:W.heap[g]?=some (.cells #[v] 31 (0,0))
 row:Kd.R (Kd.int .i64) 3 W N (fun k_=>N≤k_) v x
theorem Bx_.step {W W1:World} {N g g':Nat} {v u:Value} {x:List Int} (h:Bx_ W N g v x) (hb:Below W.heap.size W W1) (hne:g≠g') (hlt:g' < N):Bx_ (W1.setCell ⟨g',0,none⟩ u) N g v x :=
 ⟨blk_far (p:=⟨g',0,none⟩) (blk_below h.cell hb) hne u,Kd.R_far (p:=⟨g',0,none⟩) (Kd.R_below h.row hb) (fun k_ hk_ e_=>by have e_:k_=g':=e_;omega) u⟩
theorem Bx_.new {W W1:World} {N g:Nat} {v o:Value} {x:List Int} (hg:W1.heap[g]?=some (.cells #[o] 31 (0,0))) (h:Kd.R (Kd.int .i64) 3 W1 W.heap.size (fun _=>True) v x) (hN:N≤W.heap.size) (hlt:g < N):Bx_ (W1.setCell ⟨g,0,none⟩ v) N g v x :=
 ⟨blk_put hg 0 v rfl,Kd.R_far (p:=⟨g,0,none⟩) (Kd.R_lower (Kd.R_reok rfl h (fun k_ hk_=>Nat.le_trans hN (Kd.R_base h k_ hk_))) hN) (fun k_ hk_ e_=>by have e_:k_=g:=e_;omega) v⟩
theorem Bx_.kept {W W1:World} {N g:Nat} {v:Value} {x:List Int} {S:Nat→Prop} (h:Bx_ W N g v x) (hk:Kept W W1 S) (hg:¬ S g) (hS:∀ k,N≤k→¬ S k):Bx_ W1 N g v x :=
 ⟨blk_kept h.cell hk hg,Kd.R_mono (Kd.R_keptB h.row hk hS) (fun _ hk_=>hk_.1)⟩
theorem Bx_.reads {W W1:World} {N g n c:Nat} {A:Option Addr} {x:List Int} {S:Nat→Prop} (h:Bx_ W N g (.slice A n c) x) (hk:Kept W W1 S) (hS:∀ k,N≤k→¬ S k):cI W1 A x:=(Kd.R_reads' (Kd.R_keptB h.row hk hS)).2.2
def Fzq.f (k:Nat) (na nb:Bool) (aP aQ bP bQ:List Int):Option (Int × Bool × List Int × List Int) :=
 (Bzp.f k aP bQ).bind fun x=>if x.2=0 then(Bzp.f k bP aQ).bind fun y=>if y.2=0 then(Bzp.f k aQ bQ).bind fun q=>if q.2=0 then(Fzb.f k na nb x.1 y.1).bind fun t=>some (t.2.2,t.1,t.2.1,q.1) else some (q.2,na,([]:List Int),([]:List Int)) else some (y.2,na,([]:List Int),([]:List Int)) else some (x.2,na,([]:List Int),([]:List Int))
theorem Fzq.mono:∀ a6 a7 a8 a9 b4 b5 k,LeO (Fzq.f k a6 a7 a8 a9 b4 b5) (Fzq.f (k+1) a6 a7 a8 a9 b4 b5):=by
 intro a6 a7 a8 a9 b4 b5 k;unfold Fzq.f;exact LeO.bind (Bzp.mono _ _ k) (fun _=>LeO.ite (LeO.bind (Bzp.mono _ _ k) (fun _=>LeO.ite (LeO.bind (Bzp.mono _ _ k) (fun _=>LeO.ite (LeO.bind (Fzb.mono _ _ _ _ k) (fun _=>LeO.refl _)) (LeO.refl _))) (LeO.refl _))) (LeO.refl _))
def AddS5 (gx gy gq gs gn:Nat):Nat→Prop:=fun k_=>k_=gx∨k_=gy∨k_=gq∨k_=gs∨k_=gn
/-- What the four steps leave. -/
structure Fin4 (B:Nat) (w0 w W:World) (gx gy gq gs gn:Nat) (r:Int) (neg:Bool) (sum q:List Int):Prop where
 kept:Kept w W (AddS5 gx gy gq gs gn)
 below:Below B w0 W
 fin:r=0→∃ vs vq:Value,W.heap[gn]?=some (.cells #[.bool neg] 4 (0,0))∧Bx_ W w.heap.size gs vs sum∧Bx_ W w.heap.size gq vq q
set_option maxHeartbeats 4000000 in
theorem Fzq.calls (k B a6 a7 a8 ga gb gx gy gq gs gn:Nat) (na nb:Bool) (ua1 ua2 ub1 ub2:Value) (AaP:Option Addr) (caP:Nat) (aP:List Int) (AaQ:Option Addr) (caQ:Nat) (aQ:List Int) (AbP:Option Addr) (cbP:Nat) (bP:List Int) (AbQ:Option Addr) (cbQ:Nat) (bQ:List Int) (a9:Int) (b4:Bool) (b5 b6:List Int) (g cg:Nat) (b7 w:World) (hB:Below B b7 w)
  (hg:w.heap[g]?=some (.cells #[.func (.func (thkFn 96 a6).1) #[] (thkFn 96 a6).2,.func (.func (thkFn 96 a7).1) #[] (thkFn 96 a7).2,.func (.func (thkFn 96 a8).1) #[] (thkFn 96 a8).2,.func (.func 88) #[] #[.pointer (some ⟨ga,0,none⟩),.pointer (some ⟨gb,0,none⟩),.pointer (some ⟨gx,0,none⟩),.pointer (some ⟨gy,0,none⟩),.pointer (some ⟨gs,0,none⟩),.pointer (some ⟨gn,0,none⟩)]] 80 (0,0)))
  (b8:Thk w a6 gx AaP aP.length caP AbQ bQ.length cbQ) (b9:Thk w a7 gy AbP bP.length cbP AaQ aQ.length caQ) (d6:Thk w a8 gq AaQ aQ.length caQ AbQ bQ.length cbQ)
  (ha:w.heap[ga]?=some (.cells #[.bool na,ua1,ua2] 33 (0,0))) (hb:w.heap[gb]?=some (.cells #[.bool nb,ub1,ub2] 33 (0,0)))
  (hx:w.heap[gx]?=some (.cells #[.slice none 0 0] 31 (0,0))) (hy:w.heap[gy]?=some (.cells #[.slice none 0 0] 31 (0,0))) (hq:w.heap[gq]?=some (.cells #[.slice none 0 0] 31 (0,0))) (hs:w.heap[gs]?=some (.cells #[.slice none 0 0] 31 (0,0))) (hn:w.heap[gn]?=some (.cells #[.bool na] 4 (0,0)))
  (o1:gx < gy) (o2:gy < gq) (o3:gq < gs) (o4:gs < gn) (o5:gn < a6) (o6:a6+2 < a7) (o7:a7+2 < a8) (hBx:B≤gx)
  (d7:∀ W_,Kept w W_ (AddS5 gx gy gq gs gn)→cI W_ AaP aP) (d8:aP.length≤caP) (d9:∀ W_,Kept w W_ (AddS5 gx gy gq gs gn)→cI W_ AaQ aQ) (e6:aQ.length≤caQ)
  (e7:∀ W_,Kept w W_ (AddS5 gx gy gq gs gn)→cI W_ AbP bP) (e8:bP.length≤cbP) (e9:∀ W_,Kept w W_ (AddS5 gx gy gq gs gn)→cI W_ AbQ bQ) (f3:bQ.length≤cbQ)
  (h:Fzq.f k na nb aP aQ bP bQ=some (a9,b4,b5,b6)) :
  Calls Try.prog 67 #[.slice (some ⟨g,0,none⟩) 4 cg] w fun e w'=>e=.returned (.int .i64 a9)∧Fin4 B b7 w w' gx gy gq gs gn a9 b4 b5 b6:=by
 have hfn:∃ fn,Try.prog.funcs[96]?=some fn∧(fn.name == "runtime.NumGoroutine")=false∧fn.body.isSome=true:=⟨_,Try.func96,by kernel_rfl,rfl⟩
 have hfn1:∃ fn,Try.prog.funcs[88]?=some fn∧(fn.name == "runtime.NumGoroutine")=false∧fn.body.isSome=true:=⟨_,Try.func88,by kernel_rfl,rfl⟩
 have lx:=blk_lt hx;have ly:=blk_lt hy;have lq:=blk_lt hq;have ls:=blk_lt hs;have ln:=blk_lt hn;have f4:=blk_ne hg hx (by decide)
 have f5:=blk_ne hg hn (by decide)
 have f6:=blk_ne hg hy (by decide)
 have f7:=blk_ne hg hq (by decide)
 have f8:=blk_ne hg hs (by decide)
 have f9:=blk_ne ha hx (by decide)
 have g4:=blk_ne ha hy (by decide)
 have g5:=blk_ne ha hq (by decide)
 have g6:=blk_ne ha hs (by decide)
 have g7:=blk_ne ha hn (by decide)
 have d1:=blk_ne hb hx (by decide)
 have d2:=blk_ne hb hy (by decide)
 have d3:=blk_ne hb hq (by decide)
 have d4:=blk_ne hb hs (by decide)
 have d5:=blk_ne hb hn (by decide)
 have nS:∀ i,i≠gx→i≠gy→i≠gq→i≠gs→i≠gn→¬ AddS5 gx gy gq gs gn i:=fun i g8 g9 j3 j4 j5 j6=>by
  unfold AddS5 at j6;omega
 have far:∀ (W:World) (i:Nat) (o:Obj),Kept w W (AddS5 gx gy gq gs gn)→i≠gx→i≠gy→i≠gq→i≠gs→i≠gn→w.heap[i]?=some o→W.heap[i]?=some o:=fun W i o hk g8 g9 j3 j4 j5 ho=>blk_kept ho hk (nS i g8 g9 j3 j4 j5)
 have thk:∀ (W:World) (b gp:Nat) (A A':Option Addr) (n c n' c':Nat),Kept w W (AddS5 gx gy gq gs gn)→gn < b→Thk w b gp A n c A' n' c'→Thk W b gp A n c A' n' c':=fun W b gp A A' n c n' c' hk hb hT =>
  ⟨far W b _ hk (by omega) (by omega) (by omega) (by omega) (by omega) hT.tp,far W (b+1) _ hk (by omega) (by omega) (by omega) (by omega) (by omega) hT.fa,far W (b+2) _ hk (by omega) (by omega) (by omega) (by omega) (by omega) hT.fb,hT.lt⟩
 let I:Nat→World→Prop:=fun j W=>Kept w W (AddS5 gx gy gq gs gn)∧Below B b7 W∧match j with
  | 0=>W=w
  | 1=>∃ (v:Value) (x:List Int),Bzp.f k aP bQ=some (x,0)∧Bx_ W w.heap.size gx v x∧Kept w W (fun k_=>k_=gx)
  | 2=>∃ (v j7:Value) (x y:List Int),Bzp.f k aP bQ=some (x,0)∧Bzp.f k bP aQ=some (y,0)∧Bx_ W w.heap.size gx v x∧Bx_ W w.heap.size gy j7 y∧Kept w W (fun k_=>k_=gx∨k_=gy)
  | 3=>∃ (v j7 j8:Value) (x y q:List Int),Bzp.f k aP bQ=some (x,0)∧Bzp.f k bP aQ=some (y,0)∧Bzp.f k aQ bQ=some (q,0)∧Bx_ W w.heap.size gx v x∧Bx_ W w.heap.size gy j7 y∧Bx_ W w.heap.size gq j8 q∧Kept w W (fun k_=>k_=gx∨k_=gy∨k_=gq)
  | _=>Fin4 B b7 w W gx gy gq gs gn 0 b4 b5 b6∧a9=0
 let Qr:Int→World→Prop:=fun r W=>Fin4 B b7 w W gx gy gq gs gn r b4 b5 b6∧r=a9
 unfold Fzq.f at h;rw[Option.bind_eq_some_iff] at h;obtain⟨⟨x,j9⟩,l5,h⟩:=h;have hS:Steps_ [thkFn 96 a6,thkFn 96 a7,thkFn 96 a8,(88,#[.pointer (some ⟨ga,0,none⟩),.pointer (some ⟨gb,0,none⟩),.pointer (some ⟨gx,0,none⟩),.pointer (some ⟨gy,0,none⟩),.pointer (some ⟨gs,0,none⟩),.pointer (some ⟨gn,0,none⟩)])] ⟨g,0,none⟩ I Qr:=by
  refine⟨fun j W hI i x hx=>?_,fun j W z hI hz=>?_,fun W hI=>⟨hI.2.2.1,hI.2.2.2.symm⟩⟩
  ·rw[add_plain];have g8:=far W g _ hI.1 f4 f6 f7 f8 f5 hg;rw[blk_cell g8 i];match i,hx with
   | 0,hx=>cases hx;rfl
   | 1,hx=>cases hx;rfl
   | 2,hx=>cases hx;rfl
   | 3,hx=>cases hx;rfl
   | i+4,hx=>simp at hx
  ·match j,hz,hI with
   | 0,hz,hI =>
    cases hz
    obtain⟨hk,hbl,hw⟩:=hI;cases hw
    refine⟨hfn,?_⟩;refine(Gzz.calls k a6 gx AaP caP aP AbQ cbQ bQ _ x j9 w b8 hx (d7 w hk) d8 (e9 w hk) f3 l5).mono ?_;rintro e W' ⟨W1,v,rfl,rfl,hR,l6⟩;have hkx:Kept w (W1.setCell ⟨gx,0,none⟩ v) (fun k_=>k_=gx):=kept_far (S:=fun k_=>k_=gx) l6 (Nat.le_refl _) rfl v
    have hk5:Kept w (W1.setCell ⟨gx,0,none⟩ v) (AddS5 gx gy gq gs gn):=kept_far l6 (Nat.le_refl _) (.inl rfl) v;have hbl1:=below_far hbl (Nat.le_trans hBx (Nat.le_of_lt lx)) l6 hBx v;refine⟨j9,rfl,fun l7=>?_,fun l7=>?_⟩
    ·subst l7;exact⟨hk5,hbl1,v,x,l5,Bx_.new (blk_below hx l6) hR (Nat.le_refl _) lx,hkx⟩
    ·simp only[if_neg l7,Option.some.injEq,Prod.mk.injEq] at h;obtain⟨rfl,rfl,rfl,rfl⟩:=h;exact⟨⟨hk5,hbl1,fun l8=>absurd l8 l7⟩,rfl⟩
   | 1,hz,hI =>
    cases hz
    obtain⟨hk,hbl,v,x',l9,hbx,hkx⟩:=hI;rw[l5] at l9;cases l9
    simp only[if_true] at h;rw[Option.bind_eq_some_iff] at h;obtain⟨⟨y,m0⟩,m4,h⟩:=h;have hyW:=blk_kept hy hkx (by omega)
    refine⟨hfn,?_⟩;refine(Gzz.calls k a7 gy AbP cbP bP AaQ caQ aQ _ y m0 W (thk W _ _ _ _ _ _ _ _ hk (by omega) b9) hyW (e7 W hk) e8 (d9 W hk) e6 m4).mono ?_
    rintro e W' ⟨W1,j7,rfl,rfl,hR,l6⟩;have hkx2:Kept w (W1.setCell ⟨gy,0,none⟩ j7) (fun k_=>k_=gx∨k_=gy):=kept_trans ⟨hkx.1,fun i hi hn=>hkx.2 i hi (fun e_=>hn (.inl e_))⟩ (kept_far l6 (Nat.le_refl _) (.inr rfl) j7)
    have hk5:Kept w (W1.setCell ⟨gy,0,none⟩ j7) (AddS5 gx gy gq gs gn):=kept_trans hk (kept_far l6 (Nat.le_refl _) (.inr (.inl rfl)) j7);have hbl1:=below_far hbl (Nat.le_trans (Nat.le_trans hBx (Nat.le_of_lt lx)) hk.1) l6 (show B≤gy by omega) j7
    refine⟨m0,rfl,fun l7=>?_,fun l7=>?_⟩
    ·subst l7;exact⟨hk5,hbl1,v,j7,x,y,l5,m4,hbx.step l6 (by omega) ly,Bx_.new (blk_below hyW l6) hR hk.1 ly,hkx2⟩
    ·simp only[if_neg l7,Option.some.injEq,Prod.mk.injEq] at h;obtain⟨rfl,rfl,rfl,rfl⟩:=h;exact⟨⟨hk5,hbl1,fun l8=>absurd l8 l7⟩,rfl⟩
   | 2,hz,hI =>
    cases hz
    obtain⟨hk,hbl,v,j7,x',y,l9,m4,hbx,hby,hkx⟩:=hI;rw[l5] at l9;cases l9
    simp only[if_true,m4,Option.bind_some] at h;rw[Option.bind_eq_some_iff] at h;obtain⟨⟨q,m5⟩,m6,h⟩:=h;have hqW:=blk_kept hq hkx (by omega)
    refine⟨hfn,?_⟩;refine(Gzz.calls k a8 gq AaQ caQ aQ AbQ cbQ bQ _ q m5 W (thk W _ _ _ _ _ _ _ _ hk (by omega) d6) hqW (d9 W hk) e6 (e9 W hk) f3 m6).mono ?_
    rintro e W' ⟨W1,j8,rfl,rfl,hR,l6⟩;have hkx2:Kept w (W1.setCell ⟨gq,0,none⟩ j8) (fun k_=>k_=gx∨k_=gy∨k_=gq):=kept_trans ⟨hkx.1,fun i hi hn=>hkx.2 i hi (fun e_=>hn (by omega))⟩ (kept_far l6 (Nat.le_refl _) (.inr (.inr rfl)) j8)
    have hk5:Kept w (W1.setCell ⟨gq,0,none⟩ j8) (AddS5 gx gy gq gs gn):=kept_trans hk (kept_far l6 (Nat.le_refl _) (.inr (.inr (.inl rfl))) j8);have hbl1:=below_far hbl (Nat.le_trans (Nat.le_trans hBx (Nat.le_of_lt lx)) hk.1) l6 (show B≤gq by omega) j8
    refine⟨m5,rfl,fun l7=>?_,fun l7=>?_⟩
    ·subst l7;exact⟨hk5,hbl1,v,j7,j8,x,y,q,l5,m4,m6,hbx.step l6 (by omega) lq,hby.step l6 (by omega) lq,Bx_.new (blk_below hqW l6) hR hk.1 lq,hkx2⟩
    ·simp only[if_neg l7,Option.some.injEq,Prod.mk.injEq] at h;obtain⟨rfl,rfl,rfl,rfl⟩:=h;exact⟨⟨hk5,hbl1,fun l8=>absurd l8 l7⟩,rfl⟩
   | 3,hz,hI =>
    cases hz
    obtain⟨hk,hbl,v,j7,j8,x',y,q,l9,m4,m6,hbx,hby,hbq,hkx⟩:=hI;rw[l5] at l9;cases l9
    simp only[if_true,m4,m6,Option.bind_some] at h;rw[Option.bind_eq_some_iff] at h;obtain⟨⟨m7,m8,m9⟩,n0,h⟩:=h;simp only[Option.some.injEq,Prod.mk.injEq] at h;obtain⟨rfl,rfl,rfl,rfl⟩:=h;have hsW:=blk_kept hs hkx (by omega)
    have hnW:=blk_kept hn hkx (by omega)
    have haW:=far W ga _ hk f9 g4 g5 g6 g7 ha;have hbW:=far W gb _ hk d1 d2 d3 d4 d5 hb;obtain⟨Ax,cx,ex⟩:=Kd.R_slice hbx.row;subst ex;obtain⟨Ay,cy,ey⟩:=Kd.R_slice hby.row;subst ey;have hS4:∀ k_,w.heap.size≤k_→¬ AddS gx gy gs gn k_:=fun k_ g8 g9=>by unfold AddS at g9;omega
    refine⟨hfn1,?_⟩;refine(Fzb.calls k B ga gb gx gy gs gn na nb ua1 ua2 ub1 ub2 Ax cx x Ay cy y _ m7 m8 m9 b7 W hbl haW hbW hbx.cell hby.cell hsW hnW (by omega) (by omega) (by omega) hBx (by omega) (by omega) (by omega) (fun W_ hk_=>hbx.reads hk_ hS4) (Kd.R_reads' hbx.row).2.1 (fun W_ hk_=>hby.reads hk_ hS4) (Kd.R_reads' hby.row).2.1 n0).mono ?_
    rintro e W' ⟨vs,rfl,hn',hs',hR',hk',hb'⟩;have hk5:Kept w W' (AddS5 gx gy gq gs gn):=kept_trans hk ⟨hk'.1,fun i hi hn=>hk'.2 i hi (fun e_=>hn (by unfold AddS at e_;unfold AddS5;omega))⟩
    have hfin:Fin4 B b7 w W' gx gy gq gs gn m9 m7 m8 q:=⟨hk5,hb',fun _=>⟨vs,j8,hn',⟨hs',Kd.R_lower (Kd.R_reok rfl hR' (fun k_ hk_=>Nat.le_trans hk.1 (Kd.R_base hR' k_ hk_))) hk.1⟩,hbq.kept hk' (fun e_=>by unfold AddS at e_;omega) hS4⟩⟩
    refine⟨m9,rfl,fun l7=>?_,fun l7=>⟨hfin,rfl⟩⟩
    subst l7;exact⟨hk5,hb',hfin,rfl⟩
   | j+4,hz,hI=>simp at hz
 have hI0:I 0 w:=⟨⟨Nat.le_refl _,fun _ _ _=>rfl⟩,hB,rfl⟩
 refine(Gzm.calls _ ⟨g,0,none⟩ cg w I Qr hS hI0 (by simp)).mono ?_
 rintro e w' ⟨r,rfl,hF,rfl⟩;exact⟨rfl,hF⟩
theorem rat_pair_C {W:World} {g:Nat} {T:TypeId} {n m:Bool} {A B A' B':Option Addr} {p q p' q':List Int} {c d c' d':Nat} (hb:W.heap[g]?=some (.cells #[.bool n,.slice A p.length c,.slice B q.length d,.bool m,.slice A' p'.length c',.slice B' q'.length d'] T (0,0)))
  (a6:cI W A p) (l1:p.length≤c) (a7:cI W B q) (l2:q.length≤d) (a8:Kd.C (Kd.int .i64) W A' p'.length p') (a9:p'.length≤c') (b4:Kd.C (Kd.int .i64) W B' q'.length q') (b5:q'.length≤d') :
  Kd.C k33 W (some ⟨g,0,none⟩) 2 [(⟨n,p,q⟩:S33),(⟨m,p',q'⟩:S33)]:=by
 refine⟨rfl,by simp,fun _=>⟨_,rfl,fun j x hj=>?_⟩⟩
 match j,hj with
 | 0,hj =>
  cases hj
  refine⟨_,rfl,k33_mk W ⟨n,p,q⟩ l1 a6 l2 a7,fun i u hu=>?_⟩
  rw[add_plain];refine(blk_cell hb _).trans ?_;match i,hu with
  | 0,hu=>exact hu
  | 1,hu=>exact hu
  | 2,hu=>exact hu
  | i+3,hu=>simp at hu
 | 1,hj =>
  cases hj
  refine⟨_,rfl,k33_mk W ⟨m,p',q'⟩ a9 a8 b5 b4,fun i u hu=>?_⟩
  rw[add_plain];refine(blk_cell hb _).trans ?_;match i,hu with
  | 0,hu=>exact hu
  | 1,hu=>exact hu
  | 2,hu=>exact hu
  | i+3,hu=>simp at hu
 | j+2,hj=>simp at hj
theorem C_blocks {w W:World} {A:Option Addr} {n:Nat} {xs:List Int} (h:Kd.C (Kd.int .i64) w A n xs) (hb:∀ i,i < w.heap.size→W.heap[i]?=w.heap[i]?):Kd.C (Kd.int .i64) W A n xs:=by
 refine⟨h.1,h.2.1,fun hp=>?_⟩
 obtain⟨ad,a6,a7⟩:=h.2.2 hp;refine⟨ad,a6,fun j q hj=>?_⟩
 obtain⟨cs,a8,a9,b4⟩:=a7 j q hj;refine⟨cs,a8,a9,fun i u hu=>?_⟩
 have b5:=b4 i u hu;rw[← b5];exact World.cell?_of_block (w:=w) (hb _ (World.block_lt_of_cell? w _ b5))
def Ezf.f (k:Nat) (a0_0:Bool) (l0_1:List Int) (l0_2:List Int) (a1_0:Bool) (l1_1:List Int) (l1_2:List Int):Option (Bool × List Int × List Int × Int) :=
 (Bzk.f k [(⟨a0_0,l0_1,l0_2⟩:S33),(⟨a1_0,l1_1,l1_2⟩:S33)]).bind fun t=>if t=true then((Fzq.f k a0_0 a1_0 l0_1 l0_2 l1_1 l1_2).bind fun b=>if b.1=0 then(Dzb.f k b.2.1 b.2.2.1 b.2.2.2).bind (fun c=>some (c.1,c.2.1,c.2.2.1,c.2.2.2)) else some (false,([]:List Int),([]:List Int),b.1)) else some (false,([]:List Int),([]:List Int),3)
theorem Ezf.mono:∀ a6 a7 a8 a9 b4 b5 k,LeO (Ezf.f k a6 a7 a8 a9 b4 b5) (Ezf.f (k+1) a6 a7 a8 a9 b4 b5):=by
 intro a6 a7 a8 a9 b4 b5 k;unfold Ezf.f;exact LeO.bind (Bzk.mono _ k) (fun _=>LeO.ite (LeO.bind (Fzq.mono _ _ _ _ _ _ k) (fun _=>LeO.ite (LeO.bind (Dzb.mono _ _ _ k) (fun _=>LeO.refl _)) (LeO.refl _))) (LeO.refl _))
theorem Ezf.calls (k:Nat) (a6:Bool) (a7:Option Addr) (a8:Nat) (a9:List Int) (b4:Option Addr) (b5:Nat) (b6:List Int) (b7:Bool) (b8:Option Addr) (b9:Nat) (d6:List Int) (d7:Option Addr) (d8:Nat) (d9:List Int) (e6:Bool) (e7:List Int) (e8:List Int) (e9:Int) (w:World) (f3:cI w a7 a9) (f4:a9.length≤a8) (f5:cI w b4 b6) (f6:b6.length≤b5) (f7:cI w b8 d6) (f8:d6.length≤b9) (f9:cI w d7 d9) (g4:d9.length≤d8) (h:Ezf.f k a6 a9 b6 b7 d6 d9=some (e6,e7,e8,e9)) :
  Calls Try.prog 64 #[.agg #[.bool a6,.slice a7 a9.length a8,.slice b4 b6.length b5],.agg #[.bool b7,.slice b8 d6.length b9,.slice d7 d9.length d8]] w fun e w'=>∃ v1_ v2_:Value,e=.returned (.tuple #[.agg #[.bool e6,v1_,v2_],.int .i64 e9])∧rI w' w (oV v2_) v1_ e7∧rI w' w (oV v1_) v2_ e8∧bw w w':=by
 have hmf_:∀ (fn:Fn) (first cap:Array Value) (w:World),(Instr.makeFunc fn first cap).run Try.prog w=.ok (.func fn first cap) w:=fun _ _ _ _=>rfl
 have H1:=aM f3;have H2:=aM f5;have H3:=aM f7;have H4:=aM f9;have L1:=aM f4;have L2:=aM f6;have L3:=aM f8;have L4:=aM g4;clear f3 f5 f7 f9 f4 f6 f8 g4;unfold Ezf.f at h;rw[Option.bind_eq_some_iff] at h;obtain⟨tv,hv,h⟩:=h;have HV:=aM hv;clear hv;have cV:∀ W,W=(((w.alloc (.cells #[.bool a6,.slice a7 a9.length a8,.slice b4 b6.length b5] 33)).alloc (.cells #[.bool b7,.slice b8 d6.length b9,.slice d7 d9.length d8] 33)).alloc (.cells #[.bool false,.slice none 0 0,.slice none 0 0] 33)).alloc (.cells #[.bool a6,.slice a7 a9.length a8,.slice b4 b6.length b5,.bool b7,.slice b8 d6.length b9,.slice d7 d9.length d8] 33)→Calls Try.prog 62 #[.slice (some ⟨w.heap.size+1+1+1,0,none⟩) 2 2] W fun e w'=>e=.returned (.bool tv)∧w'.heap[w.heap.size]?=some (.cells #[.bool a6,.slice a7 a9.length a8,.slice b4 b6.length b5] 33 (0,0))∧w'.heap[w.heap.size+1]?=some (.cells #[.bool b7,.slice b8 d6.length b9,.slice d7 d9.length d8] 33 (0,0))∧w'.heap[w.heap.size+1+1]?=some (.cells #[.bool false,.slice none 0 0,.slice none 0 0] 33 (0,0))∧bw w w':=by
  intro W hW;have ha:W.heap[w.heap.size]?=some (.cells #[.bool a6,.slice a7 a9.length a8,.slice b4 b6.length b5] 33 (0,0)):=by subst hW;exact blk_alloc (blk_alloc (blk_alloc (blk_new w _) _) _) _
  have hb:W.heap[w.heap.size+1]?=some (.cells #[.bool b7,.slice b8 d6.length b9,.slice d7 d9.length d8] 33 (0,0)):=by subst hW;simpa using blk_alloc (blk_alloc (blk_new (w.alloc (.cells #[.bool a6,.slice a7 a9.length a8,.slice b4 b6.length b5] 33)) (.cells #[.bool b7,.slice b8 d6.length b9,.slice d7 d9.length d8] 33)) _) _
  have hc:W.heap[w.heap.size+1+1]?=some (.cells #[.bool false,.slice none 0 0,.slice none 0 0] 33 (0,0)):=by subst hW;simpa using blk_alloc (blk_new ((w.alloc (.cells #[.bool a6,.slice a7 a9.length a8,.slice b4 b6.length b5] 33)).alloc (.cells #[.bool b7,.slice b8 d6.length b9,.slice d7 d9.length d8] 33)) (.cells #[.bool false,.slice none 0 0,.slice none 0 0] 33)) _
  have hd:W.heap[w.heap.size+1+1+1]?=some (.cells #[.bool a6,.slice a7 a9.length a8,.slice b4 b6.length b5,.bool b7,.slice b8 d6.length b9,.slice d7 d9.length d8] 33 (0,0)):=by subst hW;simpa using blk_new (((w.alloc (.cells #[.bool a6,.slice a7 a9.length a8,.slice b4 b6.length b5] 33)).alloc (.cells #[.bool b7,.slice b8 d6.length b9,.slice d7 d9.length d8] 33)).alloc (.cells #[.bool false,.slice none 0 0,.slice none 0 0] 33)) (.cells #[.bool a6,.slice a7 a9.length a8,.slice b4 b6.length b5,.bool b7,.slice b8 d6.length b9,.slice d7 d9.length d8] 33)
  have hw:bw w W:=by subst hW;exact((((Below.refl _ w).alloc (Nat.le_refl _) _).alloc (by simp) _).alloc (by simp;omega) _).alloc (by simp;omega) _
  refine(Bzk.calls k (some ⟨w.heap.size+1+1+1,0,none⟩) 2 [(⟨a6,a9,b6⟩:S33),(⟨b7,d6,d9⟩:S33)] tv W (rat_pair_C hd (Kd.C_below H1.out hw) L1.out (Kd.C_below H2.out hw) L2.out (Kd.C_below H3.out hw) L3.out (Kd.C_below H4.out hw) L4.out) (Nat.le_refl _) HV.out).mono ?_;rintro e w' ⟨rfl,g5⟩;exact⟨rfl,blk_below ha g5,blk_below hb g5,blk_below hc g5,hw.trans (g5.mono hw.size)⟩
 have CV:=aM cV;clear cV HV;cases tv with
 | false =>
  simp only[Bool.false_eq_true,if_false,Option.some.injEq,Prod.mk.injEq] at h;obtain⟨rfl,rfl,rfl,rfl⟩:=h;go_enter Try.func64,Try.ntmps64
  go_wp2_with (first|((with_reducible refine gate_callee (f:=62) rfl ?_);refine goesL_ (some 15) rfl rfl Try.func62 (by kernel_rfl) rfl #[.slice (some ⟨w.heap.size+1+1+1,0,none⟩) 2 2] rfl (by first|exact mA|(simp [Act.eval];done)) ?_;refine(CV.out _ rfl).mono ?_;rintro e g6 ⟨rfl,ha,hb,hc,hw⟩;refine⟨_,rfl,?_⟩;have HR:=aM hc;have HW:=aM hw;obtain⟨hczR_0,hczR_1,hczR_2,hfzR_0,hfzR_1,hfzR_2⟩:=bk3 HR;clear ha hb hc hw))
  refine rC (w.heap.size+1+1) 33 #[.bool false,.slice none 0 0,.slice none 0 0] (by refine blk_put (cs:=#[.bool false,.slice none 0 0,.slice none 0 0]) ?_ 2 _ rfl;refine blk_put (cs:=#[.bool false,.slice none 0 0,.slice none 0 0]) ?_ 1 _ rfl;refine blk_put (cs:=#[.bool false,.slice none 0 0,.slice none 0 0]) ?_ 0 _ rfl;exact HR.out) Try.underlying33 ?_
  exact⟨_,_,rfl,Kd.R_nil _ _ _ _ _,Kd.R_nil _ _ _ _ _,((HW.out.setCell (p:=⟨w.heap.size+1+1,0,none⟩) (by show _≤w.heap.size+1+1;omega) _).setCell (p:=⟨w.heap.size+1+1,1,none⟩) (by show _≤w.heap.size+1+1;omega) _).setCell (p:=⟨w.heap.size+1+1,2,none⟩) (by show _≤w.heap.size+1+1;omega) _⟩
 | true =>
  simp only[if_true] at h;rw[Option.bind_eq_some_iff] at h;obtain⟨⟨g7,ng,sm,q⟩,hp,h⟩:=h;have HP:=aM hp;clear hp;go_enter Try.func64,Try.ntmps64
  go_wp2_with (first|((with_reducible refine gate_callee (f:=62) rfl ?_);refine goesL_ (some 15) rfl rfl Try.func62 (by kernel_rfl) rfl #[.slice (some ⟨w.heap.size+1+1+1,0,none⟩) 2 2] rfl (by first|exact mA|(simp [Act.eval];done)) ?_;refine(CV.out _ rfl).mono ?_;rintro e g6 ⟨rfl,ha,hb,hc,hw⟩;refine⟨_,rfl,?_⟩;have HA:=aM ha;have HBb:=aM hb;have HR:=aM hc;have HW:=aM hw;obtain⟨hczA_0,hczA_1,hczA_2,hfzA_0,hfzA_1,hfzA_2⟩:=bk3 HA;have g8:∀ o1 o2 o3 o4,((((g6.alloc o1).alloc o2).alloc o3).alloc o4).cell? ⟨w.heap.size,0,none⟩=some (.bool a6):=fun o1 o2 o3 o4=>(blk_cell (blk_alloc (blk_alloc (blk_alloc (blk_alloc HA.out o1) o2) o3) o4) 0).trans rfl;clear ha hb hc hw))
  clear g8 hczA_0 hczA_1 hczA_2 hfzA_0 hfzA_1 hfzA_2 CV;have g9:Below g6.heap.size g6 (((((g6.alloc (.cells #[.slice none 0 0] 31)).alloc (.cells #[.slice none 0 0] 31)).alloc (.cells #[.slice none 0 0] 31)).alloc (.cells #[.slice none 0 0] 31)).alloc (.cells #[.bool a6] 4)):=(((((Below.refl _ g6).alloc (Nat.le_refl _) _).alloc (by simp) _).alloc (by simp;omega) _).alloc (by simp;omega) _).alloc (by simp;omega) _
  have gx5:(((((g6.alloc (.cells #[.slice none 0 0] 31)).alloc (.cells #[.slice none 0 0] 31)).alloc (.cells #[.slice none 0 0] 31)).alloc (.cells #[.slice none 0 0] 31)).alloc (.cells #[.bool a6] 4)).heap[g6.heap.size]?=some (.cells #[.slice none 0 0] 31 (0,0)):=blk_alloc (blk_alloc (blk_alloc (blk_alloc (blk_new g6 _) _) _) _) _;have gy5:(((((g6.alloc (.cells #[.slice none 0 0] 31)).alloc (.cells #[.slice none 0 0] 31)).alloc (.cells #[.slice none 0 0] 31)).alloc (.cells #[.slice none 0 0] 31)).alloc (.cells #[.bool a6] 4)).heap[g6.heap.size+1]?=some (.cells #[.slice none 0 0] 31 (0,0)):=by simpa using blk_alloc (blk_alloc (blk_alloc (blk_new (g6.alloc (.cells #[.slice none 0 0] 31)) (.cells #[.slice none 0 0] 31)) (.cells #[.slice none 0 0] 31)) (.cells #[.slice none 0 0] 31)) (.cells #[.bool a6] 4)
  have gq5:(((((g6.alloc (.cells #[.slice none 0 0] 31)).alloc (.cells #[.slice none 0 0] 31)).alloc (.cells #[.slice none 0 0] 31)).alloc (.cells #[.slice none 0 0] 31)).alloc (.cells #[.bool a6] 4)).heap[g6.heap.size+1+1]?=some (.cells #[.slice none 0 0] 31 (0,0)):=by simpa using blk_alloc (blk_alloc (blk_new ((g6.alloc (.cells #[.slice none 0 0] 31)).alloc (.cells #[.slice none 0 0] 31)) (.cells #[.slice none 0 0] 31)) (.cells #[.slice none 0 0] 31)) (.cells #[.bool a6] 4)
  have gs5:(((((g6.alloc (.cells #[.slice none 0 0] 31)).alloc (.cells #[.slice none 0 0] 31)).alloc (.cells #[.slice none 0 0] 31)).alloc (.cells #[.slice none 0 0] 31)).alloc (.cells #[.bool a6] 4)).heap[g6.heap.size+1+1+1]?=some (.cells #[.slice none 0 0] 31 (0,0)):=by simpa using blk_alloc (blk_new (((g6.alloc (.cells #[.slice none 0 0] 31)).alloc (.cells #[.slice none 0 0] 31)).alloc (.cells #[.slice none 0 0] 31)) (.cells #[.slice none 0 0] 31)) (.cells #[.bool a6] 4)
  have gn5:(((((g6.alloc (.cells #[.slice none 0 0] 31)).alloc (.cells #[.slice none 0 0] 31)).alloc (.cells #[.slice none 0 0] 31)).alloc (.cells #[.slice none 0 0] 31)).alloc (.cells #[.bool a6] 4)).heap[g6.heap.size+1+1+1+1]?=some (.cells #[.bool a6] 4 (0,0)):=by simpa using blk_new ((((g6.alloc (.cells #[.slice none 0 0] 31)).alloc (.cells #[.slice none 0 0] 31)).alloc (.cells #[.slice none 0 0] 31)).alloc (.cells #[.slice none 0 0] 31)) (.cells #[.bool a6] 4)
  have j3:=blk_below HA.out g9;have j4:=blk_below HBb.out g9;have j5:=blk_below HR.out g9;have hwb:=HW.out.trans (g9.mono HW.out.size);clear g9 HA HBb HR;have hsz:=HW.out.size;clear HW;generalize (((((g6.alloc (.cells #[.slice none 0 0] 31)).alloc (.cells #[.slice none 0 0] 31)).alloc (.cells #[.slice none 0 0] 31)).alloc (.cells #[.slice none 0 0] 31)).alloc (.cells #[.bool a6] 4))=wA at *;obtain⟨gn,hgn⟩:∃ g,g=g6.heap.size+1+1+1+1:=⟨_,rfl⟩;obtain⟨gs,hgs⟩:∃ g,g=g6.heap.size+1+1+1:=⟨_,rfl⟩;obtain⟨gq,hgq⟩:∃ g,g=g6.heap.size+1+1:=⟨_,rfl⟩;obtain⟨gy,hgy⟩:∃ g,g=g6.heap.size+1:=⟨_,rfl⟩;obtain⟨gx,hgx⟩:∃ g,g=g6.heap.size:=⟨_,rfl⟩;obtain⟨gr,hgr⟩:∃ g,g=w.heap.size+1+1:=⟨_,rfl⟩;obtain⟨gb,hgb⟩:∃ g,g=w.heap.size+1:=⟨_,rfl⟩;obtain⟨ga,hga⟩:∃ g,g=w.heap.size:=⟨_,rfl⟩;have hlr:=blk_lt j5;rw[← hgn] at gn5;rw[← hgs] at gs5;rw[← hgq] at gq5;rw[← hgy] at gy5;rw[← hgx] at gx5;rw[← hgr] at j5 hlr;rw[← hgb] at j4;rw[← hga] at j3;rw[← hgn,← hgs,← hgq,← hgy,← hgx,← hgr,← hgb];have OR:=aM (show gx < gy∧gy < gq∧gq < gs∧gs < gn∧w.heap.size≤gr∧w.heap.size≤gx∧gr≠gx∧gr≠gy∧gr≠gq∧gr≠gs∧gr≠gn∧gn < wA.heap.size from by have:=blk_lt gn5;refine⟨by omega,by omega,by omega,by omega,by omega,by omega,?_,?_,?_,?_,?_,this⟩ <;> first|exact blk_ne j5 gx5 (by decide)|exact blk_ne j5 gy5 (by decide)|exact blk_ne j5 gq5 (by decide)|exact blk_ne j5 gs5 (by decide)|exact blk_ne j5 gn5 (by decide))
  clear hgn hgs hgq hgy hgx hgr hgb hsz hlr;have BX:=aM (blk_drew gx5);have BY:=aM (blk_drew gy5);have BQ:=aM (blk_drew gq5);have BS:=aM (blk_drew gs5);have BN:=aM (blk_drew gn5);have BA:=aM (blk_drew j3);have BB:=aM (blk_drew j4);have BR:=aM (blk_drew j5);have HW:=aM hwb.drew;have LN:=aM (show gn < wA.drew.heap.size from OR.out.2.2.2.2.2.2.2.2.2.2.2)
  clear gx5 gy5 gq5 gs5 gn5 j3 j4 j5 hwb;rw[← hga];have HGA:=aM hga;clear hga;refine start_ (n:=19) (S:=fun W=>W.cell? ⟨ga,1,none⟩=some (.slice a7 a9.length a8)∧W.cell? ⟨ga,2,none⟩=some (.slice b4 b6.length b5)∧W.cell? ⟨gb,1,none⟩=some (.slice b8 d6.length b9)∧W.cell? ⟨gb,2,none⟩=some (.slice d7 d9.length d8)) (ds:=[]) (bA 19 0) (by kernel_rfl) rfl rfl ⟨(blk_cell BA.out 1).trans rfl,(blk_cell BA.out 2).trans rfl,(blk_cell BB.out 1).trans rfl,(blk_cell BB.out 2).trans rfl⟩ (fun hHeld=>?_)
  generalize wA.drew=wd at BX BY BQ BS BN BA BB BR HW LN hHeld ⊢;refine pV 0 20 (bA 19 1) ?_;refine take_ (i:=1) (N:=some 21) (v:=?_) (a':=?_) (bA 19 3) rfl rfl (by kernel_rfl) (fun _ _ _ h=>h) (Or.inl ⟨by rfl,?_⟩) hHeld ?_ ?_
  rotate_left
  ·intro w' j6;obtain⟨j7,j8,j9,l5⟩:=j6;go_simp
   with_reducible rfl
  rotate_left
  ·simp only[Act.put,sA,sZ,sC,i64_w,i32_w];rfl
  refine pV 2 22 (bA 19 7) ?_;refine take_ (i:=3) (N:=some 23) (v:=?_) (a':=?_) (bA 19 15) rfl rfl (by kernel_rfl) (fun _ _ _ h=>h) (Or.inl ⟨by rfl,?_⟩) hHeld ?_ ?_
  rotate_left
  ·intro w' j6;obtain⟨j7,j8,j9,l5⟩:=j6;go_simp
   with_reducible rfl
  rotate_left
  ·simp only[Act.put,sA,sZ,sC,i64_w,i32_w];rfl
  refine pV 5 25 (bA 19 47) ?_;refine take_ (i:=6) (N:=some 26) (v:=?_) (a':=?_) (bA 19 111) rfl rfl (by kernel_rfl) (fun _ _ _ h=>h) (Or.inl ⟨by rfl,?_⟩) hHeld ?_ ?_
  rotate_left
  ·intro w' j6;obtain⟨j7,j8,j9,l5⟩:=j6;go_simp
   with_reducible rfl
  rotate_left
  ·simp only[Act.put,sA,sZ,sC,i64_w,i32_w];rfl
  refine pV 7 27 (bA 19 239) ?_;refine take_ (i:=8) (N:=some 28) (v:=?_) (a':=?_) (bA 19 495) rfl rfl (by kernel_rfl) (fun _ _ _ h=>h) (Or.inl ⟨by rfl,?_⟩) hHeld ?_ ?_
  rotate_left
  ·intro w' j6;obtain⟨j7,j8,j9,l5⟩:=j6;go_simp
   with_reducible rfl
  rotate_left
  ·simp only[Act.put,sA,sZ,sC,i64_w,i32_w];rfl
  refine pV 10 30 (bA 19 1519) ?_;refine take_ (i:=11) (N:=some 31) (v:=?_) (a':=?_) (bA 19 3567) rfl rfl (by kernel_rfl) (fun _ _ _ h=>h) (Or.inl ⟨by rfl,?_⟩) hHeld ?_ ?_
  rotate_left
  ·intro w' j6;obtain⟨j7,j8,j9,l5⟩:=j6;go_simp
   with_reducible rfl
  rotate_left
  ·simp only[Act.put,sA,sZ,sC,i64_w,i32_w];rfl
  refine pV 12 32 (bA 19 7663) ?_;refine take_ (i:=13) (N:=some 33) (v:=?_) (a':=?_) (bA 19 15855) rfl rfl (by kernel_rfl) (fun _ _ _ h=>h) (Or.inl ⟨by rfl,?_⟩) hHeld ?_ ?_
  rotate_left
  ·intro w' j6;obtain⟨j7,j8,j9,l5⟩:=j6;go_simp
   with_reducible rfl
  rotate_left
  ·simp only[Act.put,sA,sZ,sC,i64_w,i32_w];rfl
  refine pV 15 35 (bA 19 48623) ?_;refine one_ (i:=4) (N:=some 24) (bA 19 48639) rfl rfl (by kernel_rfl) (by decide) (fun K hK=>?_)
  refine goes_ Try.func68 (by kernel_rfl) rfl #[.pointer (some ⟨gx,0,none⟩),.slice a7 a9.length a8,.slice d7 d9.length d8] (by rfl) rfl rfl mA ?_
  with_reducible refine(Dzw.calls gx _ _ _ _ _ _ _ (blk_lt BX.out)).mono ?_
  rintro e l6 ⟨l7,rfl,hT,hbs,hb⟩;refine⟨_,rfl,?_⟩;have G1:=aM (Nat.lt_of_lt_of_le LN.out hbs);have l8:=aM hT;replace BX:=kb BX hb;replace BY:=kb BY hb;replace BQ:=kb BQ hb;replace BS:=kb BS hb;replace BN:=kb BN hb;replace BA:=kb BA hb;replace BB:=kb BB hb;replace BR:=kb BR hb;replace HW:=aM (HW.out.trans (hb.mono HW.out.size));clear hT hbs hb;refine hK.out _ _ ⟨(blk_cell BA.out 1).trans rfl,(blk_cell BA.out 2).trans rfl,(blk_cell BB.out 1).trans rfl,(blk_cell BB.out 2).trans rfl⟩ (fun hHeld1=>?_)
  clear hK K;refine nm 24 ?_;refine one_ (i:=9) (N:=some 29) (bA 19 49151) rfl rfl (by kernel_rfl) (by decide) (fun K hK=>?_)
  refine goes_ Try.func68 (by kernel_rfl) rfl #[.pointer (some ⟨gy,0,none⟩),.slice b8 d6.length b9,.slice b4 b6.length b5] (by rfl) rfl rfl mA ?_
  with_reducible refine(Dzw.calls gy _ _ _ _ _ _ _ (blk_lt BY.out)).mono ?_
  rintro e l9 ⟨m0,rfl,hT,hbs,hb⟩;refine⟨_,rfl,?_⟩;have G2:=aM (Nat.lt_of_lt_of_le (blk_lt l8.out.fb) hbs);replace l8:=aM (l8.out.below hb);have m4:=aM hT;replace BX:=kb BX hb;replace BY:=kb BY hb;replace BQ:=kb BQ hb;replace BS:=kb BS hb;replace BN:=kb BN hb;replace BA:=kb BA hb;replace BB:=kb BB hb;replace BR:=kb BR hb;replace HW:=aM (HW.out.trans (hb.mono HW.out.size));clear hT hbs hb;refine hK.out _ _ ⟨(blk_cell BA.out 1).trans rfl,(blk_cell BA.out 2).trans rfl,(blk_cell BB.out 1).trans rfl,(blk_cell BB.out 2).trans rfl⟩ (fun hHeld2=>?_)
  clear hK K;refine nm 29 ?_;refine one_ (i:=14) (N:=some 34) (bA 19 65535) rfl rfl (by kernel_rfl) (by decide) (fun K hK=>?_)
  refine goes_ Try.func68 (by kernel_rfl) rfl #[.pointer (some ⟨gq,0,none⟩),.slice b4 b6.length b5,.slice d7 d9.length d8] (by rfl) rfl rfl mA ?_
  with_reducible refine(Dzw.calls gq _ _ _ _ _ _ _ (blk_lt BQ.out)).mono ?_
  rintro e m5 ⟨m6,rfl,hT,hbs,hb⟩;refine⟨_,rfl,?_⟩;have G3:=aM (Nat.lt_of_lt_of_le (blk_lt m4.out.fb) hbs);replace l8:=aM (l8.out.below hb);replace m4:=aM (m4.out.below hb);have m7:=aM hT;replace BX:=kb BX hb;replace BY:=kb BY hb;replace BQ:=kb BQ hb;replace BS:=kb BS hb;replace BN:=kb BN hb;replace BA:=kb BA hb;replace BB:=kb BB hb;replace BR:=kb BR hb;replace HW:=aM (HW.out.trans (hb.mono HW.out.size));clear hT hbs hb;refine hK.out _ _ ⟨(blk_cell BA.out 1).trans rfl,(blk_cell BA.out 2).trans rfl,(blk_cell BB.out 1).trans rfl,(blk_cell BB.out 2).trans rfl⟩ (fun hHeld3=>?_)
  clear hK K;refine nm 34 ?_;refine one_ (i:=16) (N:=some 36) (bA 19 131071) rfl rfl (by kernel_rfl) (by decide) (fun K hK=>?_)
  refine fun_lit_step ?hg (N:=36) ?hd (cs:=#[.func (.func (thkFn 96 l7).1) #[] (thkFn 96 l7).2,.func (.func (thkFn 96 m0).1) #[] (thkFn 96 m0).2,.func (.func (thkFn 96 m6).1) #[] (thkFn 96 m6).2,.func (.func 88) #[] #[.pointer (some ⟨ga,0,none⟩),.pointer (some ⟨gb,0,none⟩),.pointer (some ⟨gx,0,none⟩),.pointer (some ⟨gy,0,none⟩),.pointer (some ⟨gs,0,none⟩),.pointer (some ⟨gn,0,none⟩)]]) (t:=80) (n:=4) ?hr ?_;(case hd=>rfl);(case hg=>rfl);(case hr=>first|(go_simp;done)|(go_simp;rfl))
  intro gF m8 hbox hb;replace l8:=aM (l8.out.below hb);replace m4:=aM (m4.out.below hb);replace m7:=aM (m7.out.below hb);replace BX:=kb BX hb;replace BY:=kb BY hb;replace BQ:=kb BQ hb;replace BS:=kb BS hb;replace BN:=kb BN hb;replace BA:=kb BA hb;replace BB:=kb BB hb;replace BR:=kb BR hb;replace HW:=aM (HW.out.trans (hb.mono HW.out.size));have BF:=aM hbox;clear hbox hb;refine hK.out _ _ ⟨(blk_cell BA.out 1).trans rfl,(blk_cell BA.out 2).trans rfl,(blk_cell BB.out 1).trans rfl,(blk_cell BB.out 2).trans rfl⟩ (fun hHeld4=>?_)
  clear hK K;refine nm 36 ?_;refine one_ (i:=17) (N:=some 37) (bA 19 262143) rfl rfl (by kernel_rfl) (by decide) (fun K hK=>?_)
  refine goes_ Try.func67 (by kernel_rfl) rfl #[.slice (some ⟨gF,0,none⟩) 4 4] (by rfl) rfl rfl mA ?_
  have hkc:∀ (A:Option Addr) (l:List Int),cI w A l→∀ W_,Kept m8 W_ (AddS5 gx gy gq gs gn)→cI W_ A l:=fun A l hC W_ hk=>by
   have hle:=HW.out.size;have ho:=OR.out;exact C_blocks hC (fun i hi=>(hk.2 i (Nat.lt_of_lt_of_le hi hle) (by unfold AddS5;omega)).trans (HW.out.block i hi))
  refine(Fzq.calls k w.heap.size l7 m0 m6 ga gb gx gy gq gs gn a6 b7 _ _ _ _ a7 a8 a9 b4 b5 b6 b8 b9 d6 d7 d8 d9 g7 ng sm q gF 4 w m8 HW.out BF.out l8.out m4.out m7.out BA.out BB.out BX.out BY.out BQ.out BS.out BN.out OR.out.1 OR.out.2.1 OR.out.2.2.1 OR.out.2.2.2.1 G1.out G2.out G3.out OR.out.2.2.2.2.2.1 (hkc _ _ H1.out) L1.out (hkc _ _ H2.out) L2.out (hkc _ _ H3.out) L3.out (hkc _ _ H4.out) L4.out HP.out).mono ?_;rintro e m9 ⟨rfl,hF⟩;refine⟨_,rfl,?_⟩;have hnS:∀ i,i≠gx→i≠gy→i≠gq→i≠gs→i≠gn→¬ AddS5 gx gy gq gs gn i:=fun i g5 n0 n7 n8 n9 o0=>by unfold AddS5 at o0;omega
  have BA2:=aM (blk_kept BA.out hF.kept (hnS _ (blk_ne BA.out BX.out (by decide)) (blk_ne BA.out BY.out (by decide)) (blk_ne BA.out BQ.out (by decide)) (blk_ne BA.out BS.out (by decide)) (blk_ne BA.out BN.out (by decide))))
  have BB2:=aM (blk_kept BB.out hF.kept (hnS _ (blk_ne BB.out BX.out (by decide)) (blk_ne BB.out BY.out (by decide)) (blk_ne BB.out BQ.out (by decide)) (blk_ne BB.out BS.out (by decide)) (blk_ne BB.out BN.out (by decide))))
  have BR2:=aM (blk_kept BR.out hF.kept (hnS _ (blk_ne BR.out BX.out (by decide)) (blk_ne BR.out BY.out (by decide)) (blk_ne BR.out BQ.out (by decide)) (blk_ne BR.out BS.out (by decide)) (blk_ne BR.out BN.out (by decide))))
  have HW2:=aM hF.below;have HF:=aM hF.fin;have HGR:=aM (OR.out.2.2.2.2.1);have HSZ:=aM (Nat.le_trans HW.out.size hF.kept.1);have HS25:=aM HW.out.size;clear hF hkc hnS l8 m4 m7 BF BA BB BR BX BY BQ BS BN G1 G2 G3 HW LN;refine hK.out _ _ ⟨(blk_cell BA2.out 1).trans rfl,(blk_cell BA2.out 2).trans rfl,(blk_cell BB2.out 1).trans rfl,(blk_cell BB2.out 2).trans rfl⟩ (fun hHeld9=>?_)
  clear hK K hHeld9;refine nm 37 ?_;refine pV 18 11 (bA 19 524287) ?_;refine done_ (by kernel_rfl) ?_
  clear BA2 BB2;by_cases c:g7=0
  ·subst c;simp only[if_true] at h;rw[Option.bind_eq_some_iff] at h;obtain⟨⟨d1,d2,d3,d4⟩,hd,h⟩:=h;simp only[Option.some.injEq,Prod.mk.injEq] at h;obtain⟨rfl,rfl,rfl,rfl⟩:=h;obtain⟨vs,vq,hn,hs,hq⟩:=HF.out rfl;obtain⟨As,cs,es⟩:=Kd.R_slice hs.row;subst es;obtain⟨Aq,cq,eq⟩:=Kd.R_slice hq.row;subst eq;have BN:=aM hn;have BS:=aM hs.cell;have BQ:=aM hq.cell;have RS:=aM (Kd.R_reads' hs.row);have RQ:=aM (Kd.R_reads' hq.row);have HD:=aM hd;clear hn hs hq hd HF;obtain⟨hczN,hfzN⟩:=bk1 BN;obtain⟨hczS,hfzS⟩:=bk1 BS;obtain⟨hczQ,hfzQ⟩:=bk1 BQ;go_wp2_with (first|((with_reducible refine gc 79 rfl ?_);refine gC 79 (some 45) Try.func79 #[.bool ng,.slice As sm.length cs,.slice Aq q.length cq] ?_;(with_reducible refine(Dzb.calls k ng _ _ sm _ _ q _ _ _ _ _ ?_ ?_ ?_ ?_ HD.out).mono ?_);exact RS.out.2.2;exact RS.out.2.1;exact RQ.out.2.2;exact RQ.out.2.1;rintro e o8 ⟨v1_,v2_,rfl,o9,p0,hb⟩;refine⟨_,rfl,?_⟩;have p4:=aM (Kd.R_lower o9 HSZ.out);have p7:=aM (Kd.R_lower p0 HSZ.out);have BKR:=kb BR2 hb;have p9:=aM (HW2.out.trans (hb.mono HSZ.out));obtain⟨As1,cs1,es1⟩:=Kd.R_slice p4.out;subst es1;obtain⟨As2,cs2,es2⟩:=Kd.R_slice p7.out;subst es2;obtain⟨hczR_0,hczR_1,hczR_2,hfzR_0,hfzR_1,hfzR_2⟩:=bk3 BKR;clear hb o9 p0))
   refine rC gr 33 #[.bool d1,.slice As1 d2.length cs1,.slice As2 d3.length cs2] (by refine blk_put (cs:=#[.bool d1,.slice As1 d2.length cs1,.slice none 0 0]) ?_ 2 _ rfl;refine blk_put (cs:=#[.bool d1,.slice none 0 0,.slice none 0 0]) ?_ 1 _ rfl;refine blk_put (cs:=#[.bool false,.slice none 0 0,.slice none 0 0]) ?_ 0 _ rfl;exact BKR.out) Try.underlying33 ?_
   exact⟨_,_,by first|rfl|(simp;done),Kd.R_mono (Kd.R_far (p:=⟨gr,2,none⟩) (Kd.R_far (p:=⟨gr,1,none⟩) (Kd.R_far (p:=⟨gr,0,none⟩) (Kd.R_types p4.out BKR.out (by decide)) (fun _ hk=>hk.2) _) (fun _ hk=>hk.2) _) (fun _ hk=>hk.2) _) (fun _ hk=>hk.1),Kd.R_mono (Kd.R_far (p:=⟨gr,2,none⟩) (Kd.R_far (p:=⟨gr,1,none⟩) (Kd.R_far (p:=⟨gr,0,none⟩) (Kd.R_types p7.out BKR.out (by decide)) (fun _ hk=>hk.2) _) (fun _ hk=>hk.2) _) (fun _ hk=>hk.2) _) (fun _ hk=>hk.1),((p9.out.setCell (p:=⟨gr,0,none⟩) HGR.out _).setCell (p:=⟨gr,1,none⟩) HGR.out _).setCell (p:=⟨gr,2,none⟩) HGR.out _⟩
  ·simp only[if_neg c,Option.some.injEq,Prod.mk.injEq] at h;obtain⟨rfl,rfl,rfl,rfl⟩:=h;have r5:(g7 != 0)=true:=by simpa using c
   have l7:(g7 == 0)=false:=by simpa using c
   obtain⟨hczR_0,hczR_1,hczR_2,hfzR_0,hfzR_1,hfzR_2⟩:=bk3 BR2;go_wp2
   refine rC gr 33 #[.bool false,.slice none 0 0,.slice none 0 0] (by refine blk_put (cs:=#[.bool false,.slice none 0 0,.slice none 0 0]) ?_ 2 _ rfl;refine blk_put (cs:=#[.bool false,.slice none 0 0,.slice none 0 0]) ?_ 1 _ rfl;refine blk_put (cs:=#[.bool false,.slice none 0 0,.slice none 0 0]) ?_ 0 _ rfl;exact BR2.out) Try.underlying33 ?_
   exact⟨_,_,by first|rfl|(simp;done),Kd.R_nil _ _ _ _ _,Kd.R_nil _ _ _ _ _,((HW2.out.setCell (p:=⟨gr,0,none⟩) HGR.out _).setCell (p:=⟨gr,1,none⟩) HGR.out _).setCell (p:=⟨gr,2,none⟩) HGR.out _⟩


def Dzf.l0:Nat→List (S33)→Int→Int→Bool→List Int→List Int→Option (Bool × List Int × List Int × Int)
 | 0,_,_,_,_,_,_=>none
 | k+1,x21,x22,x23,x379000,x379001,x379002=>if x23 < x22 then(if 0≤x23 then(if x23 < (x21.length:Int) then((Ezf.f k x379000 x379001 x379002 ((rd_T33 x21 x23).f0) ((rd_T33 x21 x23).f1) ((rd_T33 x21 x23).f2)).bind fun bt381=>(if bt381.2.2.2=0 then(Dzf.l0 k x21 x22 (wrap64 (x23+1)) bt381.1 bt381.2.1 bt381.2.2.1) else(some (false,([]:List Int),([]:List Int),bt381.2.2.2)))) else(none)) else(none)) else(some (x379000,x379001,x379002,0))
def Dzf.f (k:Nat) (l0:List (S33)):Option (Bool × List Int × List Int × Int):=if(l0.length:Int) > 4096 then(some (false,([]:List Int),([]:List Int),8)) else((Bzk.f k l0).bind fun t374=>(if t374=true then((Gzb.f).bind fun t375=>(Dzf.l0 k l0 (l0.length:Int) 0 false ([]:List Int) t375)) else(some (false,([]:List Int),([]:List Int),3))))
theorem Dzf.mono_l:∀ k,(∀ a6 a7 a8 a9 b4 b5,LeO (Dzf.l0 k a6 a7 a8 a9 b4 b5) (Dzf.l0 (k+1) a6 a7 a8 a9 b4 b5))
 | 0=>fun _ _ _ _ _ _ r h=>by simp [Dzf.l0] at h
 | k+1=>by
  have ih0:=Dzf.mono_l k
  ·intro a6 a7 a8 a9 b4 b5;unfold Dzf.l0;have i0:=@Ezf.mono;have i1:=@Bzk.mono;exact mM
theorem Dzf.mono:∀ a6 k,LeO (Dzf.f k a6) (Dzf.f (k+1) a6):=by
 intro a6 k;have ih0:=Dzf.mono_l k;unfold Dzf.f;have i0:=@Ezf.mono;have i1:=@Bzk.mono;exact mM
theorem Dzf.calls (k:Nat) (a6:Option Addr) (a7:Nat) (l0:List (S33)) (a8:Bool) (a9:List Int) (b4:List Int) (b5:Int) (w:World) (b6:Kd.C k33 w a6 l0.length l0) (b7:l0.length≤a7) (h:Dzf.f k l0=some (a8,a9,b4,b5)) :
  Calls Try.prog 36 #[.slice a6 l0.length a7] w fun e w'=>∃ v1_ v2_:Value,e=.returned (.tuple #[.agg #[.bool a8,v1_,v2_],.int .i64 b5])∧rI w' w (oV v2_) v1_ a9∧rI w' w (oV v1_) v2_ b4∧bw w w':=by
 have hu33:=Try.underlying33;have b8:=aM b6;have b9:=aM b7;clear b6 b7;have HB:=aM (Below.refl w.heap.size w);have H:(if(l0.length:Int) > 4096 then(some (false,([]:List Int),([]:List Int),8)) else((Bzk.f k l0).bind fun d6=>(if d6=true then((Gzb.f).bind fun d7=>(Dzf.l0 k l0 (l0.length:Int) 0 false ([]:List Int) d7)) else(some (false,([]:List Int),([]:List Int),3)))))=some (a8,a9,b4,b5):=h
 clear h;have d8:=aM H;clear H;go_enter Try.func36,Try.ntmps36
 go_upto_if 9 with (first|((with_reducible refine gd 2 rfl ?_);refine bz 33 ?_;intro d9 hg e6 e7 hb;have e8:=gA w hg;replace HB:=bB hb;clear hb hg))
 have H:=d8.out;clear d8;by_cases c4:(l0.length:Int) > 4096
 ·rw[if_pos c4] at H;have f3:decide (4096 < (l0.length:Int))=true:=dE c4;have f4:decide (4096 < l0.length)=true:=dE (by omega)
  clear c4;(first|rw[f3]|(simp only[i64_w,i32_w];rw[f3])|skip)
  obtain⟨rfl,rfl,rfl,rfl⟩:=q4 H;obtain⟨f5,f6,f7,f8,f9,g4⟩:=bk3 e7;go_wp2
  refine rC d9 33 #[.bool false,.slice none 0 0,.slice none 0 0] (kQ e7) Try.underlying33 ?_
  exact⟨_,_,eW,nK,nK,pB⟩
 ·rw[if_neg c4] at H;have f3:decide (4096 < (l0.length:Int))=false:=decide_eq_false c4;have f4:decide (4096 < l0.length)=false:=decide_eq_false (by omega)
  clear c4;(first|rw[f3]|(simp only[i64_w,i32_w];rw[f3])|skip)
  obtain⟨d6,g5,H⟩:=bT H;(try dsimp only at H);have g6:=aM H;clear H;go_upto_if 14 with (first|((with_reducible refine gc 62 rfl ?_);refine gC 62 (some 16) Try.func62 #[.slice a6 l0.length a7] ?_;(with_reducible refine(Bzk.calls k _ _ l0 d6 _ ?_ ?_ g5.out).mono ?_);exact cB b8;exact b9.out;rintro e g7 ⟨rfl,hb⟩;refine⟨_,rfl,?_⟩;replace e7:=kb e7 hb;replace HB:=bB hb;clear hb))
  have H:=g6.out;clear g6;by_cases c9:d6=true
  ·subst c9;rw[if_pos rfl] at H;obtain⟨d7,g8,H⟩:=bT H;(try dsimp only at H);have H':=aM H;clear H;go_wp2_with (first|((with_reducible refine gc 63 rfl ?_);refine gC 63 (some 19) Try.func63 #[] ?_;(with_reducible refine(Gzb.calls  d7 _ g8.out).mono ?_);rintro e g9 ⟨j3,rfl,j4,hb⟩;refine⟨_,rfl,?_⟩;have j5:=rL j4;replace e7:=kb e7 hb;replace HB:=bB hb;clear hb j4;obtain⟨j6,j7,rfl⟩:=Kd.R_slice j5.out)|((with_reducible refine gd 4 rfl ?_);refine bz 33 ?_;intro j8 hg j9 l5 hb;have l6:=gA w hg;have l8:=nl hg e7;have l9:=ng hg e7;replace j5:=rB j5 hb;replace e7:=kb e7 hb;replace HB:=bB hb;clear hb hg;have m0:=l9.out;have m4:=l8.out;obtain⟨m5,m6,m7,m8,m9,n0⟩:=bk3 l5))
   go_loopg [23] k (fun kq n7 w'=>∃ (n8:Int) (n9:Bool) (o0:Bool) (o8:List Int) (o9:List Int) (u379001:Value) (u379002:Value),n7=.int .i64 n8∧Aside0 (Dzf.l0 kq l0 (l0.length:Int) n8 o0 o8 o9=some (a8,a9,b4,b5))∧Aside0 (kq≤k)∧Aside0 (rI w' w (oV u379002) u379001 o8)∧Aside0 (rI w' w (oV u379001) u379002 o9)∧Aside0 (w'.heap[d9]?=some (.cells #[.bool n9,(.slice none 0 0),(.slice none 0 0)] 33 (0,0)))∧Aside0 (w'.heap[j8]?=some (.cells #[.bool o0,u379001,u379002] 33 (0,0)))∧Aside0 (bw w w'))
   case atStart=>exact⟨(0),(false),(false),(([]:List Int)),(d7),(.slice none 0 0),(.slice j6 d7.length j7),sD,H',⟨Nat.le_refl _⟩,⟨nK⟩,⟨by exact Kd.R_mono (rT j5 l5) (fun _ hk=>(by simp [Value.ownBlock]))⟩,⟨by exact kf e7 l8⟩,⟨by exact kQ l5⟩,⟨pB⟩⟩
   case round =>
    clear H';try clear p0
    obtain⟨n8,n9,o0,o8,o9,u379001,u379002,rfl,HA,p4,p7,p9,e7,l5,HB⟩:=hrel;cases gk with
    | zero=>exact absurd HA.out (by simp [Dzf.l0])
    | succ k1 =>
     have H:=HA.out;clear HA;simp only[Dzf.l0] at H;replace H:=iD H;rcases H with⟨r6,H⟩|⟨r6,H⟩
     ·(first|rw[r6]|(simp only[i64_w,i32_w];rw[r6])|skip)
      obtain⟨r7,H⟩:=iN H;obtain⟨r8,H⟩:=iN H;obtain⟨⟨r9,t4,t5,t6⟩,t7,H⟩:=bT H;(try dsimp only at H);have t8:=aM H;clear H;obtain⟨t9,y9,z3,z4,z5,z6,z7,z8,z9,B0,B5,B9,C0⟩:=at_T33 b8.out n8 (oE aS) (oE aS);cases z6
      replace z7:=hB HB z7;replace z8:=hB HB z8;replace z9:=hB HB z9;have C1:=aM B5;have C2:=aM B0;clear B5 B0;have C3:=aM C0;have C4:=aM B9;clear C0 B9;have C6:=eT (n8);have C7:=eU (n8) l0.length;go_upto_if 34 with (first|((with_reducible refine gd 6 rfl ?_);refine bz 33 ?_;intro C8 hg C9 D2 hb;have D3:=gA w hg;have D5:=nl hg e7;have D6:=ng hg e7;have D7:=nl hg l5;have D8:=ng hg l5;replace p7:=rB p7 hb;replace p9:=rB p9 hb;replace e7:=kb e7 hb;replace l5:=kb l5 hb;replace HB:=bB hb;clear hb hg;have D9:=D6.out;have E0:=D5.out;have E1:=D8.out;have E2:=D7.out;obtain⟨E3,E4,E5,E6,E7,E8⟩:=bk3 D2;have E9:=l9.out;have F0:=l8.out;obtain⟨F2,F3,F4,F5,F6,F7⟩:=bk3 l5;obtain⟨F8,F9,rfl⟩:=Kd.R_slice p7.out;obtain⟨G5,G9,rfl⟩:=Kd.R_slice p9.out)|((with_reducible refine gc 64 rfl ?_);refine gC 64 (some 30) Try.func64 #[.agg #[.bool o0,.slice F8 o8.length F9,.slice G5 o9.length G9],.agg #[.bool ((rd_T33 l0 n8).f0),.slice y9 ((rd_T33 l0 n8).f1).length z3,.slice z4 ((rd_T33 l0 n8).f2).length z5]] ?_;(with_reducible refine(Ezf.calls k1 o0 _ _ o8 _ _ o9 ((rd_T33 l0 n8).f0) _ _ ((rd_T33 l0 n8).f1) _ _ ((rd_T33 l0 n8).f2) r9 t4 t5 t6 _ ?_ ?_ ?_ ?_ ?_ ?_ ?_ ?_ t7.out).mono ?_);(focus(refine(Kd.R_reads' (e:=3) (base:=w.heap.size) (ok:=fun k_=>oN G5 o9.length G9 k_) (n:=o8.length) (c:=F9) ?_).2.2;exact(rT p7 D2)));exact lR p7;(focus(refine(Kd.R_reads' (e:=3) (base:=w.heap.size) (ok:=fun k_=>oN F8 o8.length F9 k_) (n:=o9.length) (c:=G9) ?_).2.2;exact(rT p9 D2)));exact lR p9;exact Kd.C_below C1.out pB;exact C2.out;exact Kd.C_below C3.out pB;exact C4.out;rintro e H5 ⟨H6,H7,rfl,j4,H8,hb⟩;refine⟨_,rfl,?_⟩;have H9:=rL (Kd.R_new' (Kd.R_new' j4 (Kd.R_lt (rT p7 D2))) (Kd.R_lt (rT p9 D2)));have I0:=rL (Kd.R_new' (Kd.R_new' H8 (Kd.R_lt (rT p7 D2))) (Kd.R_lt (rT p9 D2)));replace p7:=ro (rT p7 D2) hb j4 H8;replace p9:=ro (rT p9 D2) hb j4 H8;replace e7:=kF e7 D5 hb;replace l5:=kF l5 D7 hb;replace D2:=kP (o':=.cells #[.bool ((rd_T33 l0 n8).f0),.slice y9 ((rd_T33 l0 n8).f1).length z3,.slice z4 ((rd_T33 l0 n8).f2).length z5] 33 (0,0)) D2 hb;replace HB:=bB hb;clear hb j4 H8)|((with_reducible refine gd 7 rfl ?_);refine bz 33 ?_;intro I3 hg I4 I5 hb;have I6:=gA w hg;have I8:=nl hg e7;have I9:=ng hg e7;have J0:=nl hg l5;have J1:=ng hg l5;have J2:=nl hg D2;have J3:=ng hg D2;replace p7:=rB p7 hb;replace p9:=rB p9 hb;replace H9:=rB H9 hb;replace I0:=rB I0 hb;replace e7:=kb e7 hb;replace l5:=kb l5 hb;replace D2:=kb D2 hb;replace HB:=bB hb;clear hb hg;have J4:=I9.out;have J5:=I8.out;have J6:=J1.out;have J7:=J0.out;have J8:=J3.out;have J9:=J2.out;obtain⟨K0,K1,K2,K3,K4,K5⟩:=bk3 I5;obtain⟨K6,K7,rfl⟩:=Kd.R_slice H9.out;obtain⟨K8,K9,rfl⟩:=Kd.R_slice I0.out))
      have H:=t8.out;clear t8;replace H:=iE H;rcases H with⟨L7,L8,H⟩|⟨L0,L7,L8,H⟩
      ·(first|rw[L7]|(simp only[i64_w,i32_w];rw[L7])|skip)
       have H':=aM H;clear H;have L9:=I9.out;have M0:=I8.out;have M3:=J1.out;have M4:=J0.out;have M5:=J3.out;have M6:=J2.out;obtain⟨M7,M8,M9,N0,N1,N2⟩:=bk3 I5;have N3:=l9.out;have N4:=l8.out;have N5:=D7.out;have N6:=D8.out;obtain⟨N7,N8,N9,O0,O1,O2⟩:=bk3 l5;go_wp2
       go_roundg k1
       case measure=>have:=p4.out;omega
       case rel=>exact⟨(wrap64 (n8+1)),(n9),(r9),(t4),(t5),(.slice K6 t4.length K7),(.slice K8 t5.length K9),sD,H',⟨by have:=p4.out;omega⟩,⟨by exact rX (Kd.R_mono (Kd.R_far (p:=⟨j8,2,none⟩) (Kd.R_far (p:=⟨j8,1,none⟩) (Kd.R_far (p:=⟨j8,0,none⟩) (Kd.R_far (p:=⟨I3,2,none⟩) (Kd.R_far (p:=⟨I3,1,none⟩) (Kd.R_far (p:=⟨I3,0,none⟩) (Kd.R_types (Kd.R_types H9.out I5.out (by decide)) l5.out (by decide)) (fun _ hk=>hk.1.2) (.bool r9)) (fun _ hk=>hk.1.2) (.slice K6 t4.length K7)) (fun _ hk=>hk.1.2) (.slice K8 t5.length K9)) (fun _ hk=>hk.2) (.bool r9)) (fun _ hk=>hk.2) (.slice K6 t4.length K7)) (fun _ hk=>hk.2) (.slice K8 t5.length K9)) (fun _ hk=>hk.1.1.1.1))⟩,⟨by exact rX (Kd.R_mono (Kd.R_far (p:=⟨j8,2,none⟩) (Kd.R_far (p:=⟨j8,1,none⟩) (Kd.R_far (p:=⟨j8,0,none⟩) (Kd.R_far (p:=⟨I3,2,none⟩) (Kd.R_far (p:=⟨I3,1,none⟩) (Kd.R_far (p:=⟨I3,0,none⟩) (Kd.R_types (Kd.R_types I0.out I5.out (by decide)) l5.out (by decide)) (fun _ hk=>hk.1.2) (.bool r9)) (fun _ hk=>hk.1.2) (.slice K6 t4.length K7)) (fun _ hk=>hk.1.2) (.slice K8 t5.length K9)) (fun _ hk=>hk.2) (.bool r9)) (fun _ hk=>hk.2) (.slice K6 t4.length K7)) (fun _ hk=>hk.2) (.slice K8 t5.length K9)) (fun _ hk=>hk.1.1.1.1))⟩,⟨by exact kf2 e7 l8 I8⟩,⟨by refine bD ?_;refine blk_put (cs:=#[.bool r9,.slice K6 t4.length K7,.slice G5 o9.length G9]) ?_ 2 _ rfl;refine bD ?_;refine blk_put (cs:=#[.bool r9,.slice F8 o8.length F9,.slice G5 o9.length G9]) ?_ 1 _ rfl;refine bD ?_;refine blk_put (cs:=#[.bool o0,.slice F8 o8.length F9,.slice G5 o9.length G9]) ?_ 0 _ rfl;refine bD ?_;refine blk_far ?_ J0.out _;refine bD ?_;refine blk_far ?_ J0.out _;refine bD ?_;refine blk_far ?_ J0.out _;(with_reducible repeat(first|refine blk_drewN ?_ _|refine blk_drew ?_|refine blk_alloc ?_ _));exact l5.out⟩,⟨pB⟩⟩
      ·(first|rw[L7]|(simp only[i64_w,i32_w];rw[L7])|skip)
       obtain⟨rfl,rfl,rfl,rfl⟩:=q4 H;have O3:=l8.out;have O4:=l9.out;have O5:=D5.out;have O6:=D6.out;have O7:=I8.out;have O8:=I9.out;obtain⟨O9,P0,P3,P4,P5,P6⟩:=bk3 e7;go_wp2
       refine rC d9 33 #[.bool false,.slice none 0 0,.slice none 0 0] (by refine bD ?_;refine blk_put (cs:=#[.bool false,.slice none 0 0,.slice none 0 0]) ?_ 2 _ rfl;refine bD ?_;refine blk_put (cs:=#[.bool false,.slice none 0 0,.slice none 0 0]) ?_ 1 _ rfl;refine bD ?_;refine blk_put (cs:=#[.bool n9,.slice none 0 0,.slice none 0 0]) ?_ 0 _ rfl;refine bD ?_;refine blk_far ?_ I8.out _;refine bD ?_;refine blk_far ?_ I8.out _;refine bD ?_;refine blk_far ?_ I8.out _;(with_reducible repeat(first|refine blk_drewN ?_ _|refine blk_drew ?_|refine blk_alloc ?_ _));exact e7.out) Try.underlying33 ?_
       exact⟨_,_,eW,nK,nK,pB⟩
     ·(first|rw[r6]|(simp only[i64_w,i32_w];rw[r6])|skip)
      obtain⟨rfl,rfl,rfl,rfl⟩:=q4 H;have P7:=l9.out;have P8:=l8.out;obtain⟨P9,Q0,Q1,Q2,Q3,Q4⟩:=bk3 l5;obtain⟨Q5,Q6,Q7,Q8,Q9,R0⟩:=bk3 e7;obtain⟨R1,R2,rfl⟩:=Kd.R_slice p7.out;obtain⟨R3,R4,rfl⟩:=Kd.R_slice p9.out;go_wp2
      refine rC d9 33 #[.bool o0,.slice R1 o8.length R2,.slice R3 o9.length R4] (kQ e7) Try.underlying33 ?_
      exact⟨_,_,eW,by exact Kd.R_mono (rT p7 e7) (fun _ hk=>hk),by exact Kd.R_mono (rT p9 e7) (fun _ hk=>hk),pB⟩
  ·obtain rfl:=bN c9;rw[if_neg nF] at H
   obtain⟨rfl,rfl,rfl,rfl⟩:=q4 H;obtain⟨R5,R6,R7,R8,R9,U0⟩:=bk3 e7;go_wp2
   refine rC d9 33 #[.bool false,.slice none 0 0,.slice none 0 0] (kQ e7) Try.underlying33 ?_
   exact⟨_,_,eW,nK,nK,pB⟩

end Go.Proofs.Ytbnpcplckcipfaa.Print
