import Derived.Test.YtbnpcplckcipfaaPrint0
import Derived.Test.YtbnpcplckcipfaaPrint12
import Derived.Test.YtbnpcplckcipfaaPrint17
import Derived.Test.YtbnpcplckcipfaaPrint20
namespace Go.Proofs.Ytbnpcplckcipfaa.Print
open Go.RowKit Go.Proofs.YtbnpcplckcipfaaW.PrintWords Go.Proofs.YtbnpcplckcipfaaW.PrintLast Go.Proofs.YtbnpcplckcipfaaW.PrintMore
attribute [local go_sem] dF dG eB eD dm dn dH dI
set_option linter.unusedVariables false
set_option maxRecDepth 100000
set_option maxHeartbeats 8000000
set_option linter.unusedSimpArgs false

/-- What the last step of Add computes: the sign,the sum,the error. -/
def Gzp.f (k:Nat) (na nb:Bool) (x y:List Int):Option (Bool × List Int × Int) :=
 if na=nb then(Ezq.f k x y).bind fun t=>some (na,t.1,t.2) else(Gzy.f k x y).bind fun c=>if c.1 < 0 then(Dzm.f k y x).bind fun t=>some (nb,t.1,t.2) else(Dzm.f k x y).bind fun t=>some (na,t.1,t.2)
theorem Gzp.mono:∀ a6 a7 a8 a9 k,LeO (Gzp.f k a6 a7 a8 a9) (Gzp.f (k+1) a6 a7 a8 a9):=by
 intro a6 a7 a8 a9 k;unfold Gzp.f;exact LeO.ite (LeO.bind (Ezq.mono _ _ k) (fun _=>LeO.refl _)) (LeO.bind (Gzy.mono _ _ k) (fun _=>LeO.ite (LeO.bind (Dzm.mono _ _ k) (fun _=>LeO.refl _)) (LeO.bind (Dzm.mono _ _ k) (fun _=>LeO.refl _))))
def p8 (gx gy gs gn:Nat):Nat→Prop:=fun k_=>k_=gx∨k_=gy∨k_=gs∨k_=gn
theorem Gzp.calls (k B:Nat) (ga gb gx gy gs gn:Nat) (na nb:Bool) (ua1 ua2 ub1 ub2:Value) (Ax:Option Addr) (cx:Nat) (x:List Int) (Ay:Option Addr) (cy:Nat) (y:List Int) (vs:Value) (a6:Bool) (a7:List Int) (a8:Int) (a9 w:World) (hB:Below B a9 w)
  (ha:w.heap[ga]?=some (.cells #[.bool na,ua1,ua2] 33 (0,0))) (hb:w.heap[gb]?=some (.cells #[.bool nb,ub1,ub2] 33 (0,0))) (hx:w.heap[gx]?=some (.cells #[.slice Ax x.length cx] 31 (0,0))) (hy:w.heap[gy]?=some (.cells #[.slice Ay y.length cy] 31 (0,0))) (hs:w.heap[gs]?=some (.cells #[vs] 31 (0,0))) (hn:w.heap[gn]?=some (.cells #[.bool na] 4 (0,0)))
  (nxy:gx≠gy) (nsx:gs≠gx) (nsy:gs≠gy) (bx:B≤gx) (bY:B≤gy) (bs:B≤gs) (bn:B≤gn)
  (hrx:∀ W_,Kept w W_ (p8 gx gy gs gn)→cI W_ Ax x) (hcx:x.length≤cx) (hry:∀ W_,Kept w W_ (p8 gx gy gs gn)→cI W_ Ay y) (hcy:y.length≤cy) (h:Gzp.f k na nb x y=some (a6,a7,a8)) :
  Calls Try.prog 88 #[.pointer (some ⟨ga,0,none⟩),.pointer (some ⟨gb,0,none⟩),.pointer (some ⟨gx,0,none⟩),.pointer (some ⟨gy,0,none⟩),.pointer (some ⟨gs,0,none⟩),.pointer (some ⟨gn,0,none⟩)] w fun e W'=>∃ v:Value,e=.returned (.int .i64 a8)∧W'.heap[gn]?=some (.cells #[.bool a6] 4 (0,0))∧W'.heap[gs]?=some (.cells #[v] 31 (0,0))∧rI W' w (fun _=>True) v a7∧Kept w W' (p8 gx gy gs gn)∧Below B a9 W':=by
 have nsn:=dh hs hn (by decide)
 have nxn:=dh hx hn (by decide)
 have nyn:=dh hy hn (by decide)
 have nas:=dh ha hs (by decide)
 have nbs:=dh hb hs (by decide)
 have nbx:=dh hb hx (by decide)
 have nby:=dh hb hy (by decide)
 have lx:=aV hx;have ly:=aV hy;have ls:=aV hs;have ln:=aV hn;have HBB:=aM hB;have HX:=aM hx;have HY:=aM hy;have HS:=aM hs;have HN:=aM hn;have HA:=aM ha;have HBb:=aM hb;have HRX:=aM hrx;have HRY:=aM hry;have HCX:=aM hcx;have HCY:=aM hcy;obtain⟨hczA_0,hczA_1,hczA_2,hfzA_0,hfzA_1,hfzA_2⟩:=bk3 HA;obtain⟨hczB_0,hczB_1,hczB_2,hfzB_0,hfzB_1,hfzB_2⟩:=bk3 HBb;obtain⟨hczX,hfzX⟩:=bk1 HX;obtain⟨hczY,hfzY⟩:=bk1 HY;obtain⟨hczS,hfzS⟩:=bk1 HS;obtain⟨hczN,hfzN⟩:=bk1 HN;clear hB hx hy hs hn ha hb hrx hry hcx hcy;have HKK:=aM (Kept.refl w (p8 gx gy gs gn));unfold Gzp.f at h;by_cases b4:na=nb
 ·subst b4;rw[if_pos rfl,Option.bind_eq_some_iff] at h;obtain⟨⟨t,b5⟩,ht,h⟩:=h;simp only[Option.some.injEq,Prod.mk.injEq] at h;obtain⟨rfl,rfl,rfl⟩:=h;have HT:=aM ht;clear ht;have b6:(na == na)=true:=by simp
  go_enter Try.func88,Try.ntmps88
  go_wp2_with (first|((with_reducible refine gc 89 rfl ?_);refine gC 89 (some 18) Try.func89 #[.slice Ax x.length cx,.slice Ay y.length cy] ?_;(with_reducible refine(Ezq.calls k _ _ x _ _ y t b5 _ ?_ ?_ ?_ ?_ HT.out).mono ?_);exact HRX.out _ HKK.out;exact HCX.out;exact HRY.out _ HKK.out;exact HCY.out;rintro e b7 ⟨b8,rfl,b9,hb⟩;refine⟨_,rfl,?_⟩;obtain⟨Ao_,co_,eo_⟩:=Kd.aj b9;subst eo_;have HO:=aM b9;have HS1:=kb HS hb;have HN1:=kb HN hb;obtain⟨hczS1,hfzS1⟩:=bk1 HS1;have d6:=aM hb;clear hb b9))
  go_ret
  refine⟨_,rfl,av (p:=⟨gs,0,none⟩) HN1.out (Ne.symm nsn) _,au HS1.out 0 _ rfl,?_,iB d6.out (Nat.le_refl _) (.inr (.inr (.inl rfl))) _,iG HBB.out (Nat.le_trans bs (Nat.le_of_lt ls)) d6.out bs _⟩;exact Kd.ah (Kd.bF (p:=⟨gs,0,none⟩) (ok:=fun k_=>w.heap.size≤k_) (Kd.jE rfl HO.out (fun k_ hk_=>Kd.dW HO.out k_ hk_)) (fun k_ hk_ e_=>by have e_:k_=gs:=e_;omega) _) (fun _ _=>trivial)
 ·rw[if_neg b4,Option.bind_eq_some_iff] at h;obtain⟨⟨cv,ce⟩,hcv,h⟩:=h;by_cases d7:cv < 0
  ·rw[if_pos d7,Option.bind_eq_some_iff] at h;obtain⟨⟨t,b5⟩,ht,h⟩:=h;simp only[Option.some.injEq,Prod.mk.injEq] at h;obtain⟨rfl,rfl,rfl⟩:=h;have HT:=aM ht;have HCV:=aM hcv;clear ht hcv;have b6:(na == nb)=false:=by simpa using b4
   have d8:decide (cv < 0)=true:=dE d7;go_enter Try.func88,Try.ntmps88
   go_wp2_with (first|((with_reducible refine gc 69 rfl ?_);refine gC 69 (some 25) Try.func69 #[.slice Ax x.length cx,.slice Ay y.length cy] ?_;(with_reducible refine(Gzy.calls k _ _ x _ _ y cv ce _ ?_ ?_ ?_ ?_ HCV.out).mono ?_);exact HRX.out _ HKK.out;exact HCX.out;exact HRY.out _ HKK.out;exact HCY.out;rintro e d9 ⟨rfl,e6⟩;have hb:=e6.below;clear e6;refine⟨_,rfl,?_⟩;replace HA:=kb HA hb;replace HBb:=kb HBb hb;replace HX:=kb HX hb;replace HY:=kb HY hb;replace HS:=kb HS hb;replace HN:=kb HN hb;replace HKK:=aM (kept_trans HKK.out (show Kept _ d9 (p8 gx gy gs gn) from⟨hb.size,fun i hi _=>hb.block i hi⟩));replace HBB:=aM (HBB.out.trans (hb.mono (Nat.le_trans bs (Nat.le_of_lt ls))));have HLE:=aM hb.size;clear hczX hczY hfzX hfzY hczS hfzS hczN hfzN;obtain⟨hczX,hfzX⟩:=bk1 HX;obtain⟨hczY,hfzY⟩:=bk1 HY;clear hb))
   have HXd:=aM (az HX.out);have HYd:=aM (az HY.out);have HSd:=aM (az HS.out);have HNd:=aM (az HN.out);have HBd:=aM (az HBb.out);have HKd:=aM (show Kept w d9.drew (p8 gx gy gs gn) from HKK.out)
   have HBBd:=aM (dA HBB.out);have HLd:=aM (show w.heap.size≤d9.drew.heap.size from HLE.out)
   refine gz (n:=7) (S:=fun W=>W.cell? ⟨gb,0,none⟩=some (.bool nb)) (ds:=[]) (bA 7 0) (by kernel_rfl) rfl rfl ((af HBd.out 0).trans rfl) (fun hHeld=>?_)
   clear HX HY HS HN HBb HKK HBB HLE hczX hfzX hczY hfzY;generalize d9.drew=wd at HXd HYd HSd HNd HBd HKd HBBd HLd hHeld ⊢;obtain⟨hczX,hfzX⟩:=bk1 HXd;obtain⟨hczY,hfzY⟩:=bk1 HYd;obtain⟨hczN,hfzN⟩:=bk1 HNd;refine pV 2 32 (bA 7 4) ?_;refine tV 3 33 (bA 7 12) hHeld ?_;refine wT (i:=0) (j:=1) (Ni:=some 30) (Nj:=some 31) (bA 7 13) (bA 7 14) rfl rfl rfl rfl (by kernel_rfl) (by decide) (by decide) (fun K hK=>?_) (fun K hK=>?_)
   refine nP (v:=?_) (w1:=wd) (by rfl) rfl ?_ ?_
   rotate_left
   ·go_simp
    rfl
   refine hK.out _ _ hHeld (fun _=>?_)
   clear hK K;refine nm 30 ?_;refine iK (i:=1) (N:=some 31) (bA 7 15) rfl rfl (by kernel_rfl) (by decide) (fun K hK=>?_)
   refine nP (v:=?_) (w1:=wd) (by rfl) rfl ?_ ?_
   rotate_left
   ·go_simp
    rfl
   refine hK.out _ _ hHeld (fun _=>?_)
   clear hK K;refine nm 31 ?_;rotate_left
   refine nP (v:=?_) (w1:=wd) (by rfl) rfl ?_ ?_
   rotate_left
   ·go_simp
    rfl
   refine hK.out _ _ hHeld (fun _=>?_)
   clear hK K;refine nm 31 ?_;refine iK (i:=0) (N:=some 30) (bA 7 15) rfl rfl (by kernel_rfl) (by decide) (fun K hK=>?_)
   refine nP (v:=?_) (w1:=wd) (by rfl) rfl ?_ ?_
   rotate_left
   ·go_simp
    rfl
   refine hK.out _ _ hHeld (fun _=>?_)
   clear hK K;refine nm 30 ?_;all_goals
    refine iK (i:=4) (N:=none) (bA 7 31) rfl rfl (by kernel_rfl) (by decide) (fun K hK=>?_)
    refine iY (w1:=?_) (by rfl) rfl ?_ ?_
    rotate_left
    ·go_simp
     rfl
    have hH4:(wd.setCell ⟨gx,0,none⟩ (.slice Ay y.length cy)).cell? ⟨gb,0,none⟩=some (.bool nb):=(cell_far nbx _).trans hHeld;refine hK.out _ _ hH4 (fun _=>?_)
    clear hK K;have hfzY4:(wd.setCell ⟨gx,0,none⟩ (.slice Ay y.length cy)).frozen? ⟨gy,0,none⟩=false:=bO (av (p:=⟨gx,0,none⟩) HYd.out (Ne.symm nxy) _) 0;have hczY4:(wd.setCell ⟨gx,0,none⟩ (.slice Ay y.length cy)).cell? ⟨gy,0,none⟩=some (.slice Ay y.length cy):=(cell_far (Ne.symm nxy) _).trans hczY;refine iK (i:=5) (N:=none) (bA 7 63) rfl rfl (by kernel_rfl) (by decide) (fun K hK=>?_)
    refine iY (w1:=?_) (by rfl) rfl ?_ ?_
    rotate_left
    ·go_simp
     rfl
    refine hK.out _ _ ((cell_far nby _).trans hH4) (fun _=>?_)
    clear hK K;have hfzN5:((wd.setCell ⟨gx,0,none⟩ (.slice Ay y.length cy)).setCell ⟨gy,0,none⟩ (.slice Ax x.length cx)).frozen? ⟨gn,0,none⟩=false:=bO (av (p:=⟨gy,0,none⟩) (av (p:=⟨gx,0,none⟩) HNd.out (Ne.symm nxn) _) (Ne.symm nyn) _) 0;have hczN5:((wd.setCell ⟨gx,0,none⟩ (.slice Ay y.length cy)).setCell ⟨gy,0,none⟩ (.slice Ax x.length cx)).cell? ⟨gn,0,none⟩=some (.bool na):=(cell_far (Ne.symm nyn) _).trans ((cell_far (Ne.symm nxn) _).trans hczN);refine iK (i:=6) (N:=none) (bA 7 127) rfl rfl (by kernel_rfl) (by decide) (fun K hK=>?_)
    refine iY (w1:=?_) (by rfl) rfl ?_ ?_
    rotate_left
    ·go_simp
     rfl
    have nbn:gb≠gn:=dh HBd.out HNd.out (by decide)
    refine hK.out _ _ ((cell_far nbn _).trans ((cell_far nby _).trans hH4)) (fun _=>?_)
    clear hK K;refine gZ (by kernel_rfl) ?_
    have HX:=aM (av (p:=⟨gn,0,none⟩) (av (p:=⟨gy,0,none⟩) (au HXd.out 0 (.slice Ay y.length cy) rfl) nxy (.slice Ax x.length cx)) nxn (.bool nb));have HY:=aM (av (p:=⟨gn,0,none⟩) (au (av (p:=⟨gx,0,none⟩) HYd.out (Ne.symm nxy) (.slice Ay y.length cy)) 0 (.slice Ax x.length cx) rfl) nyn (.bool nb));have HN:=aM (au (av (p:=⟨gy,0,none⟩) (av (p:=⟨gx,0,none⟩) HNd.out (Ne.symm nxn) (.slice Ay y.length cy)) (Ne.symm nyn) (.slice Ax x.length cx)) 0 (.bool nb) rfl);have HS:=aM (av (p:=⟨gn,0,none⟩) (av (p:=⟨gy,0,none⟩) (av (p:=⟨gx,0,none⟩) HSd.out nsx (.slice Ay y.length cy)) nsy (.slice Ax x.length cx)) nsn (.bool nb));have HKK:=aM (((HKd.out.setCell (p:=⟨gx,0,none⟩) (.inl (.inl rfl)) (.slice Ay y.length cy)).setCell (p:=⟨gy,0,none⟩) (.inl (.inr (.inl rfl))) (.slice Ax x.length cx)).setCell (p:=⟨gn,0,none⟩) (.inl (.inr (.inr (.inr rfl)))) (.bool nb));have HBB:=aM (((HBBd.out.setCell (p:=⟨gx,0,none⟩) bx (.slice Ay y.length cy)).setCell (p:=⟨gy,0,none⟩) bY (.slice Ax x.length cx)).setCell (p:=⟨gn,0,none⟩) bn (.bool nb));have HLE:=aM (show w.heap.size≤(((wd.setCell ⟨gx,0,none⟩ (.slice Ay y.length cy)).setCell ⟨gy,0,none⟩ (.slice Ax x.length cx)).setCell ⟨gn,0,none⟩ (.bool nb)).heap.size from HKK.out.1)
    clear HXd HYd HSd HNd HBd HKd HBBd HLd hHeld hczX hfzX hczY hfzY hczN hfzN hH4 hfzY4 hczY4 hfzN5 hczN5 nbn;generalize (((wd.setCell ⟨gx,0,none⟩ (.slice Ay y.length cy)).setCell ⟨gy,0,none⟩ (.slice Ax x.length cx)).setCell ⟨gn,0,none⟩ (.bool nb))=wq at HX HY HN HS HKK HBB HLE ⊢;obtain⟨hczX,hfzX⟩:=bk1 HX;obtain⟨hczY,hfzY⟩:=bk1 HY;go_wp2_with (first|((with_reducible refine gc 90 rfl ?_);refine gC 90 (some 37) Try.func90 #[.slice Ay y.length cy,.slice Ax x.length cx] ?_;(with_reducible refine(Dzm.calls k _ _ y _ _ x t b5 _ ?_ ?_ ?_ ?_ HT.out).mono ?_);exact HRY.out _ HKK.out;exact HCY.out;exact HRX.out _ HKK.out;exact HCX.out;rintro e b7 ⟨b8,rfl,b9,hb⟩;refine⟨_,rfl,?_⟩;obtain⟨Ao_,co_,eo_⟩:=Kd.aj b9;subst eo_;have HO:=aM b9;have HS1:=kb HS hb;have HN1:=kb HN hb;obtain⟨hczS1,hfzS1⟩:=bk1 HS1;have d6:=aM hb;clear hb b9))
    go_ret
    have hle9:=HLE.out;refine⟨_,rfl,av (p:=⟨gs,0,none⟩) HN1.out (Ne.symm nsn) _,au HS1.out 0 _ rfl,?_,kept_trans HKK.out (iB d6.out (Nat.le_refl _) (.inr (.inr (.inl rfl))) _),iG HBB.out (Nat.le_trans (Nat.le_trans bs (Nat.le_of_lt ls)) hle9) d6.out bs _⟩;exact Kd.dO (Kd.ah (Kd.bF (p:=⟨gs,0,none⟩) (ok:=fun k_=>wq.heap.size≤k_) (Kd.jE rfl HO.out (fun k_ hk_=>Kd.dW HO.out k_ hk_)) (fun k_ hk_ e_=>by have e_:k_=gs:=e_;omega) _) (fun _ _=>trivial)) hle9
  rw[if_neg d7,Option.bind_eq_some_iff] at h;obtain⟨⟨t,b5⟩,ht,h⟩:=h;simp only[Option.some.injEq,Prod.mk.injEq] at h;obtain⟨rfl,rfl,rfl⟩:=h;have HT:=aM ht;have HCV:=aM hcv;clear ht hcv;have b6:(na == nb)=false:=by simpa using b4
  have d8:decide (cv < 0)=false:=decide_eq_false d7;go_enter Try.func88,Try.ntmps88
  go_wp2_with (first|((with_reducible refine gc 69 rfl ?_);refine gC 69 (some 25) Try.func69 #[.slice Ax x.length cx,.slice Ay y.length cy] ?_;(with_reducible refine(Gzy.calls k _ _ x _ _ y cv ce _ ?_ ?_ ?_ ?_ HCV.out).mono ?_);exact HRX.out _ HKK.out;exact HCX.out;exact HRY.out _ HKK.out;exact HCY.out;rintro e d9 ⟨rfl,e6⟩;have hb:=e6.below;clear e6;refine⟨_,rfl,?_⟩;replace HA:=kb HA hb;replace HBb:=kb HBb hb;replace HX:=kb HX hb;replace HY:=kb HY hb;replace HS:=kb HS hb;replace HN:=kb HN hb;replace HKK:=aM (kept_trans HKK.out (show Kept _ d9 (p8 gx gy gs gn) from⟨hb.size,fun i hi _=>hb.block i hi⟩));replace HBB:=aM (HBB.out.trans (hb.mono (Nat.le_trans bs (Nat.le_of_lt ls))));have HLE:=aM hb.size;clear hczX hczY hfzX hfzY hczS hfzS hczN hfzN;obtain⟨hczX,hfzX⟩:=bk1 HX;obtain⟨hczY,hfzY⟩:=bk1 HY;clear hb)|((with_reducible refine gc 90 rfl ?_);refine gC 90 (some 37) Try.func90 #[.slice Ax x.length cx,.slice Ay y.length cy] ?_;(with_reducible refine(Dzm.calls k _ _ x _ _ y t b5 _ ?_ ?_ ?_ ?_ HT.out).mono ?_);exact HRX.out _ HKK.out;exact HCX.out;exact HRY.out _ HKK.out;exact HCY.out;rintro e b7 ⟨b8,rfl,b9,hb⟩;refine⟨_,rfl,?_⟩;obtain⟨Ao_,co_,eo_⟩:=Kd.aj b9;subst eo_;have HO:=aM b9;have HS1:=kb HS hb;have HN1:=kb HN hb;obtain⟨hczS1,hfzS1⟩:=bk1 HS1;have d6:=aM hb;clear hb b9))
  go_ret
  have hle9:=HLE.out;refine⟨rfl,av (p:=⟨gs,0,none⟩) HN1.out (Ne.symm nsn) _,_,au HS1.out 0 _ rfl,?_,kept_trans HKK.out (iB d6.out (Nat.le_refl _) (.inr (.inr (.inl rfl))) _),iG HBB.out (Nat.le_trans (Nat.le_trans bs (Nat.le_of_lt ls)) hle9) d6.out bs _⟩;exact Kd.dO (Kd.ah (Kd.bF (p:=⟨gs,0,none⟩) (ok:=fun k_=>d9.heap.size≤k_) (Kd.jE rfl HO.out (fun k_ hk_=>Kd.dW HO.out k_ hk_)) (fun k_ hk_ e_=>by have e_:k_=gs:=e_;omega) _) (fun _ _=>trivial)) hle9
/-- A variable that holds a row of its own. -/
structure Bx_ (W:World) (N g:Nat) (v:Value) (x:List Int):Prop where
 cell:W.heap[g]?=some (.cells #[v] 31 (0,0))
 row:Kd.R (Kd.int .i64) 3 W N (fun k_=>N≤k_) v x
theorem Bx_.step {W W1:World} {N g g':Nat} {v u:Value} {x:List Int} (h:Bx_ W N g v x) (hb:Below W.heap.size W W1) (hne:g≠g') (hlt:g' < N):Bx_ (W1.setCell ⟨g',0,none⟩ u) N g v x :=
 ⟨av (p:=⟨g',0,none⟩) (aD h.cell hb) hne u,Kd.bF (p:=⟨g',0,none⟩) (Kd.fM h.row hb) (fun k_ hk_ e_=>by have e_:k_=g':=e_;omega) u⟩
theorem Bx_.new {W W1:World} {N g:Nat} {v o:Value} {x:List Int} (hg:W1.heap[g]?=some (.cells #[o] 31 (0,0))) (h:Kd.R (Kd.int .i64) 3 W1 W.heap.size (fun _=>True) v x) (hN:N≤W.heap.size) (hlt:g < N):Bx_ (W1.setCell ⟨g,0,none⟩ v) N g v x :=
 ⟨au hg 0 v rfl,Kd.bF (p:=⟨g,0,none⟩) (Kd.dO (Kd.jE rfl h (fun k_ hk_=>Nat.le_trans hN (Kd.dW h k_ hk_))) hN) (fun k_ hk_ e_=>by have e_:k_=g:=e_;omega) v⟩
theorem Bx_.kept {W W1:World} {N g:Nat} {v:Value} {x:List Int} {S:Nat→Prop} (h:Bx_ W N g v x) (hk:Kept W W1 S) (hg:¬ S g) (hS:∀ k,N≤k→¬ S k):Bx_ W1 N g v x :=
 ⟨eF h.cell hk hg,Kd.ah (Kd.gX h.row hk hS) (fun _ hk_=>hk_.1)⟩
theorem Bx_.reads {W W1:World} {N g n c:Nat} {A:Option Addr} {x:List Int} {S:Nat→Prop} (h:Bx_ W N g (.slice A n c) x) (hk:Kept W W1 S) (hS:∀ k,N≤k→¬ S k):cI W1 A x:=(Kd.ax (Kd.gX h.row hk hS)).2.2
def Fzm.f (k:Nat) (na nb:Bool) (aP aQ bP bQ:List Int):Option (Int × Bool × List Int × List Int) :=
 (Czj.f k aP bQ).bind fun x=>if x.2=0 then(Czj.f k bP aQ).bind fun y=>if y.2=0 then(Czj.f k aQ bQ).bind fun q=>if q.2=0 then(Gzp.f k na nb x.1 y.1).bind fun t=>some (t.2.2,t.1,t.2.1,q.1) else some (q.2,na,([]:List Int),([]:List Int)) else some (y.2,na,([]:List Int),([]:List Int)) else some (x.2,na,([]:List Int),([]:List Int))
theorem Fzm.mono:∀ a6 a7 a8 a9 b4 b5 k,LeO (Fzm.f k a6 a7 a8 a9 b4 b5) (Fzm.f (k+1) a6 a7 a8 a9 b4 b5):=by
 intro a6 a7 a8 a9 b4 b5 k;unfold Fzm.f;exact LeO.bind (Czj.mono _ _ k) (fun _=>LeO.ite (LeO.bind (Czj.mono _ _ k) (fun _=>LeO.ite (LeO.bind (Czj.mono _ _ k) (fun _=>LeO.ite (LeO.bind (Gzp.mono _ _ _ _ k) (fun _=>LeO.refl _)) (LeO.refl _))) (LeO.refl _))) (LeO.refl _))
def je (gx gy gq gs gn:Nat):Nat→Prop:=fun k_=>k_=gx∨k_=gy∨k_=gq∨k_=gs∨k_=gn
/-- What the four steps leave. -/
structure zJ (B:Nat) (w0 w W:World) (gx gy gq gs gn:Nat) (r:Int) (neg:Bool) (sum q:List Int):Prop where
 kept:Kept w W (je gx gy gq gs gn)
 below:Below B w0 W
 fin:r=0→∃ vs vq:Value,W.heap[gn]?=some (.cells #[.bool neg] 4 (0,0))∧Bx_ W w.heap.size gs vs sum∧Bx_ W w.heap.size gq vq q
set_option maxHeartbeats 4000000 in
theorem Fzm.calls (k B a6 a7 a8 ga gb gx gy gq gs gn:Nat) (na nb:Bool) (ua1 ua2 ub1 ub2:Value) (AaP:Option Addr) (caP:Nat) (aP:List Int) (AaQ:Option Addr) (caQ:Nat) (aQ:List Int) (AbP:Option Addr) (cbP:Nat) (bP:List Int) (AbQ:Option Addr) (cbQ:Nat) (bQ:List Int) (a9:Int) (b4:Bool) (b5 b6:List Int) (g cg:Nat) (b7 w:World) (hB:Below B b7 w)
  (hg:w.heap[g]?=some (.cells #[.func (.func (ed 96 a6).1) #[] (ed 96 a6).2,.func (.func (ed 96 a7).1) #[] (ed 96 a7).2,.func (.func (ed 96 a8).1) #[] (ed 96 a8).2,.func (.func 88) #[] #[.pointer (some ⟨ga,0,none⟩),.pointer (some ⟨gb,0,none⟩),.pointer (some ⟨gx,0,none⟩),.pointer (some ⟨gy,0,none⟩),.pointer (some ⟨gs,0,none⟩),.pointer (some ⟨gn,0,none⟩)]] 80 (0,0)))
  (b8:Thk w a6 gx AaP aP.length caP AbQ bQ.length cbQ) (b9:Thk w a7 gy AbP bP.length cbP AaQ aQ.length caQ) (d6:Thk w a8 gq AaQ aQ.length caQ AbQ bQ.length cbQ)
  (ha:w.heap[ga]?=some (.cells #[.bool na,ua1,ua2] 33 (0,0))) (hb:w.heap[gb]?=some (.cells #[.bool nb,ub1,ub2] 33 (0,0)))
  (hx:w.heap[gx]?=some (.cells #[.slice none 0 0] 31 (0,0))) (hy:w.heap[gy]?=some (.cells #[.slice none 0 0] 31 (0,0))) (hq:w.heap[gq]?=some (.cells #[.slice none 0 0] 31 (0,0))) (hs:w.heap[gs]?=some (.cells #[.slice none 0 0] 31 (0,0))) (hn:w.heap[gn]?=some (.cells #[.bool na] 4 (0,0)))
  (o1:gx < gy) (o2:gy < gq) (o3:gq < gs) (o4:gs < gn) (o5:gn < a6) (o6:a6+2 < a7) (o7:a7+2 < a8) (hBx:B≤gx)
  (d7:∀ W_,Kept w W_ (je gx gy gq gs gn)→cI W_ AaP aP) (d8:aP.length≤caP) (d9:∀ W_,Kept w W_ (je gx gy gq gs gn)→cI W_ AaQ aQ) (e6:aQ.length≤caQ)
  (e7:∀ W_,Kept w W_ (je gx gy gq gs gn)→cI W_ AbP bP) (f6:bP.length≤cbP) (f7:∀ W_,Kept w W_ (je gx gy gq gs gn)→cI W_ AbQ bQ) (f8:bQ.length≤cbQ)
  (h:Fzm.f k na nb aP aQ bP bQ=some (a9,b4,b5,b6)) :
  Calls Try.prog 67 #[.slice (some ⟨g,0,none⟩) 4 cg] w fun e w'=>e=.returned (.int .i64 a9)∧zJ B b7 w w' gx gy gq gs gn a9 b4 b5 b6:=by
 have hfn:∃ fn,Try.prog.funcs[96]?=some fn∧(fn.name == "runtime.NumGoroutine")=false∧fn.body.isSome=true:=⟨_,Try.func96,by kernel_rfl,rfl⟩
 have hfn1:∃ fn,Try.prog.funcs[88]?=some fn∧(fn.name == "runtime.NumGoroutine")=false∧fn.body.isSome=true:=⟨_,Try.func88,by kernel_rfl,rfl⟩
 have lx:=aV hx;have ly:=aV hy;have lq:=aV hq;have ls:=aV hs;have ln:=aV hn;have g5:=dh hg hx (by decide)
 have g8:=dh hg hn (by decide)
 have g9:=dh hg hy (by decide)
 have j3:=dh hg hq (by decide)
 have j4:=dh hg hs (by decide)
 have j5:=dh ha hx (by decide)
 have j6:=dh ha hy (by decide)
 have j7:=dh ha hq (by decide)
 have j8:=dh ha hs (by decide)
 have j9:=dh ha hn (by decide)
 have d1:=dh hb hx (by decide)
 have d2:=dh hb hy (by decide)
 have d3:=dh hb hq (by decide)
 have d4:=dh hb hs (by decide)
 have d5:=dh hb hn (by decide)
 have nS:∀ i,i≠gx→i≠gy→i≠gq→i≠gs→i≠gn→¬ je gx gy gq gs gn i:=fun i l5 l6 l7 l8 l9 m0=>by
  unfold je at m0;omega
 have far:∀ (W:World) (i:Nat) (o:Obj),Kept w W (je gx gy gq gs gn)→i≠gx→i≠gy→i≠gq→i≠gs→i≠gn→w.heap[i]?=some o→W.heap[i]?=some o:=fun W i o hk l5 l6 l7 l8 l9 ho=>eF ho hk (nS i l5 l6 l7 l8 l9)
 have thk:∀ (W:World) (b gp:Nat) (A A':Option Addr) (n c n' c':Nat),Kept w W (je gx gy gq gs gn)→gn < b→Thk w b gp A n c A' n' c'→Thk W b gp A n c A' n' c':=fun W b gp A A' n c n' c' hk hb hT =>
  ⟨far W b _ hk (by omega) (by omega) (by omega) (by omega) (by omega) hT.tp,far W (b+1) _ hk (by omega) (by omega) (by omega) (by omega) (by omega) hT.fa,far W (b+2) _ hk (by omega) (by omega) (by omega) (by omega) (by omega) hT.fb,hT.lt⟩
 let I:Nat→World→Prop:=fun j W=>Kept w W (je gx gy gq gs gn)∧Below B b7 W∧match j with
  | 0=>W=w
  | 1=>∃ (v:Value) (x:List Int),Czj.f k aP bQ=some (x,0)∧Bx_ W w.heap.size gx v x∧Kept w W (fun k_=>k_=gx)
  | 2=>∃ (v m4:Value) (x y:List Int),Czj.f k aP bQ=some (x,0)∧Czj.f k bP aQ=some (y,0)∧Bx_ W w.heap.size gx v x∧Bx_ W w.heap.size gy m4 y∧Kept w W (fun k_=>k_=gx∨k_=gy)
  | 3=>∃ (v m4 m5:Value) (x y q:List Int),Czj.f k aP bQ=some (x,0)∧Czj.f k bP aQ=some (y,0)∧Czj.f k aQ bQ=some (q,0)∧Bx_ W w.heap.size gx v x∧Bx_ W w.heap.size gy m4 y∧Bx_ W w.heap.size gq m5 q∧Kept w W (fun k_=>k_=gx∨k_=gy∨k_=gq)
  | _=>zJ B b7 w W gx gy gq gs gn 0 b4 b5 b6∧a9=0
 let Qr:Int→World→Prop:=fun r W=>zJ B b7 w W gx gy gq gs gn r b4 b5 b6∧r=a9
 unfold Fzm.f at h;rw[Option.bind_eq_some_iff] at h;obtain⟨⟨x,m6⟩,m7,h⟩:=h;have hS:uM [ed 96 a6,ed 96 a7,ed 96 a8,(88,#[.pointer (some ⟨ga,0,none⟩),.pointer (some ⟨gb,0,none⟩),.pointer (some ⟨gx,0,none⟩),.pointer (some ⟨gy,0,none⟩),.pointer (some ⟨gs,0,none⟩),.pointer (some ⟨gn,0,none⟩)])] ⟨g,0,none⟩ I Qr:=by
  refine⟨fun j W hI i x hx=>?_,fun j W z hI hz=>?_,fun W hI=>⟨hI.2.2.1,hI.2.2.2.symm⟩⟩
  ·rw[add_plain];have l5:=far W g _ hI.1 g5 g9 j3 j4 g8 hg;rw[af l5 i];match i,hx with
   | 0,hx=>cases hx;rfl
   | 1,hx=>cases hx;rfl
   | 2,hx=>cases hx;rfl
   | 3,hx=>cases hx;rfl
   | i+4,hx=>simp at hx
  ·match j,hz,hI with
   | 0,hz,hI =>
    cases hz
    obtain⟨hk,hbl,hw⟩:=hI;cases hw
    refine⟨hfn,?_⟩;refine(Gzm.calls k a6 gx AaP caP aP AbQ cbQ bQ _ x m6 w b8 hx (d7 w hk) d8 (f7 w hk) f8 m7).mono ?_;rintro e W' ⟨W1,v,rfl,rfl,hR,m8⟩;have hkx:Kept w (W1.setCell ⟨gx,0,none⟩ v) (fun k_=>k_=gx):=iB (S:=fun k_=>k_=gx) m8 (Nat.le_refl _) rfl v
    have hk5:Kept w (W1.setCell ⟨gx,0,none⟩ v) (je gx gy gq gs gn):=iB m8 (Nat.le_refl _) (.inl rfl) v;have hbl1:=iG hbl (Nat.le_trans hBx (Nat.le_of_lt lx)) m8 hBx v;refine⟨m6,rfl,fun m9=>?_,fun m9=>?_⟩
    ·subst m9;exact⟨hk5,hbl1,v,x,m7,Bx_.new (aD hx m8) hR (Nat.le_refl _) lx,hkx⟩
    ·simp only[if_neg m9,Option.some.injEq,Prod.mk.injEq] at h;obtain⟨rfl,rfl,rfl,rfl⟩:=h;exact⟨⟨hk5,hbl1,fun n0=>absurd n0 m9⟩,rfl⟩
   | 1,hz,hI =>
    cases hz
    obtain⟨hk,hbl,v,x',n7,hbx,hkx⟩:=hI;rw[m7] at n7;cases n7
    simp only[if_true] at h;rw[Option.bind_eq_some_iff] at h;obtain⟨⟨y,n8⟩,n9,h⟩:=h;have hyW:=eF hy hkx (by omega)
    refine⟨hfn,?_⟩;refine(Gzm.calls k a7 gy AbP cbP bP AaQ caQ aQ _ y n8 W (thk W _ _ _ _ _ _ _ _ hk (by omega) b9) hyW (e7 W hk) f6 (d9 W hk) e6 n9).mono ?_
    rintro e W' ⟨W1,m4,rfl,rfl,hR,m8⟩;have hkx2:Kept w (W1.setCell ⟨gy,0,none⟩ m4) (fun k_=>k_=gx∨k_=gy):=kept_trans ⟨hkx.1,fun i hi hn=>hkx.2 i hi (fun e_=>hn (.inl e_))⟩ (iB m8 (Nat.le_refl _) (.inr rfl) m4)
    have hk5:Kept w (W1.setCell ⟨gy,0,none⟩ m4) (je gx gy gq gs gn):=kept_trans hk (iB m8 (Nat.le_refl _) (.inr (.inl rfl)) m4);have hbl1:=iG hbl (Nat.le_trans (Nat.le_trans hBx (Nat.le_of_lt lx)) hk.1) m8 (show B≤gy by omega) m4
    refine⟨n8,rfl,fun m9=>?_,fun m9=>?_⟩
    ·subst m9;exact⟨hk5,hbl1,v,m4,x,y,m7,n9,hbx.step m8 (by omega) ly,Bx_.new (aD hyW m8) hR hk.1 ly,hkx2⟩
    ·simp only[if_neg m9,Option.some.injEq,Prod.mk.injEq] at h;obtain⟨rfl,rfl,rfl,rfl⟩:=h;exact⟨⟨hk5,hbl1,fun n0=>absurd n0 m9⟩,rfl⟩
   | 2,hz,hI =>
    cases hz
    obtain⟨hk,hbl,v,m4,x',y,n7,n9,hbx,hby,hkx⟩:=hI;rw[m7] at n7;cases n7
    simp only[if_true,n9,Option.bind_some] at h;rw[Option.bind_eq_some_iff] at h;obtain⟨⟨q,o0⟩,o8,h⟩:=h;have hqW:=eF hq hkx (by omega)
    refine⟨hfn,?_⟩;refine(Gzm.calls k a8 gq AaQ caQ aQ AbQ cbQ bQ _ q o0 W (thk W _ _ _ _ _ _ _ _ hk (by omega) d6) hqW (d9 W hk) e6 (f7 W hk) f8 o8).mono ?_
    rintro e W' ⟨W1,m5,rfl,rfl,hR,m8⟩;have hkx2:Kept w (W1.setCell ⟨gq,0,none⟩ m5) (fun k_=>k_=gx∨k_=gy∨k_=gq):=kept_trans ⟨hkx.1,fun i hi hn=>hkx.2 i hi (fun e_=>hn (by omega))⟩ (iB m8 (Nat.le_refl _) (.inr (.inr rfl)) m5)
    have hk5:Kept w (W1.setCell ⟨gq,0,none⟩ m5) (je gx gy gq gs gn):=kept_trans hk (iB m8 (Nat.le_refl _) (.inr (.inr (.inl rfl))) m5);have hbl1:=iG hbl (Nat.le_trans (Nat.le_trans hBx (Nat.le_of_lt lx)) hk.1) m8 (show B≤gq by omega) m5
    refine⟨o0,rfl,fun m9=>?_,fun m9=>?_⟩
    ·subst m9;exact⟨hk5,hbl1,v,m4,m5,x,y,q,m7,n9,o8,hbx.step m8 (by omega) lq,hby.step m8 (by omega) lq,Bx_.new (aD hqW m8) hR hk.1 lq,hkx2⟩
    ·simp only[if_neg m9,Option.some.injEq,Prod.mk.injEq] at h;obtain⟨rfl,rfl,rfl,rfl⟩:=h;exact⟨⟨hk5,hbl1,fun n0=>absurd n0 m9⟩,rfl⟩
   | 3,hz,hI =>
    cases hz
    obtain⟨hk,hbl,v,m4,m5,x',y,q,n7,n9,o8,hbx,hby,hbq,hkx⟩:=hI;rw[m7] at n7;cases n7
    simp only[if_true,n9,o8,Option.bind_some] at h;rw[Option.bind_eq_some_iff] at h;obtain⟨⟨o9,p9,r6⟩,r7,h⟩:=h;simp only[Option.some.injEq,Prod.mk.injEq] at h;obtain⟨rfl,rfl,rfl,rfl⟩:=h;have hsW:=eF hs hkx (by omega)
    have hnW:=eF hn hkx (by omega)
    have haW:=far W ga _ hk j5 j6 j7 j8 j9 ha;have hbW:=far W gb _ hk d1 d2 d3 d4 d5 hb;obtain⟨Ax,cx,ex⟩:=Kd.aj hbx.row;subst ex;obtain⟨Ay,cy,ey⟩:=Kd.aj hby.row;subst ey;have hS4:∀ k_,w.heap.size≤k_→¬ p8 gx gy gs gn k_:=fun k_ l5 l6=>by unfold p8 at l6;omega
    refine⟨hfn1,?_⟩;refine(Gzp.calls k B ga gb gx gy gs gn na nb ua1 ua2 ub1 ub2 Ax cx x Ay cy y _ o9 p9 r6 b7 W hbl haW hbW hbx.cell hby.cell hsW hnW (by omega) (by omega) (by omega) hBx (by omega) (by omega) (by omega) (fun W_ hk_=>hbx.reads hk_ hS4) (Kd.ax hbx.row).2.1 (fun W_ hk_=>hby.reads hk_ hS4) (Kd.ax hby.row).2.1 r7).mono ?_
    rintro e W' ⟨vs,rfl,hn',hs',hR',hk',hb'⟩;have hk5:Kept w W' (je gx gy gq gs gn):=kept_trans hk ⟨hk'.1,fun i hi hn=>hk'.2 i hi (fun e_=>hn (by unfold p8 at e_;unfold je;omega))⟩
    have hfin:zJ B b7 w W' gx gy gq gs gn r6 o9 p9 q:=⟨hk5,hb',fun _=>⟨vs,m5,hn',⟨hs',Kd.dO (Kd.jE rfl hR' (fun k_ hk_=>Nat.le_trans hk.1 (Kd.dW hR' k_ hk_))) hk.1⟩,hbq.kept hk' (fun e_=>by unfold p8 at e_;omega) hS4⟩⟩
    refine⟨r6,rfl,fun m9=>?_,fun m9=>⟨hfin,rfl⟩⟩
    subst m9;exact⟨hk5,hb',hfin,rfl⟩
   | j+4,hz,hI=>simp at hz
 have hI0:I 0 w:=⟨⟨Nat.le_refl _,fun _ _ _=>rfl⟩,hB,rfl⟩
 refine(Hzp.calls _ ⟨g,0,none⟩ cg w I Qr hS hI0 (by simp)).mono ?_
 rintro e w' ⟨r,rfl,hF,rfl⟩;exact⟨rfl,hF⟩
theorem uL {W:World} {g:Nat} {T:TypeId} {n m:Bool} {A B A' B':Option Addr} {p q p' q':List Int} {c d c' d':Nat} (hb:W.heap[g]?=some (.cells #[.bool n,.slice A p.length c,.slice B q.length d,.bool m,.slice A' p'.length c',.slice B' q'.length d'] T (0,0)))
  (a6:cI W A p) (l1:p.length≤c) (a7:cI W B q) (l2:q.length≤d) (a8:Kd.C (Kd.int .i64) W A' p'.length p') (a9:p'.length≤c') (b4:Kd.C (Kd.int .i64) W B' q'.length q') (b5:q'.length≤d') :
  Kd.C k33 W (some ⟨g,0,none⟩) 2 [(⟨n,p,q⟩:S33),(⟨m,p',q'⟩:S33)]:=by
 refine⟨rfl,by simp,fun _=>⟨_,rfl,fun j x hj=>?_⟩⟩
 match j,hj with
 | 0,hj =>
  cases hj
  refine⟨_,rfl,uE W ⟨n,p,q⟩ l1 a6 l2 a7,fun i u hu=>?_⟩
  rw[add_plain];refine(af hb _).trans ?_;match i,hu with
  | 0,hu=>exact hu
  | 1,hu=>exact hu
  | 2,hu=>exact hu
  | i+3,hu=>simp at hu
 | 1,hj =>
  cases hj
  refine⟨_,rfl,uE W ⟨m,p',q'⟩ a9 a8 b5 b4,fun i u hu=>?_⟩
  rw[add_plain];refine(af hb _).trans ?_;match i,hu with
  | 0,hu=>exact hu
  | 1,hu=>exact hu
  | 2,hu=>exact hu
  | i+3,hu=>simp at hu
 | j+2,hj=>simp at hj
theorem yC {w W:World} {A:Option Addr} {n:Nat} {xs:List Int} (h:Kd.C (Kd.int .i64) w A n xs) (hb:∀ i,i < w.heap.size→W.heap[i]?=w.heap[i]?):Kd.C (Kd.int .i64) W A n xs:=by
 refine⟨h.1,h.2.1,fun hp=>?_⟩
 obtain⟨ad,a6,a7⟩:=h.2.2 hp;refine⟨ad,a6,fun j q hj=>?_⟩
 obtain⟨cs,a8,a9,b4⟩:=a7 j q hj;refine⟨cs,a8,a9,fun i u hu=>?_⟩
 have b5:=b4 i u hu;rw[← b5];exact World.cell?_of_block (w:=w) (hb _ (World.block_lt_of_cell? w _ b5))
def Fzx.f (k:Nat) (a0_0:Bool) (l0_1:List Int) (l0_2:List Int) (a1_0:Bool) (l1_1:List Int) (l1_2:List Int):Option (Bool × List Int × List Int × Int) :=
 (Czq.f k [(⟨a0_0,l0_1,l0_2⟩:S33),(⟨a1_0,l1_1,l1_2⟩:S33)]).bind fun t=>if t=true then((Fzm.f k a0_0 a1_0 l0_1 l0_2 l1_1 l1_2).bind fun b=>if b.1=0 then(Ezy.f k b.2.1 b.2.2.1 b.2.2.2).bind (fun c=>some (c.1,c.2.1,c.2.2.1,c.2.2.2)) else some (false,([]:List Int),([]:List Int),b.1)) else some (false,([]:List Int),([]:List Int),3)
theorem Fzx.mono:∀ a6 a7 a8 a9 b4 b5 k,LeO (Fzx.f k a6 a7 a8 a9 b4 b5) (Fzx.f (k+1) a6 a7 a8 a9 b4 b5):=by
 intro a6 a7 a8 a9 b4 b5 k;unfold Fzx.f;exact LeO.bind (Czq.mono _ k) (fun _=>LeO.ite (LeO.bind (Fzm.mono _ _ _ _ _ _ k) (fun _=>LeO.ite (LeO.bind (Ezy.mono _ _ _ k) (fun _=>LeO.refl _)) (LeO.refl _))) (LeO.refl _))
theorem Fzx.calls (k:Nat) (a6:Bool) (a7:Option Addr) (a8:Nat) (a9:List Int) (b4:Option Addr) (b5:Nat) (b6:List Int) (b7:Bool) (b8:Option Addr) (b9:Nat) (d6:List Int) (d7:Option Addr) (d8:Nat) (d9:List Int) (e6:Bool) (e7:List Int) (f6:List Int) (f7:Int) (w:World) (f8:cI w a7 a9) (g5:a9.length≤a8) (g8:cI w b4 b6) (g9:b6.length≤b5) (j3:cI w b8 d6) (j4:d6.length≤b9) (j5:cI w d7 d9) (j6:d9.length≤d8) (h:Fzx.f k a6 a9 b6 b7 d6 d9=some (e6,e7,f6,f7)) :
  Calls Try.prog 64 #[.agg #[.bool a6,.slice a7 a9.length a8,.slice b4 b6.length b5],.agg #[.bool b7,.slice b8 d6.length b9,.slice d7 d9.length d8]] w fun e w'=>∃ v1_ v2_:Value,e=.returned (.tuple #[.agg #[.bool e6,v1_,v2_],.int .i64 f7])∧rI w' w (oV v2_) v1_ e7∧rI w' w (oV v1_) v2_ f6∧bw w w':=by
 have hmf_:∀ (fn:Fn) (first cap:Array Value) (w:World),(Instr.makeFunc fn first cap).run Try.prog w=.ok (.func fn first cap) w:=fun _ _ _ _=>rfl
 have H1:=aM f8;have H2:=aM g8;have H3:=aM j3;have H4:=aM j5;have L1:=aM g5;have L2:=aM g9;have L3:=aM j4;have L4:=aM j6;clear f8 g8 j3 j5 g5 g9 j4 j6;unfold Fzx.f at h;rw[Option.bind_eq_some_iff] at h;obtain⟨tv,hv,h⟩:=h;have HV:=aM hv;clear hv;have cV:∀ W,W=(((w.alloc (.cells #[.bool a6,.slice a7 a9.length a8,.slice b4 b6.length b5] 33)).alloc (.cells #[.bool b7,.slice b8 d6.length b9,.slice d7 d9.length d8] 33)).alloc (.cells #[.bool false,.slice none 0 0,.slice none 0 0] 33)).alloc (.cells #[.bool a6,.slice a7 a9.length a8,.slice b4 b6.length b5,.bool b7,.slice b8 d6.length b9,.slice d7 d9.length d8] 33)→Calls Try.prog 62 #[.slice (some ⟨w.heap.size+1+1+1,0,none⟩) 2 2] W fun e w'=>e=.returned (.bool tv)∧w'.heap[w.heap.size]?=some (.cells #[.bool a6,.slice a7 a9.length a8,.slice b4 b6.length b5] 33 (0,0))∧w'.heap[w.heap.size+1]?=some (.cells #[.bool b7,.slice b8 d6.length b9,.slice d7 d9.length d8] 33 (0,0))∧w'.heap[w.heap.size+1+1]?=some (.cells #[.bool false,.slice none 0 0,.slice none 0 0] 33 (0,0))∧bw w w':=by
  intro W hW;have ha:W.heap[w.heap.size]?=some (.cells #[.bool a6,.slice a7 a9.length a8,.slice b4 b6.length b5] 33 (0,0)):=by subst hW;exact aK (aK (aK (gL w _) _) _) _
  have hb:W.heap[w.heap.size+1]?=some (.cells #[.bool b7,.slice b8 d6.length b9,.slice d7 d9.length d8] 33 (0,0)):=by subst hW;simpa using aK (aK (gL (w.alloc (.cells #[.bool a6,.slice a7 a9.length a8,.slice b4 b6.length b5] 33)) (.cells #[.bool b7,.slice b8 d6.length b9,.slice d7 d9.length d8] 33)) _) _
  have hc:W.heap[w.heap.size+1+1]?=some (.cells #[.bool false,.slice none 0 0,.slice none 0 0] 33 (0,0)):=by subst hW;simpa using aK (gL ((w.alloc (.cells #[.bool a6,.slice a7 a9.length a8,.slice b4 b6.length b5] 33)).alloc (.cells #[.bool b7,.slice b8 d6.length b9,.slice d7 d9.length d8] 33)) (.cells #[.bool false,.slice none 0 0,.slice none 0 0] 33)) _
  have hd:W.heap[w.heap.size+1+1+1]?=some (.cells #[.bool a6,.slice a7 a9.length a8,.slice b4 b6.length b5,.bool b7,.slice b8 d6.length b9,.slice d7 d9.length d8] 33 (0,0)):=by subst hW;simpa using gL (((w.alloc (.cells #[.bool a6,.slice a7 a9.length a8,.slice b4 b6.length b5] 33)).alloc (.cells #[.bool b7,.slice b8 d6.length b9,.slice d7 d9.length d8] 33)).alloc (.cells #[.bool false,.slice none 0 0,.slice none 0 0] 33)) (.cells #[.bool a6,.slice a7 a9.length a8,.slice b4 b6.length b5,.bool b7,.slice b8 d6.length b9,.slice d7 d9.length d8] 33)
  have hw:bw w W:=by subst hW;exact((((Below.refl _ w).alloc (Nat.le_refl _) _).alloc (by simp) _).alloc (by simp;omega) _).alloc (by simp;omega) _
  refine(Czq.calls k (some ⟨w.heap.size+1+1+1,0,none⟩) 2 [(⟨a6,a9,b6⟩:S33),(⟨b7,d6,d9⟩:S33)] tv W (uL hd (Kd.aT H1.out hw) L1.out (Kd.aT H2.out hw) L2.out (Kd.aT H3.out hw) L3.out (Kd.aT H4.out hw) L4.out) (Nat.le_refl _) HV.out).mono ?_;rintro e w' ⟨rfl,j7⟩;exact⟨rfl,aD ha j7,aD hb j7,aD hc j7,hw.trans (j7.mono hw.size)⟩
 have CV:=aM cV;clear cV HV;cases tv with
 | false =>
  simp only[Bool.false_eq_true,if_false,Option.some.injEq,Prod.mk.injEq] at h;obtain⟨rfl,rfl,rfl,rfl⟩:=h;go_enter Try.func64,Try.ntmps64
  go_wp2_with (first|((with_reducible refine df (f:=62) rfl ?_);refine gJ (some 15) rfl rfl Try.func62 (by kernel_rfl) rfl #[.slice (some ⟨w.heap.size+1+1+1,0,none⟩) 2 2] rfl (by first|exact mA|(simp [Act.eval];done)) ?_;refine(CV.out _ rfl).mono ?_;rintro e j8 ⟨rfl,ha,hb,hc,hw⟩;refine⟨_,rfl,?_⟩;have HR:=aM hc;have HW:=aM hw;obtain⟨hczR_0,hczR_1,hczR_2,hfzR_0,hfzR_1,hfzR_2⟩:=bk3 HR;clear ha hb hc hw))
  refine rC (w.heap.size+1+1) 33 #[.bool false,.slice none 0 0,.slice none 0 0] (by refine au (cs:=#[.bool false,.slice none 0 0,.slice none 0 0]) ?_ 2 _ rfl;refine au (cs:=#[.bool false,.slice none 0 0,.slice none 0 0]) ?_ 1 _ rfl;refine au (cs:=#[.bool false,.slice none 0 0,.slice none 0 0]) ?_ 0 _ rfl;exact HR.out) Try.underlying33 ?_
  exact⟨_,_,rfl,Kd.iX _ _ _ _ _,Kd.iX _ _ _ _ _,((HW.out.setCell (p:=⟨w.heap.size+1+1,0,none⟩) (by show _≤w.heap.size+1+1;omega) _).setCell (p:=⟨w.heap.size+1+1,1,none⟩) (by show _≤w.heap.size+1+1;omega) _).setCell (p:=⟨w.heap.size+1+1,2,none⟩) (by show _≤w.heap.size+1+1;omega) _⟩
 | true =>
  simp only[if_true] at h;rw[Option.bind_eq_some_iff] at h;obtain⟨⟨j9,ng,sm,q⟩,hp,h⟩:=h;have HP:=aM hp;clear hp;go_enter Try.func64,Try.ntmps64
  go_wp2_with (first|((with_reducible refine df (f:=62) rfl ?_);refine gJ (some 15) rfl rfl Try.func62 (by kernel_rfl) rfl #[.slice (some ⟨w.heap.size+1+1+1,0,none⟩) 2 2] rfl (by first|exact mA|(simp [Act.eval];done)) ?_;refine(CV.out _ rfl).mono ?_;rintro e j8 ⟨rfl,ha,hb,hc,hw⟩;refine⟨_,rfl,?_⟩;have HA:=aM ha;have HBb:=aM hb;have HR:=aM hc;have HW:=aM hw;obtain⟨hczA_0,hczA_1,hczA_2,hfzA_0,hfzA_1,hfzA_2⟩:=bk3 HA;have l5:∀ o1 o2 o3 o4,((((j8.alloc o1).alloc o2).alloc o3).alloc o4).cell? ⟨w.heap.size,0,none⟩=some (.bool a6):=fun o1 o2 o3 o4=>(af (aK (aK (aK (aK HA.out o1) o2) o3) o4) 0).trans rfl;clear ha hb hc hw))
  clear l5 hczA_0 hczA_1 hczA_2 hfzA_0 hfzA_1 hfzA_2 CV;have l6:Below j8.heap.size j8 (((((j8.alloc (.cells #[.slice none 0 0] 31)).alloc (.cells #[.slice none 0 0] 31)).alloc (.cells #[.slice none 0 0] 31)).alloc (.cells #[.slice none 0 0] 31)).alloc (.cells #[.bool a6] 4)):=(((((Below.refl _ j8).alloc (Nat.le_refl _) _).alloc (by simp) _).alloc (by simp;omega) _).alloc (by simp;omega) _).alloc (by simp;omega) _
  have gx5:(((((j8.alloc (.cells #[.slice none 0 0] 31)).alloc (.cells #[.slice none 0 0] 31)).alloc (.cells #[.slice none 0 0] 31)).alloc (.cells #[.slice none 0 0] 31)).alloc (.cells #[.bool a6] 4)).heap[j8.heap.size]?=some (.cells #[.slice none 0 0] 31 (0,0)):=aK (aK (aK (aK (gL j8 _) _) _) _) _;have gy5:(((((j8.alloc (.cells #[.slice none 0 0] 31)).alloc (.cells #[.slice none 0 0] 31)).alloc (.cells #[.slice none 0 0] 31)).alloc (.cells #[.slice none 0 0] 31)).alloc (.cells #[.bool a6] 4)).heap[j8.heap.size+1]?=some (.cells #[.slice none 0 0] 31 (0,0)):=by simpa using aK (aK (aK (gL (j8.alloc (.cells #[.slice none 0 0] 31)) (.cells #[.slice none 0 0] 31)) (.cells #[.slice none 0 0] 31)) (.cells #[.slice none 0 0] 31)) (.cells #[.bool a6] 4)
  have gq5:(((((j8.alloc (.cells #[.slice none 0 0] 31)).alloc (.cells #[.slice none 0 0] 31)).alloc (.cells #[.slice none 0 0] 31)).alloc (.cells #[.slice none 0 0] 31)).alloc (.cells #[.bool a6] 4)).heap[j8.heap.size+1+1]?=some (.cells #[.slice none 0 0] 31 (0,0)):=by simpa using aK (aK (gL ((j8.alloc (.cells #[.slice none 0 0] 31)).alloc (.cells #[.slice none 0 0] 31)) (.cells #[.slice none 0 0] 31)) (.cells #[.slice none 0 0] 31)) (.cells #[.bool a6] 4)
  have gs5:(((((j8.alloc (.cells #[.slice none 0 0] 31)).alloc (.cells #[.slice none 0 0] 31)).alloc (.cells #[.slice none 0 0] 31)).alloc (.cells #[.slice none 0 0] 31)).alloc (.cells #[.bool a6] 4)).heap[j8.heap.size+1+1+1]?=some (.cells #[.slice none 0 0] 31 (0,0)):=by simpa using aK (gL (((j8.alloc (.cells #[.slice none 0 0] 31)).alloc (.cells #[.slice none 0 0] 31)).alloc (.cells #[.slice none 0 0] 31)) (.cells #[.slice none 0 0] 31)) (.cells #[.bool a6] 4)
  have gn5:(((((j8.alloc (.cells #[.slice none 0 0] 31)).alloc (.cells #[.slice none 0 0] 31)).alloc (.cells #[.slice none 0 0] 31)).alloc (.cells #[.slice none 0 0] 31)).alloc (.cells #[.bool a6] 4)).heap[j8.heap.size+1+1+1+1]?=some (.cells #[.bool a6] 4 (0,0)):=by simpa using gL ((((j8.alloc (.cells #[.slice none 0 0] 31)).alloc (.cells #[.slice none 0 0] 31)).alloc (.cells #[.slice none 0 0] 31)).alloc (.cells #[.slice none 0 0] 31)) (.cells #[.bool a6] 4)
  have l7:=aD HA.out l6;have l8:=aD HBb.out l6;have l9:=aD HR.out l6;have hwb:=HW.out.trans (l6.mono HW.out.size);clear l6 HA HBb HR;have hsz:=HW.out.size;clear HW;generalize (((((j8.alloc (.cells #[.slice none 0 0] 31)).alloc (.cells #[.slice none 0 0] 31)).alloc (.cells #[.slice none 0 0] 31)).alloc (.cells #[.slice none 0 0] 31)).alloc (.cells #[.bool a6] 4))=wA at *;obtain⟨gn,hgn⟩:∃ g,g=j8.heap.size+1+1+1+1:=⟨_,rfl⟩;obtain⟨gs,hgs⟩:∃ g,g=j8.heap.size+1+1+1:=⟨_,rfl⟩;obtain⟨gq,hgq⟩:∃ g,g=j8.heap.size+1+1:=⟨_,rfl⟩;obtain⟨gy,hgy⟩:∃ g,g=j8.heap.size+1:=⟨_,rfl⟩;obtain⟨gx,hgx⟩:∃ g,g=j8.heap.size:=⟨_,rfl⟩;obtain⟨gr,hgr⟩:∃ g,g=w.heap.size+1+1:=⟨_,rfl⟩;obtain⟨gb,hgb⟩:∃ g,g=w.heap.size+1:=⟨_,rfl⟩;obtain⟨ga,hga⟩:∃ g,g=w.heap.size:=⟨_,rfl⟩;have hlr:=aV l9;rw[← hgn] at gn5;rw[← hgs] at gs5;rw[← hgq] at gq5;rw[← hgy] at gy5;rw[← hgx] at gx5;rw[← hgr] at l9 hlr;rw[← hgb] at l8;rw[← hga] at l7;rw[← hgn,← hgs,← hgq,← hgy,← hgx,← hgr,← hgb];have OR:=aM (show gx < gy∧gy < gq∧gq < gs∧gs < gn∧w.heap.size≤gr∧w.heap.size≤gx∧gr≠gx∧gr≠gy∧gr≠gq∧gr≠gs∧gr≠gn∧gn < wA.heap.size from by have:=aV gn5;refine⟨by omega,by omega,by omega,by omega,by omega,by omega,?_,?_,?_,?_,?_,this⟩ <;> first|exact dh l9 gx5 (by decide)|exact dh l9 gy5 (by decide)|exact dh l9 gq5 (by decide)|exact dh l9 gs5 (by decide)|exact dh l9 gn5 (by decide))
  clear hgn hgs hgq hgy hgx hgr hgb hsz hlr;have BX:=aM (az gx5);have BY:=aM (az gy5);have BQ:=aM (az gq5);have BS:=aM (az gs5);have BN:=aM (az gn5);have BA:=aM (az l7);have BB:=aM (az l8);have BR:=aM (az l9);have HW:=aM hwb.drew;have LN:=aM (show gn < wA.drew.heap.size from OR.out.2.2.2.2.2.2.2.2.2.2.2)
  clear gx5 gy5 gq5 gs5 gn5 l7 l8 l9 hwb;rw[← hga];have HGA:=aM hga;clear hga;refine gz (n:=19) (S:=fun W=>W.cell? ⟨ga,1,none⟩=some (.slice a7 a9.length a8)∧W.cell? ⟨ga,2,none⟩=some (.slice b4 b6.length b5)∧W.cell? ⟨gb,1,none⟩=some (.slice b8 d6.length b9)∧W.cell? ⟨gb,2,none⟩=some (.slice d7 d9.length d8)) (ds:=[]) (bA 19 0) (by kernel_rfl) rfl rfl ⟨(af BA.out 1).trans rfl,(af BA.out 2).trans rfl,(af BB.out 1).trans rfl,(af BB.out 2).trans rfl⟩ (fun hHeld=>?_)
  generalize wA.drew=wd at BX BY BQ BS BN BA BB BR HW LN hHeld ⊢;refine pV 0 20 (bA 19 1) ?_;refine take_ (i:=1) (N:=some 21) (v:=?_) (a':=?_) (bA 19 3) rfl rfl (by kernel_rfl) (fun _ _ _ h=>h) (Or.inl ⟨by rfl,?_⟩) hHeld ?_ ?_
  rotate_left
  ·intro w' m0;obtain⟨m4,m5,m6,m7⟩:=m0;go_simp
   with_reducible rfl
  rotate_left
  ·simp only[Act.put,sA,sZ,sC,aH,bg];rfl
  refine pV 2 22 (bA 19 7) ?_;refine take_ (i:=3) (N:=some 23) (v:=?_) (a':=?_) (bA 19 15) rfl rfl (by kernel_rfl) (fun _ _ _ h=>h) (Or.inl ⟨by rfl,?_⟩) hHeld ?_ ?_
  rotate_left
  ·intro w' m0;obtain⟨m4,m5,m6,m7⟩:=m0;go_simp
   with_reducible rfl
  rotate_left
  ·simp only[Act.put,sA,sZ,sC,aH,bg];rfl
  refine pV 5 25 (bA 19 47) ?_;refine take_ (i:=6) (N:=some 26) (v:=?_) (a':=?_) (bA 19 111) rfl rfl (by kernel_rfl) (fun _ _ _ h=>h) (Or.inl ⟨by rfl,?_⟩) hHeld ?_ ?_
  rotate_left
  ·intro w' m0;obtain⟨m4,m5,m6,m7⟩:=m0;go_simp
   with_reducible rfl
  rotate_left
  ·simp only[Act.put,sA,sZ,sC,aH,bg];rfl
  refine pV 7 27 (bA 19 239) ?_;refine take_ (i:=8) (N:=some 28) (v:=?_) (a':=?_) (bA 19 495) rfl rfl (by kernel_rfl) (fun _ _ _ h=>h) (Or.inl ⟨by rfl,?_⟩) hHeld ?_ ?_
  rotate_left
  ·intro w' m0;obtain⟨m4,m5,m6,m7⟩:=m0;go_simp
   with_reducible rfl
  rotate_left
  ·simp only[Act.put,sA,sZ,sC,aH,bg];rfl
  refine pV 10 30 (bA 19 1519) ?_;refine take_ (i:=11) (N:=some 31) (v:=?_) (a':=?_) (bA 19 3567) rfl rfl (by kernel_rfl) (fun _ _ _ h=>h) (Or.inl ⟨by rfl,?_⟩) hHeld ?_ ?_
  rotate_left
  ·intro w' m0;obtain⟨m4,m5,m6,m7⟩:=m0;go_simp
   with_reducible rfl
  rotate_left
  ·simp only[Act.put,sA,sZ,sC,aH,bg];rfl
  refine pV 12 32 (bA 19 7663) ?_;refine take_ (i:=13) (N:=some 33) (v:=?_) (a':=?_) (bA 19 15855) rfl rfl (by kernel_rfl) (fun _ _ _ h=>h) (Or.inl ⟨by rfl,?_⟩) hHeld ?_ ?_
  rotate_left
  ·intro w' m0;obtain⟨m4,m5,m6,m7⟩:=m0;go_simp
   with_reducible rfl
  rotate_left
  ·simp only[Act.put,sA,sZ,sC,aH,bg];rfl
  refine pV 15 35 (bA 19 48623) ?_;refine iK (i:=4) (N:=some 24) (bA 19 48639) rfl rfl (by kernel_rfl) (by decide) (fun K hK=>?_)
  refine eH Try.func68 (by kernel_rfl) rfl #[.pointer (some ⟨gx,0,none⟩),.slice a7 a9.length a8,.slice d7 d9.length d8] (by rfl) rfl rfl mA ?_
  with_reducible refine(Ezz.calls gx _ _ _ _ _ _ _ (aV BX.out)).mono ?_
  rintro e m8 ⟨m9,rfl,hT,hbs,hb⟩;refine⟨_,rfl,?_⟩;have G1:=aM (Nat.lt_of_lt_of_le LN.out hbs);have n0:=aM hT;replace BX:=kb BX hb;replace BY:=kb BY hb;replace BQ:=kb BQ hb;replace BS:=kb BS hb;replace BN:=kb BN hb;replace BA:=kb BA hb;replace BB:=kb BB hb;replace BR:=kb BR hb;replace HW:=aM (HW.out.trans (hb.mono HW.out.size));clear hT hbs hb;refine hK.out _ _ ⟨(af BA.out 1).trans rfl,(af BA.out 2).trans rfl,(af BB.out 1).trans rfl,(af BB.out 2).trans rfl⟩ (fun hHeld1=>?_)
  clear hK K;refine nm 24 ?_;refine iK (i:=9) (N:=some 29) (bA 19 49151) rfl rfl (by kernel_rfl) (by decide) (fun K hK=>?_)
  refine eH Try.func68 (by kernel_rfl) rfl #[.pointer (some ⟨gy,0,none⟩),.slice b8 d6.length b9,.slice b4 b6.length b5] (by rfl) rfl rfl mA ?_
  with_reducible refine(Ezz.calls gy _ _ _ _ _ _ _ (aV BY.out)).mono ?_
  rintro e n7 ⟨n8,rfl,hT,hbs,hb⟩;refine⟨_,rfl,?_⟩;have G2:=aM (Nat.lt_of_lt_of_le (aV n0.out.fb) hbs);replace n0:=aM (n0.out.below hb);have n9:=aM hT;replace BX:=kb BX hb;replace BY:=kb BY hb;replace BQ:=kb BQ hb;replace BS:=kb BS hb;replace BN:=kb BN hb;replace BA:=kb BA hb;replace BB:=kb BB hb;replace BR:=kb BR hb;replace HW:=aM (HW.out.trans (hb.mono HW.out.size));clear hT hbs hb;refine hK.out _ _ ⟨(af BA.out 1).trans rfl,(af BA.out 2).trans rfl,(af BB.out 1).trans rfl,(af BB.out 2).trans rfl⟩ (fun hHeld2=>?_)
  clear hK K;refine nm 29 ?_;refine iK (i:=14) (N:=some 34) (bA 19 65535) rfl rfl (by kernel_rfl) (by decide) (fun K hK=>?_)
  refine eH Try.func68 (by kernel_rfl) rfl #[.pointer (some ⟨gq,0,none⟩),.slice b4 b6.length b5,.slice d7 d9.length d8] (by rfl) rfl rfl mA ?_
  with_reducible refine(Ezz.calls gq _ _ _ _ _ _ _ (aV BQ.out)).mono ?_
  rintro e o0 ⟨o8,rfl,hT,hbs,hb⟩;refine⟨_,rfl,?_⟩;have G3:=aM (Nat.lt_of_lt_of_le (aV n9.out.fb) hbs);replace n0:=aM (n0.out.below hb);replace n9:=aM (n9.out.below hb);have o9:=aM hT;replace BX:=kb BX hb;replace BY:=kb BY hb;replace BQ:=kb BQ hb;replace BS:=kb BS hb;replace BN:=kb BN hb;replace BA:=kb BA hb;replace BB:=kb BB hb;replace BR:=kb BR hb;replace HW:=aM (HW.out.trans (hb.mono HW.out.size));clear hT hbs hb;refine hK.out _ _ ⟨(af BA.out 1).trans rfl,(af BA.out 2).trans rfl,(af BB.out 1).trans rfl,(af BB.out 2).trans rfl⟩ (fun hHeld3=>?_)
  clear hK K;refine nm 34 ?_;refine iK (i:=16) (N:=some 36) (bA 19 131071) rfl rfl (by kernel_rfl) (by decide) (fun K hK=>?_)
  refine jf ?hg (N:=36) ?hd (cs:=#[.func (.func (ed 96 m9).1) #[] (ed 96 m9).2,.func (.func (ed 96 n8).1) #[] (ed 96 n8).2,.func (.func (ed 96 o8).1) #[] (ed 96 o8).2,.func (.func 88) #[] #[.pointer (some ⟨ga,0,none⟩),.pointer (some ⟨gb,0,none⟩),.pointer (some ⟨gx,0,none⟩),.pointer (some ⟨gy,0,none⟩),.pointer (some ⟨gs,0,none⟩),.pointer (some ⟨gn,0,none⟩)]]) (t:=80) (n:=4) ?hr ?_;(case hd=>rfl);(case hg=>rfl);(case hr=>first|(go_simp;done)|(go_simp;rfl))
  intro gF p9 hbox hb;replace n0:=aM (n0.out.below hb);replace n9:=aM (n9.out.below hb);replace o9:=aM (o9.out.below hb);replace BX:=kb BX hb;replace BY:=kb BY hb;replace BQ:=kb BQ hb;replace BS:=kb BS hb;replace BN:=kb BN hb;replace BA:=kb BA hb;replace BB:=kb BB hb;replace BR:=kb BR hb;replace HW:=aM (HW.out.trans (hb.mono HW.out.size));have BF:=aM hbox;clear hbox hb;refine hK.out _ _ ⟨(af BA.out 1).trans rfl,(af BA.out 2).trans rfl,(af BB.out 1).trans rfl,(af BB.out 2).trans rfl⟩ (fun hHeld4=>?_)
  clear hK K;refine nm 36 ?_;refine iK (i:=17) (N:=some 37) (bA 19 262143) rfl rfl (by kernel_rfl) (by decide) (fun K hK=>?_)
  refine eH Try.func67 (by kernel_rfl) rfl #[.slice (some ⟨gF,0,none⟩) 4 4] (by rfl) rfl rfl mA ?_
  have hkc:∀ (A:Option Addr) (l:List Int),cI w A l→∀ W_,Kept p9 W_ (je gx gy gq gs gn)→cI W_ A l:=fun A l hC W_ hk=>by
   have hle:=HW.out.size;have ho:=OR.out;exact yC hC (fun i hi=>(hk.2 i (Nat.lt_of_lt_of_le hi hle) (by unfold je;omega)).trans (HW.out.block i hi))
  refine(Fzm.calls k w.heap.size m9 n8 o8 ga gb gx gy gq gs gn a6 b7 _ _ _ _ a7 a8 a9 b4 b5 b6 b8 b9 d6 d7 d8 d9 j9 ng sm q gF 4 w p9 HW.out BF.out n0.out n9.out o9.out BA.out BB.out BX.out BY.out BQ.out BS.out BN.out OR.out.1 OR.out.2.1 OR.out.2.2.1 OR.out.2.2.2.1 G1.out G2.out G3.out OR.out.2.2.2.2.2.1 (hkc _ _ H1.out) L1.out (hkc _ _ H2.out) L2.out (hkc _ _ H3.out) L3.out (hkc _ _ H4.out) L4.out HP.out).mono ?_;rintro e r6 ⟨rfl,hF⟩;refine⟨_,rfl,?_⟩;have hnS:∀ i,i≠gx→i≠gy→i≠gq→i≠gs→i≠gn→¬ je gx gy gq gs gn i:=fun i j7 r7 r8 r9 t4 t5=>by unfold je at t5;omega
  have BA2:=aM (eF BA.out hF.kept (hnS _ (dh BA.out BX.out (by decide)) (dh BA.out BY.out (by decide)) (dh BA.out BQ.out (by decide)) (dh BA.out BS.out (by decide)) (dh BA.out BN.out (by decide))))
  have BB2:=aM (eF BB.out hF.kept (hnS _ (dh BB.out BX.out (by decide)) (dh BB.out BY.out (by decide)) (dh BB.out BQ.out (by decide)) (dh BB.out BS.out (by decide)) (dh BB.out BN.out (by decide))))
  have BR2:=aM (eF BR.out hF.kept (hnS _ (dh BR.out BX.out (by decide)) (dh BR.out BY.out (by decide)) (dh BR.out BQ.out (by decide)) (dh BR.out BS.out (by decide)) (dh BR.out BN.out (by decide))))
  have HW2:=aM hF.below;have HF:=aM hF.fin;have HGR:=aM (OR.out.2.2.2.2.1);have HSZ:=aM (Nat.le_trans HW.out.size hF.kept.1);have HS25:=aM HW.out.size;clear hF hkc hnS n0 n9 o9 BF BA BB BR BX BY BQ BS BN G1 G2 G3 HW LN;refine hK.out _ _ ⟨(af BA2.out 1).trans rfl,(af BA2.out 2).trans rfl,(af BB2.out 1).trans rfl,(af BB2.out 2).trans rfl⟩ (fun hHeld9=>?_)
  clear hK K hHeld9;refine nm 37 ?_;refine pV 18 11 (bA 19 524287) ?_;refine gZ (by kernel_rfl) ?_
  clear BA2 BB2;by_cases c:j9=0
  ·subst c;simp only[if_true] at h;rw[Option.bind_eq_some_iff] at h;obtain⟨⟨d1,d2,d3,d4⟩,hd,h⟩:=h;simp only[Option.some.injEq,Prod.mk.injEq] at h;obtain⟨rfl,rfl,rfl,rfl⟩:=h;obtain⟨vs,vq,hn,hs,hq⟩:=HF.out rfl;obtain⟨As,cs,es⟩:=Kd.aj hs.row;subst es;obtain⟨Aq,cq,eq⟩:=Kd.aj hq.row;subst eq;have BN:=aM hn;have BS:=aM hs.cell;have BQ:=aM hq.cell;have RS:=aM (Kd.ax hs.row);have RQ:=aM (Kd.ax hq.row);have HD:=aM hd;clear hn hs hq hd HF;obtain⟨hczN,hfzN⟩:=bk1 BN;obtain⟨hczS,hfzS⟩:=bk1 BS;obtain⟨hczQ,hfzQ⟩:=bk1 BQ;go_wp2_with (first|((with_reducible refine gc 79 rfl ?_);refine gC 79 (some 45) Try.func79 #[.bool ng,.slice As sm.length cs,.slice Aq q.length cq] ?_;(with_reducible refine(Ezy.calls k ng _ _ sm _ _ q _ _ _ _ _ ?_ ?_ ?_ ?_ HD.out).mono ?_);exact RS.out.2.2;exact RS.out.2.1;exact RQ.out.2.2;exact RQ.out.2.1;rintro e t6 ⟨v1_,v2_,rfl,t7,t8,hb⟩;refine⟨_,rfl,?_⟩;have t9:=aM (Kd.dO t7 HSZ.out);have z3:=aM (Kd.dO t8 HSZ.out);have BKR:=kb BR2 hb;have z4:=aM (HW2.out.trans (hb.mono HSZ.out));obtain⟨As1,cs1,es1⟩:=Kd.aj t9.out;subst es1;obtain⟨As2,cs2,es2⟩:=Kd.aj z3.out;subst es2;obtain⟨hczR_0,hczR_1,hczR_2,hfzR_0,hfzR_1,hfzR_2⟩:=bk3 BKR;clear hb t7 t8))
   refine rC gr 33 #[.bool d1,.slice As1 d2.length cs1,.slice As2 d3.length cs2] (by refine au (cs:=#[.bool d1,.slice As1 d2.length cs1,.slice none 0 0]) ?_ 2 _ rfl;refine au (cs:=#[.bool d1,.slice none 0 0,.slice none 0 0]) ?_ 1 _ rfl;refine au (cs:=#[.bool false,.slice none 0 0,.slice none 0 0]) ?_ 0 _ rfl;exact BKR.out) Try.underlying33 ?_
   exact⟨_,_,by first|rfl|(simp;done),Kd.ah (Kd.bF (p:=⟨gr,2,none⟩) (Kd.bF (p:=⟨gr,1,none⟩) (Kd.bF (p:=⟨gr,0,none⟩) (Kd.aA t9.out BKR.out (by decide)) (fun _ hk=>hk.2) _) (fun _ hk=>hk.2) _) (fun _ hk=>hk.2) _) (fun _ hk=>hk.1),Kd.ah (Kd.bF (p:=⟨gr,2,none⟩) (Kd.bF (p:=⟨gr,1,none⟩) (Kd.bF (p:=⟨gr,0,none⟩) (Kd.aA z3.out BKR.out (by decide)) (fun _ hk=>hk.2) _) (fun _ hk=>hk.2) _) (fun _ hk=>hk.2) _) (fun _ hk=>hk.1),((z4.out.setCell (p:=⟨gr,0,none⟩) HGR.out _).setCell (p:=⟨gr,1,none⟩) HGR.out _).setCell (p:=⟨gr,2,none⟩) HGR.out _⟩
  ·simp only[if_neg c,Option.some.injEq,Prod.mk.injEq] at h;obtain⟨rfl,rfl,rfl,rfl⟩:=h;have z5:(j9 != 0)=true:=by simpa using c
   have m9:(j9 == 0)=false:=by simpa using c
   obtain⟨hczR_0,hczR_1,hczR_2,hfzR_0,hfzR_1,hfzR_2⟩:=bk3 BR2;go_wp2
   refine rC gr 33 #[.bool false,.slice none 0 0,.slice none 0 0] (by refine au (cs:=#[.bool false,.slice none 0 0,.slice none 0 0]) ?_ 2 _ rfl;refine au (cs:=#[.bool false,.slice none 0 0,.slice none 0 0]) ?_ 1 _ rfl;refine au (cs:=#[.bool false,.slice none 0 0,.slice none 0 0]) ?_ 0 _ rfl;exact BR2.out) Try.underlying33 ?_
   exact⟨_,_,by first|rfl|(simp;done),Kd.iX _ _ _ _ _,Kd.iX _ _ _ _ _,((HW2.out.setCell (p:=⟨gr,0,none⟩) HGR.out _).setCell (p:=⟨gr,1,none⟩) HGR.out _).setCell (p:=⟨gr,2,none⟩) HGR.out _⟩

end Go.Proofs.Ytbnpcplckcipfaa.Print
