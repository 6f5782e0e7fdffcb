import Derived.Test.YtokkiljkgejnhaaPrint0
import Derived.Test.YtokkiljkgejnhaaPrint23
import Derived.Test.YtokkiljkgejnhaaPrint25
import Derived.Test.YtokkiljkgejnhaaPrint26
import Derived.Test.YtokkiljkgejnhaaPrint28
import Derived.Test.YtokkiljkgejnhaaPrint30
import Derived.Test.YtokkiljkgejnhaaPrint31
namespace Go.Proofs.Ytokkiljkgejnhaa.Print
open Go.RowKit Go.Proofs.YtokkiljkgejnhaaW.PrintWords Go.Proofs.YtokkiljkgejnhaaW.PrintLast Go.Proofs.YtokkiljkgejnhaaW.PrintMore
attribute [local go_sem] max2_int min2_int max_two min_two max_three min_three max_four min_four
set_option linter.unusedVariables false
set_option maxRecDepth 100000
set_option maxHeartbeats 8000000
set_option linter.unusedSimpArgs false

/-- What the last step of Add computes: the sign,the sum,the error. -/
def Ezw.f (k:Nat) (na nb:Bool) (x y:List Int):Option (Bool × List Int × Int) :=
 if na=nb then(Czx.f k x y).bind fun t=>some (na,t.1,t.2) else(Ezf.f k x y).bind fun c=>if c.1 < 0 then none else(Czw.f k x y).bind fun t=>some (na,t.1,t.2)
theorem Ezw.mono:∀ a0 a1 a2 a3 k,LeO (Ezw.f k a0 a1 a2 a3) (Ezw.f (k+1) a0 a1 a2 a3):=by
 intro a0 a1 a2 a3 k;unfold Ezw.f;exact LeO.ite (LeO.bind (Czx.mono _ _ k) (fun _=>LeO.refl _)) (LeO.bind (Ezf.mono _ _ k) (fun _=>LeO.ite (LeO.none _) (LeO.bind (Czw.mono _ _ k) (fun _=>LeO.refl _))))
def AddS (gx gy gs gn:Nat):Nat→Prop:=fun k_=>k_=gx∨k_=gy∨k_=gs∨k_=gn
theorem Ezw.calls (k B:Nat) (ga gb gx gy gs gn:Nat) (na nb:Bool) (ua1 ua2 ub1 ub2:Value) (Ax:Option Addr) (cx:Nat) (x:List Int) (Ay:Option Addr) (cy:Nat) (y:List Int) (vs:Value) (r1:Bool) (r2:List Int) (r3:Int) (w0 w:World) (hB:Below B w0 w)
  (ha:w.heap[ga]?=some (.cells #[.bool na,ua1,ua2] 38 (0,0))) (hb:w.heap[gb]?=some (.cells #[.bool nb,ub1,ub2] 38 (0,0))) (hx:w.heap[gx]?=some (.cells #[.slice Ax x.length cx] 36 (0,0))) (hy:w.heap[gy]?=some (.cells #[.slice Ay y.length cy] 36 (0,0))) (hs:w.heap[gs]?=some (.cells #[vs] 36 (0,0))) (hn:w.heap[gn]?=some (.cells #[.bool na] 4 (0,0)))
  (nxy:gx≠gy) (nsx:gs≠gx) (nsy:gs≠gy) (bx:B≤gx) (bY:B≤gy) (bs:B≤gs) (bn:B≤gn)
  (hrx:∀ W_,Kept w W_ (AddS gx gy gs gn)→Kd.C (Kd.int .i64) W_ Ax x.length x) (hcx:x.length≤cx) (hry:∀ W_,Kept w W_ (AddS gx gy gs gn)→Kd.C (Kd.int .i64) W_ Ay y.length y) (hcy:y.length≤cy) (h:Ezw.f k na nb x y=some (r1,r2,r3)) :
  Calls Try.prog 50 #[.pointer (some ⟨ga,0,none⟩),.pointer (some ⟨gb,0,none⟩),.pointer (some ⟨gx,0,none⟩),.pointer (some ⟨gy,0,none⟩),.pointer (some ⟨gs,0,none⟩),.pointer (some ⟨gn,0,none⟩)] w fun e W'=>∃ v:Value,e=.returned (.int .i64 r3)∧W'.heap[gn]?=some (.cells #[.bool r1] 4 (0,0))∧W'.heap[gs]?=some (.cells #[v] 36 (0,0))∧Kd.R (Kd.int .i64) 3 W' w.heap.size (fun _=>True) v r2∧Kept w W' (AddS gx gy gs gn)∧Below B w0 W':=by
 have nsn:=blk_ne hs hn (by decide)
 have nxn:=blk_ne hx hn (by decide)
 have nyn:=blk_ne hy hn (by decide)
 have nas:=blk_ne ha hs (by decide)
 have nbs:=blk_ne hb hs (by decide)
 have nbx:=blk_ne hb hx (by decide)
 have nby:=blk_ne hb hy (by decide)
 have lx:=blk_lt hx;have ly:=blk_lt hy;have ls:=blk_lt hs;have ln:=blk_lt hn;have HBB:=aM hB;have HX:=aM hx;have HY:=aM hy;have HS:=aM hs;have HN:=aM hn;have HA:=aM ha;have HBb:=aM hb;have HRX:=aM hrx;have HRY:=aM hry;have HCX:=aM hcx;have HCY:=aM hcy;obtain⟨hczA_0,hczA_1,hczA_2,hfzA_0,hfzA_1,hfzA_2⟩:=bk3 HA;obtain⟨hczB_0,hczB_1,hczB_2,hfzB_0,hfzB_1,hfzB_2⟩:=bk3 HBb;obtain⟨hczX,hfzX⟩:=bk1 HX;obtain⟨hczY,hfzY⟩:=bk1 HY;obtain⟨hczS,hfzS⟩:=bk1 HS;obtain⟨hczN,hfzN⟩:=bk1 HN;clear hB hx hy hs hn ha hb hrx hry hcx hcy;have HKK:=aM (Kept.refl w (AddS gx gy gs gn));unfold Ezw.f at h;by_cases c0:na=nb
 ·subst c0;rw[if_pos rfl,Option.bind_eq_some_iff] at h;obtain⟨⟨t,e1⟩,ht,h⟩:=h;simp only[Option.some.injEq,Prod.mk.injEq] at h;obtain⟨rfl,rfl,rfl⟩:=h;have HT:=aM ht;clear ht;have b0:(na == na)=true:=by simp
  go_enter Try.func50,Try.ntmps50
  go_wp2_with (first|((with_reducible refine gate_callee (f:=51) rfl ?_);refine goesL_ (some 18) rfl rfl Try.func51 (by kernel_rfl) rfl #[.slice Ax x.length cx,.slice Ay y.length cy] rfl mA ?_;(with_reducible refine(Czx.calls k _ _ x _ _ y t e1 _ ?side1 ?side2 ?side3 ?side4 HT.out).mono ?_);(case side1=>exact HRX.out _ HKK.out);(case side2=>exact HCX.out);(case side3=>exact HRY.out _ HKK.out);(case side4=>exact HCY.out);rintro e w10 ⟨v10,rfl,ho0,hb⟩;refine⟨_,rfl,?_⟩;obtain⟨Ao_,co_,eo_⟩:=Kd.R_slice ho0;subst eo_;have HO:=aM ho0;have HS1:=aM (kB HS hb);have HN1:=aM (kB HN hb);obtain⟨hczS1,hfzS1⟩:=bk1 HS1;have HB1:=aM hb;clear hb ho0))
  go_ret
  refine⟨_,rfl,blk_far (p:=⟨gs,0,none⟩) HN1.out (Ne.symm nsn) _,blk_put HS1.out 0 _ rfl,?_,kept_far HB1.out (Nat.le_refl _) (.inr (.inr (.inl rfl))) _,below_far HBB.out (Nat.le_trans bs (Nat.le_of_lt ls)) HB1.out bs _⟩;exact Kd.R_mono (Kd.R_far (p:=⟨gs,0,none⟩) (ok:=fun k_=>w.heap.size≤k_) (Kd.R_reok rfl HO.out (fun k_ hk_=>Kd.R_base HO.out k_ hk_)) (fun k_ hk_ e_=>by have e_:k_=gs:=e_;omega) _) (fun _ _=>trivial)
 ·rw[if_neg c0,Option.bind_eq_some_iff] at h;obtain⟨⟨cv,ce⟩,hcv,h⟩:=h;by_cases c1:cv < 0
  ·rw[if_pos c1] at h;cases h
  rw[if_neg c1,Option.bind_eq_some_iff] at h;obtain⟨⟨t,e1⟩,ht,h⟩:=h;simp only[Option.some.injEq,Prod.mk.injEq] at h;obtain⟨rfl,rfl,rfl⟩:=h;have HT:=aM ht;have HCV:=aM hcv;clear ht hcv;have b0:(na == nb)=false:=by simpa using c0
  have b1:decide (cv < 0)=false:=decide_eq_false c1;go_enter Try.func50,Try.ntmps50
  go_wp2_with (first|((with_reducible refine gate_callee (f:=52) rfl ?_);refine goesL_ (some 25) rfl rfl Try.func52 (by kernel_rfl) rfl #[.slice Ax x.length cx,.slice Ay y.length cy] rfl mA ?_;(with_reducible refine(Ezf.calls k _ _ x _ _ y cv ce _ ?side1 ?side2 ?side3 ?side4 HCV.out).mono ?_);(case side1=>exact HRX.out _ HKK.out);(case side2=>exact HCX.out);(case side3=>exact HRY.out _ HKK.out);(case side4=>exact HCY.out);rintro e w9 ⟨rfl,hb0⟩;have hb:=hb0.below;clear hb0;refine⟨_,rfl,?_⟩;replace HA:=aM (kB HA hb);replace HBb:=aM (kB HBb hb);replace HX:=aM (kB HX hb);replace HY:=aM (kB HY hb);replace HS:=aM (kB HS hb);replace HN:=aM (kB HN hb);replace HKK:=aM (kept_trans HKK.out (show Kept _ w9 (AddS gx gy gs gn) from⟨hb.size,fun i hi _=>hb.block i hi⟩));replace HBB:=aM (HBB.out.trans (hb.mono (Nat.le_trans bs (Nat.le_of_lt ls))));have HLE:=aM hb.size;clear hczX hczY hfzX hfzY hczS hfzS hczN hfzN;obtain⟨hczX,hfzX⟩:=bk1 HX;obtain⟨hczY,hfzY⟩:=bk1 HY;clear hb)|((with_reducible refine gate_callee (f:=53) rfl ?_);refine goesL_ (some 37) rfl rfl Try.func53 (by kernel_rfl) rfl #[.slice Ax x.length cx,.slice Ay y.length cy] rfl mA ?_;(with_reducible refine(Czw.calls k _ _ x _ _ y t e1 _ ?side1 ?side2 ?side3 ?side4 HT.out).mono ?_);(case side1=>exact HRX.out _ HKK.out);(case side2=>exact HCX.out);(case side3=>exact HRY.out _ HKK.out);(case side4=>exact HCY.out);rintro e w10 ⟨v10,rfl,ho0,hb⟩;refine⟨_,rfl,?_⟩;obtain⟨Ao_,co_,eo_⟩:=Kd.R_slice ho0;subst eo_;have HO:=aM ho0;have HS1:=aM (kB HS hb);have HN1:=aM (kB HN hb);obtain⟨hczS1,hfzS1⟩:=bk1 HS1;have HB1:=aM hb;clear hb ho0))
  go_ret
  have hle9:=HLE.out;refine⟨rfl,blk_far (p:=⟨gs,0,none⟩) HN1.out (Ne.symm nsn) _,_,blk_put HS1.out 0 _ rfl,?_,kept_trans HKK.out (kept_far HB1.out (Nat.le_refl _) (.inr (.inr (.inl rfl))) _),below_far HBB.out (Nat.le_trans (Nat.le_trans bs (Nat.le_of_lt ls)) hle9) HB1.out bs _⟩;exact Kd.R_lower (Kd.R_mono (Kd.R_far (p:=⟨gs,0,none⟩) (ok:=fun k_=>w9.heap.size≤k_) (Kd.R_reok rfl HO.out (fun k_ hk_=>Kd.R_base HO.out k_ hk_)) (fun k_ hk_ e_=>by have e_:k_=gs:=e_;omega) _) (fun _ _=>trivial)) hle9
/-- A variable that holds a row of its own. -/
structure Bx_ (W:World) (N g:Nat) (v:Value) (x:List Int):Prop where
 cell:W.heap[g]?=some (.cells #[v] 36 (0,0))
 row:Kd.R (Kd.int .i64) 3 W N (fun k_=>N≤k_) v x
theorem Bx_.step {W W1:World} {N g g':Nat} {v u:Value} {x:List Int} (h:Bx_ W N g v x) (hb:Below W.heap.size W W1) (hne:g≠g') (hlt:g' < N):Bx_ (W1.setCell ⟨g',0,none⟩ u) N g v x :=
 ⟨blk_far (p:=⟨g',0,none⟩) (blk_below h.cell hb) hne u,Kd.R_far (p:=⟨g',0,none⟩) (Kd.R_below h.row hb) (fun k_ hk_ e_=>by have e_:k_=g':=e_;omega) u⟩
theorem Bx_.new {W W1:World} {N g:Nat} {v o:Value} {x:List Int} (hg:W1.heap[g]?=some (.cells #[o] 36 (0,0))) (h:Kd.R (Kd.int .i64) 3 W1 W.heap.size (fun _=>True) v x) (hN:N≤W.heap.size) (hlt:g < N):Bx_ (W1.setCell ⟨g,0,none⟩ v) N g v x :=
 ⟨blk_put hg 0 v rfl,Kd.R_far (p:=⟨g,0,none⟩) (Kd.R_lower (Kd.R_reok rfl h (fun k_ hk_=>Nat.le_trans hN (Kd.R_base h k_ hk_))) hN) (fun k_ hk_ e_=>by have e_:k_=g:=e_;omega) v⟩
theorem Bx_.kept {W W1:World} {N g:Nat} {v:Value} {x:List Int} {S:Nat→Prop} (h:Bx_ W N g v x) (hk:Kept W W1 S) (hg:¬ S g) (hS:∀ k,N≤k→¬ S k):Bx_ W1 N g v x :=
 ⟨blk_kept h.cell hk hg,Kd.R_mono (Kd.R_keptB h.row hk hS) (fun _ hk_=>hk_.1)⟩
theorem Bx_.reads {W W1:World} {N g n c:Nat} {A:Option Addr} {x:List Int} {S:Nat→Prop} (h:Bx_ W N g (.slice A n c) x) (hk:Kept W W1 S) (hS:∀ k,N≤k→¬ S k):Kd.C (Kd.int .i64) W1 A x.length x:=(Kd.R_reads' (Kd.R_keptB h.row hk hS)).2.2
def Dzp.f (k:Nat) (na nb:Bool) (aP aQ bP bQ:List Int):Option (Int × Bool × List Int × List Int) :=
 (Bzp.f k aP bQ).bind fun x=>if x.2=0 then(Bzp.f k bP aQ).bind fun y=>if y.2=0 then(Bzp.f k aQ bQ).bind fun q=>if q.2=0 then(Ezw.f k na nb x.1 y.1).bind fun t=>some (t.2.2,t.1,t.2.1,q.1) else some (q.2,na,([]:List Int),([]:List Int)) else some (y.2,na,([]:List Int),([]:List Int)) else some (x.2,na,([]:List Int),([]:List Int))
theorem Dzp.mono:∀ a0 a1 a2 a3 a4 a5 k,LeO (Dzp.f k a0 a1 a2 a3 a4 a5) (Dzp.f (k+1) a0 a1 a2 a3 a4 a5):=by
 intro a0 a1 a2 a3 a4 a5 k;unfold Dzp.f;exact LeO.bind (Bzp.mono _ _ k) (fun _=>LeO.ite (LeO.bind (Bzp.mono _ _ k) (fun _=>LeO.ite (LeO.bind (Bzp.mono _ _ k) (fun _=>LeO.ite (LeO.bind (Ezw.mono _ _ _ _ k) (fun _=>LeO.refl _)) (LeO.refl _))) (LeO.refl _))) (LeO.refl _))
def AddS5 (gx gy gq gs gn:Nat):Nat→Prop:=fun k_=>k_=gx∨k_=gy∨k_=gq∨k_=gs∨k_=gn
/-- What the four steps leave. -/
structure Fin4 (B:Nat) (w0 w W:World) (gx gy gq gs gn:Nat) (r:Int) (neg:Bool) (sum q:List Int):Prop where
 kept:Kept w W (AddS5 gx gy gq gs gn)
 below:Below B w0 W
 fin:r=0→∃ vs vq:Value,W.heap[gn]?=some (.cells #[.bool neg] 4 (0,0))∧Bx_ W w.heap.size gs vs sum∧Bx_ W w.heap.size gq vq q
set_option maxHeartbeats 4000000 in
theorem Dzp.calls (k B b1 b2 b3 ga gb gx gy gq gs gn:Nat) (na nb:Bool) (ua1 ua2 ub1 ub2:Value) (AaP:Option Addr) (caP:Nat) (aP:List Int) (AaQ:Option Addr) (caQ:Nat) (aQ:List Int) (AbP:Option Addr) (cbP:Nat) (bP:List Int) (AbQ:Option Addr) (cbQ:Nat) (bQ:List Int) (r1:Int) (r2:Bool) (r3 r4:List Int) (g cg:Nat) (w0 w:World) (hB:Below B w0 w)
  (hg:w.heap[g]?=some (.cells #[.func (.func (thkFn 67 b1).1) #[] (thkFn 67 b1).2,.func (.func (thkFn 67 b2).1) #[] (thkFn 67 b2).2,.func (.func (thkFn 67 b3).1) #[] (thkFn 67 b3).2,.func (.func 50) #[] #[.pointer (some ⟨ga,0,none⟩),.pointer (some ⟨gb,0,none⟩),.pointer (some ⟨gx,0,none⟩),.pointer (some ⟨gy,0,none⟩),.pointer (some ⟨gs,0,none⟩),.pointer (some ⟨gn,0,none⟩)]] 66 (0,0)))
  (hT1:Thk w b1 gx AaP aP.length caP AbQ bQ.length cbQ) (hT2:Thk w b2 gy AbP bP.length cbP AaQ aQ.length caQ) (hT3:Thk w b3 gq AaQ aQ.length caQ AbQ bQ.length cbQ)
  (ha:w.heap[ga]?=some (.cells #[.bool na,ua1,ua2] 38 (0,0))) (hb:w.heap[gb]?=some (.cells #[.bool nb,ub1,ub2] 38 (0,0)))
  (hx:w.heap[gx]?=some (.cells #[.slice none 0 0] 36 (0,0))) (hy:w.heap[gy]?=some (.cells #[.slice none 0 0] 36 (0,0))) (hq:w.heap[gq]?=some (.cells #[.slice none 0 0] 36 (0,0))) (hs:w.heap[gs]?=some (.cells #[.slice none 0 0] 36 (0,0))) (hn:w.heap[gn]?=some (.cells #[.bool na] 4 (0,0)))
  (o1:gx < gy) (o2:gy < gq) (o3:gq < gs) (o4:gs < gn) (o5:gn < b1) (o6:b1+2 < b2) (o7:b2+2 < b3) (hBx:B≤gx)
  (hA1:∀ W_,Kept w W_ (AddS5 gx gy gq gs gn)→Kd.C (Kd.int .i64) W_ AaP aP.length aP) (hc1:aP.length≤caP) (hA2:∀ W_,Kept w W_ (AddS5 gx gy gq gs gn)→Kd.C (Kd.int .i64) W_ AaQ aQ.length aQ) (hc2:aQ.length≤caQ)
  (hA3:∀ W_,Kept w W_ (AddS5 gx gy gq gs gn)→Kd.C (Kd.int .i64) W_ AbP bP.length bP) (hc3:bP.length≤cbP) (hA4:∀ W_,Kept w W_ (AddS5 gx gy gq gs gn)→Kd.C (Kd.int .i64) W_ AbQ bQ.length bQ) (hc4:bQ.length≤cbQ)
  (h:Dzp.f k na nb aP aQ bP bQ=some (r1,r2,r3,r4)) :
  Calls Try.prog 48 #[.slice (some ⟨g,0,none⟩) 4 cg] w fun e w'=>e=.returned (.int .i64 r1)∧Fin4 B w0 w w' gx gy gq gs gn r1 r2 r3 r4:=by
 have hfn:∃ fn,Try.prog.funcs[67]?=some fn∧(fn.name == "runtime.NumGoroutine")=false∧fn.body.isSome=true:=⟨_,Try.func67,by kernel_rfl,rfl⟩
 have hfn1:∃ fn,Try.prog.funcs[50]?=some fn∧(fn.name == "runtime.NumGoroutine")=false∧fn.body.isSome=true:=⟨_,Try.func50,by kernel_rfl,rfl⟩
 have lx:=blk_lt hx;have ly:=blk_lt hy;have lq:=blk_lt hq;have ls:=blk_lt hs;have ln:=blk_lt hn;have n1:=blk_ne hg hx (by decide)
 have n2:=blk_ne hg hn (by decide)
 have n3:=blk_ne hg hy (by decide)
 have n4:=blk_ne hg hq (by decide)
 have n5:=blk_ne hg hs (by decide)
 have a1:=blk_ne ha hx (by decide)
 have a2:=blk_ne ha hy (by decide)
 have a3:=blk_ne ha hq (by decide)
 have a4:=blk_ne ha hs (by decide)
 have a5:=blk_ne ha hn (by decide)
 have d1:=blk_ne hb hx (by decide)
 have d2:=blk_ne hb hy (by decide)
 have d3:=blk_ne hb hq (by decide)
 have d4:=blk_ne hb hs (by decide)
 have d5:=blk_ne hb hn (by decide)
 have nS:∀ i,i≠gx→i≠gy→i≠gq→i≠gs→i≠gn→¬ AddS5 gx gy gq gs gn i:=fun i h1 h2 h3 h4 h5 h6=>by
  unfold AddS5 at h6;omega
 have far:∀ (W:World) (i:Nat) (o:Obj),Kept w W (AddS5 gx gy gq gs gn)→i≠gx→i≠gy→i≠gq→i≠gs→i≠gn→w.heap[i]?=some o→W.heap[i]?=some o:=fun W i o hk h1 h2 h3 h4 h5 ho=>blk_kept ho hk (nS i h1 h2 h3 h4 h5)
 have thk:∀ (W:World) (b gp:Nat) (A A':Option Addr) (n c n' c':Nat),Kept w W (AddS5 gx gy gq gs gn)→gn < b→Thk w b gp A n c A' n' c'→Thk W b gp A n c A' n' c':=fun W b gp A A' n c n' c' hk hb hT =>
  ⟨far W b _ hk (by omega) (by omega) (by omega) (by omega) (by omega) hT.tp,far W (b+1) _ hk (by omega) (by omega) (by omega) (by omega) (by omega) hT.fa,far W (b+2) _ hk (by omega) (by omega) (by omega) (by omega) (by omega) hT.fb,hT.lt⟩
 let I:Nat→World→Prop:=fun j W=>Kept w W (AddS5 gx gy gq gs gn)∧Below B w0 W∧match j with
  | 0=>W=w
  | 1=>∃ (v:Value) (x:List Int),Bzp.f k aP bQ=some (x,0)∧Bx_ W w.heap.size gx v x∧Kept w W (fun k_=>k_=gx)
  | 2=>∃ (v v2:Value) (x y:List Int),Bzp.f k aP bQ=some (x,0)∧Bzp.f k bP aQ=some (y,0)∧Bx_ W w.heap.size gx v x∧Bx_ W w.heap.size gy v2 y∧Kept w W (fun k_=>k_=gx∨k_=gy)
  | 3=>∃ (v v2 v3:Value) (x y q:List Int),Bzp.f k aP bQ=some (x,0)∧Bzp.f k bP aQ=some (y,0)∧Bzp.f k aQ bQ=some (q,0)∧Bx_ W w.heap.size gx v x∧Bx_ W w.heap.size gy v2 y∧Bx_ W w.heap.size gq v3 q∧Kept w W (fun k_=>k_=gx∨k_=gy∨k_=gq)
  | _=>Fin4 B w0 w W gx gy gq gs gn 0 r2 r3 r4∧r1=0
 let Qr:Int→World→Prop:=fun r W=>Fin4 B w0 w W gx gy gq gs gn r r2 r3 r4∧r=r1
 unfold Dzp.f at h;rw[Option.bind_eq_some_iff] at h;obtain⟨⟨x,e1⟩,hm1,h⟩:=h;have hS:Steps_ [thkFn 67 b1,thkFn 67 b2,thkFn 67 b3,(50,#[.pointer (some ⟨ga,0,none⟩),.pointer (some ⟨gb,0,none⟩),.pointer (some ⟨gx,0,none⟩),.pointer (some ⟨gy,0,none⟩),.pointer (some ⟨gs,0,none⟩),.pointer (some ⟨gn,0,none⟩)])] ⟨g,0,none⟩ I Qr:=by
  refine⟨fun j W hI i x hx=>?_,fun j W z hI hz=>?_,fun W hI=>⟨hI.2.2.1,hI.2.2.2.symm⟩⟩
  ·rw[add_plain];have h1:=far W g _ hI.1 n1 n3 n4 n5 n2 hg;rw[blk_cell h1 i];match i,hx with
   | 0,hx=>cases hx;rfl
   | 1,hx=>cases hx;rfl
   | 2,hx=>cases hx;rfl
   | 3,hx=>cases hx;rfl
   | i+4,hx=>simp at hx
  ·match j,hz,hI with
   | 0,hz,hI =>
    cases hz
    obtain⟨hk,hbl,hw⟩:=hI;cases hw
    refine⟨hfn,?_⟩;refine(Ezy.calls k b1 gx AaP caP aP AbQ cbQ bQ _ x e1 w hT1 hx (hA1 w hk) hc1 (hA4 w hk) hc4 hm1).mono ?_;rintro e W' ⟨W1,v,rfl,rfl,hR,hb1⟩;have hkx:Kept w (W1.setCell ⟨gx,0,none⟩ v) (fun k_=>k_=gx):=kept_far (S:=fun k_=>k_=gx) hb1 (Nat.le_refl _) rfl v
    have hk5:Kept w (W1.setCell ⟨gx,0,none⟩ v) (AddS5 gx gy gq gs gn):=kept_far hb1 (Nat.le_refl _) (.inl rfl) v;have hbl1:=below_far hbl (Nat.le_trans hBx (Nat.le_of_lt lx)) hb1 hBx v;refine⟨e1,rfl,fun e0=>?_,fun e0=>?_⟩
    ·subst e0;exact⟨hk5,hbl1,v,x,hm1,Bx_.new (blk_below hx hb1) hR (Nat.le_refl _) lx,hkx⟩
    ·simp only[if_neg e0,Option.some.injEq,Prod.mk.injEq] at h;obtain⟨rfl,rfl,rfl,rfl⟩:=h;exact⟨⟨hk5,hbl1,fun h0=>absurd h0 e0⟩,rfl⟩
   | 1,hz,hI =>
    cases hz
    obtain⟨hk,hbl,v,x',hm1',hbx,hkx⟩:=hI;rw[hm1] at hm1';cases hm1'
    simp only[if_true] at h;rw[Option.bind_eq_some_iff] at h;obtain⟨⟨y,e2⟩,hm2,h⟩:=h;have hyW:=blk_kept hy hkx (by omega)
    refine⟨hfn,?_⟩;refine(Ezy.calls k b2 gy AbP cbP bP AaQ caQ aQ _ y e2 W (thk W _ _ _ _ _ _ _ _ hk (by omega) hT2) hyW (hA3 W hk) hc3 (hA2 W hk) hc2 hm2).mono ?_
    rintro e W' ⟨W1,v2,rfl,rfl,hR,hb1⟩;have hkx2:Kept w (W1.setCell ⟨gy,0,none⟩ v2) (fun k_=>k_=gx∨k_=gy):=kept_trans ⟨hkx.1,fun i hi hn=>hkx.2 i hi (fun e_=>hn (.inl e_))⟩ (kept_far hb1 (Nat.le_refl _) (.inr rfl) v2)
    have hk5:Kept w (W1.setCell ⟨gy,0,none⟩ v2) (AddS5 gx gy gq gs gn):=kept_trans hk (kept_far hb1 (Nat.le_refl _) (.inr (.inl rfl)) v2);have hbl1:=below_far hbl (Nat.le_trans (Nat.le_trans hBx (Nat.le_of_lt lx)) hk.1) hb1 (show B≤gy by omega) v2
    refine⟨e2,rfl,fun e0=>?_,fun e0=>?_⟩
    ·subst e0;exact⟨hk5,hbl1,v,v2,x,y,hm1,hm2,hbx.step hb1 (by omega) ly,Bx_.new (blk_below hyW hb1) hR hk.1 ly,hkx2⟩
    ·simp only[if_neg e0,Option.some.injEq,Prod.mk.injEq] at h;obtain⟨rfl,rfl,rfl,rfl⟩:=h;exact⟨⟨hk5,hbl1,fun h0=>absurd h0 e0⟩,rfl⟩
   | 2,hz,hI =>
    cases hz
    obtain⟨hk,hbl,v,v2,x',y,hm1',hm2,hbx,hby,hkx⟩:=hI;rw[hm1] at hm1';cases hm1'
    simp only[if_true,hm2,Option.bind_some] at h;rw[Option.bind_eq_some_iff] at h;obtain⟨⟨q,e3⟩,hm3,h⟩:=h;have hqW:=blk_kept hq hkx (by omega)
    refine⟨hfn,?_⟩;refine(Ezy.calls k b3 gq AaQ caQ aQ AbQ cbQ bQ _ q e3 W (thk W _ _ _ _ _ _ _ _ hk (by omega) hT3) hqW (hA2 W hk) hc2 (hA4 W hk) hc4 hm3).mono ?_
    rintro e W' ⟨W1,v3,rfl,rfl,hR,hb1⟩;have hkx2:Kept w (W1.setCell ⟨gq,0,none⟩ v3) (fun k_=>k_=gx∨k_=gy∨k_=gq):=kept_trans ⟨hkx.1,fun i hi hn=>hkx.2 i hi (fun e_=>hn (by omega))⟩ (kept_far hb1 (Nat.le_refl _) (.inr (.inr rfl)) v3)
    have hk5:Kept w (W1.setCell ⟨gq,0,none⟩ v3) (AddS5 gx gy gq gs gn):=kept_trans hk (kept_far hb1 (Nat.le_refl _) (.inr (.inr (.inl rfl))) v3);have hbl1:=below_far hbl (Nat.le_trans (Nat.le_trans hBx (Nat.le_of_lt lx)) hk.1) hb1 (show B≤gq by omega) v3
    refine⟨e3,rfl,fun e0=>?_,fun e0=>?_⟩
    ·subst e0;exact⟨hk5,hbl1,v,v2,v3,x,y,q,hm1,hm2,hm3,hbx.step hb1 (by omega) lq,hby.step hb1 (by omega) lq,Bx_.new (blk_below hqW hb1) hR hk.1 lq,hkx2⟩
    ·simp only[if_neg e0,Option.some.injEq,Prod.mk.injEq] at h;obtain⟨rfl,rfl,rfl,rfl⟩:=h;exact⟨⟨hk5,hbl1,fun h0=>absurd h0 e0⟩,rfl⟩
   | 3,hz,hI =>
    cases hz
    obtain⟨hk,hbl,v,v2,v3,x',y,q,hm1',hm2,hm3,hbx,hby,hbq,hkx⟩:=hI;rw[hm1] at hm1';cases hm1'
    simp only[if_true,hm2,hm3,Option.bind_some] at h;rw[Option.bind_eq_some_iff] at h;obtain⟨⟨t1,t2,t3⟩,hm4,h⟩:=h;simp only[Option.some.injEq,Prod.mk.injEq] at h;obtain⟨rfl,rfl,rfl,rfl⟩:=h;have hsW:=blk_kept hs hkx (by omega)
    have hnW:=blk_kept hn hkx (by omega)
    have haW:=far W ga _ hk a1 a2 a3 a4 a5 ha;have hbW:=far W gb _ hk d1 d2 d3 d4 d5 hb;obtain⟨Ax,cx,ex⟩:=Kd.R_slice hbx.row;subst ex;obtain⟨Ay,cy,ey⟩:=Kd.R_slice hby.row;subst ey;have hS4:∀ k_,w.heap.size≤k_→¬ AddS gx gy gs gn k_:=fun k_ h1 h2=>by unfold AddS at h2;omega
    refine⟨hfn1,?_⟩;refine(Ezw.calls k B ga gb gx gy gs gn na nb ua1 ua2 ub1 ub2 Ax cx x Ay cy y _ t1 t2 t3 w0 W hbl haW hbW hbx.cell hby.cell hsW hnW (by omega) (by omega) (by omega) hBx (by omega) (by omega) (by omega) (fun W_ hk_=>hbx.reads hk_ hS4) (Kd.R_reads' hbx.row).2.1 (fun W_ hk_=>hby.reads hk_ hS4) (Kd.R_reads' hby.row).2.1 hm4).mono ?_
    rintro e W' ⟨vs,rfl,hn',hs',hR',hk',hb'⟩;have hk5:Kept w W' (AddS5 gx gy gq gs gn):=kept_trans hk ⟨hk'.1,fun i hi hn=>hk'.2 i hi (fun e_=>hn (by unfold AddS at e_;unfold AddS5;omega))⟩
    have hfin:Fin4 B w0 w W' gx gy gq gs gn t3 t1 t2 q:=⟨hk5,hb',fun _=>⟨vs,v3,hn',⟨hs',Kd.R_lower (Kd.R_reok rfl hR' (fun k_ hk_=>Nat.le_trans hk.1 (Kd.R_base hR' k_ hk_))) hk.1⟩,hbq.kept hk' (fun e_=>by unfold AddS at e_;omega) hS4⟩⟩
    refine⟨t3,rfl,fun e0=>?_,fun e0=>⟨hfin,rfl⟩⟩
    subst e0;exact⟨hk5,hb',hfin,rfl⟩
   | j+4,hz,hI=>simp at hz
 have hI0:I 0 w:=⟨⟨Nat.le_refl _,fun _ _ _=>rfl⟩,hB,rfl⟩
 refine(Fzj.calls _ ⟨g,0,none⟩ cg w I Qr hS hI0 (by simp)).mono ?_
 rintro e w' ⟨r,rfl,hF,rfl⟩;exact⟨rfl,hF⟩
theorem rat_pair_C {W:World} {g:Nat} {T:TypeId} {n m:Bool} {A B A' B':Option Addr} {p q p' q':List Int} {c d c' d':Nat} (hb:W.heap[g]?=some (.cells #[.bool n,.slice A p.length c,.slice B q.length d,.bool m,.slice A' p'.length c',.slice B' q'.length d'] T (0,0)))
  (h1:Kd.C (Kd.int .i64) W A p.length p) (l1:p.length≤c) (h2:Kd.C (Kd.int .i64) W B q.length q) (l2:q.length≤d) (h3:Kd.C (Kd.int .i64) W A' p'.length p') (l3:p'.length≤c') (h4:Kd.C (Kd.int .i64) W B' q'.length q') (l4:q'.length≤d') :
  Kd.C k38 W (some ⟨g,0,none⟩) 2 [(⟨n,p,q⟩:S38),(⟨m,p',q'⟩:S38)]:=by
 refine⟨rfl,by simp,fun _=>⟨_,rfl,fun j x hj=>?_⟩⟩
 match j,hj with
 | 0,hj =>
  cases hj
  refine⟨_,rfl,k38_mk W ⟨n,p,q⟩ l1 h1 l2 h2,fun i u hu=>?_⟩
  rw[add_plain];refine(blk_cell hb _).trans ?_;match i,hu with
  | 0,hu=>exact hu
  | 1,hu=>exact hu
  | 2,hu=>exact hu
  | i+3,hu=>simp at hu
 | 1,hj =>
  cases hj
  refine⟨_,rfl,k38_mk W ⟨m,p',q'⟩ l3 h3 l4 h4,fun i u hu=>?_⟩
  rw[add_plain];refine(blk_cell hb _).trans ?_;match i,hu with
  | 0,hu=>exact hu
  | 1,hu=>exact hu
  | 2,hu=>exact hu
  | i+3,hu=>simp at hu
 | j+2,hj=>simp at hj
theorem C_blocks {w W:World} {A:Option Addr} {n:Nat} {xs:List Int} (h:Kd.C (Kd.int .i64) w A n xs) (hb:∀ i,i < w.heap.size→W.heap[i]?=w.heap[i]?):Kd.C (Kd.int .i64) W A n xs:=by
 refine⟨h.1,h.2.1,fun hp=>?_⟩
 obtain⟨ad,e1,h2⟩:=h.2.2 hp;refine⟨ad,e1,fun j q hj=>?_⟩
 obtain⟨cs,h3,h4,h5⟩:=h2 j q hj;refine⟨cs,h3,h4,fun i u hu=>?_⟩
 have h6:=h5 i u hu;rw[← h6];exact World.cell?_of_block (w:=w) (hb _ (World.block_lt_of_cell? w _ h6))
def Ezz.f (k:Nat) (a0_0:Bool) (l0_1:List Int) (l0_2:List Int) (a1_0:Bool) (l1_1:List Int) (l1_2:List Int):Option (Bool × List Int × List Int × Int) :=
 (Bzb.f k [(⟨a0_0,l0_1,l0_2⟩:S38),(⟨a1_0,l1_1,l1_2⟩:S38)]).bind fun t=>if t=true then((Dzp.f k a0_0 a1_0 l0_1 l0_2 l1_1 l1_2).bind fun b=>if b.1=0 then(Dzz.f k b.2.1 b.2.2.1 b.2.2.2).bind (fun c=>some (c.1,c.2.1,c.2.2.1,c.2.2.2)) else some (false,([]:List Int),([]:List Int),b.1)) else some (false,([]:List Int),([]:List Int),3)
theorem Ezz.mono:∀ a0 a1 a2 a3 a4 a5 k,LeO (Ezz.f k a0 a1 a2 a3 a4 a5) (Ezz.f (k+1) a0 a1 a2 a3 a4 a5):=by
 intro a0 a1 a2 a3 a4 a5 k;unfold Ezz.f;exact LeO.bind (Bzb.mono _ k) (fun _=>LeO.ite (LeO.bind (Dzp.mono _ _ _ _ _ _ k) (fun _=>LeO.ite (LeO.bind (Dzz.mono _ _ _ k) (fun _=>LeO.refl _)) (LeO.refl _))) (LeO.refl _))
theorem Ezz.calls (k:Nat) (a0_0:Bool) (A0_1:Option Addr) (c0_1:Nat) (l0_1:List Int) (A0_2:Option Addr) (c0_2:Nat) (l0_2:List Int) (a1_0:Bool) (A1_1:Option Addr) (c1_1:Nat) (l1_1:List Int) (A1_2:Option Addr) (c1_2:Nat) (l1_2:List Int) (r1:Bool) (r2:List Int) (r3:List Int) (r4:Int) (w:World) (hr0_1:Kd.C (Kd.int .i64) w A0_1 l0_1.length l0_1) (hc0_1:l0_1.length≤c0_1) (hr0_2:Kd.C (Kd.int .i64) w A0_2 l0_2.length l0_2) (hc0_2:l0_2.length≤c0_2) (hr1_1:Kd.C (Kd.int .i64) w A1_1 l1_1.length l1_1) (hc1_1:l1_1.length≤c1_1) (hr1_2:Kd.C (Kd.int .i64) w A1_2 l1_2.length l1_2) (hc1_2:l1_2.length≤c1_2) (h:Ezz.f k a0_0 l0_1 l0_2 a1_0 l1_1 l1_2=some (r1,r2,r3,r4)) :
  Calls Try.prog 29 #[.agg #[.bool a0_0,.slice A0_1 l0_1.length c0_1,.slice A0_2 l0_2.length c0_2],.agg #[.bool a1_0,.slice A1_1 l1_1.length c1_1,.slice A1_2 l1_2.length c1_2]] w fun e w'=>∃ v1_ v2_:Value,e=.returned (.tuple #[.agg #[.bool r1,v1_,v2_],.int .i64 r4])∧Kd.R (Kd.int .i64) 3 w' w.heap.size (fun k_=>some k_≠(v2_:Value).ownBlock) v1_ r2∧Kd.R (Kd.int .i64) 3 w' w.heap.size (fun k_=>some k_≠(v1_:Value).ownBlock) v2_ r3∧Below w.heap.size w w':=by
 have hmf_:∀ (fn:Fn) (first cap:Array Value) (w:World),(Instr.makeFunc fn first cap).run Try.prog w=.ok (.func fn first cap) w:=fun _ _ _ _=>rfl
 have H1:=aM hr0_1;have H2:=aM hr0_2;have H3:=aM hr1_1;have H4:=aM hr1_2;have L1:=aM hc0_1;have L2:=aM hc0_2;have L3:=aM hc1_1;have L4:=aM hc1_2;clear hr0_1 hr0_2 hr1_1 hr1_2 hc0_1 hc0_2 hc1_1 hc1_2;unfold Ezz.f at h;rw[Option.bind_eq_some_iff] at h;obtain⟨tv,hv,h⟩:=h;have HV:=aM hv;clear hv;have cV:∀ W,W=(((w.alloc (.cells #[.bool a0_0,.slice A0_1 l0_1.length c0_1,.slice A0_2 l0_2.length c0_2] 38)).alloc (.cells #[.bool a1_0,.slice A1_1 l1_1.length c1_1,.slice A1_2 l1_2.length c1_2] 38)).alloc (.cells #[.bool false,.slice none 0 0,.slice none 0 0] 38)).alloc (.cells #[.bool a0_0,.slice A0_1 l0_1.length c0_1,.slice A0_2 l0_2.length c0_2,.bool a1_0,.slice A1_1 l1_1.length c1_1,.slice A1_2 l1_2.length c1_2] 38)→Calls Try.prog 47 #[.slice (some ⟨w.heap.size+1+1+1,0,none⟩) 2 2] W fun e w'=>e=.returned (.bool tv)∧w'.heap[w.heap.size]?=some (.cells #[.bool a0_0,.slice A0_1 l0_1.length c0_1,.slice A0_2 l0_2.length c0_2] 38 (0,0))∧w'.heap[w.heap.size+1]?=some (.cells #[.bool a1_0,.slice A1_1 l1_1.length c1_1,.slice A1_2 l1_2.length c1_2] 38 (0,0))∧w'.heap[w.heap.size+1+1]?=some (.cells #[.bool false,.slice none 0 0,.slice none 0 0] 38 (0,0))∧Below w.heap.size w w':=by
  intro W hW;have ha:W.heap[w.heap.size]?=some (.cells #[.bool a0_0,.slice A0_1 l0_1.length c0_1,.slice A0_2 l0_2.length c0_2] 38 (0,0)):=by subst hW;exact blk_alloc (blk_alloc (blk_alloc (blk_new w _) _) _) _
  have hb:W.heap[w.heap.size+1]?=some (.cells #[.bool a1_0,.slice A1_1 l1_1.length c1_1,.slice A1_2 l1_2.length c1_2] 38 (0,0)):=by subst hW;simpa using blk_alloc (blk_alloc (blk_new (w.alloc (.cells #[.bool a0_0,.slice A0_1 l0_1.length c0_1,.slice A0_2 l0_2.length c0_2] 38)) (.cells #[.bool a1_0,.slice A1_1 l1_1.length c1_1,.slice A1_2 l1_2.length c1_2] 38)) _) _
  have hc:W.heap[w.heap.size+1+1]?=some (.cells #[.bool false,.slice none 0 0,.slice none 0 0] 38 (0,0)):=by subst hW;simpa using blk_alloc (blk_new ((w.alloc (.cells #[.bool a0_0,.slice A0_1 l0_1.length c0_1,.slice A0_2 l0_2.length c0_2] 38)).alloc (.cells #[.bool a1_0,.slice A1_1 l1_1.length c1_1,.slice A1_2 l1_2.length c1_2] 38)) (.cells #[.bool false,.slice none 0 0,.slice none 0 0] 38)) _
  have hd:W.heap[w.heap.size+1+1+1]?=some (.cells #[.bool a0_0,.slice A0_1 l0_1.length c0_1,.slice A0_2 l0_2.length c0_2,.bool a1_0,.slice A1_1 l1_1.length c1_1,.slice A1_2 l1_2.length c1_2] 38 (0,0)):=by subst hW;simpa using blk_new (((w.alloc (.cells #[.bool a0_0,.slice A0_1 l0_1.length c0_1,.slice A0_2 l0_2.length c0_2] 38)).alloc (.cells #[.bool a1_0,.slice A1_1 l1_1.length c1_1,.slice A1_2 l1_2.length c1_2] 38)).alloc (.cells #[.bool false,.slice none 0 0,.slice none 0 0] 38)) (.cells #[.bool a0_0,.slice A0_1 l0_1.length c0_1,.slice A0_2 l0_2.length c0_2,.bool a1_0,.slice A1_1 l1_1.length c1_1,.slice A1_2 l1_2.length c1_2] 38)
  have hw:Below w.heap.size w W:=by subst hW;exact((((Below.refl _ w).alloc (Nat.le_refl _) _).alloc (by simp) _).alloc (by simp;omega) _).alloc (by simp;omega) _
  refine(Bzb.calls k (some ⟨w.heap.size+1+1+1,0,none⟩) 2 [(⟨a0_0,l0_1,l0_2⟩:S38),(⟨a1_0,l1_1,l1_2⟩:S38)] tv W (rat_pair_C hd (Kd.C_below H1.out hw) L1.out (Kd.C_below H2.out hw) L2.out (Kd.C_below H3.out hw) L3.out (Kd.C_below H4.out hw) L4.out) (Nat.le_refl _) HV.out).mono ?_;rintro e w' ⟨rfl,h1⟩;exact⟨rfl,blk_below ha h1,blk_below hb h1,blk_below hc h1,hw.trans (h1.mono hw.size)⟩
 have CV:=aM cV;clear cV HV;cases tv with
 | false =>
  simp only[Bool.false_eq_true,if_false,Option.some.injEq,Prod.mk.injEq] at h;obtain⟨rfl,rfl,rfl,rfl⟩:=h;go_enter Try.func29,Try.ntmps29
  go_wp2_with (first|((with_reducible refine gate_callee (f:=47) rfl ?_);refine goesL_ (some 15) rfl rfl Try.func47 (by kernel_rfl) rfl #[.slice (some ⟨w.heap.size+1+1+1,0,none⟩) 2 2] rfl (by first|exact mA|(simp [Act.eval];done)) ?_;refine(CV.out _ rfl).mono ?_;rintro e w9 ⟨rfl,ha,hb,hc,hw⟩;refine⟨_,rfl,?_⟩;have HR:=aM hc;have HW:=aM hw;obtain⟨hczR_0,hczR_1,hczR_2,hfzR_0,hfzR_1,hfzR_2⟩:=bk3 HR;clear ha hb hc hw))
  refine bodyPost_ret (results_ct rfl _ _ (w.heap.size+1+1) 38 #[.bool false,.slice none 0 0,.slice none 0 0] (0,0) _ rfl (by refine blk_put (cs:=#[.bool false,.slice none 0 0,.slice none 0 0]) ?_ 2 _ rfl;refine blk_put (cs:=#[.bool false,.slice none 0 0,.slice none 0 0]) ?_ 1 _ rfl;refine blk_put (cs:=#[.bool false,.slice none 0 0,.slice none 0 0]) ?_ 0 _ rfl;exact HR.out) Try.underlying38 rfl (by kernel_rfl)) rfl ?_
  exact⟨_,_,rfl,Kd.R_nil _ _ _ _ _,Kd.R_nil _ _ _ _ _,((HW.out.setCell (p:=⟨w.heap.size+1+1,0,none⟩) (by show _≤w.heap.size+1+1;omega) _).setCell (p:=⟨w.heap.size+1+1,1,none⟩) (by show _≤w.heap.size+1+1;omega) _).setCell (p:=⟨w.heap.size+1+1,2,none⟩) (by show _≤w.heap.size+1+1;omega) _⟩
 | true =>
  simp only[if_true] at h;rw[Option.bind_eq_some_iff] at h;obtain⟨⟨e1,ng,sm,q⟩,hp,h⟩:=h;have HP:=aM hp;clear hp;go_enter Try.func29,Try.ntmps29
  go_wp2_with (first|((with_reducible refine gate_callee (f:=47) rfl ?_);refine goesL_ (some 15) rfl rfl Try.func47 (by kernel_rfl) rfl #[.slice (some ⟨w.heap.size+1+1+1,0,none⟩) 2 2] rfl (by first|exact mA|(simp [Act.eval];done)) ?_;refine(CV.out _ rfl).mono ?_;rintro e w9 ⟨rfl,ha,hb,hc,hw⟩;refine⟨_,rfl,?_⟩;have HA:=aM ha;have HBb:=aM hb;have HR:=aM hc;have HW:=aM hw;obtain⟨hczA_0,hczA_1,hczA_2,hfzA_0,hfzA_1,hfzA_2⟩:=bk3 HA;have hA0:∀ o1 o2 o3 o4,((((w9.alloc o1).alloc o2).alloc o3).alloc o4).cell? ⟨w.heap.size,0,none⟩=some (.bool a0_0):=fun o1 o2 o3 o4=>(blk_cell (blk_alloc (blk_alloc (blk_alloc (blk_alloc HA.out o1) o2) o3) o4) 0).trans rfl;clear ha hb hc hw))
  clear hA0 hczA_0 hczA_1 hczA_2 hfzA_0 hfzA_1 hfzA_2 CV;have hw5:Below w9.heap.size w9 (((((w9.alloc (.cells #[.slice none 0 0] 36)).alloc (.cells #[.slice none 0 0] 36)).alloc (.cells #[.slice none 0 0] 36)).alloc (.cells #[.slice none 0 0] 36)).alloc (.cells #[.bool a0_0] 4)):=(((((Below.refl _ w9).alloc (Nat.le_refl _) _).alloc (by simp) _).alloc (by simp;omega) _).alloc (by simp;omega) _).alloc (by simp;omega) _
  have gx5:(((((w9.alloc (.cells #[.slice none 0 0] 36)).alloc (.cells #[.slice none 0 0] 36)).alloc (.cells #[.slice none 0 0] 36)).alloc (.cells #[.slice none 0 0] 36)).alloc (.cells #[.bool a0_0] 4)).heap[w9.heap.size]?=some (.cells #[.slice none 0 0] 36 (0,0)):=blk_alloc (blk_alloc (blk_alloc (blk_alloc (blk_new w9 _) _) _) _) _;have gy5:(((((w9.alloc (.cells #[.slice none 0 0] 36)).alloc (.cells #[.slice none 0 0] 36)).alloc (.cells #[.slice none 0 0] 36)).alloc (.cells #[.slice none 0 0] 36)).alloc (.cells #[.bool a0_0] 4)).heap[w9.heap.size+1]?=some (.cells #[.slice none 0 0] 36 (0,0)):=by simpa using blk_alloc (blk_alloc (blk_alloc (blk_new (w9.alloc (.cells #[.slice none 0 0] 36)) (.cells #[.slice none 0 0] 36)) (.cells #[.slice none 0 0] 36)) (.cells #[.slice none 0 0] 36)) (.cells #[.bool a0_0] 4)
  have gq5:(((((w9.alloc (.cells #[.slice none 0 0] 36)).alloc (.cells #[.slice none 0 0] 36)).alloc (.cells #[.slice none 0 0] 36)).alloc (.cells #[.slice none 0 0] 36)).alloc (.cells #[.bool a0_0] 4)).heap[w9.heap.size+1+1]?=some (.cells #[.slice none 0 0] 36 (0,0)):=by simpa using blk_alloc (blk_alloc (blk_new ((w9.alloc (.cells #[.slice none 0 0] 36)).alloc (.cells #[.slice none 0 0] 36)) (.cells #[.slice none 0 0] 36)) (.cells #[.slice none 0 0] 36)) (.cells #[.bool a0_0] 4)
  have gs5:(((((w9.alloc (.cells #[.slice none 0 0] 36)).alloc (.cells #[.slice none 0 0] 36)).alloc (.cells #[.slice none 0 0] 36)).alloc (.cells #[.slice none 0 0] 36)).alloc (.cells #[.bool a0_0] 4)).heap[w9.heap.size+1+1+1]?=some (.cells #[.slice none 0 0] 36 (0,0)):=by simpa using blk_alloc (blk_new (((w9.alloc (.cells #[.slice none 0 0] 36)).alloc (.cells #[.slice none 0 0] 36)).alloc (.cells #[.slice none 0 0] 36)) (.cells #[.slice none 0 0] 36)) (.cells #[.bool a0_0] 4)
  have gn5:(((((w9.alloc (.cells #[.slice none 0 0] 36)).alloc (.cells #[.slice none 0 0] 36)).alloc (.cells #[.slice none 0 0] 36)).alloc (.cells #[.slice none 0 0] 36)).alloc (.cells #[.bool a0_0] 4)).heap[w9.heap.size+1+1+1+1]?=some (.cells #[.bool a0_0] 4 (0,0)):=by simpa using blk_new ((((w9.alloc (.cells #[.slice none 0 0] 36)).alloc (.cells #[.slice none 0 0] 36)).alloc (.cells #[.slice none 0 0] 36)).alloc (.cells #[.slice none 0 0] 36)) (.cells #[.bool a0_0] 4)
  have ha5:=blk_below HA.out hw5;have hb5:=blk_below HBb.out hw5;have hr5:=blk_below HR.out hw5;have hwb:=HW.out.trans (hw5.mono HW.out.size);clear hw5 HA HBb HR;have hsz:=HW.out.size;clear HW;generalize (((((w9.alloc (.cells #[.slice none 0 0] 36)).alloc (.cells #[.slice none 0 0] 36)).alloc (.cells #[.slice none 0 0] 36)).alloc (.cells #[.slice none 0 0] 36)).alloc (.cells #[.bool a0_0] 4))=wA at *;obtain⟨gn,hgn⟩:∃ g,g=w9.heap.size+1+1+1+1:=⟨_,rfl⟩;obtain⟨gs,hgs⟩:∃ g,g=w9.heap.size+1+1+1:=⟨_,rfl⟩;obtain⟨gq,hgq⟩:∃ g,g=w9.heap.size+1+1:=⟨_,rfl⟩;obtain⟨gy,hgy⟩:∃ g,g=w9.heap.size+1:=⟨_,rfl⟩;obtain⟨gx,hgx⟩:∃ g,g=w9.heap.size:=⟨_,rfl⟩;obtain⟨gr,hgr⟩:∃ g,g=w.heap.size+1+1:=⟨_,rfl⟩;obtain⟨gb,hgb⟩:∃ g,g=w.heap.size+1:=⟨_,rfl⟩;obtain⟨ga,hga⟩:∃ g,g=w.heap.size:=⟨_,rfl⟩;have hlr:=blk_lt hr5;rw[← hgn] at gn5;rw[← hgs] at gs5;rw[← hgq] at gq5;rw[← hgy] at gy5;rw[← hgx] at gx5;rw[← hgr] at hr5 hlr;rw[← hgb] at hb5;rw[← hga] at ha5;rw[← hgn,← hgs,← hgq,← hgy,← hgx,← hgr,← hgb];have OR:=aM (show gx < gy∧gy < gq∧gq < gs∧gs < gn∧w.heap.size≤gr∧w.heap.size≤gx∧gr≠gx∧gr≠gy∧gr≠gq∧gr≠gs∧gr≠gn∧gn < wA.heap.size from by have:=blk_lt gn5;refine⟨by omega,by omega,by omega,by omega,by omega,by omega,?_,?_,?_,?_,?_,this⟩ <;> first|exact blk_ne hr5 gx5 (by decide)|exact blk_ne hr5 gy5 (by decide)|exact blk_ne hr5 gq5 (by decide)|exact blk_ne hr5 gs5 (by decide)|exact blk_ne hr5 gn5 (by decide))
  clear hgn hgs hgq hgy hgx hgr hgb hsz hlr;have BX:=aM (blk_drew gx5);have BY:=aM (blk_drew gy5);have BQ:=aM (blk_drew gq5);have BS:=aM (blk_drew gs5);have BN:=aM (blk_drew gn5);have BA:=aM (blk_drew ha5);have BB:=aM (blk_drew hb5);have BR:=aM (blk_drew hr5);have HW:=aM hwb.drew;have LN:=aM (show gn < wA.drew.heap.size from OR.out.2.2.2.2.2.2.2.2.2.2.2)
  clear gx5 gy5 gq5 gs5 gn5 ha5 hb5 hr5 hwb;rw[← hga];have HGA:=aM hga;clear hga;refine start_ (n:=19) (S:=fun W=>W.cell? ⟨ga,1,none⟩=some (.slice A0_1 l0_1.length c0_1)∧W.cell? ⟨ga,2,none⟩=some (.slice A0_2 l0_2.length c0_2)∧W.cell? ⟨gb,1,none⟩=some (.slice A1_1 l1_1.length c1_1)∧W.cell? ⟨gb,2,none⟩=some (.slice A1_2 l1_2.length c1_2)) (ds:=[]) #[false,false,false,false,false,false,false,false,false,false,false,false,false,false,false,false,false,false,false] (by kernel_rfl) rfl rfl ⟨(blk_cell BA.out 1).trans rfl,(blk_cell BA.out 2).trans rfl,(blk_cell BB.out 1).trans rfl,(blk_cell BB.out 2).trans rfl⟩ (fun hHeld=>?_)
  generalize wA.drew=wd at BX BY BQ BS BN BA BB BR HW LN hHeld ⊢;refine pure_ (i:=0) (N:=some 20) (v:=?_) (a':=?_) #[true,false,false,false,false,false,false,false,false,false,false,false,false,false,false,false,false,false,false] rfl rfl (by kernel_rfl) (fun _ _ _ h=>h) (Or.inl ⟨by rfl,?_⟩) ?_ ?_
  rotate_left
  ·intro w';go_simp
   with_reducible rfl
  rotate_left
  ·simp only[Act.put,sA,sZ,sC,i64_w,i32_w];rfl
  refine take_ (i:=1) (N:=some 21) (v:=?_) (a':=?_) #[true,true,false,false,false,false,false,false,false,false,false,false,false,false,false,false,false,false,false] rfl rfl (by kernel_rfl) (fun _ _ _ h=>h) (Or.inl ⟨by rfl,?_⟩) hHeld ?_ ?_
  rotate_left
  ·intro w' s0;obtain⟨s1,s2,s3,s4⟩:=s0;go_simp
   with_reducible rfl
  rotate_left
  ·simp only[Act.put,sA,sZ,sC,i64_w,i32_w];rfl
  refine pure_ (i:=2) (N:=some 22) (v:=?_) (a':=?_) #[true,true,true,false,false,false,false,false,false,false,false,false,false,false,false,false,false,false,false] rfl rfl (by kernel_rfl) (fun _ _ _ h=>h) (Or.inl ⟨by rfl,?_⟩) ?_ ?_
  rotate_left
  ·intro w';go_simp
   with_reducible rfl
  rotate_left
  ·simp only[Act.put,sA,sZ,sC,i64_w,i32_w];rfl
  refine take_ (i:=3) (N:=some 23) (v:=?_) (a':=?_) #[true,true,true,true,false,false,false,false,false,false,false,false,false,false,false,false,false,false,false] rfl rfl (by kernel_rfl) (fun _ _ _ h=>h) (Or.inl ⟨by rfl,?_⟩) hHeld ?_ ?_
  rotate_left
  ·intro w' s0;obtain⟨s1,s2,s3,s4⟩:=s0;go_simp
   with_reducible rfl
  rotate_left
  ·simp only[Act.put,sA,sZ,sC,i64_w,i32_w];rfl
  refine pure_ (i:=5) (N:=some 25) (v:=?_) (a':=?_) #[true,true,true,true,false,true,false,false,false,false,false,false,false,false,false,false,false,false,false] rfl rfl (by kernel_rfl) (fun _ _ _ h=>h) (Or.inl ⟨by rfl,?_⟩) ?_ ?_
  rotate_left
  ·intro w';go_simp
   with_reducible rfl
  rotate_left
  ·simp only[Act.put,sA,sZ,sC,i64_w,i32_w];rfl
  refine take_ (i:=6) (N:=some 26) (v:=?_) (a':=?_) #[true,true,true,true,false,true,true,false,false,false,false,false,false,false,false,false,false,false,false] rfl rfl (by kernel_rfl) (fun _ _ _ h=>h) (Or.inl ⟨by rfl,?_⟩) hHeld ?_ ?_
  rotate_left
  ·intro w' s0;obtain⟨s1,s2,s3,s4⟩:=s0;go_simp
   with_reducible rfl
  rotate_left
  ·simp only[Act.put,sA,sZ,sC,i64_w,i32_w];rfl
  refine pure_ (i:=7) (N:=some 27) (v:=?_) (a':=?_) #[true,true,true,true,false,true,true,true,false,false,false,false,false,false,false,false,false,false,false] rfl rfl (by kernel_rfl) (fun _ _ _ h=>h) (Or.inl ⟨by rfl,?_⟩) ?_ ?_
  rotate_left
  ·intro w';go_simp
   with_reducible rfl
  rotate_left
  ·simp only[Act.put,sA,sZ,sC,i64_w,i32_w];rfl
  refine take_ (i:=8) (N:=some 28) (v:=?_) (a':=?_) #[true,true,true,true,false,true,true,true,true,false,false,false,false,false,false,false,false,false,false] rfl rfl (by kernel_rfl) (fun _ _ _ h=>h) (Or.inl ⟨by rfl,?_⟩) hHeld ?_ ?_
  rotate_left
  ·intro w' s0;obtain⟨s1,s2,s3,s4⟩:=s0;go_simp
   with_reducible rfl
  rotate_left
  ·simp only[Act.put,sA,sZ,sC,i64_w,i32_w];rfl
  refine pure_ (i:=10) (N:=some 30) (v:=?_) (a':=?_) #[true,true,true,true,false,true,true,true,true,false,true,false,false,false,false,false,false,false,false] rfl rfl (by kernel_rfl) (fun _ _ _ h=>h) (Or.inl ⟨by rfl,?_⟩) ?_ ?_
  rotate_left
  ·intro w';go_simp
   with_reducible rfl
  rotate_left
  ·simp only[Act.put,sA,sZ,sC,i64_w,i32_w];rfl
  refine take_ (i:=11) (N:=some 31) (v:=?_) (a':=?_) #[true,true,true,true,false,true,true,true,true,false,true,true,false,false,false,false,false,false,false] rfl rfl (by kernel_rfl) (fun _ _ _ h=>h) (Or.inl ⟨by rfl,?_⟩) hHeld ?_ ?_
  rotate_left
  ·intro w' s0;obtain⟨s1,s2,s3,s4⟩:=s0;go_simp
   with_reducible rfl
  rotate_left
  ·simp only[Act.put,sA,sZ,sC,i64_w,i32_w];rfl
  refine pure_ (i:=12) (N:=some 32) (v:=?_) (a':=?_) #[true,true,true,true,false,true,true,true,true,false,true,true,true,false,false,false,false,false,false] rfl rfl (by kernel_rfl) (fun _ _ _ h=>h) (Or.inl ⟨by rfl,?_⟩) ?_ ?_
  rotate_left
  ·intro w';go_simp
   with_reducible rfl
  rotate_left
  ·simp only[Act.put,sA,sZ,sC,i64_w,i32_w];rfl
  refine take_ (i:=13) (N:=some 33) (v:=?_) (a':=?_) #[true,true,true,true,false,true,true,true,true,false,true,true,true,true,false,false,false,false,false] rfl rfl (by kernel_rfl) (fun _ _ _ h=>h) (Or.inl ⟨by rfl,?_⟩) hHeld ?_ ?_
  rotate_left
  ·intro w' s0;obtain⟨s1,s2,s3,s4⟩:=s0;go_simp
   with_reducible rfl
  rotate_left
  ·simp only[Act.put,sA,sZ,sC,i64_w,i32_w];rfl
  refine pure_ (i:=15) (N:=some 35) (v:=?_) (a':=?_) #[true,true,true,true,false,true,true,true,true,false,true,true,true,true,false,true,false,false,false] rfl rfl (by kernel_rfl) (fun _ _ _ h=>h) (Or.inl ⟨by rfl,?_⟩) ?_ ?_
  rotate_left
  ·intro w';go_simp
   with_reducible rfl
  rotate_left
  ·simp only[Act.put,sA,sZ,sC,i64_w,i32_w];rfl
  refine one_ (i:=4) (N:=some 24) #[true,true,true,true,true,true,true,true,true,false,true,true,true,true,false,true,false,false,false] rfl rfl (by kernel_rfl) (by decide) (fun K hK=>?_)
  refine goes_ Try.func49 (by kernel_rfl) rfl #[.pointer (some ⟨gx,0,none⟩),.slice A0_1 l0_1.length c0_1,.slice A1_2 l1_2.length c1_2] (by rfl) rfl rfl mA ?_
  with_reducible refine(Dzk.calls gx _ _ _ _ _ _ _ (blk_lt BX.out)).mono ?_
  rintro e w21 ⟨b1,rfl,hT,hbs,hb⟩;refine⟨_,rfl,?_⟩;have G1:=aM (Nat.lt_of_lt_of_le LN.out hbs);have HT1:=aM hT;replace BX:=aM (kB BX hb);replace BY:=aM (kB BY hb);replace BQ:=aM (kB BQ hb);replace BS:=aM (kB BS hb);replace BN:=aM (kB BN hb);replace BA:=aM (kB BA hb);replace BB:=aM (kB BB hb);replace BR:=aM (kB BR hb);replace HW:=aM (HW.out.trans (hb.mono HW.out.size));clear hT hbs hb;refine hK.out _ _ ⟨(blk_cell BA.out 1).trans rfl,(blk_cell BA.out 2).trans rfl,(blk_cell BB.out 1).trans rfl,(blk_cell BB.out 2).trans rfl⟩ (fun hHeld1=>?_)
  clear hK K;refine norm_ (a':=?_) ?_ ?_;rotate_left
  ·show Act.put _ (some 24) _=_
   simp only[Act.put,sA,sZ,sC,i64_w,i32_w];rfl
  refine one_ (i:=9) (N:=some 29) #[true,true,true,true,true,true,true,true,true,true,true,true,true,true,false,true,false,false,false] rfl rfl (by kernel_rfl) (by decide) (fun K hK=>?_)
  refine goes_ Try.func49 (by kernel_rfl) rfl #[.pointer (some ⟨gy,0,none⟩),.slice A1_1 l1_1.length c1_1,.slice A0_2 l0_2.length c0_2] (by rfl) rfl rfl mA ?_
  with_reducible refine(Dzk.calls gy _ _ _ _ _ _ _ (blk_lt BY.out)).mono ?_
  rintro e w22 ⟨b2,rfl,hT,hbs,hb⟩;refine⟨_,rfl,?_⟩;have G2:=aM (Nat.lt_of_lt_of_le (blk_lt HT1.out.fb) hbs);replace HT1:=aM (HT1.out.below hb);have HT2:=aM hT;replace BX:=aM (kB BX hb);replace BY:=aM (kB BY hb);replace BQ:=aM (kB BQ hb);replace BS:=aM (kB BS hb);replace BN:=aM (kB BN hb);replace BA:=aM (kB BA hb);replace BB:=aM (kB BB hb);replace BR:=aM (kB BR hb);replace HW:=aM (HW.out.trans (hb.mono HW.out.size));clear hT hbs hb;refine hK.out _ _ ⟨(blk_cell BA.out 1).trans rfl,(blk_cell BA.out 2).trans rfl,(blk_cell BB.out 1).trans rfl,(blk_cell BB.out 2).trans rfl⟩ (fun hHeld2=>?_)
  clear hK K;refine norm_ (a':=?_) ?_ ?_;rotate_left
  ·show Act.put _ (some 29) _=_
   simp only[Act.put,sA,sZ,sC,i64_w,i32_w];rfl
  refine one_ (i:=14) (N:=some 34) #[true,true,true,true,true,true,true,true,true,true,true,true,true,true,true,true,false,false,false] rfl rfl (by kernel_rfl) (by decide) (fun K hK=>?_)
  refine goes_ Try.func49 (by kernel_rfl) rfl #[.pointer (some ⟨gq,0,none⟩),.slice A0_2 l0_2.length c0_2,.slice A1_2 l1_2.length c1_2] (by rfl) rfl rfl mA ?_
  with_reducible refine(Dzk.calls gq _ _ _ _ _ _ _ (blk_lt BQ.out)).mono ?_
  rintro e w23 ⟨b3,rfl,hT,hbs,hb⟩;refine⟨_,rfl,?_⟩;have G3:=aM (Nat.lt_of_lt_of_le (blk_lt HT2.out.fb) hbs);replace HT1:=aM (HT1.out.below hb);replace HT2:=aM (HT2.out.below hb);have HT3:=aM hT;replace BX:=aM (kB BX hb);replace BY:=aM (kB BY hb);replace BQ:=aM (kB BQ hb);replace BS:=aM (kB BS hb);replace BN:=aM (kB BN hb);replace BA:=aM (kB BA hb);replace BB:=aM (kB BB hb);replace BR:=aM (kB BR hb);replace HW:=aM (HW.out.trans (hb.mono HW.out.size));clear hT hbs hb;refine hK.out _ _ ⟨(blk_cell BA.out 1).trans rfl,(blk_cell BA.out 2).trans rfl,(blk_cell BB.out 1).trans rfl,(blk_cell BB.out 2).trans rfl⟩ (fun hHeld3=>?_)
  clear hK K;refine norm_ (a':=?_) ?_ ?_;rotate_left
  ·show Act.put _ (some 34) _=_
   simp only[Act.put,sA,sZ,sC,i64_w,i32_w];rfl
  refine one_ (i:=16) (N:=some 36) #[true,true,true,true,true,true,true,true,true,true,true,true,true,true,true,true,true,false,false] rfl rfl (by kernel_rfl) (by decide) (fun K hK=>?_)
  refine fun_lit_step ?hg (N:=36) ?hd (cs:=#[.func (.func (thkFn 67 b1).1) #[] (thkFn 67 b1).2,.func (.func (thkFn 67 b2).1) #[] (thkFn 67 b2).2,.func (.func (thkFn 67 b3).1) #[] (thkFn 67 b3).2,.func (.func 50) #[] #[.pointer (some ⟨ga,0,none⟩),.pointer (some ⟨gb,0,none⟩),.pointer (some ⟨gx,0,none⟩),.pointer (some ⟨gy,0,none⟩),.pointer (some ⟨gs,0,none⟩),.pointer (some ⟨gn,0,none⟩)]]) (t:=66) (n:=4) ?hr ?_;(case hd=>rfl);(case hg=>rfl);(case hr=>first|(go_simp;done)|(go_simp;rfl))
  intro gF w25 hbox hb;replace HT1:=aM (HT1.out.below hb);replace HT2:=aM (HT2.out.below hb);replace HT3:=aM (HT3.out.below hb);replace BX:=aM (kB BX hb);replace BY:=aM (kB BY hb);replace BQ:=aM (kB BQ hb);replace BS:=aM (kB BS hb);replace BN:=aM (kB BN hb);replace BA:=aM (kB BA hb);replace BB:=aM (kB BB hb);replace BR:=aM (kB BR hb);replace HW:=aM (HW.out.trans (hb.mono HW.out.size));have BF:=aM hbox;clear hbox hb;refine hK.out _ _ ⟨(blk_cell BA.out 1).trans rfl,(blk_cell BA.out 2).trans rfl,(blk_cell BB.out 1).trans rfl,(blk_cell BB.out 2).trans rfl⟩ (fun hHeld4=>?_)
  clear hK K;refine norm_ (a':=?_) ?_ ?_;rotate_left
  ·show Act.put _ (some 36) _=_
   simp only[Act.put,sA,sZ,sC,i64_w,i32_w];rfl
  refine one_ (i:=17) (N:=some 37) #[true,true,true,true,true,true,true,true,true,true,true,true,true,true,true,true,true,true,false] rfl rfl (by kernel_rfl) (by decide) (fun K hK=>?_)
  refine goes_ Try.func48 (by kernel_rfl) rfl #[.slice (some ⟨gF,0,none⟩) 4 4] (by rfl) rfl rfl mA ?_
  have hkc:∀ (A:Option Addr) (l:List Int),Kd.C (Kd.int .i64) w A l.length l→∀ W_,Kept w25 W_ (AddS5 gx gy gq gs gn)→Kd.C (Kd.int .i64) W_ A l.length l:=fun A l hC W_ hk=>by
   have hle:=HW.out.size;have ho:=OR.out;exact C_blocks hC (fun i hi=>(hk.2 i (Nat.lt_of_lt_of_le hi hle) (by unfold AddS5;omega)).trans (HW.out.block i hi))
  refine(Dzp.calls k w.heap.size b1 b2 b3 ga gb gx gy gq gs gn a0_0 a1_0 _ _ _ _ A0_1 c0_1 l0_1 A0_2 c0_2 l0_2 A1_1 c1_1 l1_1 A1_2 c1_2 l1_2 e1 ng sm q gF 4 w w25 HW.out BF.out HT1.out HT2.out HT3.out BA.out BB.out BX.out BY.out BQ.out BS.out BN.out OR.out.1 OR.out.2.1 OR.out.2.2.1 OR.out.2.2.2.1 G1.out G2.out G3.out OR.out.2.2.2.2.2.1 (hkc _ _ H1.out) L1.out (hkc _ _ H2.out) L2.out (hkc _ _ H3.out) L3.out (hkc _ _ H4.out) L4.out HP.out).mono ?_;rintro e w26 ⟨rfl,hF⟩;refine⟨_,rfl,?_⟩;have hnS:∀ i,i≠gx→i≠gy→i≠gq→i≠gs→i≠gn→¬ AddS5 gx gy gq gs gn i:=fun i h1 h2 h3 h4 h5 h6=>by unfold AddS5 at h6;omega
  have BA2:=aM (blk_kept BA.out hF.kept (hnS _ (blk_ne BA.out BX.out (by decide)) (blk_ne BA.out BY.out (by decide)) (blk_ne BA.out BQ.out (by decide)) (blk_ne BA.out BS.out (by decide)) (blk_ne BA.out BN.out (by decide))))
  have BB2:=aM (blk_kept BB.out hF.kept (hnS _ (blk_ne BB.out BX.out (by decide)) (blk_ne BB.out BY.out (by decide)) (blk_ne BB.out BQ.out (by decide)) (blk_ne BB.out BS.out (by decide)) (blk_ne BB.out BN.out (by decide))))
  have BR2:=aM (blk_kept BR.out hF.kept (hnS _ (blk_ne BR.out BX.out (by decide)) (blk_ne BR.out BY.out (by decide)) (blk_ne BR.out BQ.out (by decide)) (blk_ne BR.out BS.out (by decide)) (blk_ne BR.out BN.out (by decide))))
  have HW2:=aM hF.below;have HF:=aM hF.fin;have HGR:=aM (OR.out.2.2.2.2.1);have HSZ:=aM (Nat.le_trans HW.out.size hF.kept.1);have HS25:=aM HW.out.size;clear hF hkc hnS HT1 HT2 HT3 BF BA BB BR BX BY BQ BS BN G1 G2 G3 HW LN;refine hK.out _ _ ⟨(blk_cell BA2.out 1).trans rfl,(blk_cell BA2.out 2).trans rfl,(blk_cell BB2.out 1).trans rfl,(blk_cell BB2.out 2).trans rfl⟩ (fun hHeld9=>?_)
  clear hK K hHeld9;refine norm_ (a':=?_) ?_ ?_;rotate_left
  ·show Act.put _ (some 37) _=_
   simp only[Act.put,sA,sZ,sC,i64_w,i32_w];rfl
  refine pure_ (i:=18) (N:=some 11) (v:=?_) (a':=?_) #[true,true,true,true,true,true,true,true,true,true,true,true,true,true,true,true,true,true,true] rfl rfl (by kernel_rfl) (fun _ _ _ h=>h) (Or.inl ⟨by rfl,?_⟩) ?_ ?_
  rotate_left
  ·intro w';go_simp
   with_reducible rfl
  rotate_left
  ·simp only[Act.put,sA,sZ,sC,i64_w,i32_w];rfl
  refine done_ (by kernel_rfl) ?_
  clear BA2 BB2;by_cases c:e1=0
  ·subst c;simp only[if_true] at h;rw[Option.bind_eq_some_iff] at h;obtain⟨⟨d1,d2,d3,d4⟩,hd,h⟩:=h;simp only[Option.some.injEq,Prod.mk.injEq] at h;obtain⟨rfl,rfl,rfl,rfl⟩:=h;obtain⟨vs,vq,hn,hs,hq⟩:=HF.out rfl;obtain⟨As,cs,es⟩:=Kd.R_slice hs.row;subst es;obtain⟨Aq,cq,eq⟩:=Kd.R_slice hq.row;subst eq;have BN:=aM hn;have BS:=aM hs.cell;have BQ:=aM hq.cell;have RS:=aM (Kd.R_reads' hs.row);have RQ:=aM (Kd.R_reads' hq.row);have HD:=aM hd;clear hn hs hq hd HF;obtain⟨hczN,hfzN⟩:=bk1 BN;obtain⟨hczS,hfzS⟩:=bk1 BS;obtain⟨hczQ,hfzQ⟩:=bk1 BQ;go_wp2_with (first|((with_reducible refine gate_callee (f:=54) rfl ?_);refine goesL_ (some 45) rfl rfl Try.func54 (by kernel_rfl) rfl #[.bool ng,.slice As sm.length cs,.slice Aq q.length cq] rfl mA ?_;(with_reducible refine(Dzz.calls k ng _ _ sm _ _ q _ _ _ _ _ ?side1 ?side2 ?side3 ?side4 HD.out).mono ?_);(case side1=>exact RS.out.2.2);(case side2=>exact RS.out.2.1);(case side3=>exact RQ.out.2.2);(case side4=>exact RQ.out.2.1);rintro e w90 ⟨v1_,v2_,rfl,ho0,ho1,hb⟩;refine⟨_,rfl,?_⟩;have HO1_:=aM (Kd.R_lower ho0 HSZ.out);have HO2_:=aM (Kd.R_lower ho1 HSZ.out);have BKR:=aM (kB BR2 hb);have HB3:=aM (HW2.out.trans (hb.mono HSZ.out));obtain⟨As1,cs1,es1⟩:=Kd.R_slice HO1_.out;subst es1;obtain⟨As2,cs2,es2⟩:=Kd.R_slice HO2_.out;subst es2;obtain⟨hczR_0,hczR_1,hczR_2,hfzR_0,hfzR_1,hfzR_2⟩:=bk3 BKR;clear hb ho0 ho1))
   refine bodyPost_ret (results_ct rfl _ _ gr 38 #[.bool d1,.slice As1 d2.length cs1,.slice As2 d3.length cs2] (0,0) _ rfl (by refine blk_put (cs:=#[.bool d1,.slice As1 d2.length cs1,.slice none 0 0]) ?_ 2 _ rfl;refine blk_put (cs:=#[.bool d1,.slice none 0 0,.slice none 0 0]) ?_ 1 _ rfl;refine blk_put (cs:=#[.bool false,.slice none 0 0,.slice none 0 0]) ?_ 0 _ rfl;exact BKR.out) Try.underlying38 rfl (by kernel_rfl)) rfl ?_
   exact⟨_,_,by first|rfl|(simp;done),Kd.R_mono (Kd.R_far (p:=⟨gr,2,none⟩) (Kd.R_far (p:=⟨gr,1,none⟩) (Kd.R_far (p:=⟨gr,0,none⟩) (Kd.R_types HO1_.out BKR.out (by decide)) (fun _ hk=>hk.2) _) (fun _ hk=>hk.2) _) (fun _ hk=>hk.2) _) (fun _ hk=>hk.1),Kd.R_mono (Kd.R_far (p:=⟨gr,2,none⟩) (Kd.R_far (p:=⟨gr,1,none⟩) (Kd.R_far (p:=⟨gr,0,none⟩) (Kd.R_types HO2_.out BKR.out (by decide)) (fun _ hk=>hk.2) _) (fun _ hk=>hk.2) _) (fun _ hk=>hk.2) _) (fun _ hk=>hk.1),((HB3.out.setCell (p:=⟨gr,0,none⟩) HGR.out _).setCell (p:=⟨gr,1,none⟩) HGR.out _).setCell (p:=⟨gr,2,none⟩) HGR.out _⟩
  ·simp only[if_neg c,Option.some.injEq,Prod.mk.injEq] at h;obtain⟨rfl,rfl,rfl,rfl⟩:=h;have b0:(e1 != 0)=true:=by simpa using c
   have b1:(e1 == 0)=false:=by simpa using c
   obtain⟨hczR_0,hczR_1,hczR_2,hfzR_0,hfzR_1,hfzR_2⟩:=bk3 BR2;go_wp2
   refine bodyPost_ret (results_ct rfl _ _ gr 38 #[.bool false,.slice none 0 0,.slice none 0 0] (0,0) _ rfl (by refine blk_put (cs:=#[.bool false,.slice none 0 0,.slice none 0 0]) ?_ 2 _ rfl;refine blk_put (cs:=#[.bool false,.slice none 0 0,.slice none 0 0]) ?_ 1 _ rfl;refine blk_put (cs:=#[.bool false,.slice none 0 0,.slice none 0 0]) ?_ 0 _ rfl;exact BR2.out) Try.underlying38 rfl (by kernel_rfl)) rfl ?_
   exact⟨_,_,by first|rfl|(simp;done),Kd.R_nil _ _ _ _ _,Kd.R_nil _ _ _ _ _,((HW2.out.setCell (p:=⟨gr,0,none⟩) HGR.out _).setCell (p:=⟨gr,1,none⟩) HGR.out _).setCell (p:=⟨gr,2,none⟩) HGR.out _⟩

end Go.Proofs.Ytokkiljkgejnhaa.Print
