import Derived.Test.YtokkiljkgejnhaaSorts
import Derived.Test.YtokkiljkgejnhaaPrint0
namespace Go.Proofs.Ytokkiljkgejnhaa.Print
open Go.RowKit Go.Proofs.YtokkiljkgejnhaaW.PrintWords Go.Proofs.YtokkiljkgejnhaaW.PrintLast Go.Proofs.YtokkiljkgejnhaaW.PrintMore
attribute [local go_sem] max2_int min2_int max_two min_two max_three min_three max_four min_four
set_option linter.unusedVariables false
set_option maxRecDepth 100000
set_option maxHeartbeats 8000000
set_option linter.unusedSimpArgs false






/-- The elements in order. -/
def Azb.ins (x : Int) : List Int → List Int
  | [] => [x]
  | y :: l => if x ≤ y then x :: y :: l else y :: Azb.ins x l
def Azb.srt : List Int → List Int
  | [] => []
  | x :: l => Azb.ins x (Azb.srt l)
theorem Azb.ins_perm (x : Int) (l : List Int) : (Azb.ins x l).Perm (x :: l) := by
  induction l with
  | nil => exact List.Perm.refl _
  | cons y l ih =>
    unfold Azb.ins
    split
    · exact List.Perm.refl _
    · exact (List.Perm.cons y ih).trans (List.Perm.swap x y l)
theorem Azb.srt_perm (l : List Int) : (Azb.srt l).Perm l := by
  induction l with
  | nil => exact List.Perm.refl _
  | cons x l ih => exact (Azb.ins_perm x _).trans (ih.cons x)
theorem Azb.ins_sorted (x : Int) (l : List Int) (h : l.Pairwise (· ≤ ·)) : (Azb.ins x l).Pairwise (· ≤ ·) := by
  induction l with
  | nil => simp [Azb.ins]
  | cons y l ih =>
    rw [List.pairwise_cons] at h
    unfold Azb.ins
    split
    · rw [List.pairwise_cons, List.pairwise_cons]
      exact ⟨fun z hz => by rcases List.mem_cons.1 hz with rfl | hz; (first | assumption | omega); (have := h.1 z hz; omega), h.1, h.2⟩
    · rw [List.pairwise_cons]
      refine ⟨fun z hz => ?_, ih h.2⟩
      rcases List.mem_cons.1 ((Azb.ins_perm x l).mem_iff.1 hz) with rfl | hz
      · omega
      · exact h.1 z hz
theorem Azb.srt_sorted (l : List Int) : (Azb.srt l).Pairwise (· ≤ ·) := by
  induction l with
  | nil => exact List.Pairwise.nil
  | cons x l ih => exact Azb.ins_sorted x _ ih
theorem Azb.srt_eq (l : List Int) : l.mergeSort (fun x y => decide (x ≤ y)) = Azb.srt l := by
  have h1 := List.pairwise_mergeSort (le := fun x y : Int => decide (x ≤ y)) (fun a b c h h' => by simp only [decide_eq_true_eq] at *; omega) (fun a b => by simp only [Bool.or_eq_true, decide_eq_true_eq]; omega) l
  refine List.Perm.eq_of_pairwise (le := fun x y => x ≤ y) (fun a b _ _ h h' => Int.le_antisymm h h') (h1.imp (fun h => of_decide_eq_true h)) (Azb.srt_sorted l) ((List.mergeSort_perm l _).trans (Azb.srt_perm l).symm)
def Azb.at_ (p n:Int):Int:=wrap64 (wrap64 (Int.tdiv (wrap64 (wrap64 (p * n)+999)) 1000) - 1)
def Azb.f (k:Nat) (l0:List Int) (a1:Int):Option (Int × Int) :=
 (Bzx.f k l0).bind fun e=>if e=0 then(if a1 < 1 then some (0,1) else(if a1 > 1000 then some (0,1) else(if 0 < l0.length∧l0.length≤1000000∧0≤Azb.at_ a1 (l0.length:Int)∧Azb.at_ a1 (l0.length:Int) < (l0.length:Int) then some (rd (Azb.srt l0) (Azb.at_ a1 (l0.length:Int)),0) else none))) else some (0,e)
theorem Azb.mono:∀ a0 a1 k,LeO (Azb.f k a0 a1) (Azb.f (k+1) a0 a1):=by
 intro a0 a1 k;unfold Azb.f;exact LeO.bind (Bzx.mono _ k) (fun _=>LeO.refl _)
theorem Azb.calls (k:Nat) (A0:Option Addr) (c0:Nat) (l0:List Int) (a1:Int) (r1 r2:Int) (w:World) (hr0:Kd.C (Kd.int .i64) w A0 l0.length l0) (hc0:l0.length≤c0) (h:Azb.f k l0 a1=some (r1,r2)) :
  Calls Try.prog 11 #[.slice A0 l0.length c0,.int .i64 a1] w fun e w'=>e=.returned (.tuple #[.int .i64 r1,.int .i64 r2])∧Below w.heap.size w w':=by
 have HR0:=aM hr0;have HC0:=aM hc0;clear hr0 hc0;unfold Azb.f at h;rw[Option.bind_eq_some_iff] at h;obtain⟨e1,he,h⟩:=h;have HE:=aM he;clear he;by_cases c:e1=0
 ·subst c;rw[if_pos rfl] at h;by_cases c1:a1 < 1
  ·rw[if_pos c1] at h;simp only[Option.some.injEq,Prod.mk.injEq] at h;obtain⟨rfl,rfl⟩:=h;have b1:decide (a1 < 1)=true:=dE c1;go_enter Try.func11,Try.ntmps11
   go_wp2_with (first|((with_reducible refine gate_callee (f:=30) rfl ?_);refine goesL_ (some 9) rfl rfl Try.func30 (by kernel_rfl) rfl #[.slice A0 l0.length c0] rfl mA ?_;refine(Bzx.calls k _ _ l0 0 _ HR0.out HC0.out HE.out).mono ?_;rintro e w9 ⟨rfl,hd⟩;have HB:=aM (Drawn0.below hd);refine⟨_,rfl,?_⟩;clear hd))
   go_ret2
   exact⟨rfl,HB.out⟩
  rw[if_neg c1] at h;by_cases c2:a1 > 1000
  ·rw[if_pos c2] at h;simp only[Option.some.injEq,Prod.mk.injEq] at h;obtain⟨rfl,rfl⟩:=h;have b1:decide (a1 < 1)=false:=decide_eq_false c1;have b2:decide (1000 < a1)=true:=dE c2;go_enter Try.func11,Try.ntmps11
   go_wp2_with (first|((with_reducible refine gate_callee (f:=30) rfl ?_);refine goesL_ (some 9) rfl rfl Try.func30 (by kernel_rfl) rfl #[.slice A0 l0.length c0] rfl mA ?_;refine(Bzx.calls k _ _ l0 0 _ HR0.out HC0.out HE.out).mono ?_;rintro e w9 ⟨rfl,hd⟩;have HB:=aM (Drawn0.below hd);refine⟨_,rfl,?_⟩;clear hd))
   go_ret2
   exact⟨rfl,HB.out⟩
  rw[if_neg c2] at h;by_cases c3:0 < l0.length∧l0.length≤1000000∧0≤Azb.at_ a1 (l0.length:Int)∧Azb.at_ a1 (l0.length:Int) < (l0.length:Int)
  ·rw[if_pos c3] at h;simp only[Option.some.injEq,Prod.mk.injEq] at h;obtain⟨rfl,rfl⟩:=h;have b1:decide (a1 < 1)=false:=decide_eq_false c1;have b2:decide (1000 < a1)=false:=decide_eq_false c2;obtain⟨d1,d2,d3,d4⟩:=c3;obtain⟨ad,ead,hcells⟩:∃ ad:Addr,A0=some ad∧∀ j,j < l0.length→w.cell? (ad.add j)=some (.int .i64 (l0[j]?.getD 0)):=by
    obtain⟨ad,e0,h2⟩:=HR0.out.2.2 (by omega)
    refine⟨ad,e0,fun j hj=>?_⟩
    obtain⟨cs,h3,h4,h5⟩:=h2 j (l0[j]) (List.getElem?_eq_getElem hj);obtain rfl:cs=[.int .i64 l0[j]]:=h4;have:=h5 0 _ rfl;rw[show j * (Kd.int .i64).sz+0=j from Nat.mul_one j] at this
    simpa [hj] using this
   subst ead;have hadlt:ad.block < w.heap.size:=by
    have h0:=World.block_lt_of_cell? w _ (hcells 0 d1);rwa [Go.Proofs.Ytokkiljkgejnhaa.Sorts.add_block] at h0
   have hcS:∀ W,W.heap.size=w.heap.size→Below w.heap.size w W→Calls Try.prog 31 #[.func (.func 59) #[] #[.pointer (some ⟨W.heap.size,0,none⟩)]] (W.alloc (.cells #[.slice (some ad) l0.length c0] 22)) fun e W'=>∃ gb cap,e=.returned (.slice (some ⟨gb,0,none⟩) l0.length cap)∧(∀ i,0≤i→i < (l0.length:Int)→W'.cell? ⟨gb,i.toNat,none⟩=some (.int .i64 (rd (Azb.srt l0) i)))∧Below w.heap.size w W':=by
    intro W hsz hW;have hW1:Below w.heap.size w (W.alloc (.cells #[.slice (some ad) l0.length c0] 22)):=hW.alloc (by omega) _
    refine(Go.Proofs.Ytokkiljkgejnhaa.Sorts.sorted_calls W.heap.size c0 ad l0 d1 (Nat.le_trans d2 (by decide)) (by omega) _ (by simp) (by simp;omega) ((blk_cell (blk_new W (.cells #[.slice (some ad) l0.length c0] 22)) 0).trans rfl) (fun j hj=>(hW1.cell (p:=ad.add j) (by rw[Go.Proofs.Ytokkiljkgejnhaa.Sorts.add_block];exact hadlt)).trans (hcells j hj))).mono ?_
    rintro e W' ⟨v,rfl,hrow,hbl⟩;rcases hrow.2 with ⟨rfl,hz0⟩|⟨gb,cap',cur,rfl,hbase,hgb,r1,r2,r3,r4⟩
    ·omega
    ·refine⟨gb,cap',rfl,fun i h0 h1=>?_,hW1.trans (hbl.mono (by simp;omega))⟩
     rw[blk_cell hgb];have hl:i.toNat < (Azb.srt l0).length:=by rw[(Azb.srt_perm l0).length_eq];omega
     have e1:(cur.toList.take (l0.length * 1))[i.toNat]?=((Azb.srt l0).map (Value.int .i64))[i.toNat]?:=by rw[r4,Azb.srt_eq]
     rw[List.getElem?_take,if_pos (by omega),Array.getElem?_toList] at e1
     rw[e1,List.getElem?_map,List.getElem?_eq_getElem hl];show some (Value.int .i64 _)=some (Value.int .i64 ((Azb.srt l0).getD i.toNat 0))
     simp [hl]
   have HS:=aM hcS;have HAT:=aM (And.intro d3 d4);obtain⟨j0,hj0⟩:∃ j_:Int,wrap64 (a1 * (l0.length:Int))=j_:=⟨_,rfl⟩;obtain⟨j1,hj1⟩:∃ j_:Int,wrap64 (j0+999)=j_:=⟨_,rfl⟩;obtain⟨jd,hjd⟩:∃ j_:Int,wrap64 (Int.tdiv j1 1000)=j_:=⟨_,rfl⟩;obtain⟨j2,hj2⟩:∃ j_:Int,wrap64 (jd - 1)=j_:=⟨_,rfl⟩;have hat:Azb.at_ a1 (l0.length:Int)=j2:=by unfold Azb.at_;rw[hj0,hj1,hjd,hj2]
   rw[hat] at d3 d4 ⊢;have hjd':=(i64_w _).trans hjd;have hj2':=(i64_w _).trans hj2;rw[← i64_w] at hj0 hj1;have P0:=eq_true d3;have P1:=eq_true d4;clear hat HAT hcS hcells hadlt;go_enter Try.func11,Try.ntmps11
   go_wp2_with (first|((with_reducible refine gate_callee (f:=30) rfl ?_);refine goesL_ (some 9) rfl rfl Try.func30 (by kernel_rfl) rfl #[.slice (some ad) l0.length c0] rfl mA ?_;refine(Bzx.calls k _ _ l0 0 _ HR0.out HC0.out HE.out).mono ?_;rintro e w9 ⟨rfl,hd⟩;have HB:=aM (Drawn0.below hd);have HSZ:=aM (show w9.heap.size=w.heap.size by obtain⟨n_,rfl⟩:=hd.out;rfl);refine⟨_,rfl,?_⟩;clear hd)|((with_reducible refine gate_callee (f:=32) rfl ?_);refine goesL_ (some 20) rfl rfl Try.func32 (by kernel_rfl) rfl #[.slice (some ad) l0.length c0] rfl mA ?_;refine(Go.Proofs.Ytokkiljkgejnhaa.Sorts.values_calls (some ad) l0.length c0 w9).mono ?_;rintro e w10 ⟨rfl,rfl⟩;refine⟨_,rfl,?_⟩)|((with_reducible refine gate_callee (f:=31) rfl ?_);refine goesL_ (some 21) rfl rfl Try.func31 (by kernel_rfl) rfl #[.func (.func 59) #[] #[.pointer (some ⟨w9.heap.size,0,none⟩)]] rfl (by first|exact mA|(simp [Act.eval];done)) ?_;refine(HS.out w9 HSZ.out HB.out).mono ?_;rintro e w11 ⟨gb,cap,rfl,hcl,hbl⟩;have HB2:=aM hbl;have hx:=hcl j2 d3 d4;refine⟨_,rfl,?_⟩;clear hbl hcl))
   go_ret2
   exact⟨rfl,HB2.out⟩
  ·rw[if_neg c3] at h;cases h
 ·rw[if_neg c] at h;simp only[Option.some.injEq,Prod.mk.injEq] at h;obtain⟨rfl,rfl⟩:=h;have b0:(e1 != 0)=true:=by simpa using c
  have b1:(e1 == 0)=false:=by simpa using c
  go_enter Try.func11,Try.ntmps11
  go_wp2_with (first|((with_reducible refine gate_callee (f:=30) rfl ?_);refine goesL_ (some 9) rfl rfl Try.func30 (by kernel_rfl) rfl #[.slice A0 l0.length c0] rfl mA ?_;refine(Bzx.calls k _ _ l0 e1 _ HR0.out HC0.out HE.out).mono ?_;rintro e w9 ⟨rfl,hd⟩;have HB:=aM (Drawn0.below hd);refine⟨_,rfl,?_⟩;clear hd))
  go_ret2
  exact⟨rfl,HB.out⟩


def Ezb.f (a0:Int) (l1:List Int):Option (Bool):=if 0 < (l1.length:Int) then(some (decide (a0 > (rd l1 0)))) else(none)
theorem Ezb.calls (a0:Int) (A1:Option Addr) (c1:Nat) (l1:List Int) (r:Bool) (w:World) (hr1:Kd.C (Kd.int .i64) w A1 l1.length l1) (hc1:l1.length≤c1) (h:Ezb.f a0 l1=some r) :
  Calls Try.prog 35 #[.int .i64 a0,.pointer A1] w fun e w'=>e=.returned (.bool r)∧Drawn0 w w':=by
 have HR1:=aM hr1;have HC1:=aM hc1;clear hr1 hc1;have H:(if 0 < (l1.length:Int) then(some (decide (a0 > (rd l1 0)))) else(none))=some r:=h
 clear h;by_cases c3:0 < (l1.length:Int)
 ·rw[if_pos c3] at H;have c3b0:decide (0 < (l1.length:Int))=true:=dE c3;have c3b1:decide (0 < l1.length)=true:=dE (by omega)
  clear c3;obtain rfl:=Option.some.inj H;have p228:0≤(0:Int):=(by omega)
  have q228:0 < (l1.length:Int):=oE aS
  obtain⟨ad228,e228,hx228_0⟩:=Kd.at_int HR1.out 0 p228 q228;cases e228
  have qi228:(0 < l1.length)=True:=eq_true (by omega)
  (try rw[show((0:Int)).toNat=0 from rfl] at hx228_0)
  (try rw[Addr.add_zero'] at hx228_0)
  replace p228:=eq_true p228;replace q228:=eq_true q228;go_enter Try.func35,Try.ntmps35
  go_wp2
  go_ret
  exact⟨by first|rfl|(simp;done)|(simp [*];done),by repeat(first|exact Drawn0.refl _|apply Drawn0.step)⟩
 ·rw[if_neg c3] at H;exact absurd H (by simp)

def Ezp.f (a0:Int) (l1:List Int):Option (Bool):=if 0 < (l1.length:Int) then(some (decide (a0 < (rd l1 0)))) else(none)
theorem Ezp.calls (a0:Int) (A1:Option Addr) (c1:Nat) (l1:List Int) (r:Bool) (w:World) (hr1:Kd.C (Kd.int .i64) w A1 l1.length l1) (hc1:l1.length≤c1) (h:Ezp.f a0 l1=some r) :
  Calls Try.prog 36 #[.int .i64 a0,.pointer A1] w fun e w'=>e=.returned (.bool r)∧Drawn0 w w':=by
 have HR1:=aM hr1;have HC1:=aM hc1;clear hr1 hc1;have H:(if 0 < (l1.length:Int) then(some (decide (a0 < (rd l1 0)))) else(none))=some r:=h
 clear h;by_cases c3:0 < (l1.length:Int)
 ·rw[if_pos c3] at H;have c3b0:decide (0 < (l1.length:Int))=true:=dE c3;have c3b1:decide (0 < l1.length)=true:=dE (by omega)
  clear c3;obtain rfl:=Option.some.inj H;have p229:0≤(0:Int):=(by omega)
  have q229:0 < (l1.length:Int):=oE aS
  obtain⟨ad229,e229,hx229_0⟩:=Kd.at_int HR1.out 0 p229 q229;cases e229
  have qi229:(0 < l1.length)=True:=eq_true (by omega)
  (try rw[show((0:Int)).toNat=0 from rfl] at hx229_0)
  (try rw[Addr.add_zero'] at hx229_0)
  replace p229:=eq_true p229;replace q229:=eq_true q229;go_enter Try.func36,Try.ntmps36
  go_wp2
  go_ret
  exact⟨by first|rfl|(simp;done)|(simp [*];done),by repeat(first|exact Drawn0.refl _|apply Drawn0.step)⟩
 ·rw[if_neg c3] at H;exact absurd H (by simp)

def Azm.l0:Nat→Int→Int→List Int→Int→Int→List Int→Option (Int)
 | 0,_,_,_,_,_,_=>none
 | k+1,x5,x6,x9,x10,x11,x910=>if x11 < x10 then(if 0≤x11 then(if x11 < (x9.length:Int) then((Ezb.f (rd x9 x11) x910).bind fun t233=>(if t233=true then(Azm.l0 k (mx x5 (wrap64 (x6+1))) (wrap64 (x6+1)) x9 x10 (wrap64 (x11+1)) x910) else(Azm.l0 k (mx x5 0) 0 x9 x10 (wrap64 (x11+1)) x910))) else(none)) else(none)) else(some x5)
def Azm.f (k:Nat) (l0:List Int) (l1_0:List Int):Option (Int):=Azm.l0 k 0 0 l0 (l0.length:Int) 0 l1_0
theorem Azm.mono_l:∀ k,(∀ y0 y1 y2 y3 y4 y5,LeO (Azm.l0 k y0 y1 y2 y3 y4 y5) (Azm.l0 (k+1) y0 y1 y2 y3 y4 y5))
 | 0=>fun _ _ _ _ _ _ r h=>by simp [Azm.l0] at h
 | k+1=>by
  have ih0:=Azm.mono_l k
  ·intro y0 y1 y2 y3 y4 y5;unfold Azm.l0;with_reducible repeat' first|exact ih0 _ _ _ _ _ _|exact LeO.refl _|exact LeO.none _|refine LeO.ite ?_ ?_|refine LeO.bind ?_ (fun _=>?_)
theorem Azm.mono:∀ a0 a1 k,LeO (Azm.f k a0 a1) (Azm.f (k+1) a0 a1):=by
 intro a0 a1 k;have ih0:=Azm.mono_l k;unfold Azm.f;with_reducible repeat' first|exact ih0 _ _ _ _ _ _|exact LeO.refl _|exact LeO.none _|refine LeO.ite ?_ ?_|refine LeO.bind ?_ (fun _=>?_)
theorem Azm.calls (k:Nat) (A0:Option Addr) (c0:Nat) (l0:List Int) (A1_0:Option Addr) (c1_0:Nat) (l1_0:List Int) (r:Int) (w:World) (hr0:Kd.C (Kd.int .i64) w A0 l0.length l0) (hc0:l0.length≤c0) (hr1_0:Kd.C (Kd.int .i64) w A1_0 l1_0.length l1_0) (hc1_0:l1_0.length≤c1_0) (h:Azm.f k l0 l1_0=some r) :
  Calls Try.prog 34 #[.slice A0 l0.length c0,.func (.func 35) #[] #[.pointer A1_0]] w fun e w'=>e=.returned (.int .i64 r)∧Below w.heap.size w w':=by
 have HR0:=aM hr0;have HC0:=aM hc0;clear hr0 hc0;have HR1_0:=aM hr1_0;have HC1_0:=aM hc1_0;clear hr1_0 hc1_0;have HB:=aM (Below.refl w.heap.size w);have H:(Azm.l0 k 0 0 l0 (l0.length:Int) 0 l1_0)=some r:=h;clear h;have H':=aM H;clear H;go_enter Try.func34,Try.ntmps34
 go_wp2
 go_loopg [5,6,11] k (fun kq v5 v6 v11 w'=>∃ (x5_1:Int) (x6_1:Int) (x11_1:Int),v5=.int .i64 x5_1∧v6=.int .i64 x6_1∧v11=.int .i64 x11_1∧Aside0 (Azm.l0 kq x5_1 x6_1 l0 (l0.length:Int) x11_1 l1_0=some r)∧Aside0 (kq≤k)∧Aside0 (Below w.heap.size w w'))
 case atStart=>exact⟨(0),(0),(0),sD,sD,sD,H',⟨Nat.le_refl _⟩,⟨pB⟩⟩
 case round =>
  clear H';try clear c1
  try clear p2
  obtain⟨x5_1,x6_1,x11_1,rfl,rfl,rfl,HA,HK1,HB⟩:=hrel;cases gk with
  | zero=>exact absurd HA.out (by simp [Azm.l0])
  | succ k1 =>
   have H:=HA.out;clear HA;simp only[Azm.l0] at H;by_cases c3:x11_1 < (l0.length:Int)
   ·rw[if_pos c3] at H;have c3b0:decide (x11_1 < (l0.length:Int))=true:=dE c3;clear c3;by_cases c4:0≤x11_1
    ·rw[if_pos c4] at H;have c4b0:decide (0≤x11_1)=true:=dE c4;clear c4;by_cases c5:x11_1 < (l0.length:Int)
     ·rw[if_pos c5] at H;have c5b0:decide (x11_1 < (l0.length:Int))=true:=dE c5;clear c5;replace H:=bS H;obtain⟨t233,A60,H⟩:=H;(try dsimp only at H);have A6:=aM A60;clear A60;by_cases c7:t233=true
      ·subst c7;rw[if_pos rfl] at H;obtain⟨ji8,hji8⟩:∃ j_:Int,(mx x5_1 (wrap64 (x6_1+1)))=j_:=⟨_,rfl⟩;replace H:(Azm.l0 k1 ji8 (wrap64 (x6_1+1)) l0 (l0.length:Int) (wrap64 (x11_1+1)) l1_0)=some r:=by first|(rw[hji8] at H;exact H)|(simp only[hji8] at H ⊢;exact H)
       (try rw[hji8] at A6)
       have hji8_:(if x5_1 < (wrap64 (x6_1+1)) then(wrap64 (x6_1+1)) else x5_1)=ji8:=hji8
       have H':=aM H;clear H;have p232:0≤(x11_1:Int):=oE aS
       have q232:x11_1 < (l0.length:Int):=oE aS
       obtain⟨ad232,e232,hx232_0⟩:=Kd.at_int HR0.out x11_1 p232 q232;cases e232
       replace hx232_0:=(HB.out.cell (World.block_lt_of_cell? w _ hx232_0)).trans hx232_0;replace p232:=eq_true p232;replace q232:=eq_true q232;go_wp2_with (first|(go_at_call 35;(with_reducible refine(Ezb.calls (rd l0 x11_1) _ c1_0 l1_0 true _ ?side1 ?side2 A6.out).mono ?_);(case side1=>exact cX (Kd.C_below HR1_0.out HB.out));(case side2=>exact HC1_0.out);rintro e w' ⟨rfl,⟨nd,rfl⟩⟩))
       go_roundg k1
       case measure=>have:=HK1.out;omega
       case rel=>exact⟨(ji8),(wrap64 (x6_1+1)),(wrap64 (x11_1+1)),(by first|rfl|(simp;done)|(simp only[← hji8] <;> (first|rfl|simp))|(simp [*];done)),sD,sD,H',⟨by have:=HK1.out;omega⟩,⟨pB⟩⟩
      ·replace c7:=Bool.eq_false_iff.mpr c7;subst c7;rw[if_neg (show ¬ (false=true) by decide)] at H
       obtain⟨ji9,hji9⟩:∃ j_:Int,(mx x5_1 0)=j_:=⟨_,rfl⟩;replace H:(Azm.l0 k1 ji9 0 l0 (l0.length:Int) (wrap64 (x11_1+1)) l1_0)=some r:=by first|(rw[hji9] at H;exact H)|(simp only[hji9] at H ⊢;exact H)
       (try rw[hji9] at A6)
       have hji9_:(if x5_1 < 0 then 0 else x5_1)=ji9:=hji9
       have H':=aM H;clear H;have p232:0≤(x11_1:Int):=oE aS
       have q232:x11_1 < (l0.length:Int):=oE aS
       obtain⟨ad232,e232,hx232_0⟩:=Kd.at_int HR0.out x11_1 p232 q232;cases e232
       replace hx232_0:=(HB.out.cell (World.block_lt_of_cell? w _ hx232_0)).trans hx232_0;replace p232:=eq_true p232;replace q232:=eq_true q232;go_wp2_with (first|(go_at_call 35;(with_reducible refine(Ezb.calls (rd l0 x11_1) _ c1_0 l1_0 false _ ?side1 ?side2 A6.out).mono ?_);(case side1=>exact cX (Kd.C_below HR1_0.out HB.out));(case side2=>exact HC1_0.out);rintro e w' ⟨rfl,⟨nd,rfl⟩⟩))
       go_roundg k1
       case measure=>have:=HK1.out;omega
       case rel=>exact⟨(ji9),(0),(wrap64 (x11_1+1)),(by first|rfl|(simp;done)|(simp only[← hji9] <;> (first|rfl|simp))|(simp [*];done)),sD,sD,H',⟨by have:=HK1.out;omega⟩,⟨pB⟩⟩
     ·rw[if_neg c5] at H;exact absurd H (by simp)
    ·rw[if_neg c4] at H;exact absurd H (by simp)
   ·rw[if_neg c3] at H;have c3b0:decide (x11_1 < (l0.length:Int))=false:=decide_eq_false c3;clear c3;obtain rfl:=Option.some.inj H;go_wp2
    go_ret
    exact⟨eW,pB⟩


def Azf.l0:Nat→Int→Int→List Int→Int→Int→List Int→Option (Int)
 | 0,_,_,_,_,_,_=>none
 | k+1,x5,x6,x9,x10,x11,x910=>if x11 < x10 then(if 0≤x11 then(if x11 < (x9.length:Int) then((Ezp.f (rd x9 x11) x910).bind fun t238=>(if t238=true then(Azf.l0 k (mx x5 (wrap64 (x6+1))) (wrap64 (x6+1)) x9 x10 (wrap64 (x11+1)) x910) else(Azf.l0 k (mx x5 0) 0 x9 x10 (wrap64 (x11+1)) x910))) else(none)) else(none)) else(some x5)
def Azf.f (k:Nat) (l0:List Int) (l1_0:List Int):Option (Int):=Azf.l0 k 0 0 l0 (l0.length:Int) 0 l1_0
theorem Azf.mono_l:∀ k,(∀ y0 y1 y2 y3 y4 y5,LeO (Azf.l0 k y0 y1 y2 y3 y4 y5) (Azf.l0 (k+1) y0 y1 y2 y3 y4 y5))
 | 0=>fun _ _ _ _ _ _ r h=>by simp [Azf.l0] at h
 | k+1=>by
  have ih0:=Azf.mono_l k
  ·intro y0 y1 y2 y3 y4 y5;unfold Azf.l0;with_reducible repeat' first|exact ih0 _ _ _ _ _ _|exact LeO.refl _|exact LeO.none _|refine LeO.ite ?_ ?_|refine LeO.bind ?_ (fun _=>?_)
theorem Azf.mono:∀ a0 a1 k,LeO (Azf.f k a0 a1) (Azf.f (k+1) a0 a1):=by
 intro a0 a1 k;have ih0:=Azf.mono_l k;unfold Azf.f;with_reducible repeat' first|exact ih0 _ _ _ _ _ _|exact LeO.refl _|exact LeO.none _|refine LeO.ite ?_ ?_|refine LeO.bind ?_ (fun _=>?_)
theorem Azf.calls (k:Nat) (A0:Option Addr) (c0:Nat) (l0:List Int) (A1_0:Option Addr) (c1_0:Nat) (l1_0:List Int) (r:Int) (w:World) (hr0:Kd.C (Kd.int .i64) w A0 l0.length l0) (hc0:l0.length≤c0) (hr1_0:Kd.C (Kd.int .i64) w A1_0 l1_0.length l1_0) (hc1_0:l1_0.length≤c1_0) (h:Azf.f k l0 l1_0=some r) :
  Calls Try.prog 34 #[.slice A0 l0.length c0,.func (.func 36) #[] #[.pointer A1_0]] w fun e w'=>e=.returned (.int .i64 r)∧Below w.heap.size w w':=by
 have HR0:=aM hr0;have HC0:=aM hc0;clear hr0 hc0;have HR1_0:=aM hr1_0;have HC1_0:=aM hc1_0;clear hr1_0 hc1_0;have HB:=aM (Below.refl w.heap.size w);have H:(Azf.l0 k 0 0 l0 (l0.length:Int) 0 l1_0)=some r:=h;clear h;have H':=aM H;clear H;go_enter Try.func34,Try.ntmps34
 go_wp2
 go_loopg [5,6,11] k (fun kq v5 v6 v11 w'=>∃ (x5_1:Int) (x6_1:Int) (x11_1:Int),v5=.int .i64 x5_1∧v6=.int .i64 x6_1∧v11=.int .i64 x11_1∧Aside0 (Azf.l0 kq x5_1 x6_1 l0 (l0.length:Int) x11_1 l1_0=some r)∧Aside0 (kq≤k)∧Aside0 (Below w.heap.size w w'))
 case atStart=>exact⟨(0),(0),(0),sD,sD,sD,H',⟨Nat.le_refl _⟩,⟨pB⟩⟩
 case round =>
  clear H';try clear c1
  try clear p2
  obtain⟨x5_1,x6_1,x11_1,rfl,rfl,rfl,HA,HK1,HB⟩:=hrel;cases gk with
  | zero=>exact absurd HA.out (by simp [Azf.l0])
  | succ k1 =>
   have H:=HA.out;clear HA;simp only[Azf.l0] at H;by_cases c3:x11_1 < (l0.length:Int)
   ·rw[if_pos c3] at H;have c3b0:decide (x11_1 < (l0.length:Int))=true:=dE c3;clear c3;by_cases c4:0≤x11_1
    ·rw[if_pos c4] at H;have c4b0:decide (0≤x11_1)=true:=dE c4;clear c4;by_cases c5:x11_1 < (l0.length:Int)
     ·rw[if_pos c5] at H;have c5b0:decide (x11_1 < (l0.length:Int))=true:=dE c5;clear c5;replace H:=bS H;obtain⟨t238,A60,H⟩:=H;(try dsimp only at H);have A6:=aM A60;clear A60;by_cases c7:t238=true
      ·subst c7;rw[if_pos rfl] at H;obtain⟨ji8,hji8⟩:∃ j_:Int,(mx x5_1 (wrap64 (x6_1+1)))=j_:=⟨_,rfl⟩;replace H:(Azf.l0 k1 ji8 (wrap64 (x6_1+1)) l0 (l0.length:Int) (wrap64 (x11_1+1)) l1_0)=some r:=by first|(rw[hji8] at H;exact H)|(simp only[hji8] at H ⊢;exact H)
       (try rw[hji8] at A6)
       have hji8_:(if x5_1 < (wrap64 (x6_1+1)) then(wrap64 (x6_1+1)) else x5_1)=ji8:=hji8
       have H':=aM H;clear H;have p237:0≤(x11_1:Int):=oE aS
       have q237:x11_1 < (l0.length:Int):=oE aS
       obtain⟨ad237,e237,hx237_0⟩:=Kd.at_int HR0.out x11_1 p237 q237;cases e237
       replace hx237_0:=(HB.out.cell (World.block_lt_of_cell? w _ hx237_0)).trans hx237_0;replace p237:=eq_true p237;replace q237:=eq_true q237;go_wp2_with (first|(go_at_call 36;(with_reducible refine(Ezp.calls (rd l0 x11_1) _ c1_0 l1_0 true _ ?side1 ?side2 A6.out).mono ?_);(case side1=>exact cX (Kd.C_below HR1_0.out HB.out));(case side2=>exact HC1_0.out);rintro e w' ⟨rfl,⟨nd,rfl⟩⟩))
       go_roundg k1
       case measure=>have:=HK1.out;omega
       case rel=>exact⟨(ji8),(wrap64 (x6_1+1)),(wrap64 (x11_1+1)),(by first|rfl|(simp;done)|(simp only[← hji8] <;> (first|rfl|simp))|(simp [*];done)),sD,sD,H',⟨by have:=HK1.out;omega⟩,⟨pB⟩⟩
      ·replace c7:=Bool.eq_false_iff.mpr c7;subst c7;rw[if_neg (show ¬ (false=true) by decide)] at H
       obtain⟨ji9,hji9⟩:∃ j_:Int,(mx x5_1 0)=j_:=⟨_,rfl⟩;replace H:(Azf.l0 k1 ji9 0 l0 (l0.length:Int) (wrap64 (x11_1+1)) l1_0)=some r:=by first|(rw[hji9] at H;exact H)|(simp only[hji9] at H ⊢;exact H)
       (try rw[hji9] at A6)
       have hji9_:(if x5_1 < 0 then 0 else x5_1)=ji9:=hji9
       have H':=aM H;clear H;have p237:0≤(x11_1:Int):=oE aS
       have q237:x11_1 < (l0.length:Int):=oE aS
       obtain⟨ad237,e237,hx237_0⟩:=Kd.at_int HR0.out x11_1 p237 q237;cases e237
       replace hx237_0:=(HB.out.cell (World.block_lt_of_cell? w _ hx237_0)).trans hx237_0;replace p237:=eq_true p237;replace q237:=eq_true q237;go_wp2_with (first|(go_at_call 36;(with_reducible refine(Ezp.calls (rd l0 x11_1) _ c1_0 l1_0 false _ ?side1 ?side2 A6.out).mono ?_);(case side1=>exact cX (Kd.C_below HR1_0.out HB.out));(case side2=>exact HC1_0.out);rintro e w' ⟨rfl,⟨nd,rfl⟩⟩))
       go_roundg k1
       case measure=>have:=HK1.out;omega
       case rel=>exact⟨(ji9),(0),(wrap64 (x11_1+1)),(by first|rfl|(simp;done)|(simp only[← hji9] <;> (first|rfl|simp))|(simp [*];done)),sD,sD,H',⟨by have:=HK1.out;omega⟩,⟨pB⟩⟩
     ·rw[if_neg c5] at H;exact absurd H (by simp)
    ·rw[if_neg c4] at H;exact absurd H (by simp)
   ·rw[if_neg c3] at H;have c3b0:decide (x11_1 < (l0.length:Int))=false:=decide_eq_false c3;clear c3;obtain rfl:=Option.some.inj H;go_wp2
    go_ret
    exact⟨eW,pB⟩

def Czz.f (k:Nat) (l0:List Int) (a1:Int):Option (Int × Int × Int):=(Bzx.f k l0).bind fun t240=>(if t240=0 then((Azm.f k l0 [a1]).bind fun t241=>((Azf.f k l0 [a1]).bind fun t242=>(some (t241,t242,0)))) else(some (0,0,t240)))
theorem Czz.mono:∀ a0 a1 k,LeO (Czz.f k a0 a1) (Czz.f (k+1) a0 a1):=by
 intro a0 a1 k;unfold Czz.f;with_reducible repeat' first|exact Bzx.mono _ _|exact Azm.mono _ _ _|exact Azf.mono _ _ _|exact LeO.refl _|exact LeO.none _|refine LeO.ite ?_ ?_|refine LeO.bind ?_ (fun _=>?_)
theorem Czz.calls (k:Nat) (A0:Option Addr) (c0:Nat) (l0:List Int) (a1:Int) (r1:Int) (r2:Int) (r3:Int) (w:World) (hr0:Kd.C (Kd.int .i64) w A0 l0.length l0) (hc0:l0.length≤c0) (h:Czz.f k l0 a1=some (r1,r2,r3)) :
  Calls Try.prog 13 #[.slice A0 l0.length c0,.int .i64 a1] w fun e w'=>e=.returned (.tuple #[.int .i64 r1,.int .i64 r2,.int .i64 r3])∧Below w.heap.size w w':=by
 have HR0:=aM hr0;have HC0:=aM hc0;clear hr0 hc0;have HB:=aM (Below.refl w.heap.size w);have H:((Bzx.f k l0).bind fun t240=>(if t240=0 then((Azm.f k l0 [a1]).bind fun t241=>((Azf.f k l0 [a1]).bind fun t242=>(some (t241,t242,0)))) else(some (0,0,t240))))=some (r1,r2,r3):=h
 clear h;replace H:=bS H;obtain⟨t240,A30,H⟩:=H;(try dsimp only at H);have A3:=aM A30;clear A30;by_cases c4:t240=0
 ·rw[if_pos c4] at H;have c4b0:(t240 == 0)=true:=beq_iff_eq.mpr c4;have c4b1:(t240 != 0)=false:=bne_eq_false_iff_eq.mpr c4;clear c4;replace H:=bS H;obtain⟨t241,A50,H⟩:=H;(try dsimp only at H);have A5:=aM A50;clear A50;replace H:=bS H;obtain⟨t242,A60,H⟩:=H;replace H:(some (t241,t242,0))=some (r1,r2,r3):=H;have A6:=aM A60;clear A60;simp only[Option.some.injEq,Prod.mk.injEq] at H;obtain⟨rfl,rfl,rfl⟩:=H;have hmf_:∀ (fn:Fn) (first cap:Array Value) (w:World),(Instr.makeFunc fn first cap).run Try.prog w=.ok (.func fn first cap) w:=fun _ _ _ _=>rfl
  go_enter Try.func13,Try.ntmps13
  go_wp2_with (first|((with_reducible refine gate_dst (N:=3) rfl ?_);refine box_event ?hg (N:=3) ?hd (cs:=#[.int .i64 a1]) (t:=3) ?hr ?_;(case hd=>rfl);(case hg=>rfl);(case hr=>first|(go_simp;done)|(go_simp;rfl));intro gb239 hg w7 hbox hb;have BK239:=aM (hbox);have GW239:=aM (gW hg:w.heap.size≤gb239);have GE239:=aM (gW hg:w.heap.size≤gb239);replace HB:=aM (below_step pB hb);clear hb hbox hg)|((with_reducible refine gate_callee (f:=30) rfl ?_);refine goesL_ (some 11) rfl rfl Try.func30 (by kernel_rfl) rfl #[.slice A0 l0.length c0] rfl mA ?_;(with_reducible refine(Bzx.calls k _ _ l0 t240 _ ?side1 ?side2 A3.out).mono ?_);(case side1=>exact cX (Kd.C_below HR0.out HB.out));(case side2=>exact HC0.out);rintro e w' ⟨rfl,⟨nd,rfl⟩⟩;refine⟨_,rfl,?_⟩)|((with_reducible refine gate_callee (f:=34) rfl ?_);refine goesL_ (some 17) rfl rfl Try.func34 (by kernel_rfl) rfl #[.slice A0 l0.length c0,.func (.func 35) #[] #[.pointer (some ⟨gb239,0,none⟩)]] rfl mA ?_;(with_reducible refine(Azm.calls k _ _ l0 _ 1 [a1] t241 _ ?side1 ?side2 ?side3 ?side4 A5.out).mono ?_);(case side1=>repeat(first|exact(Kd.C_below HR0.out pB)|(with_reducible refine Kd.C_alloc ?_ _)|(with_reducible refine Kd.C_drewN ?_ _)|(with_reducible refine Kd.C_drew ?_)));(case side2=>exact HC0.out);(case side3=>exact Kd.cap_C (kW BK239) rfl);(case side4=>exact Nat.le_refl _);rintro e w8 ⟨rfl,hb⟩;refine⟨_,rfl,?_⟩;replace BK239:=aM (kB BK239 hb);replace HB:=aM (below_step pB hb);(try clear hb);(try clear hb2);(try clear hk);(try clear hi))|((with_reducible refine gate_callee (f:=34) rfl ?_);refine goesL_ (some 20) rfl rfl Try.func34 (by kernel_rfl) rfl #[.slice A0 l0.length c0,.func (.func 36) #[] #[.pointer (some ⟨gb239,0,none⟩)]] rfl mA ?_;(with_reducible refine(Azf.calls k _ _ l0 _ 1 [a1] t242 _ ?side1 ?side2 ?side3 ?side4 A6.out).mono ?_);(case side1=>exact cX (Kd.C_below HR0.out HB.out));(case side2=>exact HC0.out);(case side3=>exact Kd.cap_C (kW BK239) rfl);(case side4=>exact Nat.le_refl _);rintro e w9 ⟨rfl,hb⟩;refine⟨_,rfl,?_⟩;replace BK239:=aM (kB BK239 hb);replace HB:=aM (below_step pB hb);(try clear hb);(try clear hb2);(try clear hk);(try clear hi)))
  go_ret3
  exact⟨eW,pB⟩
 ·rw[if_neg c4] at H;have c4b0:(t240 == 0)=false:=beq_eq_false_iff_ne.mpr c4;have c4b1:(t240 != 0)=true:=bne_iff_ne.mpr c4;simp only[Option.some.injEq,Prod.mk.injEq] at H;obtain⟨rfl,rfl,rfl⟩:=H;have hmf_:∀ (fn:Fn) (first cap:Array Value) (w:World),(Instr.makeFunc fn first cap).run Try.prog w=.ok (.func fn first cap) w:=fun _ _ _ _=>rfl
  go_enter Try.func13,Try.ntmps13
  go_wp2_with (first|((with_reducible refine gate_dst (N:=3) rfl ?_);refine box_event ?hg (N:=3) ?hd (cs:=#[.int .i64 a1]) (t:=3) ?hr ?_;(case hd=>rfl);(case hg=>rfl);(case hr=>first|(go_simp;done)|(go_simp;rfl));intro gb239 hg w10 hbox hb;have BK239:=aM (hbox);have GW239:=aM (gW hg:w.heap.size≤gb239);have GE239:=aM (gW hg:w.heap.size≤gb239);replace HB:=aM (below_step pB hb);clear hb hbox hg)|((with_reducible refine gate_callee (f:=30) rfl ?_);refine goesL_ (some 11) rfl rfl Try.func30 (by kernel_rfl) rfl #[.slice A0 l0.length c0] rfl mA ?_;(with_reducible refine(Bzx.calls k _ _ l0 t240 _ ?side1 ?side2 A3.out).mono ?_);(case side1=>exact cX (Kd.C_below HR0.out HB.out));(case side2=>exact HC0.out);rintro e w' ⟨rfl,⟨nd,rfl⟩⟩;refine⟨_,rfl,?_⟩))
  go_ret3
  exact⟨eW,pB⟩

end Go.Proofs.Ytokkiljkgejnhaa.Print
