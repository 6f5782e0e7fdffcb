import Derived.Test.YtokkiljkgejnhaaSorts
import Derived.Test.YtokkiljkgejnhaaPrint0
namespace Go.Proofs.Ytokkiljkgejnhaa.Print
open Go.RowKit Go.Proofs.YtokkiljkgejnhaaW.PrintWords Go.Proofs.YtokkiljkgejnhaaW.PrintLast Go.Proofs.YtokkiljkgejnhaaW.PrintMore
attribute [local go_sem] max2_int min2_int max_two min_two max_three min_three max_four min_four
set_option linter.unusedVariables false
set_option maxRecDepth 100000
set_option maxHeartbeats 8000000
set_option linter.unusedSimpArgs false






/-- The elements in order. -/
def Azx.ins (x:Int):List Int→List Int
 | []=>[x]
 | y :: l=>if x≤y then x :: y :: l else y :: Azx.ins x l
def Azx.srt:List Int→List Int
 | []=>[]
 | x :: l=>Azx.ins x (Azx.srt l)
theorem Azx.ins_perm (x:Int) (l:List Int):(Azx.ins x l).Perm (x :: l):=by
 induction l with
 | nil=>exact List.Perm.refl _
 | cons y l ih =>
  unfold Azx.ins;split
  ·exact List.Perm.refl _
  ·exact(List.Perm.cons y ih).trans (List.Perm.swap x y l)
theorem Azx.srt_perm (l:List Int):(Azx.srt l).Perm l:=by
 induction l with
 | nil=>exact List.Perm.refl _
 | cons x l ih=>exact(Azx.ins_perm x _).trans (ih.cons x)
theorem Azx.ins_sorted (x:Int) (l:List Int) (h:l.Pairwise (·≤·)):(Azx.ins x l).Pairwise (·≤·):=by
 induction l with
 | nil=>simp [Azx.ins]
 | cons y l ih =>
  rw[List.pairwise_cons] at h;unfold Azx.ins;split
  ·rw[List.pairwise_cons,List.pairwise_cons];exact⟨fun z hz=>by rcases List.mem_cons.1 hz with rfl|hz;(first|assumption|omega);(have:=h.1 z hz;omega),h.1,h.2⟩
  ·rw[List.pairwise_cons];refine⟨fun z hz=>?_,ih h.2⟩
   rcases List.mem_cons.1 ((Azx.ins_perm x l).mem_iff.1 hz) with rfl|hz
   ·omega
   ·exact h.1 z hz
theorem Azx.srt_sorted (l:List Int):(Azx.srt l).Pairwise (·≤·):=by
 induction l with
 | nil=>exact List.Pairwise.nil
 | cons x l ih=>exact Azx.ins_sorted x _ ih
theorem Azx.srt_eq (l:List Int):l.mergeSort (fun x y=>decide (x≤y))=Azx.srt l:=by
 have a6:=List.pairwise_mergeSort (le:=fun x y:Int=>decide (x≤y)) (fun a b c h h'=>by simp only[decide_eq_true_eq] at *;omega) (fun a b=>by simp only[Bool.or_eq_true,decide_eq_true_eq];omega) l
 refine List.Perm.eq_of_pairwise (le:=fun x y=>x≤y) (fun a b _ _ h h'=>Int.le_antisymm h h') (a6.imp (fun h=>oE h)) (Azx.srt_sorted l) ((List.mergeSort_perm l _).trans (Azx.srt_perm l).symm)
def Azx.at_ (p n:Int):Int:=wrap64 (wrap64 (Int.tdiv (wrap64 (wrap64 (p * n)+999)) 1000) - 1)
def Azx.f (k:Nat) (l0:List Int) (a1:Int):Option (Int × Int) :=
 (Bzw.f k l0).bind fun e=>if e=0 then(if a1 < 1 then some (0,1) else(if a1 > 1000 then some (0,1) else(if 0 < l0.length∧l0.length≤1000000∧0≤Azx.at_ a1 (l0.length:Int)∧Azx.at_ a1 (l0.length:Int) < (l0.length:Int) then some (rd (Azx.srt l0) (Azx.at_ a1 (l0.length:Int)),0) else none))) else some (0,e)
theorem Azx.mono:∀ a6 a7 k,LeO (Azx.f k a6 a7) (Azx.f (k+1) a6 a7):=by
 intro a6 a7 k;unfold Azx.f;exact LeO.bind (Bzw.mono _ k) (fun _=>LeO.refl _)
theorem Azx.calls (k:Nat) (a6:Option Addr) (a7:Nat) (l0:List Int) (a8:Int) (b4 b5:Int) (w:World) (b6:Kd.C (Kd.int .i64) w a6 l0.length l0) (b7:l0.length≤a7) (h:Azx.f k l0 a8=some (b4,b5)) :
  Calls Try.prog 11 #[.slice a6 l0.length a7,.int .i64 a8] w fun e w'=>e=.returned (.tuple #[.int .i64 b4,.int .i64 b5])∧Below w.heap.size w w':=by
 have b8:=aM b6;have b9:=aM b7;clear b6 b7;unfold Azx.f at h;rw[Option.bind_eq_some_iff] at h;obtain⟨d0,he,h⟩:=h;have HE:=aM he;clear he;by_cases c:d0=0
 ·subst c;rw[if_pos rfl] at h;by_cases d6:a8 < 1
  ·rw[if_pos d6] at h;simp only[Option.some.injEq,Prod.mk.injEq] at h;obtain⟨rfl,rfl⟩:=h;have d7:decide (a8 < 1)=true:=dE d6;go_enter Try.func11,Try.ntmps11
   go_wp2_with (first|((with_reducible refine gc 30 rfl ?_);refine gC 30 (some 9) Try.func30 #[.slice a6 l0.length a7] ?_;refine(Bzw.calls k _ _ l0 0 _ b8.out b9.out HE.out).mono ?_;rintro e d8 ⟨rfl,hd⟩;have HB:=aM (Drawn0.below hd);refine⟨_,rfl,?_⟩;clear hd))
   go_ret2
   exact⟨rfl,HB.out⟩
  rw[if_neg d6] at h;by_cases c2:a8 > 1000
  ·rw[if_pos c2] at h;simp only[Option.some.injEq,Prod.mk.injEq] at h;obtain⟨rfl,rfl⟩:=h;have d7:decide (a8 < 1)=false:=decide_eq_false d6;have d9:decide (1000 < a8)=true:=dE c2;go_enter Try.func11,Try.ntmps11
   go_wp2_with (first|((with_reducible refine gc 30 rfl ?_);refine gC 30 (some 9) Try.func30 #[.slice a6 l0.length a7] ?_;refine(Bzw.calls k _ _ l0 0 _ b8.out b9.out HE.out).mono ?_;rintro e d8 ⟨rfl,hd⟩;have HB:=aM (Drawn0.below hd);refine⟨_,rfl,?_⟩;clear hd))
   go_ret2
   exact⟨rfl,HB.out⟩
  rw[if_neg c2] at h;by_cases c3:0 < l0.length∧l0.length≤1000000∧0≤Azx.at_ a8 (l0.length:Int)∧Azx.at_ a8 (l0.length:Int) < (l0.length:Int)
  ·rw[if_pos c3] at h;simp only[Option.some.injEq,Prod.mk.injEq] at h;obtain⟨rfl,rfl⟩:=h;have d7:decide (a8 < 1)=false:=decide_eq_false d6;have d9:decide (1000 < a8)=false:=decide_eq_false c2;obtain⟨d1,d2,d3,d4⟩:=c3;obtain⟨ad,ead,hcells⟩:∃ ad:Addr,a6=some ad∧∀ j,j < l0.length→w.cell? (ad.add j)=some (.int .i64 (l0[j]?.getD 0)):=by
    obtain⟨ad,e6,e7⟩:=b8.out.2.2 (by omega)
    refine⟨ad,e6,fun j hj=>?_⟩
    obtain⟨cs,e8,e9,f3⟩:=e7 j (l0[j]) (List.getElem?_eq_getElem hj);obtain rfl:cs=[.int .i64 l0[j]]:=e9;have:=f3 0 _ rfl;rw[show j * (Kd.int .i64).sz+0=j from Nat.mul_one j] at this
    simpa [hj] using this
   subst ead;have hadlt:ad.block < w.heap.size:=by
    have f4:=World.block_lt_of_cell? w _ (hcells 0 d1);rwa [Go.Proofs.Ytokkiljkgejnhaa.Sorts.add_block] at f4
   have hcS:∀ W,W.heap.size=w.heap.size→Below w.heap.size w W→Calls Try.prog 31 #[.func (.func 59) #[] #[.pointer (some ⟨W.heap.size,0,none⟩)]] (W.alloc (.cells #[.slice (some ad) l0.length a7] 22)) fun e W'=>∃ gb cap,e=.returned (.slice (some ⟨gb,0,none⟩) l0.length cap)∧(∀ i,0≤i→i < (l0.length:Int)→W'.cell? ⟨gb,i.toNat,none⟩=some (.int .i64 (rd (Azx.srt l0) i)))∧Below w.heap.size w W':=by
    intro W hsz hW;have hW1:Below w.heap.size w (W.alloc (.cells #[.slice (some ad) l0.length a7] 22)):=hW.alloc (by omega) _
    refine(Go.Proofs.Ytokkiljkgejnhaa.Sorts.sorted_calls W.heap.size a7 ad l0 d1 (Nat.le_trans d2 (by decide)) (by omega) _ (by simp) (by simp;omega) ((blk_cell (blk_new W (.cells #[.slice (some ad) l0.length a7] 22)) 0).trans rfl) (fun j hj=>(hW1.cell (p:=ad.add j) (by rw[Go.Proofs.Ytokkiljkgejnhaa.Sorts.add_block];exact hadlt)).trans (hcells j hj))).mono ?_
    rintro e W' ⟨v,rfl,hrow,hbl⟩;rcases hrow.2 with ⟨rfl,hz0⟩|⟨gb,cap',cur,rfl,hbase,hgb,b4,b5,f6,f9⟩
    ·omega
    ·refine⟨gb,cap',rfl,fun i f4 g4=>?_,hW1.trans (hbl.mono (by simp;omega))⟩
     rw[blk_cell hgb];have hl:i.toNat < (Azx.srt l0).length:=by rw[(Azx.srt_perm l0).length_eq];omega
     have d0:(cur.toList.take (l0.length * 1))[i.toNat]?=((Azx.srt l0).map (Value.int .i64))[i.toNat]?:=by rw[f9,Azx.srt_eq]
     rw[List.getElem?_take,if_pos (by omega),Array.getElem?_toList] at d0
     rw[d0,List.getElem?_map,List.getElem?_eq_getElem hl];show some (Value.int .i64 _)=some (Value.int .i64 ((Azx.srt l0).getD i.toNat 0))
     simp [hl]
   have HS:=aM hcS;have HAT:=aM (And.intro d3 d4);obtain⟨j0,hj0⟩:∃ j_:Int,wrap64 (a8 * (l0.length:Int))=j_:=⟨_,rfl⟩;obtain⟨j1,hj1⟩:∃ j_:Int,wrap64 (j0+999)=j_:=⟨_,rfl⟩;obtain⟨jd,hjd⟩:∃ j_:Int,wrap64 (Int.tdiv j1 1000)=j_:=⟨_,rfl⟩;obtain⟨j2,hj2⟩:∃ j_:Int,wrap64 (jd - 1)=j_:=⟨_,rfl⟩;have hat:Azx.at_ a8 (l0.length:Int)=j2:=by unfold Azx.at_;rw[hj0,hj1,hjd,hj2]
   rw[hat] at d3 d4 ⊢;have hjd':=(i64_w _).trans hjd;have hj2':=(i64_w _).trans hj2;rw[← i64_w] at hj0 hj1;have g5:=eq_true d3;have g6:=eq_true d4;clear hat HAT hcS hcells hadlt;go_enter Try.func11,Try.ntmps11
   go_wp2_with (first|((with_reducible refine gc 30 rfl ?_);refine gC 30 (some 9) Try.func30 #[.slice (some ad) l0.length a7] ?_;refine(Bzw.calls k _ _ l0 0 _ b8.out b9.out HE.out).mono ?_;rintro e d8 ⟨rfl,hd⟩;have HB:=aM (Drawn0.below hd);have HSZ:=aM (show d8.heap.size=w.heap.size by obtain⟨n_,rfl⟩:=hd.out;rfl);refine⟨_,rfl,?_⟩;clear hd)|((with_reducible refine gc 32 rfl ?_);refine gC 32 (some 20) Try.func32 #[.slice (some ad) l0.length a7] ?_;refine(Go.Proofs.Ytokkiljkgejnhaa.Sorts.values_calls (some ad) l0.length a7 d8).mono ?_;rintro e g7 ⟨rfl,rfl⟩;refine⟨_,rfl,?_⟩)|((with_reducible refine gate_callee (f:=31) rfl ?_);refine goesL_ (some 21) rfl rfl Try.func31 (by kernel_rfl) rfl #[.func (.func 59) #[] #[.pointer (some ⟨d8.heap.size,0,none⟩)]] rfl (by first|exact mA|(simp [Act.eval];done)) ?_;refine(HS.out d8 HSZ.out HB.out).mono ?_;rintro e g8 ⟨gb,cap,rfl,hcl,hbl⟩;have g9:=aM hbl;have hx:=hcl j2 d3 d4;refine⟨_,rfl,?_⟩;clear hbl hcl))
   go_ret2
   exact⟨rfl,g9.out⟩
  ·rw[if_neg c3] at h;cases h
 ·rw[if_neg c] at h;simp only[Option.some.injEq,Prod.mk.injEq] at h;obtain⟨rfl,rfl⟩:=h;have j5:(d0 != 0)=true:=by simpa using c
  have d7:(d0 == 0)=false:=by simpa using c
  go_enter Try.func11,Try.ntmps11
  go_wp2_with (first|((with_reducible refine gc 30 rfl ?_);refine gC 30 (some 9) Try.func30 #[.slice a6 l0.length a7] ?_;refine(Bzw.calls k _ _ l0 d0 _ b8.out b9.out HE.out).mono ?_;rintro e d8 ⟨rfl,hd⟩;have HB:=aM (Drawn0.below hd);refine⟨_,rfl,?_⟩;clear hd))
  go_ret2
  exact⟨rfl,HB.out⟩


def Fzw.f (a0:Int) (l1:List Int):Option (Bool):=if 0 < (l1.length:Int) then(some (decide (a0 > (rd l1 0)))) else(none)
theorem Fzw.calls (a6:Int) (a7:Option Addr) (a8:Nat) (l1:List Int) (r:Bool) (w:World) (b4:Kd.C (Kd.int .i64) w a7 l1.length l1) (b5:l1.length≤a8) (h:Fzw.f a6 l1=some r) :
  Calls Try.prog 35 #[.int .i64 a6,.pointer a7] w fun e w'=>e=.returned (.bool r)∧Drawn0 w w':=by
 have b6:=aM b4;have b7:=aM b5;clear b4 b5;have H:(if 0 < (l1.length:Int) then(some (decide (a6 > (rd l1 0)))) else(none))=some r:=h
 clear h;by_cases c3:0 < (l1.length:Int)
 ·rw[if_pos c3] at H;have b8:=dE c3;have b9:decide (0 < l1.length)=true:=dE (by omega)
  clear c3;obtain rfl:=Option.some.inj H;have d0:0≤(0:Int):=(by omega)
  have d6:0 < (l1.length:Int):=oE aS
  obtain⟨d7,d8,d9⟩:=Kd.at_int b6.out 0 d0 d6;cases d8
  have e6:(0 < l1.length)=True:=eq_true (by omega)
  (try rw[show((0:Int)).toNat=0 from rfl] at d9)
  (try rw[Addr.add_zero'] at d9)
  replace d0:=eq_true d0;replace d6:=eq_true d6;go_enter Try.func35,Try.ntmps35
  go_wp2
  go_ret
  exact⟨sD,dR⟩
 ·rw[if_neg c3] at H;exact absurd H (by simp)

def Fzv.f (a0:Int) (l1:List Int):Option (Bool):=if 0 < (l1.length:Int) then(some (decide (a0 < (rd l1 0)))) else(none)
theorem Fzv.calls (a6:Int) (a7:Option Addr) (a8:Nat) (l1:List Int) (r:Bool) (w:World) (b4:Kd.C (Kd.int .i64) w a7 l1.length l1) (b5:l1.length≤a8) (h:Fzv.f a6 l1=some r) :
  Calls Try.prog 36 #[.int .i64 a6,.pointer a7] w fun e w'=>e=.returned (.bool r)∧Drawn0 w w':=by
 have b6:=aM b4;have b7:=aM b5;clear b4 b5;have H:(if 0 < (l1.length:Int) then(some (decide (a6 < (rd l1 0)))) else(none))=some r:=h
 clear h;by_cases c3:0 < (l1.length:Int)
 ·rw[if_pos c3] at H;have b8:=dE c3;have b9:decide (0 < l1.length)=true:=dE (by omega)
  clear c3;obtain rfl:=Option.some.inj H;have d0:0≤(0:Int):=(by omega)
  have d6:0 < (l1.length:Int):=oE aS
  obtain⟨d7,d8,d9⟩:=Kd.at_int b6.out 0 d0 d6;cases d8
  have e6:(0 < l1.length)=True:=eq_true (by omega)
  (try rw[show((0:Int)).toNat=0 from rfl] at d9)
  (try rw[Addr.add_zero'] at d9)
  replace d0:=eq_true d0;replace d6:=eq_true d6;go_enter Try.func36,Try.ntmps36
  go_wp2
  go_ret
  exact⟨sD,dR⟩
 ·rw[if_neg c3] at H;exact absurd H (by simp)

def Azy.l0:Nat→Int→Int→List Int→Int→Int→List Int→Option (Int)
 | 0,_,_,_,_,_,_=>none
 | k+1,x5,x6,x9,x10,x11,x910=>if x11 < x10 then(if 0≤x11 then(if x11 < (x9.length:Int) then((Fzw.f (rd x9 x11) x910).bind fun t233=>(if t233=true then(Azy.l0 k (mx x5 (wrap64 (x6+1))) (wrap64 (x6+1)) x9 x10 (wrap64 (x11+1)) x910) else(Azy.l0 k (mx x5 0) 0 x9 x10 (wrap64 (x11+1)) x910))) else(none)) else(none)) else(some x5)
def Azy.f (k:Nat) (l0:List Int) (l1_0:List Int):Option (Int):=Azy.l0 k 0 0 l0 (l0.length:Int) 0 l1_0
theorem Azy.mono_l:∀ k,(∀ a6 a7 a8 b4 b5 b6,LeO (Azy.l0 k a6 a7 a8 b4 b5 b6) (Azy.l0 (k+1) a6 a7 a8 b4 b5 b6))
 | 0=>fun _ _ _ _ _ _ r h=>by simp [Azy.l0] at h
 | k+1=>by
  have ih0:=Azy.mono_l k
  ·intro a6 a7 a8 b4 b5 b6;unfold Azy.l0;exact mM
theorem Azy.mono:∀ a6 a7 k,LeO (Azy.f k a6 a7) (Azy.f (k+1) a6 a7):=by
 intro a6 a7 k;have ih0:=Azy.mono_l k;unfold Azy.f;exact mM
theorem Azy.calls (k:Nat) (a6:Option Addr) (a7:Nat) (l0:List Int) (a8:Option Addr) (b4:Nat) (b5:List Int) (r:Int) (w:World) (b6:Kd.C (Kd.int .i64) w a6 l0.length l0) (b7:l0.length≤a7) (b8:Kd.C (Kd.int .i64) w a8 b5.length b5) (b9:b5.length≤b4) (h:Azy.f k l0 b5=some r) :
  Calls Try.prog 34 #[.slice a6 l0.length a7,.func (.func 35) #[] #[.pointer a8]] w fun e w'=>e=.returned (.int .i64 r)∧Below w.heap.size w w':=by
 have d0:=aM b6;have d6:=aM b7;clear b6 b7;have d7:=aM b8;have d8:=aM b9;clear b8 b9;have HB:=aM (Below.refl w.heap.size w);have H:(Azy.l0 k 0 0 l0 (l0.length:Int) 0 b5)=some r:=h;clear h;have H':=aM H;clear H;go_enter Try.func34,Try.ntmps34
 go_wp2
 go_loopg [5,6,11] k (fun kq d9 e6 e7 w'=>∃ (e8:Int) (e9:Int) (f3:Int),d9=.int .i64 e8∧e6=.int .i64 e9∧e7=.int .i64 f3∧Aside0 (Azy.l0 kq e8 e9 l0 (l0.length:Int) f3 b5=some r)∧Aside0 (kq≤k)∧Aside0 (Below w.heap.size w w'))
 case atStart=>exact⟨(0),(0),(0),sD,sD,sD,H',⟨Nat.le_refl _⟩,⟨pB⟩⟩
 case round =>
  clear H';try clear f4
  try clear f6
  obtain⟨e8,e9,f3,rfl,rfl,rfl,HA,f9,HB⟩:=hrel;cases gk with
  | zero=>exact absurd HA.out (by simp [Azy.l0])
  | succ k1 =>
   have H:=HA.out;clear HA;simp only[Azy.l0] at H;by_cases c3:f3 < (l0.length:Int)
   ·rw[if_pos c3] at H;have g4:=dE c3;clear c3;obtain⟨g5,H⟩:=iN H;obtain⟨g6,H⟩:=iN H;obtain⟨g7,g8,H⟩:=bT H;(try dsimp only at H);by_cases c7:g7=true
    ·subst c7;rw[if_pos rfl] at H;obtain⟨g9,j5⟩:∃ j_:Int,(mx e8 (wrap64 (e9+1)))=j_:=⟨_,rfl⟩;replace H:(Azy.l0 k1 g9 (wrap64 (e9+1)) l0 (l0.length:Int) (wrap64 (f3+1)) b5)=some r:=by first|(rw[j5] at H;exact H)|(simp only[j5] at H ⊢;exact H)
     (try rw[j5] at g8)
     have j6:(if e8 < (wrap64 (e9+1)) then(wrap64 (e9+1)) else e8)=g9:=j5
     have H':=aM H;clear H;obtain⟨j7,j8,j9,l5,l6⟩:=aI d0.out f3;cases j8
     replace j9:=hB HB j9;go_wp2_with (first|(go_at_call 35;(with_reducible refine(Fzw.calls (rd l0 f3) _ b4 b5 true _ ?_ ?_ g8.out).mono ?_);exact cB d7;exact d8.out;rintro e w' ⟨rfl,⟨nd,rfl⟩⟩))
     go_roundg k1
     case measure=>have:=f9.out;omega
     case rel=>exact⟨(g9),(wrap64 (e9+1)),(wrap64 (f3+1)),(by first|rfl|(simp;done)|(simp only[← j5] <;> (first|rfl|simp))|(simp [*];done)),sD,sD,H',⟨by have:=f9.out;omega⟩,⟨pB⟩⟩
    ·obtain rfl:=bN c7;rw[if_neg nF] at H
     obtain⟨l7,l8⟩:∃ j_:Int,(mx e8 0)=j_:=⟨_,rfl⟩;replace H:(Azy.l0 k1 l7 0 l0 (l0.length:Int) (wrap64 (f3+1)) b5)=some r:=by first|(rw[l8] at H;exact H)|(simp only[l8] at H ⊢;exact H)
     (try rw[l8] at g8)
     have l9:(if e8 < 0 then 0 else e8)=l7:=l8
     have H':=aM H;clear H;obtain⟨j7,j8,j9,l5,l6⟩:=aI d0.out f3;cases j8
     replace j9:=hB HB j9;go_wp2_with (first|(go_at_call 35;(with_reducible refine(Fzw.calls (rd l0 f3) _ b4 b5 false _ ?_ ?_ g8.out).mono ?_);exact cB d7;exact d8.out;rintro e w' ⟨rfl,⟨nd,rfl⟩⟩))
     go_roundg k1
     case measure=>have:=f9.out;omega
     case rel=>exact⟨(l7),(0),(wrap64 (f3+1)),(by first|rfl|(simp;done)|(simp only[← l8] <;> (first|rfl|simp))|(simp [*];done)),sD,sD,H',⟨by have:=f9.out;omega⟩,⟨pB⟩⟩
   ·rw[if_neg c3] at H;have g4:decide (f3 < (l0.length:Int))=false:=decide_eq_false c3;clear c3;obtain rfl:=Option.some.inj H;go_wp2
    go_ret
    exact⟨eW,pB⟩


def Azv.l0:Nat→Int→Int→List Int→Int→Int→List Int→Option (Int)
 | 0,_,_,_,_,_,_=>none
 | k+1,x5,x6,x9,x10,x11,x910=>if x11 < x10 then(if 0≤x11 then(if x11 < (x9.length:Int) then((Fzv.f (rd x9 x11) x910).bind fun t238=>(if t238=true then(Azv.l0 k (mx x5 (wrap64 (x6+1))) (wrap64 (x6+1)) x9 x10 (wrap64 (x11+1)) x910) else(Azv.l0 k (mx x5 0) 0 x9 x10 (wrap64 (x11+1)) x910))) else(none)) else(none)) else(some x5)
def Azv.f (k:Nat) (l0:List Int) (l1_0:List Int):Option (Int):=Azv.l0 k 0 0 l0 (l0.length:Int) 0 l1_0
theorem Azv.mono_l:∀ k,(∀ a6 a7 a8 b4 b5 b6,LeO (Azv.l0 k a6 a7 a8 b4 b5 b6) (Azv.l0 (k+1) a6 a7 a8 b4 b5 b6))
 | 0=>fun _ _ _ _ _ _ r h=>by simp [Azv.l0] at h
 | k+1=>by
  have ih0:=Azv.mono_l k
  ·intro a6 a7 a8 b4 b5 b6;unfold Azv.l0;exact mM
theorem Azv.mono:∀ a6 a7 k,LeO (Azv.f k a6 a7) (Azv.f (k+1) a6 a7):=by
 intro a6 a7 k;have ih0:=Azv.mono_l k;unfold Azv.f;exact mM
theorem Azv.calls (k:Nat) (a6:Option Addr) (a7:Nat) (l0:List Int) (a8:Option Addr) (b4:Nat) (b5:List Int) (r:Int) (w:World) (b6:Kd.C (Kd.int .i64) w a6 l0.length l0) (b7:l0.length≤a7) (b8:Kd.C (Kd.int .i64) w a8 b5.length b5) (b9:b5.length≤b4) (h:Azv.f k l0 b5=some r) :
  Calls Try.prog 34 #[.slice a6 l0.length a7,.func (.func 36) #[] #[.pointer a8]] w fun e w'=>e=.returned (.int .i64 r)∧Below w.heap.size w w':=by
 have d0:=aM b6;have d6:=aM b7;clear b6 b7;have d7:=aM b8;have d8:=aM b9;clear b8 b9;have HB:=aM (Below.refl w.heap.size w);have H:(Azv.l0 k 0 0 l0 (l0.length:Int) 0 b5)=some r:=h;clear h;have H':=aM H;clear H;go_enter Try.func34,Try.ntmps34
 go_wp2
 go_loopg [5,6,11] k (fun kq d9 e6 e7 w'=>∃ (e8:Int) (e9:Int) (f3:Int),d9=.int .i64 e8∧e6=.int .i64 e9∧e7=.int .i64 f3∧Aside0 (Azv.l0 kq e8 e9 l0 (l0.length:Int) f3 b5=some r)∧Aside0 (kq≤k)∧Aside0 (Below w.heap.size w w'))
 case atStart=>exact⟨(0),(0),(0),sD,sD,sD,H',⟨Nat.le_refl _⟩,⟨pB⟩⟩
 case round =>
  clear H';try clear f4
  try clear f6
  obtain⟨e8,e9,f3,rfl,rfl,rfl,HA,f9,HB⟩:=hrel;cases gk with
  | zero=>exact absurd HA.out (by simp [Azv.l0])
  | succ k1 =>
   have H:=HA.out;clear HA;simp only[Azv.l0] at H;by_cases c3:f3 < (l0.length:Int)
   ·rw[if_pos c3] at H;have g4:=dE c3;clear c3;obtain⟨g5,H⟩:=iN H;obtain⟨g6,H⟩:=iN H;obtain⟨g7,g8,H⟩:=bT H;(try dsimp only at H);by_cases c7:g7=true
    ·subst c7;rw[if_pos rfl] at H;obtain⟨g9,j5⟩:∃ j_:Int,(mx e8 (wrap64 (e9+1)))=j_:=⟨_,rfl⟩;replace H:(Azv.l0 k1 g9 (wrap64 (e9+1)) l0 (l0.length:Int) (wrap64 (f3+1)) b5)=some r:=by first|(rw[j5] at H;exact H)|(simp only[j5] at H ⊢;exact H)
     (try rw[j5] at g8)
     have j6:(if e8 < (wrap64 (e9+1)) then(wrap64 (e9+1)) else e8)=g9:=j5
     have H':=aM H;clear H;obtain⟨j7,j8,j9,l5,l6⟩:=aI d0.out f3;cases j8
     replace j9:=hB HB j9;go_wp2_with (first|(go_at_call 36;(with_reducible refine(Fzv.calls (rd l0 f3) _ b4 b5 true _ ?_ ?_ g8.out).mono ?_);exact cB d7;exact d8.out;rintro e w' ⟨rfl,⟨nd,rfl⟩⟩))
     go_roundg k1
     case measure=>have:=f9.out;omega
     case rel=>exact⟨(g9),(wrap64 (e9+1)),(wrap64 (f3+1)),(by first|rfl|(simp;done)|(simp only[← j5] <;> (first|rfl|simp))|(simp [*];done)),sD,sD,H',⟨by have:=f9.out;omega⟩,⟨pB⟩⟩
    ·obtain rfl:=bN c7;rw[if_neg nF] at H
     obtain⟨l7,l8⟩:∃ j_:Int,(mx e8 0)=j_:=⟨_,rfl⟩;replace H:(Azv.l0 k1 l7 0 l0 (l0.length:Int) (wrap64 (f3+1)) b5)=some r:=by first|(rw[l8] at H;exact H)|(simp only[l8] at H ⊢;exact H)
     (try rw[l8] at g8)
     have l9:(if e8 < 0 then 0 else e8)=l7:=l8
     have H':=aM H;clear H;obtain⟨j7,j8,j9,l5,l6⟩:=aI d0.out f3;cases j8
     replace j9:=hB HB j9;go_wp2_with (first|(go_at_call 36;(with_reducible refine(Fzv.calls (rd l0 f3) _ b4 b5 false _ ?_ ?_ g8.out).mono ?_);exact cB d7;exact d8.out;rintro e w' ⟨rfl,⟨nd,rfl⟩⟩))
     go_roundg k1
     case measure=>have:=f9.out;omega
     case rel=>exact⟨(l7),(0),(wrap64 (f3+1)),(by first|rfl|(simp;done)|(simp only[← l8] <;> (first|rfl|simp))|(simp [*];done)),sD,sD,H',⟨by have:=f9.out;omega⟩,⟨pB⟩⟩
   ·rw[if_neg c3] at H;have g4:decide (f3 < (l0.length:Int))=false:=decide_eq_false c3;clear c3;obtain rfl:=Option.some.inj H;go_wp2
    go_ret
    exact⟨eW,pB⟩

def Ezv.f (k:Nat) (l0:List Int) (a1:Int):Option (Int × Int × Int):=(Bzw.f k l0).bind fun t240=>(if t240=0 then((Azy.f k l0 [a1]).bind fun t241=>((Azv.f k l0 [a1]).bind fun t242=>(some (t241,t242,0)))) else(some (0,0,t240)))
theorem Ezv.mono:∀ a6 a7 k,LeO (Ezv.f k a6 a7) (Ezv.f (k+1) a6 a7):=by
 intro a6 a7 k;unfold Ezv.f;have i0:=@Bzw.mono;have i1:=@Azy.mono;have i2:=@Azv.mono;exact mM
theorem Ezv.calls (k:Nat) (a6:Option Addr) (a7:Nat) (l0:List Int) (a8:Int) (b4:Int) (b5:Int) (b6:Int) (w:World) (b7:Kd.C (Kd.int .i64) w a6 l0.length l0) (b8:l0.length≤a7) (h:Ezv.f k l0 a8=some (b4,b5,b6)) :
  Calls Try.prog 13 #[.slice a6 l0.length a7,.int .i64 a8] w fun e w'=>e=.returned (.tuple #[.int .i64 b4,.int .i64 b5,.int .i64 b6])∧Below w.heap.size w w':=by
 have b9:=aM b7;have d0:=aM b8;clear b7 b8;have HB:=aM (Below.refl w.heap.size w);have H:((Bzw.f k l0).bind fun d6=>(if d6=0 then((Azy.f k l0 [a8]).bind fun d7=>((Azv.f k l0 [a8]).bind fun d8=>(some (d7,d8,0)))) else(some (0,0,d6))))=some (b4,b5,b6):=h
 clear h;obtain⟨d6,d9,H⟩:=bT H;(try dsimp only at H);by_cases c4:d6=0
 ·rw[if_pos c4] at H;have e6:(d6 == 0)=true:=beq_iff_eq.mpr c4;have e7:(d6 != 0)=false:=bne_eq_false_iff_eq.mpr c4;clear c4;obtain⟨d7,e8,H⟩:=bT H;(try dsimp only at H);replace H:=bS H;obtain⟨d8,e9,H⟩:=H;replace H:(some (d7,d8,0))=some (b4,b5,b6):=H;have f3:=aM e9;clear e9;obtain⟨rfl,rfl,rfl⟩:=q3 H;have hmf_:∀ (fn:Fn) (first cap:Array Value) (w:World),(Instr.makeFunc fn first cap).run Try.prog w=.ok (.func fn first cap) w:=fun _ _ _ _=>rfl
  go_enter Try.func13,Try.ntmps13
  go_wp2_with (first|((with_reducible refine gd 3 rfl ?_);refine bx #[.int .i64 a8] 3 ?_;intro f4 hg f6 f9 hb;have g4:=gA w hg;have g5:=gA w hg;replace HB:=bB hb;clear hb hg)|((with_reducible refine gc 30 rfl ?_);refine gC 30 (some 11) Try.func30 #[.slice a6 l0.length a7] ?_;(with_reducible refine(Bzw.calls k _ _ l0 d6 _ ?_ ?_ d9.out).mono ?_);exact cB b9;exact d0.out;rintro e w' ⟨rfl,⟨nd,rfl⟩⟩;refine⟨_,rfl,?_⟩)|((with_reducible refine gc 34 rfl ?_);refine gC 34 (some 17) Try.func34 #[.slice a6 l0.length a7,.func (.func 35) #[] #[.pointer (some ⟨f4,0,none⟩)]] ?_;(with_reducible refine(Azy.calls k _ _ l0 _ 1 [a8] d7 _ ?_ ?_ ?_ ?_ e8.out).mono ?_);exact cB b9;exact d0.out;exact Kd.cap_C (kW f9) rfl;exact Nat.le_refl _;rintro e g6 ⟨rfl,hb⟩;refine⟨_,rfl,?_⟩;replace f9:=kb f9 hb;replace HB:=bB hb;clear hb)|((with_reducible refine gc 34 rfl ?_);refine gC 34 (some 20) Try.func34 #[.slice a6 l0.length a7,.func (.func 36) #[] #[.pointer (some ⟨f4,0,none⟩)]] ?_;(with_reducible refine(Azv.calls k _ _ l0 _ 1 [a8] d8 _ ?_ ?_ ?_ ?_ f3.out).mono ?_);exact cB b9;exact d0.out;exact Kd.cap_C (kW f9) rfl;exact Nat.le_refl _;rintro e g7 ⟨rfl,hb⟩;refine⟨_,rfl,?_⟩;replace f9:=kb f9 hb;replace HB:=bB hb;clear hb))
  go_ret3
  exact⟨eW,pB⟩
 ·rw[if_neg c4] at H;have e6:(d6 == 0)=false:=beq_eq_false_iff_ne.mpr c4;have e7:(d6 != 0)=true:=bne_iff_ne.mpr c4;obtain⟨rfl,rfl,rfl⟩:=q3 H;have hmf_:∀ (fn:Fn) (first cap:Array Value) (w:World),(Instr.makeFunc fn first cap).run Try.prog w=.ok (.func fn first cap) w:=fun _ _ _ _=>rfl
  go_enter Try.func13,Try.ntmps13
  go_wp2_with (first|((with_reducible refine gd 3 rfl ?_);refine bx #[.int .i64 a8] 3 ?_;intro f4 hg g8 f9 hb;have g4:=gA w hg;have g5:=gA w hg;replace HB:=bB hb;clear hb hg)|((with_reducible refine gc 30 rfl ?_);refine gC 30 (some 11) Try.func30 #[.slice a6 l0.length a7] ?_;(with_reducible refine(Bzw.calls k _ _ l0 d6 _ ?_ ?_ d9.out).mono ?_);exact cB b9;exact d0.out;rintro e w' ⟨rfl,⟨nd,rfl⟩⟩;refine⟨_,rfl,?_⟩))
  go_ret3
  exact⟨eW,pB⟩

end Go.Proofs.Ytokkiljkgejnhaa.Print
