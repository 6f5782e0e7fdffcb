import Derived.Test.YtokkiljkgejnhaaGreatSorts
import Derived.Test.YtokkiljkgejnhaaGreatPrint0
import Derived.Test.YtokkiljkgejnhaaGreatPrint10
namespace Go.Proofs.YtokkiljkgejnhaaGreat.Print
open Go.RowKit Go.Proofs.YtokkiljkgejnhaaGreatW.PrintWords Go.Proofs.YtokkiljkgejnhaaGreatW.PrintLast Go.Proofs.YtokkiljkgejnhaaGreatW.PrintMore
attribute [local go_sem] max2_int min2_int max_two min_two max_three min_three max_four min_four
set_option linter.unusedVariables false
set_option maxRecDepth 100000
set_option maxHeartbeats 8000000
set_option linter.unusedSimpArgs false






/-- The elements in order. -/
def Bzv.ins (x:Int):List Int→List Int
 | []=>[x]
 | y :: l=>if x≤y then x :: y :: l else y :: Bzv.ins x l
def Bzv.srt:List Int→List Int
 | []=>[]
 | x :: l=>Bzv.ins x (Bzv.srt l)
theorem Bzv.ins_perm (x:Int) (l:List Int):(Bzv.ins x l).Perm (x :: l):=by
 induction l with
 | nil=>exact List.Perm.refl _
 | cons y l ih =>
  unfold Bzv.ins;split
  ·exact List.Perm.refl _
  ·exact(List.Perm.cons y ih).trans (List.Perm.swap x y l)
theorem Bzv.srt_perm (l:List Int):(Bzv.srt l).Perm l:=by
 induction l with
 | nil=>exact List.Perm.refl _
 | cons x l ih=>exact(Bzv.ins_perm x _).trans (ih.cons x)
theorem Bzv.ins_sorted (x:Int) (l:List Int) (h:l.Pairwise (·≤·)):(Bzv.ins x l).Pairwise (·≤·):=by
 induction l with
 | nil=>simp [Bzv.ins]
 | cons y l ih =>
  rw[List.pairwise_cons] at h;unfold Bzv.ins;split
  ·rw[List.pairwise_cons,List.pairwise_cons];exact⟨fun z hz=>by rcases List.mem_cons.1 hz with rfl|hz;(first|assumption|omega);(have:=h.1 z hz;omega),h.1,h.2⟩
  ·rw[List.pairwise_cons];refine⟨fun z hz=>?_,ih h.2⟩
   rcases List.mem_cons.1 ((Bzv.ins_perm x l).mem_iff.1 hz) with rfl|hz
   ·omega
   ·exact h.1 z hz
theorem Bzv.srt_sorted (l:List Int):(Bzv.srt l).Pairwise (·≤·):=by
 induction l with
 | nil=>exact List.Pairwise.nil
 | cons x l ih=>exact Bzv.ins_sorted x _ ih
theorem Bzv.srt_eq (l:List Int):l.mergeSort (fun x y=>decide (x≤y))=Bzv.srt l:=by
 have a6:=List.pairwise_mergeSort (le:=fun x y:Int=>decide (x≤y)) (fun a b c h h'=>by simp only[decide_eq_true_eq] at *;omega) (fun a b=>by simp only[Bool.or_eq_true,decide_eq_true_eq];omega) l
 refine List.Perm.eq_of_pairwise (le:=fun x y=>x≤y) (fun a b _ _ h h'=>Int.le_antisymm h h') (a6.imp (fun h=>oE h)) (Bzv.srt_sorted l) ((List.mergeSort_perm l _).trans (Bzv.srt_perm l).symm)
def Bzv.at_ (p n:Int):Int:=wrap64 (wrap64 (Int.tdiv (wrap64 (wrap64 (p * n)+999)) 1000) - 1)
def Bzv.f (k:Nat) (l0:List Int) (a1:Int):Option (Int × Int) :=
 (Czy.f k l0).bind fun e=>if e=0 then(if a1 < 1 then some (0,1) else(if a1 > 1000 then some (0,1) else(if 0 < l0.length∧l0.length≤1000000∧0≤Bzv.at_ a1 (l0.length:Int)∧Bzv.at_ a1 (l0.length:Int) < (l0.length:Int) then some (rd (Bzv.srt l0) (Bzv.at_ a1 (l0.length:Int)),0) else none))) else some (0,e)
theorem Bzv.mono:∀ a6 a7 k,LeO (Bzv.f k a6 a7) (Bzv.f (k+1) a6 a7):=by
 intro a6 a7 k;unfold Bzv.f;exact LeO.bind (Czy.mono _ k) (fun _=>LeO.refl _)
theorem Bzv.calls (k:Nat) (a6:Option Addr) (a7:Nat) (l0:List Int) (a8:Int) (b4 b5:Int) (w:World) (b6:Kd.C (Kd.int .i64) w a6 l0.length l0) (b7:l0.length≤a7) (h:Bzv.f k l0 a8=some (b4,b5)) :
  Calls Tryz.prog 12 #[.slice a6 l0.length a7,.int .i64 a8] w fun e w'=>e=.returned (.tuple #[.int .i64 b4,.int .i64 b5])∧Below w.heap.size w w':=by
 have b8:=aM b6;have b9:=aM b7;clear b6 b7;unfold Bzv.f at h;rw[Option.bind_eq_some_iff] at h;obtain⟨d0,he,h⟩:=h;have HE:=aM he;clear he;by_cases c:d0=0
 ·subst c;rw[if_pos rfl] at h;by_cases d6:a8 < 1
  ·rw[if_pos d6] at h;simp only[Option.some.injEq,Prod.mk.injEq] at h;obtain⟨rfl,rfl⟩:=h;have d7:decide (a8 < 1)=true:=dE d6;go_enter Tryz.func12,Tryz.ntmps12
   go_wp2_with (first|((with_reducible refine gc 9 rfl ?_);refine gC 9 (some 9) Tryz.func9 #[.slice a6 l0.length a7] ?_;refine(Czy.calls k _ _ l0 0 _ b8.out b9.out HE.out).mono ?_;rintro e d8 ⟨rfl,hd⟩;have HB:=aM (Drawn0.below hd);refine⟨_,rfl,?_⟩;clear hd))
   go_ret2
   exact⟨rfl,HB.out⟩
  rw[if_neg d6] at h;by_cases c2:a8 > 1000
  ·rw[if_pos c2] at h;simp only[Option.some.injEq,Prod.mk.injEq] at h;obtain⟨rfl,rfl⟩:=h;have d7:decide (a8 < 1)=false:=decide_eq_false d6;have d9:decide (1000 < a8)=true:=dE c2;go_enter Tryz.func12,Tryz.ntmps12
   go_wp2_with (first|((with_reducible refine gc 9 rfl ?_);refine gC 9 (some 9) Tryz.func9 #[.slice a6 l0.length a7] ?_;refine(Czy.calls k _ _ l0 0 _ b8.out b9.out HE.out).mono ?_;rintro e d8 ⟨rfl,hd⟩;have HB:=aM (Drawn0.below hd);refine⟨_,rfl,?_⟩;clear hd))
   go_ret2
   exact⟨rfl,HB.out⟩
  rw[if_neg c2] at h;by_cases c3:0 < l0.length∧l0.length≤1000000∧0≤Bzv.at_ a8 (l0.length:Int)∧Bzv.at_ a8 (l0.length:Int) < (l0.length:Int)
  ·rw[if_pos c3] at h;simp only[Option.some.injEq,Prod.mk.injEq] at h;obtain⟨rfl,rfl⟩:=h;have d7:decide (a8 < 1)=false:=decide_eq_false d6;have d9:decide (1000 < a8)=false:=decide_eq_false c2;obtain⟨d1,d2,d3,d4⟩:=c3;obtain⟨ad,ead,hcells⟩:∃ ad:Addr,a6=some ad∧∀ j,j < l0.length→w.cell? (ad.add j)=some (.int .i64 (l0[j]?.getD 0)):=by
    obtain⟨ad,e6,e7⟩:=b8.out.2.2 (by omega)
    refine⟨ad,e6,fun j hj=>?_⟩
    obtain⟨cs,e8,e9,f3⟩:=e7 j (l0[j]) (List.getElem?_eq_getElem hj);obtain rfl:cs=[.int .i64 l0[j]]:=e9;have:=f3 0 _ rfl;rw[show j * (Kd.int .i64).sz+0=j from Nat.mul_one j] at this
    simpa [hj] using this
   subst ead;have hadlt:ad.block < w.heap.size:=by
    have f4:=World.block_lt_of_cell? w _ (hcells 0 d1);rwa [Go.Proofs.YtokkiljkgejnhaaGreat.Sorts.add_block] at f4
   have hcS:∀ W,W.heap.size=w.heap.size→Below w.heap.size w W→Calls Tryz.prog 32 #[.func (.func 57) #[] #[.pointer (some ⟨W.heap.size,0,none⟩)]] (W.alloc (.cells #[.slice (some ad) l0.length a7] 22)) fun e W'=>∃ gb cap,e=.returned (.slice (some ⟨gb,0,none⟩) l0.length cap)∧(∀ i,0≤i→i < (l0.length:Int)→W'.cell? ⟨gb,i.toNat,none⟩=some (.int .i64 (rd (Bzv.srt l0) i)))∧Below w.heap.size w W':=by
    intro W hsz hW;have hW1:Below w.heap.size w (W.alloc (.cells #[.slice (some ad) l0.length a7] 22)):=hW.alloc (by omega) _
    refine(Go.Proofs.YtokkiljkgejnhaaGreat.Sorts.sorted_calls W.heap.size a7 ad l0 d1 (Nat.le_trans d2 (by decide)) (by omega) _ (by simp) (by simp;omega) ((blk_cell (blk_new W (.cells #[.slice (some ad) l0.length a7] 22)) 0).trans rfl) (fun j hj=>(hW1.cell (p:=ad.add j) (by rw[Go.Proofs.YtokkiljkgejnhaaGreat.Sorts.add_block];exact hadlt)).trans (hcells j hj))).mono ?_
    rintro e W' ⟨v,rfl,hrow,hbl⟩;rcases hrow.2 with ⟨rfl,hz0⟩|⟨gb,cap',cur,rfl,hbase,hgb,b4,b5,f6,f9⟩
    ·omega
    ·refine⟨gb,cap',rfl,fun i f4 g4=>?_,hW1.trans (hbl.mono (by simp;omega))⟩
     rw[blk_cell hgb];have hl:i.toNat < (Bzv.srt l0).length:=by rw[(Bzv.srt_perm l0).length_eq];omega
     have d0:(cur.toList.take (l0.length * 1))[i.toNat]?=((Bzv.srt l0).map (Value.int .i64))[i.toNat]?:=by rw[f9,Bzv.srt_eq]
     rw[List.getElem?_take,if_pos (by omega),Array.getElem?_toList] at d0
     rw[d0,List.getElem?_map,List.getElem?_eq_getElem hl];show some (Value.int .i64 _)=some (Value.int .i64 ((Bzv.srt l0).getD i.toNat 0))
     simp [hl]
   have HS:=aM hcS;have HAT:=aM (And.intro d3 d4);obtain⟨j0,hj0⟩:∃ j_:Int,wrap64 (a8 * (l0.length:Int))=j_:=⟨_,rfl⟩;obtain⟨j1,hj1⟩:∃ j_:Int,wrap64 (j0+999)=j_:=⟨_,rfl⟩;obtain⟨jd,hjd⟩:∃ j_:Int,wrap64 (Int.tdiv j1 1000)=j_:=⟨_,rfl⟩;obtain⟨j2,hj2⟩:∃ j_:Int,wrap64 (jd - 1)=j_:=⟨_,rfl⟩;have hat:Bzv.at_ a8 (l0.length:Int)=j2:=by unfold Bzv.at_;rw[hj0,hj1,hjd,hj2]
   rw[hat] at d3 d4 ⊢;have hjd':=(i64_w _).trans hjd;have hj2':=(i64_w _).trans hj2;rw[← i64_w] at hj0 hj1;have g5:=eq_true d3;have g6:=eq_true d4;clear hat HAT hcS hcells hadlt;go_enter Tryz.func12,Tryz.ntmps12
   go_wp2_with (first|((with_reducible refine gc 9 rfl ?_);refine gC 9 (some 9) Tryz.func9 #[.slice (some ad) l0.length a7] ?_;refine(Czy.calls k _ _ l0 0 _ b8.out b9.out HE.out).mono ?_;rintro e d8 ⟨rfl,hd⟩;have HB:=aM (Drawn0.below hd);have HSZ:=aM (show d8.heap.size=w.heap.size by obtain⟨n_,rfl⟩:=hd.out;rfl);refine⟨_,rfl,?_⟩;clear hd)|((with_reducible refine gc 33 rfl ?_);refine gC 33 (some 20) Tryz.func33 #[.slice (some ad) l0.length a7] ?_;refine(Go.Proofs.YtokkiljkgejnhaaGreat.Sorts.values_calls (some ad) l0.length a7 d8).mono ?_;rintro e g7 ⟨rfl,rfl⟩;refine⟨_,rfl,?_⟩)|((with_reducible refine gate_callee (f:=32) rfl ?_);refine goesL_ (some 21) rfl rfl Tryz.func32 (by kernel_rfl) rfl #[.func (.func 57) #[] #[.pointer (some ⟨d8.heap.size,0,none⟩)]] rfl (by first|exact mA|(simp [Act.eval];done)) ?_;refine(HS.out d8 HSZ.out HB.out).mono ?_;rintro e g8 ⟨gb,cap,rfl,hcl,hbl⟩;have g9:=aM hbl;have hx:=hcl j2 d3 d4;refine⟨_,rfl,?_⟩;clear hbl hcl))
   go_ret2
   exact⟨rfl,g9.out⟩
  ·rw[if_neg c3] at h;cases h
 ·rw[if_neg c] at h;simp only[Option.some.injEq,Prod.mk.injEq] at h;obtain⟨rfl,rfl⟩:=h;have j3:(d0 != 0)=true:=by simpa using c
  have d7:(d0 == 0)=false:=by simpa using c
  go_enter Tryz.func12,Tryz.ntmps12
  go_wp2_with (first|((with_reducible refine gc 9 rfl ?_);refine gC 9 (some 9) Tryz.func9 #[.slice a6 l0.length a7] ?_;refine(Czy.calls k _ _ l0 d0 _ b8.out b9.out HE.out).mono ?_;rintro e d8 ⟨rfl,hd⟩;have HB:=aM (Drawn0.below hd);refine⟨_,rfl,?_⟩;clear hd))
  go_ret2
  exact⟨rfl,HB.out⟩


mutual
def Azm.l0:Nat→List Int→List Int→Int→Option (List Int × Int)
 | 0,_,_,_=>none
 | k+1,x0,x1,x7=>if x7 < (x1.length:Int) then(if 0≤x7 then(if 0≤(wrap64 (x7 - 1)) then(if(wrap64 (x7 - 1)) < (x1.length:Int) then(if(rd x1 x7)≤(rd x1 (wrap64 (x7 - 1))) then(some (([]:List Int),9)) else(Azm.l0 k x0 x1 (wrap64 (x7+1)))) else(none)) else(none)) else(none)) else(if 0≤(wrap64 ((x1.length:Int) - 1)) then(if(wrap64 ((x1.length:Int) - 1):Int).toNat≤35184372088832 then(Azm.l1 k x1 (List.replicate (wrap64 ((x1.length:Int) - 1):Int).toNat 0) x0 (x0.length:Int) 0) else(none)) else(none))
def Azm.l1:Nat→List Int→List Int→List Int→Int→Int→Option (List Int × Int)
 | 0,_,_,_,_,_=>none
 | k+1,x1,x8,x45,x46,x47=>if x47 < x46 then(if 0≤x47 then(if x47 < (x45.length:Int) then(Azm.l2 k x1 x8 (rd x45 x47) x45 x46 x47 (x8.length:Int) 0) else(none)) else(none)) else(some (x8,0))
def Azm.l2:Nat→List Int→List Int→Int→List Int→Int→Int→Int→Int→Option (List Int × Int)
 | 0,_,_,_,_,_,_,_,_=>none
 | k+1,x1,x8,x10,x45,x46,x47,x52,x53=>if x53 < x52 then(if 0≤x53 then(if x53 < (x1.length:Int) then(if(rd x1 x53)≤x10 then(if 0≤(wrap64 (x53+1)) then(if(wrap64 (x53+1)) < (x1.length:Int) then(if x10 < (rd x1 (wrap64 (x53+1))) then(if x53 < (x8.length:Int) then(Azm.l2 k x1 (x8.set (x53:Int).toNat (wrap64 ((rd x8 x53)+1))) x10 x45 x46 x47 x52 (wrap64 (x53+1))) else(none)) else(Azm.l2 k x1 x8 x10 x45 x46 x47 x52 (wrap64 (x53+1)))) else(none)) else(none)) else(Azm.l2 k x1 x8 x10 x45 x46 x47 x52 (wrap64 (x53+1)))) else(none)) else(none)) else(Azm.l1 k x1 x8 x45 x46 (wrap64 (x47+1)))
end
def Azm.f (k:Nat) (l0:List Int) (l1:List Int):Option (List Int × Int):=(Czy.f k l0).bind fun t618=>(if t618=0 then(if(l1.length:Int) < 2 then(some (([]:List Int),10)) else(if(l1.length:Int) > 64 then(some (([]:List Int),8)) else(Azm.l0 k l0 l1 1))) else(some (([]:List Int),t618)))
theorem Azm.mono_l:∀ k,(∀ a6 a7 a8,LeO (Azm.l0 k a6 a7 a8) (Azm.l0 (k+1) a6 a7 a8))∧(∀ a6 a7 a8 b4 b5,LeO (Azm.l1 k a6 a7 a8 b4 b5) (Azm.l1 (k+1) a6 a7 a8 b4 b5))∧(∀ a6 a7 a8 b4 b5 b6 b7 b8,LeO (Azm.l2 k a6 a7 a8 b4 b5 b6 b7 b8) (Azm.l2 (k+1) a6 a7 a8 b4 b5 b6 b7 b8))
 | 0=>⟨fun _ _ _ r h=>by simp [Azm.l0] at h,fun _ _ _ _ _ r h=>by simp [Azm.l1] at h,fun _ _ _ _ _ _ _ _ r h=>by simp [Azm.l2] at h⟩
 | k+1=>by
  obtain⟨ih0,ih1,ih2⟩:=Azm.mono_l k;have i0:=@Czy.mono;refine⟨?_,?_,?_⟩
  ·intro a6 a7 a8;unfold Azm.l0;exact mM
  ·intro a6 a7 a8 b4 b5;unfold Azm.l1;exact mM
  ·intro a6 a7 a8 b4 b5 b6 b7 b8;unfold Azm.l2;exact mM
theorem Azm.mono:∀ a6 a7 k,LeO (Azm.f k a6 a7) (Azm.f (k+1) a6 a7):=by
 intro a6 a7 k;obtain⟨ih0,ih1,ih2⟩:=Azm.mono_l k;unfold Azm.f;have i0:=@Czy.mono;exact mM
theorem zz36_0 {P:Prop} (h:P:=by
 have fl_:True:=trivial;repeat((first|clear fl_|go_quiet (first|(go_at_call 9;(with_reducible refine(Czy.calls k _ _ l0 e6 _ ?_ ?_ e7.out).mono ?_);exact cX d6.out;exact d7.out;rintro e w' ⟨rfl,⟨nd,rfl⟩⟩;(try exact dD))));go_wp2_with (first|(go_at_call 9;(with_reducible refine(Czy.calls k _ _ l0 e6 _ ?_ ?_ e7.out).mono ?_);exact cX d6.out;exact d7.out;rintro e w' ⟨rfl,⟨nd,rfl⟩⟩;(try exact dD))))
 go_ret2
 exact⟨_,eW,nK,pB⟩):P:=h
theorem Azm.calls (k:Nat) (a6:Option Addr) (a7:Nat) (l0:List Int) (a8:Option Addr) (b4:Nat) (l1:List Int) (b5:List Int) (b6:Int) (w:World) (b7:Kd.C (Kd.int .i64) w a6 l0.length l0) (b8:l0.length≤a7) (b9:Kd.C (Kd.int .i64) w a8 l1.length l1) (d0:l1.length≤b4) (h:Azm.f k l0 l1=some (b5,b6)) :
  Calls Tryz.prog 13 #[.slice a6 l0.length a7,.slice a8 l1.length b4] w fun e w'=>∃ v0_:Value,e=.returned (.tuple #[v0_,.int .i64 b6])∧Kd.R (Kd.int .i64) 3 w' w.heap.size (fun _=>True) v0_ b5∧Below w.heap.size w w':=by
 have d6:=aM b7;have d7:=aM b8;clear b7 b8;have d8:=aM b9;have d9:=aM d0;clear b9 d0;have HB:=aM (Below.refl w.heap.size w);have H:((Czy.f k l0).bind fun e6=>(if e6=0 then(if(l1.length:Int) < 2 then(some (([]:List Int),10)) else(if(l1.length:Int) > 64 then(some (([]:List Int),8)) else(Azm.l0 k l0 l1 1))) else(some (([]:List Int),e6))))=some (b5,b6):=h
 clear h;obtain⟨e6,e7,H⟩:=bT H;(try dsimp only at H);by_cases c4:e6=0
 ·rw[if_pos c4] at H;obtain⟨e8,e9⟩:=bE c4;clear c4;by_cases c5:(l1.length:Int) < 2
  ·rw[if_pos c5] at H;have f3:=dE c5;have f4:decide (l1.length < 2)=true:=dE (by omega)
   clear c5;obtain⟨rfl,rfl⟩:=q2 H;go_enter Tryz.func13,Tryz.ntmps13
   exact zz36_0
  ·rw[if_neg c5] at H;have f3:decide ((l1.length:Int) < 2)=false:=decide_eq_false c5;have f4:decide (l1.length < 2)=false:=decide_eq_false (by omega)
   clear c5;by_cases c6:(l1.length:Int) > 64
   ·rw[if_pos c6] at H;have f6:decide (64 < (l1.length:Int))=true:=dE c6;have f9:decide (64 < l1.length)=true:=dE (by omega)
    clear c6;obtain⟨rfl,rfl⟩:=q2 H;go_enter Tryz.func13,Tryz.ntmps13
    exact zz36_0
   ·rw[if_neg c6] at H;have f6:decide (64 < (l1.length:Int))=false:=decide_eq_false c6;have f9:decide (64 < l1.length)=false:=decide_eq_false (by omega)
    clear c6;have H':=aM H;clear H;go_enter Tryz.func13,Tryz.ntmps13
    have fl_:True:=trivial;repeat((first|clear fl_|go_quiet (first|(go_at_call 9;(with_reducible refine(Czy.calls k _ _ l0 e6 _ ?_ ?_ e7.out).mono ?_);exact cX d6.out;exact d7.out;rintro e w' ⟨rfl,⟨nd,rfl⟩⟩;(try exact dD))));go_wp2_with (first|(go_at_call 9;(with_reducible refine(Czy.calls k _ _ l0 e6 _ ?_ ?_ e7.out).mono ?_);exact cX d6.out;exact d7.out;rintro e w' ⟨rfl,⟨nd,rfl⟩⟩;(try exact dD))))
    try simp only[Act.put,sA,sZ,sC]
    go_loopg [7] k (fun kq g4 w'=>∃ (g5:Int),g4=.int .i64 g5∧Aside0 (Azm.l0 kq l0 l1 g5=some (b5,b6))∧Aside0 (kq≤k)∧Aside0 (Below w.heap.size w w'))
    case atStart=>exact⟨(1),sD,H',⟨Nat.le_refl _⟩,⟨pB⟩⟩
    case round =>
     clear H';try clear b4
     obtain⟨g5,rfl,HA,g6,HB⟩:=hrel;cases gk with
     | zero=>exact absurd HA.out (by simp [Azm.l0])
     | succ k1 =>
      have H:=HA.out;clear HA;simp only[Azm.l0] at H;by_cases c7:g5 < (l1.length:Int)
      ·rw[if_pos c7] at H;have g7:=dE c7;clear c7;obtain⟨g8,H⟩:=iN H;obtain⟨g9,j3⟩:∃ j_:Int,(wrap64 (g5 - 1))=j_:=⟨_,rfl⟩;replace H:(if 0≤(g9) then(if(g9) < (l1.length:Int) then(if(rd l1 g5)≤(rd l1 (g9)) then(some (([]:List Int),9)) else(Azm.l0 k1 l0 l1 (wrap64 (g5+1)))) else(none)) else(none))=some (b5,b6):=by first|(rw[j3] at H;exact H)|(simp only[j3] at H ⊢;exact H)
       have j4:(IntKind.i64.wrap (g5 - 1))=g9:=(i64_w _).trans j3;obtain⟨j5,H⟩:=iN H;obtain⟨j6,H⟩:=iN H;by_cases j7:(rd l1 g5)≤(rd l1 (g9))
       ·rw[if_pos j7] at H;have j8:=dE j7;clear j7;obtain⟨rfl,rfl⟩:=q2 H;obtain⟨j9,l5,l6,l7,l8⟩:=aI d8.out g5;cases l5
        replace l6:=hB HB l6;obtain⟨l9,m0,m3,m4,m5⟩:=aI d8.out (g9);obtain rfl:j9=l9:=(by injection m0)
        replace m3:=hB HB m3;go_wp2
        repeat(go_quiet (fail);try go_wp2)
        go_ret2
        exact⟨_,by first|rfl|(simp [errW_none,errW_some] <;> rfl)|(simp only[← j3];first|rfl|(simp [errW_none,errW_some] <;> rfl))|(simp [*,errW_none,errW_some] <;> rfl),nK,pB⟩
       ·rw[if_neg j7] at H;have j8:decide ((rd l1 g5)≤(rd l1 (g9)))=false:=decide_eq_false j7;clear j7;have H':=aM H;clear H;obtain⟨j9,l5,l6,l7,l8⟩:=aI d8.out g5;cases l5
        replace l6:=hB HB l6;obtain⟨l9,m0,m3,m4,m5⟩:=aI d8.out (g9);obtain rfl:j9=l9:=(by injection m0)
        replace m3:=hB HB m3;go_wp2
        repeat(go_quiet (fail);try go_wp2)
        go_roundg k1
        case measure=>have:=g6.out;omega
        case rel=>exact⟨(wrap64 (g5+1)),sD,H',⟨by have:=g6.out;omega⟩,⟨pB⟩⟩
      ·rw[if_neg c7] at H;have g7:decide (g5 < (l1.length:Int))=false:=decide_eq_false c7;clear c7;obtain⟨m6,m7⟩:∃ j_:Int,(wrap64 ((l1.length:Int) - 1))=j_:=⟨_,rfl⟩;replace H:(if 0≤(m6) then(if(m6:Int).toNat≤35184372088832 then(Azm.l1 k1 l1 (List.replicate (m6:Int).toNat 0) l0 (l0.length:Int) 0) else(none)) else(none))=some (b5,b6):=by first|(rw[m7] at H;exact H)|(simp only[m7] at H ⊢;exact H)
       have m8:(IntKind.i64.wrap ((l1.length:Int) - 1))=m6:=(i64_w _).trans m7;obtain⟨m9,H⟩:=iO H;have n0:=eq_true m9;have n6:decide (0≤(m6))=true:=dE m9;clear m9;obtain⟨n7,H⟩:=iO H;have n8:=eq_true n7;have n9:decide ((m6:Int).toNat≤35184372088832)=true:=dE n7;clear n7;obtain⟨o0,o8⟩:∃ y_:List Int,y_=(List.replicate (m6:Int).toNat 0):=⟨_,rfl⟩;replace H:(Azm.l1 k1 l1 o0 l0 (l0.length:Int) 0)=some (b5,b6):=yE o8 H
       have o9:=aM o8;clear o8;have H':=aM H;clear H;have fl_:True:=trivial;repeat((first|clear fl_|go_quiet (first|((with_reducible refine gate_dst (N:=44) rfl ?_);refine Kd.R_make (Kd.int .i64) _ 3 rfl (N:=44) rfl 22 _ _ rfl m6 rfl rfl Tryz.underlying22 (.int .i64 0) 8 info3 rfl (by decide) (by omega) 0 (ok:=fun _=>True) (okp:=fun _=>True) rfl (fun _ hk=>hk) trivial (oE aS) (Nat.le_trans (Nat.mul_le_mul_right _ (oE aS:m6.toNat≤35184372088832)) (by omega)) (Below.refl _ _) (Nat.le_refl _) ?_;intro p0 p3 p4 hb hg_ hnew_;clear hg_ hnew_;replace p4:=rY o9 p4;have p5:=rL p4;replace HB:=bB hb;clear hb p4)));go_wp2_with (first|((with_reducible refine gate_dst (N:=44) rfl ?_);refine Kd.R_make (Kd.int .i64) _ 3 rfl (N:=44) rfl 22 _ _ rfl m6 rfl rfl Tryz.underlying22 (.int .i64 0) 8 info3 rfl (by decide) (by omega) 0 (ok:=fun _=>True) (okp:=fun _=>True) rfl (fun _ hk=>hk) trivial (oE aS) (Nat.le_trans (Nat.mul_le_mul_right _ (oE aS:m6.toNat≤35184372088832)) (by omega)) (Below.refl _ _) (Nat.le_refl _) ?_;intro p0 p3 p4 hb hg_ hnew_;clear hg_ hnew_;replace p4:=rY o9 p4;have p5:=rL p4;replace HB:=bB hb;clear hb p4)))
       go_loopg [47] k1 (fun kq r5 w'=>∃ (r6:List Int) (r7:Int),r5=.int .i64 r7∧Aside0 (Azm.l1 kq l1 r6 l0 (l0.length:Int) r7=some (b5,b6))∧Aside0 (kq≤k1)∧Aside0 (Kd.R (Kd.int .i64) 3 w' w.heap.size (fun _=>True) p0 r6)∧Aside0 (Below w.heap.size w w'))
       case atStart=>exact⟨(o0),(0),sD,H',⟨Nat.le_refl _⟩,⟨rX p5.out⟩,⟨pB⟩⟩
       case round =>
        clear H';try clear b4
        obtain⟨r6,r7,rfl,HA,r8,r9,HB⟩:=hrel;cases gk with
        | zero=>exact absurd HA.out (by simp [Azm.l1])
        | succ k2 =>
         have H:=HA.out;clear HA;simp only[Azm.l1] at H;by_cases t6:r7 < (l0.length:Int)
         ·rw[if_pos t6] at H;have t7:=dE t6;clear t6;obtain⟨t8,H⟩:=iN H;obtain⟨z1,H⟩:=iN H;have H':=aM H;clear H;obtain⟨z2,z6,z7,z8,B0⟩:=aI d6.out r7;cases z6
          replace z7:=hB HB z7;obtain⟨B5,B6,rfl⟩:=Kd.R_slice r9.out;go_wp2
          repeat(go_quiet (fail);try go_wp2)
          go_loopg [53] k2 (fun kq B8 w'=>∃ (B9:List Int) (C0:Int),B8=.int .i64 C0∧Aside0 (Azm.l2 kq l1 B9 (rd l0 r7) l0 (l0.length:Int) r7 (r6.length:Int) C0=some (b5,b6))∧Aside0 (kq≤k2)∧Aside0 (Kd.R (Kd.int .i64) 3 w' w.heap.size (fun _=>True) (.slice B5 r6.length B6) B9)∧Aside0 (Below w.heap.size w w'))
          case atStart=>exact⟨(r6),(0),sD,H',⟨Nat.le_refl _⟩,⟨rX r9.out⟩,⟨pB⟩⟩
          case round =>
           clear H';try clear b4
           obtain⟨B9,C0,rfl,HA,C1,r9,HB⟩:=hrel;have C2:=(Kd.R_reads' r9.out).1;rw[C2] at r9;(try simp only[C2])
           cases gk with
           | zero=>exact absurd HA.out (by simp [Azm.l2])
           | succ k3 =>
            have H:=HA.out;clear HA;simp only[Azm.l2] at H;by_cases C3:C0 < (r6.length:Int)
            ·rw[if_pos C3] at H;have C4:=dE C3;have C6:=C4;(try simp only[C2] at C6)
             clear C3;obtain⟨C7,H⟩:=iN H;obtain⟨C8,H⟩:=iO H;have C9:decide (C0 < (l1.length:Int))=true:=dE C8;have D0:=C9;(try simp only[C2] at D0)
             clear C8;by_cases D1:(rd l1 C0)≤(rd l0 r7)
             ·rw[if_pos D1] at H;have D2:=dE D1;clear D1;obtain⟨D3,D4⟩:∃ j_:Int,(wrap64 (C0+1))=j_:=⟨_,rfl⟩;replace H:(if 0≤(D3) then(if(D3) < (l1.length:Int) then(if(rd l0 r7) < (rd l1 (D3)) then(if C0 < (B9.length:Int) then(Azm.l2 k3 l1 (B9.set (C0:Int).toNat (wrap64 ((rd B9 C0)+1))) (rd l0 r7) l0 (l0.length:Int) r7 (r6.length:Int) D3) else(none)) else(Azm.l2 k3 l1 B9 (rd l0 r7) l0 (l0.length:Int) r7 (r6.length:Int) D3)) else(none)) else(none))=some (b5,b6):=by first|(rw[D4] at H;exact H)|(simp only[D4] at H ⊢;exact H)
              have D5:(IntKind.i64.wrap (C0+1))=D3:=(i64_w _).trans D4;obtain⟨D6,H⟩:=iN H;obtain⟨D7,H⟩:=iO H;have D8:decide ((D3) < (l1.length:Int))=true:=dE D7;have D9:=D8;(try simp only[C2] at D9)
              clear D7;by_cases E0:(rd l0 r7) < (rd l1 (D3))
              ·rw[if_pos E0] at H;have E1:=dE E0;clear E0;obtain⟨E2,H⟩:=iO H;have E3:decide (C0 < (B9.length:Int))=true:=dE E2;have E4:=E3;(try simp only[C2] at E4)
               clear E2;obtain⟨E5,E6⟩:∃ y_:List Int,y_=(B9.set (C0:Int).toNat (wrap64 ((rd B9 C0)+1))):=⟨_,rfl⟩;replace H:(Azm.l2 k3 l1 E5 (rd l0 r7) l0 (l0.length:Int) r7 (r6.length:Int) D3)=some (b5,b6):=yE E6 H
               have E7:=aM E6;clear E6;have H':=aM H;clear H;obtain⟨E8,E9,F0,F1,F2⟩:=aI d8.out C0;cases E9
               replace F0:=hB HB F0;obtain⟨F3,F4,F5,F6,F7⟩:=aI d8.out (D3);obtain rfl:E8=F3:=(by injection F4)
               replace F5:=hB HB F5;obtain⟨F8,F9,G0,G4,G5⟩:=aI (Kd.R_reads' r9.out).2.2 C0;cases F9;have G6:0≤(C0:Int):=oE aS
               have G7:(C0:Int) < ((B9.length:Int):Int):=oE aS
               obtain⟨G8,G9,H5,H6,H7,H8,H9⟩:=Kd.R_form r9.out (by omega)
               (first|cases H5|(injection H5 with ea_ en_ ec_;(first|subst ea_|(injection ea_ with ea_;subst ea_));subst ec_;clear en_))
               have I0:=aM H6;have I1:=aM H9;clear H6 H7 H9;(first|simp only[add_plain] at G0|skip)
               obtain⟨I2,I3⟩:=Kd.R_celln 0 r9.out (C0:Int) G6 G7;replace G6:=eq_true G6;replace G7:=eq_true G7;have I4:=Kd.R_putg r9.out (C0:Int) (wrap64 ((rd B9 C0)+1));have fl_:True:=trivial;repeat((first|clear fl_|go_quiet (first|((with_reducible refine gate_store (t:=3) (p:=76) rfl ?_);(try(rw[drewN_self wr];generalize hq_:World.drewN wr _=wr;have n0_:=aM (Kd.R_at hq_ r9.out);have n1_:=aM (below_at hq_ HB.out);clear hq_ r9 HB;have r9:=n0_;have HB:=n1_;clear n0_ n1_;(try(obtain⟨I2,I3⟩:=Kd.R_celln 0 r9.out (C0:Int) (of_eq_true G6) (of_eq_true G7)));(try(have I4:=Kd.R_putg r9.out (C0:Int) (wrap64 ((rd B9 C0)+1))))));refine store_event (t:=3) (p:=76) (v:=?vo_w33) (w1:=(wr.setCell ⟨G8,(C0:Int).toNat,none⟩ (.int .i64 (wrap64 ((rd B9 C0)+1))))) ?hg ?ho ?hn ?hr ?_;(case ho=>rfl);(case hg=>rfl);(case hn=>rfl);(case hr=>first|(go_simp;done)|(go_simp;rfl));intro I5 hw;have hg:wr.grownBy I5 (some G8):=(by rw[hw];exact I4.2);have hp_:Kd.R (Kd.int .i64) 3 I5 w.heap.size (fun _=>True) (.slice (some ⟨G8,0,none⟩) B9.length B6) E5:=(by rw[hw,E7.out];exact I4.1);clear I4;replace r9:=aM (hp_);replace HB:=aM ((by rw[hw];exact below_set (HB.out) I0.out:Below w.heap.size w I5));clear hg hw hp_)));go_wp2_with (first|((with_reducible refine gate_store (t:=3) (p:=76) rfl ?_);(try(rw[drewN_self wr];generalize hq_:World.drewN wr _=wr;have n0_:=aM (Kd.R_at hq_ r9.out);have n1_:=aM (below_at hq_ HB.out);clear hq_ r9 HB;have r9:=n0_;have HB:=n1_;clear n0_ n1_;(try(obtain⟨I2,I3⟩:=Kd.R_celln 0 r9.out (C0:Int) (of_eq_true G6) (of_eq_true G7)));(try(have I4:=Kd.R_putg r9.out (C0:Int) (wrap64 ((rd B9 C0)+1))))));refine store_event (t:=3) (p:=76) (v:=?vo_w33) (w1:=(wr.setCell ⟨G8,(C0:Int).toNat,none⟩ (.int .i64 (wrap64 ((rd B9 C0)+1))))) ?hg ?ho ?hn ?hr ?_;(case ho=>rfl);(case hg=>rfl);(case hn=>rfl);(case hr=>first|(go_simp;done)|(go_simp;rfl));intro I5 hw;have hg:wr.grownBy I5 (some G8):=(by rw[hw];exact I4.2);have hp_:Kd.R (Kd.int .i64) 3 I5 w.heap.size (fun _=>True) (.slice (some ⟨G8,0,none⟩) B9.length B6) E5:=(by rw[hw,E7.out];exact I4.1);clear I4;replace r9:=aM (hp_);replace HB:=aM ((by rw[hw];exact below_set (HB.out) I0.out:Below w.heap.size w I5));clear hg hw hp_)))
               (try simp only[← C2])
               go_roundg k3
               case measure=>have:=g6.out;have:=r8.out;have:=C1.out;omega
               case rel=>exact⟨(E5),(D3),(by first|rfl|(simp;done)|(simp only[← D4] <;> (first|rfl|simp))|(simp [*];done)),H',⟨by have:=g6.out;have:=r8.out;have:=C1.out;omega⟩,⟨by(try simp only[C2]);(with_reducible repeat(first|apply Kd.R_alloc|apply Kd.R_drewN|apply Kd.R_drew));exact r9.out⟩,⟨pB⟩⟩
              ·rw[if_neg E0] at H;have E1:decide ((rd l0 r7) < (rd l1 (D3)))=false:=decide_eq_false E0;clear E0;have H':=aM H;clear H;obtain⟨E8,E9,F0,F1,F2⟩:=aI d8.out C0;cases E9
               replace F0:=hB HB F0;obtain⟨F3,F4,F5,F6,F7⟩:=aI d8.out (D3);obtain rfl:E8=F3:=(by injection F4)
               replace F5:=hB HB F5;go_wp2
               repeat(go_quiet (fail);try go_wp2)
               (try simp only[← C2])
               go_roundg k3
               case measure=>have:=g6.out;have:=r8.out;have:=C1.out;omega
               case rel=>exact⟨(B9),(D3),(by first|rfl|(simp;done)|(simp only[← D4] <;> (first|rfl|simp))|(simp [*];done)),H',⟨by have:=g6.out;have:=r8.out;have:=C1.out;omega⟩,⟨by(try simp only[C2]);(with_reducible repeat(first|apply Kd.R_alloc|apply Kd.R_drewN|apply Kd.R_drew));exact r9.out⟩,⟨pB⟩⟩
             ·rw[if_neg D1] at H;have D2:decide ((rd l1 C0)≤(rd l0 r7))=false:=decide_eq_false D1;clear D1;have H':=aM H;clear H;obtain⟨E8,E9,F0,F1,F2⟩:=aI d8.out C0;cases E9
              replace F0:=hB HB F0;go_wp2
              repeat(go_quiet (fail);try go_wp2)
              (try simp only[← C2])
              go_roundg k3
              case measure=>have:=g6.out;have:=r8.out;have:=C1.out;omega
              case rel=>exact⟨(B9),(wrap64 (C0+1)),sD,H',⟨by have:=g6.out;have:=r8.out;have:=C1.out;omega⟩,⟨by(try simp only[C2]);(with_reducible repeat(first|apply Kd.R_alloc|apply Kd.R_drewN|apply Kd.R_drew));exact r9.out⟩,⟨pB⟩⟩
            ·rw[if_neg C3] at H;have C4:decide (C0 < (r6.length:Int))=false:=decide_eq_false C3;have C6:=C4;(try simp only[C2] at C6)
             clear C3;have H':=aM H;clear H;go_wp2
             repeat(go_quiet (fail);try go_wp2)
             (try simp only[← C2])
             go_roundg k3
             case measure=>have:=g6.out;have:=r8.out;have:=C1.out;omega
             case rel=>exact⟨(B9),(wrap64 (r7+1)),sD,H',⟨by have:=g6.out;have:=r8.out;have:=C1.out;omega⟩,⟨by(try simp only[C2]);(with_reducible repeat(first|apply Kd.R_alloc|apply Kd.R_drewN|apply Kd.R_drew));exact r9.out⟩,⟨pB⟩⟩
         ·rw[if_neg t6] at H;have t7:decide (r7 < (l0.length:Int))=false:=decide_eq_false t6;clear t6;obtain⟨rfl,rfl⟩:=q2 H;go_wp2
          repeat(go_quiet (fail);try go_wp2)
          go_ret2
          exact⟨_,by first|rfl|(simp [errW_none,errW_some] <;> rfl)|(simp only[← m7];first|rfl|(simp [errW_none,errW_some] <;> rfl))|(simp [*,errW_none,errW_some] <;> rfl),rX r9.out,pB⟩
 ·rw[if_neg c4] at H;obtain⟨e8,e9⟩:=bI c4;obtain⟨rfl,rfl⟩:=q2 H;go_enter Tryz.func13,Tryz.ntmps13
  exact zz36_0


mutual
def Czm.j0:Nat→List Int→Int→Bool→Option (List Int × Int)
 | 0,_,_,_=>none
 | k+1,x0,x1,x21=>if x21=true then(some (([]:List Int),1)) else(Czm.l0 k x0 x1 ([]:List Int) 0)
def Czm.l0:Nat→List Int→Int→List Int→Int→Option (List Int × Int)
 | 0,_,_,_,_=>none
 | k+1,x0,x1,x7,x8=>if(wrap64 (x8+x1))≤(x0.length:Int) then(if 0≤x8 then(if x8≤(wrap64 (x8+x1)) then((Ezb.f k ((x0.take ((wrap64 (x8+x1)):Int).toNat).drop (x8:Int).toNat)).bind fun t631=>(if x7.length < 17592186044416 then(Czm.l0 k x0 x1 (x7 ++ [t631]) (wrap64 (x8+1))) else(none))) else(none)) else(none)) else(some (x7,0))
end
def Czm.f (k:Nat) (l0:List Int) (a1:Int):Option (List Int × Int):=(Czy.f k l0).bind fun t629=>(if t629=0 then(if a1 < 1 then(Czm.j0 k l0 a1 true) else(Czm.j0 k l0 a1 (decide (a1 > (l0.length:Int))))) else(some (([]:List Int),t629)))
theorem Czm.mono_l:∀ k,(∀ a6 a7 a8,LeO (Czm.j0 k a6 a7 a8) (Czm.j0 (k+1) a6 a7 a8))∧(∀ a6 a7 a8 b4,LeO (Czm.l0 k a6 a7 a8 b4) (Czm.l0 (k+1) a6 a7 a8 b4))
 | 0=>⟨fun _ _ _ r h=>by simp [Czm.j0] at h,fun _ _ _ _ r h=>by simp [Czm.l0] at h⟩
 | k+1=>by
  obtain⟨ih0,ih1⟩:=Czm.mono_l k;have i0:=@Czy.mono;have i1:=@Ezb.mono;refine⟨?_,?_⟩
  ·intro a6 a7 a8;unfold Czm.j0;exact mM
  ·intro a6 a7 a8 b4;unfold Czm.l0;exact mM
theorem Czm.mono:∀ a6 a7 k,LeO (Czm.f k a6 a7) (Czm.f (k+1) a6 a7):=by
 intro a6 a7 k;obtain⟨ih0,ih1⟩:=Czm.mono_l k;unfold Czm.f;have i0:=@Czy.mono;have i1:=@Ezb.mono;exact mM
theorem Czm.calls (k:Nat) (a6:Option Addr) (a7:Nat) (l0:List Int) (a8:Int) (b4:List Int) (b5:Int) (w:World) (b6:Kd.C (Kd.int .i64) w a6 l0.length l0) (b7:l0.length≤a7) (h:Czm.f k l0 a8=some (b4,b5)) :
  Calls Tryz.prog 14 #[.slice a6 l0.length a7,.int .i64 a8] w fun e w'=>∃ v0_:Value,e=.returned (.tuple #[v0_,.int .i64 b5])∧Kd.R (Kd.int .i64) 3 w' w.heap.size (fun _=>True) v0_ b4∧Below w.heap.size w w':=by
 have b8:=aM b6;have b9:=aM b7;clear b6 b7;have HB:=aM (Below.refl w.heap.size w);have H:((Czy.f k l0).bind fun d0=>(if d0=0 then(if a8 < 1 then(Czm.j0 k l0 a8 true) else(Czm.j0 k l0 a8 (decide (a8 > (l0.length:Int))))) else(some (([]:List Int),d0))))=some (b4,b5):=h
 clear h;obtain⟨d0,d6,H⟩:=bT H;(try dsimp only at H);by_cases c4:d0=0
 ·rw[if_pos c4] at H;obtain⟨d7,d8⟩:=bE c4;clear c4;have d9:=aM H;clear H;go_enter Tryz.func14,Tryz.ntmps14
  go_upto_region 4 with (first|((with_reducible refine gc 9 rfl ?_);refine gC 9 (some 10) Tryz.func9 #[.slice a6 l0.length a7] ?_;(with_reducible refine(Czy.calls k _ _ l0 d0 _ ?_ ?_ d6.out).mono ?_);exact cX b8.out;exact b9.out;rintro e w' ⟨rfl,⟨nd,rfl⟩⟩;refine⟨_,rfl,?_⟩))
  (try simp only[Act.put,sA,sZ,sC])
  go_cut [21] (fun e6 wc=>∃ (kq:Nat) (e7:Bool),e6=.bool e7∧Aside0 (Czm.j0 kq l0 a8 e7=some (b4,b5))∧Aside0 (kq≤k)∧Aside0 (Below w.heap.size w wc))
  case first =>
   have H:=d9.out;clear d9;by_cases c6:a8 < 1
   ·rw[if_pos c6] at H;have e8:=dE c6;clear c6;(first|rw[e8]|(simp only[i64_w,i32_w];rw[e8])|skip)
    have H':=aM H;clear H;go_wp2
    go_meet
    case rel=>exact⟨_,(true),sD,H',⟨by first|omega|exact Nat.le_refl _⟩,⟨pB⟩⟩
   ·rw[if_neg c6] at H;have e8:decide (a8 < 1)=false:=decide_eq_false c6;clear c6;(first|rw[e8]|(simp only[i64_w,i32_w];rw[e8])|skip)
    have H':=aM H;clear H;go_wp2
    go_meet
    case rel=>exact⟨_,(decide (a8 > (l0.length:Int))),sD,H',⟨by first|omega|exact Nat.le_refl _⟩,⟨pB⟩⟩
  case rest =>
   clear d9;try clear e9
   obtain⟨kq,e7,rfl,HA,f3,HB⟩:=hcut;cases kq with
   | zero=>exact absurd HA.out (by simp [Czm.j0])
   | succ f4 =>
    have H:=HA.out;clear HA;simp only[Czm.j0] at H;by_cases c7:e7=true
    ·subst c7;rw[if_pos rfl] at H;obtain⟨rfl,rfl⟩:=q2 H;go_wp2
     go_ret2
     exact⟨_,eW,nK,pB⟩
    ·obtain rfl:=bN c7;rw[if_neg nF] at H
     have H':=aM H;clear H;go_wp2
     go_loopg [7,8] f4 (fun kq f6 f9 w'=>∃ (g4:List Int) (g5:Int),f9=.int .i64 g5∧Aside0 (Czm.l0 kq l0 a8 g4 g5=some (b4,b5))∧Aside0 (kq≤f4)∧Aside0 (Kd.R (Kd.int .i64) 3 w' w.heap.size (fun _=>True) f6 g4)∧Aside0 (Below w.heap.size w w'))
     case atStart=>exact⟨(([]:List Int)),(0),sD,H',⟨Nat.le_refl _⟩,⟨nK⟩,⟨pB⟩⟩
     case round =>
      clear H';try clear e9
      obtain⟨g4,g5,rfl,HA,g6,g7,HB⟩:=hrel;cases gk with
      | zero=>exact absurd HA.out (by simp [Czm.l0])
      | succ k2 =>
       have H:=HA.out;clear HA;simp only[Czm.l0] at H;by_cases c8:(wrap64 (g5+a8))≤(l0.length:Int)
       ·rw[if_pos c8] at H;have g8:=dE c8;have g9:decide ((IntKind.i64.wrap (g5+a8))≤(l0.length:Int))=true:=by have h_:=g8;first|exact h_|(simp only[i64_w];exact h_)
        clear c8;obtain⟨c9,H⟩:=iO H;have j3:=eq_true c9;have j4:decide (0≤g5)=true:=dE c9;clear c9;obtain⟨c10,H⟩:=iO H;have j5:=eq_true c10;have j6:decide (g5≤(wrap64 (g5+a8)))=true:=dE c10;have j7:decide (g5≤(IntKind.i64.wrap (g5+a8)))=true:=by have h_:=j6;first|exact h_|(simp only[i64_w];exact h_)
        have j8:=eq_true (oE aS:(wrap64 (g5+a8))≤(l0.length:Int))
        obtain⟨j9,l5,H⟩:=bT H;(try dsimp only at H);obtain⟨l6,H⟩:=iO H;have LMc13:=aM l6;clear l6;obtain⟨l7,l8⟩:∃ y_:List Int,y_=(g4 ++ [j9]):=⟨_,rfl⟩;replace H:(Czm.l0 k2 l0 a8 l7 (wrap64 (g5+1)))=some (b4,b5):=yE l8 H
        have l9:=aM l8;clear l8;have H':=aM H;clear H;obtain⟨i014,m0,_,hsz14,_⟩:=info_parts info3;obtain⟨m3,hcut14,m4,hC14⟩:=print_mid_of (P:=Tryz.prog) (Value.int .i64) 0 22 3 .i64 .i64 Tryz.underlying22 m0 hsz14 a6 a7 l0 g5 (wrap64 (g5+a8)) (oE aS) (by first|omega|exact oE aS) (oE aS) b9.out
        have m5:=aM (Kd.C_of_reads (h1:=fun _=>rfl) (m4 _ (Kd.reads_of_C b8.out)))
        have m6:=aM hC14;clear m4 hC14 m0 hsz14;go_wp2_with (first|((with_reducible refine gate_callee (f:=19) rfl ?_);refine goesL_ (some 37) rfl rfl Tryz.func19 (by kernel_rfl) rfl #[.slice m3 ((l0.take ((wrap64 (g5+a8)):Int).toNat).drop (g5:Int).toNat).length (a7 - g5.toNat)] rfl (by(try simp only[List.map_toArray,List.map_cons,List.map_nil]);first|done|(rw[show((l0.take ((wrap64 (g5+a8)):Int).toNat).drop (g5:Int).toNat).length=((wrap64 (g5+a8)).toNat - g5.toNat) from(by rw[List.length_drop,List.length_take];have h_:((wrap64 (g5+a8)):Int)≤(l0.length:Int):=oE aS;omega)] <;> rfl)|rfl|(simp only[List.length_drop,List.length_take];rfl)) ?_;(with_reducible refine(Ezb.calls k2 _ _ ((l0.take ((wrap64 (g5+a8)):Int).toNat).drop (g5:Int).toNat) j9 _ ?side1 ?side2 l5.out).mono ?_);(case side1=>exact cB m5);(case side2=>exact m6.out);rintro e w' ⟨rfl,⟨nd,rfl⟩⟩;refine⟨_,rfl,?_⟩)|((with_reducible refine gate_builtin (b:=.append) (xs:=#[.tmp 30,.tmp 38]) rfl ?_);(try(refine gate_guard (by rfl) ?_;dsimp only));at_builtin;refine Kd.R_append (Kd.int .i64) (w0:=w) w.heap.size rfl (.tmp 30) (.tmp 38) 22 3 (.int .i64 0) 8 rfl Tryz.underlying22 info3 rfl (by decide) (by omega) u7 g4 j9 [.int .i64 j9] (fun _=>True) (fun _=>False) rfl rfl ?aP (fun _ hk=>hk.elim) ?aF ?aO ?aB ?aS ?aL ?_;(case aP=>exact rfl);(case aB=>exact pB);(case aF=>exact(fun _ _=>trivial));(case aO=>exact(rX g7.out));(case aS=>exact(below_size pB));(case aL=>have:=LMc13.out;omega);intro m7 m8 ho hb hg hat;rw[← l9.out] at ho;have m9:=aM (ho);replace HB:=aM (hb);clear g7 ho hb hg hat))
        go_roundg k2
        case measure=>have:=f3.out;have:=g6.out;omega
        case rel=>exact⟨(l7),(wrap64 (g5+1)),sD,H',⟨by have:=f3.out;have:=g6.out;omega⟩,⟨rX m9.out⟩,⟨pB⟩⟩
       ·rw[if_neg c8] at H;have g8:decide ((wrap64 (g5+a8))≤(l0.length:Int))=false:=decide_eq_false c8;have g9:decide ((IntKind.i64.wrap (g5+a8))≤(l0.length:Int))=false:=by have h_:=g8;first|exact h_|(simp only[i64_w];exact h_)
        clear c8;obtain⟨rfl,rfl⟩:=q2 H;go_wp2
        go_ret2
        exact⟨_,eW,rX g7.out,pB⟩
 ·rw[if_neg c4] at H;obtain⟨d7,d8⟩:=bI c4;obtain⟨rfl,rfl⟩:=q2 H;go_enter Tryz.func14,Tryz.ntmps14
  go_wp2_with (first|((with_reducible refine gc 9 rfl ?_);refine gC 9 (some 10) Tryz.func9 #[.slice a6 l0.length a7] ?_;(with_reducible refine(Czy.calls k _ _ l0 d0 _ ?_ ?_ d6.out).mono ?_);exact cX b8.out;exact b9.out;rintro e w' ⟨rfl,⟨nd,rfl⟩⟩;refine⟨_,rfl,?_⟩))
  go_ret2
  exact⟨_,eW,nK,pB⟩


def Hzv.f (a0:Int) (l1:List Int):Option (Bool):=if 0 < (l1.length:Int) then(some (decide (a0 > (rd l1 0)))) else(none)
theorem Hzv.calls (a6:Int) (a7:Option Addr) (a8:Nat) (l1:List Int) (r:Bool) (w:World) (b4:Kd.C (Kd.int .i64) w a7 l1.length l1) (b5:l1.length≤a8) (h:Hzv.f a6 l1=some r) :
  Calls Tryz.prog 35 #[.int .i64 a6,.pointer a7] w fun e w'=>e=.returned (.bool r)∧Drawn0 w w':=by
 have b6:=aM b4;have b7:=aM b5;clear b4 b5;have H:(if 0 < (l1.length:Int) then(some (decide (a6 > (rd l1 0)))) else(none))=some r:=h
 clear h;by_cases c3:0 < (l1.length:Int)
 ·rw[if_pos c3] at H;have b8:=dE c3;have b9:decide (0 < l1.length)=true:=dE (by omega)
  clear c3;obtain rfl:=Option.some.inj H;have d0:0≤(0:Int):=(by omega)
  have d6:0 < (l1.length:Int):=oE aS
  obtain⟨d7,d8,d9⟩:=Kd.at_int b6.out 0 d0 d6;cases d8
  have e6:(0 < l1.length)=True:=eq_true (by omega)
  (try rw[show((0:Int)).toNat=0 from rfl] at d9)
  (try rw[Addr.add_zero'] at d9)
  replace d0:=eq_true d0;replace d6:=eq_true d6;go_enter Tryz.func35,Tryz.ntmps35
  go_wp2
  go_ret
  exact⟨sD,dR⟩
 ·rw[if_neg c3] at H;exact absurd H (by simp)

def Hzw.f (a0:Int) (l1:List Int):Option (Bool):=if 0 < (l1.length:Int) then(some (decide (a0 < (rd l1 0)))) else(none)
theorem Hzw.calls (a6:Int) (a7:Option Addr) (a8:Nat) (l1:List Int) (r:Bool) (w:World) (b4:Kd.C (Kd.int .i64) w a7 l1.length l1) (b5:l1.length≤a8) (h:Hzw.f a6 l1=some r) :
  Calls Tryz.prog 36 #[.int .i64 a6,.pointer a7] w fun e w'=>e=.returned (.bool r)∧Drawn0 w w':=by
 have b6:=aM b4;have b7:=aM b5;clear b4 b5;have H:(if 0 < (l1.length:Int) then(some (decide (a6 < (rd l1 0)))) else(none))=some r:=h
 clear h;by_cases c3:0 < (l1.length:Int)
 ·rw[if_pos c3] at H;have b8:=dE c3;have b9:decide (0 < l1.length)=true:=dE (by omega)
  clear c3;obtain rfl:=Option.some.inj H;have d0:0≤(0:Int):=(by omega)
  have d6:0 < (l1.length:Int):=oE aS
  obtain⟨d7,d8,d9⟩:=Kd.at_int b6.out 0 d0 d6;cases d8
  have e6:(0 < l1.length)=True:=eq_true (by omega)
  (try rw[show((0:Int)).toNat=0 from rfl] at d9)
  (try rw[Addr.add_zero'] at d9)
  replace d0:=eq_true d0;replace d6:=eq_true d6;go_enter Tryz.func36,Tryz.ntmps36
  go_wp2
  go_ret
  exact⟨sD,dR⟩
 ·rw[if_neg c3] at H;exact absurd H (by simp)


def Azp.l0:Nat→Int→Int→List Int→Int→Int→List Int→Option (Int)
 | 0,_,_,_,_,_,_=>none
 | k+1,x5,x6,x9,x10,x11,x910=>if x11 < x10 then(if 0≤x11 then(if x11 < (x9.length:Int) then((Hzv.f (rd x9 x11) x910).bind fun t640=>(if t640=true then(Azp.l0 k (mx x5 (wrap64 (x6+1))) (wrap64 (x6+1)) x9 x10 (wrap64 (x11+1)) x910) else(Azp.l0 k (mx x5 0) 0 x9 x10 (wrap64 (x11+1)) x910))) else(none)) else(none)) else(some x5)
def Azp.f (k:Nat) (l0:List Int) (l1_0:List Int):Option (Int):=Azp.l0 k 0 0 l0 (l0.length:Int) 0 l1_0
theorem Azp.mono_l:∀ k,(∀ a6 a7 a8 b4 b5 b6,LeO (Azp.l0 k a6 a7 a8 b4 b5 b6) (Azp.l0 (k+1) a6 a7 a8 b4 b5 b6))
 | 0=>fun _ _ _ _ _ _ r h=>by simp [Azp.l0] at h
 | k+1=>by
  have ih0:=Azp.mono_l k
  ·intro a6 a7 a8 b4 b5 b6;unfold Azp.l0;exact mM
theorem Azp.mono:∀ a6 a7 k,LeO (Azp.f k a6 a7) (Azp.f (k+1) a6 a7):=by
 intro a6 a7 k;have ih0:=Azp.mono_l k;unfold Azp.f;exact mM
theorem Azp.calls (k:Nat) (a6:Option Addr) (a7:Nat) (l0:List Int) (a8:Option Addr) (b4:Nat) (b5:List Int) (r:Int) (w:World) (b6:Kd.C (Kd.int .i64) w a6 l0.length l0) (b7:l0.length≤a7) (b8:Kd.C (Kd.int .i64) w a8 b5.length b5) (b9:b5.length≤b4) (h:Azp.f k l0 b5=some r) :
  Calls Tryz.prog 34 #[.slice a6 l0.length a7,.func (.func 35) #[] #[.pointer a8]] w fun e w'=>e=.returned (.int .i64 r)∧Below w.heap.size w w':=by
 have d0:=aM b6;have d6:=aM b7;clear b6 b7;have d7:=aM b8;have d8:=aM b9;clear b8 b9;have HB:=aM (Below.refl w.heap.size w);have H:(Azp.l0 k 0 0 l0 (l0.length:Int) 0 b5)=some r:=h;clear h;have H':=aM H;clear H;go_enter Tryz.func34,Tryz.ntmps34
 go_wp2
 go_loopg [5,6,11] k (fun kq d9 e6 e7 w'=>∃ (e8:Int) (e9:Int) (f3:Int),d9=.int .i64 e8∧e6=.int .i64 e9∧e7=.int .i64 f3∧Aside0 (Azp.l0 kq e8 e9 l0 (l0.length:Int) f3 b5=some r)∧Aside0 (kq≤k)∧Aside0 (Below w.heap.size w w'))
 case atStart=>exact⟨(0),(0),(0),sD,sD,sD,H',⟨Nat.le_refl _⟩,⟨pB⟩⟩
 case round =>
  clear H';try clear f4
  obtain⟨e8,e9,f3,rfl,rfl,rfl,HA,f6,HB⟩:=hrel;cases gk with
  | zero=>exact absurd HA.out (by simp [Azp.l0])
  | succ k1 =>
   have H:=HA.out;clear HA;simp only[Azp.l0] at H;by_cases c3:f3 < (l0.length:Int)
   ·rw[if_pos c3] at H;have f9:=dE c3;clear c3;obtain⟨g4,H⟩:=iN H;obtain⟨g5,H⟩:=iN H;obtain⟨g6,g7,H⟩:=bT H;(try dsimp only at H);by_cases c7:g6=true
    ·subst c7;rw[if_pos rfl] at H;obtain⟨g8,g9⟩:∃ j_:Int,(mx e8 (wrap64 (e9+1)))=j_:=⟨_,rfl⟩;replace H:(Azp.l0 k1 g8 (wrap64 (e9+1)) l0 (l0.length:Int) (wrap64 (f3+1)) b5)=some r:=by first|(rw[g9] at H;exact H)|(simp only[g9] at H ⊢;exact H)
     (try rw[g9] at g7)
     have j3:(if e8 < (wrap64 (e9+1)) then(wrap64 (e9+1)) else e8)=g8:=g9
     have H':=aM H;clear H;obtain⟨j4,j5,j6,j7,j8⟩:=aI d0.out f3;cases j5
     replace j6:=hB HB j6;go_wp2_with (first|(go_at_call 35;(with_reducible refine(Hzv.calls (rd l0 f3) _ b4 b5 true _ ?_ ?_ g7.out).mono ?_);exact cB d7;exact d8.out;rintro e w' ⟨rfl,⟨nd,rfl⟩⟩))
     go_roundg k1
     case measure=>have:=f6.out;omega
     case rel=>exact⟨(g8),(wrap64 (e9+1)),(wrap64 (f3+1)),(by first|rfl|(simp;done)|(simp only[← g9] <;> (first|rfl|simp))|(simp [*];done)),sD,sD,H',⟨by have:=f6.out;omega⟩,⟨pB⟩⟩
    ·obtain rfl:=bN c7;rw[if_neg nF] at H
     obtain⟨j9,l5⟩:∃ j_:Int,(mx e8 0)=j_:=⟨_,rfl⟩;replace H:(Azp.l0 k1 j9 0 l0 (l0.length:Int) (wrap64 (f3+1)) b5)=some r:=by first|(rw[l5] at H;exact H)|(simp only[l5] at H ⊢;exact H)
     (try rw[l5] at g7)
     have l6:(if e8 < 0 then 0 else e8)=j9:=l5
     have H':=aM H;clear H;obtain⟨j4,j5,j6,j7,j8⟩:=aI d0.out f3;cases j5
     replace j6:=hB HB j6;go_wp2_with (first|(go_at_call 35;(with_reducible refine(Hzv.calls (rd l0 f3) _ b4 b5 false _ ?_ ?_ g7.out).mono ?_);exact cB d7;exact d8.out;rintro e w' ⟨rfl,⟨nd,rfl⟩⟩))
     go_roundg k1
     case measure=>have:=f6.out;omega
     case rel=>exact⟨(j9),(0),(wrap64 (f3+1)),(by first|rfl|(simp;done)|(simp only[← l5] <;> (first|rfl|simp))|(simp [*];done)),sD,sD,H',⟨by have:=f6.out;omega⟩,⟨pB⟩⟩
   ·rw[if_neg c3] at H;have f9:decide (f3 < (l0.length:Int))=false:=decide_eq_false c3;clear c3;obtain rfl:=Option.some.inj H;go_wp2
    go_ret
    exact⟨eW,pB⟩

def Azx.l0:Nat→Int→Int→List Int→Int→Int→List Int→Option (Int)
 | 0,_,_,_,_,_,_=>none
 | k+1,x5,x6,x9,x10,x11,x910=>if x11 < x10 then(if 0≤x11 then(if x11 < (x9.length:Int) then((Hzw.f (rd x9 x11) x910).bind fun t645=>(if t645=true then(Azx.l0 k (mx x5 (wrap64 (x6+1))) (wrap64 (x6+1)) x9 x10 (wrap64 (x11+1)) x910) else(Azx.l0 k (mx x5 0) 0 x9 x10 (wrap64 (x11+1)) x910))) else(none)) else(none)) else(some x5)
def Azx.f (k:Nat) (l0:List Int) (l1_0:List Int):Option (Int):=Azx.l0 k 0 0 l0 (l0.length:Int) 0 l1_0
theorem Azx.mono_l:∀ k,(∀ a6 a7 a8 b4 b5 b6,LeO (Azx.l0 k a6 a7 a8 b4 b5 b6) (Azx.l0 (k+1) a6 a7 a8 b4 b5 b6))
 | 0=>fun _ _ _ _ _ _ r h=>by simp [Azx.l0] at h
 | k+1=>by
  have ih0:=Azx.mono_l k
  ·intro a6 a7 a8 b4 b5 b6;unfold Azx.l0;exact mM
theorem Azx.mono:∀ a6 a7 k,LeO (Azx.f k a6 a7) (Azx.f (k+1) a6 a7):=by
 intro a6 a7 k;have ih0:=Azx.mono_l k;unfold Azx.f;exact mM
theorem Azx.calls (k:Nat) (a6:Option Addr) (a7:Nat) (l0:List Int) (a8:Option Addr) (b4:Nat) (b5:List Int) (r:Int) (w:World) (b6:Kd.C (Kd.int .i64) w a6 l0.length l0) (b7:l0.length≤a7) (b8:Kd.C (Kd.int .i64) w a8 b5.length b5) (b9:b5.length≤b4) (h:Azx.f k l0 b5=some r) :
  Calls Tryz.prog 34 #[.slice a6 l0.length a7,.func (.func 36) #[] #[.pointer a8]] w fun e w'=>e=.returned (.int .i64 r)∧Below w.heap.size w w':=by
 have d0:=aM b6;have d6:=aM b7;clear b6 b7;have d7:=aM b8;have d8:=aM b9;clear b8 b9;have HB:=aM (Below.refl w.heap.size w);have H:(Azx.l0 k 0 0 l0 (l0.length:Int) 0 b5)=some r:=h;clear h;have H':=aM H;clear H;go_enter Tryz.func34,Tryz.ntmps34
 go_wp2
 go_loopg [5,6,11] k (fun kq d9 e6 e7 w'=>∃ (e8:Int) (e9:Int) (f3:Int),d9=.int .i64 e8∧e6=.int .i64 e9∧e7=.int .i64 f3∧Aside0 (Azx.l0 kq e8 e9 l0 (l0.length:Int) f3 b5=some r)∧Aside0 (kq≤k)∧Aside0 (Below w.heap.size w w'))
 case atStart=>exact⟨(0),(0),(0),sD,sD,sD,H',⟨Nat.le_refl _⟩,⟨pB⟩⟩
 case round =>
  clear H';try clear f4
  obtain⟨e8,e9,f3,rfl,rfl,rfl,HA,f6,HB⟩:=hrel;cases gk with
  | zero=>exact absurd HA.out (by simp [Azx.l0])
  | succ k1 =>
   have H:=HA.out;clear HA;simp only[Azx.l0] at H;by_cases c3:f3 < (l0.length:Int)
   ·rw[if_pos c3] at H;have f9:=dE c3;clear c3;obtain⟨g4,H⟩:=iN H;obtain⟨g5,H⟩:=iN H;obtain⟨g6,g7,H⟩:=bT H;(try dsimp only at H);by_cases c7:g6=true
    ·subst c7;rw[if_pos rfl] at H;obtain⟨g8,g9⟩:∃ j_:Int,(mx e8 (wrap64 (e9+1)))=j_:=⟨_,rfl⟩;replace H:(Azx.l0 k1 g8 (wrap64 (e9+1)) l0 (l0.length:Int) (wrap64 (f3+1)) b5)=some r:=by first|(rw[g9] at H;exact H)|(simp only[g9] at H ⊢;exact H)
     (try rw[g9] at g7)
     have j3:(if e8 < (wrap64 (e9+1)) then(wrap64 (e9+1)) else e8)=g8:=g9
     have H':=aM H;clear H;obtain⟨j4,j5,j6,j7,j8⟩:=aI d0.out f3;cases j5
     replace j6:=hB HB j6;go_wp2_with (first|(go_at_call 36;(with_reducible refine(Hzw.calls (rd l0 f3) _ b4 b5 true _ ?_ ?_ g7.out).mono ?_);exact cB d7;exact d8.out;rintro e w' ⟨rfl,⟨nd,rfl⟩⟩))
     go_roundg k1
     case measure=>have:=f6.out;omega
     case rel=>exact⟨(g8),(wrap64 (e9+1)),(wrap64 (f3+1)),(by first|rfl|(simp;done)|(simp only[← g9] <;> (first|rfl|simp))|(simp [*];done)),sD,sD,H',⟨by have:=f6.out;omega⟩,⟨pB⟩⟩
    ·obtain rfl:=bN c7;rw[if_neg nF] at H
     obtain⟨j9,l5⟩:∃ j_:Int,(mx e8 0)=j_:=⟨_,rfl⟩;replace H:(Azx.l0 k1 j9 0 l0 (l0.length:Int) (wrap64 (f3+1)) b5)=some r:=by first|(rw[l5] at H;exact H)|(simp only[l5] at H ⊢;exact H)
     (try rw[l5] at g7)
     have l6:(if e8 < 0 then 0 else e8)=j9:=l5
     have H':=aM H;clear H;obtain⟨j4,j5,j6,j7,j8⟩:=aI d0.out f3;cases j5
     replace j6:=hB HB j6;go_wp2_with (first|(go_at_call 36;(with_reducible refine(Hzw.calls (rd l0 f3) _ b4 b5 false _ ?_ ?_ g7.out).mono ?_);exact cB d7;exact d8.out;rintro e w' ⟨rfl,⟨nd,rfl⟩⟩))
     go_roundg k1
     case measure=>have:=f6.out;omega
     case rel=>exact⟨(j9),(0),(wrap64 (f3+1)),(by first|rfl|(simp;done)|(simp only[← l5] <;> (first|rfl|simp))|(simp [*];done)),sD,sD,H',⟨by have:=f6.out;omega⟩,⟨pB⟩⟩
   ·rw[if_neg c3] at H;have f9:decide (f3 < (l0.length:Int))=false:=decide_eq_false c3;clear c3;obtain rfl:=Option.some.inj H;go_wp2
    go_ret
    exact⟨eW,pB⟩

def Gzw.f (k:Nat) (l0:List Int) (a1:Int):Option (Int × Int × Int):=(Czy.f k l0).bind fun t647=>(if t647=0 then((Azp.f k l0 [a1]).bind fun t648=>((Azx.f k l0 [a1]).bind fun t649=>(some (t648,t649,0)))) else(some (0,0,t647)))
theorem Gzw.mono:∀ a6 a7 k,LeO (Gzw.f k a6 a7) (Gzw.f (k+1) a6 a7):=by
 intro a6 a7 k;unfold Gzw.f;have i0:=@Czy.mono;have i1:=@Azp.mono;have i2:=@Azx.mono;exact mM
theorem Gzw.calls (k:Nat) (a6:Option Addr) (a7:Nat) (l0:List Int) (a8:Int) (b4:Int) (b5:Int) (b6:Int) (w:World) (b7:Kd.C (Kd.int .i64) w a6 l0.length l0) (b8:l0.length≤a7) (h:Gzw.f k l0 a8=some (b4,b5,b6)) :
  Calls Tryz.prog 15 #[.slice a6 l0.length a7,.int .i64 a8] w fun e w'=>e=.returned (.tuple #[.int .i64 b4,.int .i64 b5,.int .i64 b6])∧Below w.heap.size w w':=by
 have b9:=aM b7;have d0:=aM b8;clear b7 b8;have HB:=aM (Below.refl w.heap.size w);have H:((Czy.f k l0).bind fun d6=>(if d6=0 then((Azp.f k l0 [a8]).bind fun d7=>((Azx.f k l0 [a8]).bind fun d8=>(some (d7,d8,0)))) else(some (0,0,d6))))=some (b4,b5,b6):=h
 clear h;obtain⟨d6,d9,H⟩:=bT H;(try dsimp only at H);by_cases c4:d6=0
 ·rw[if_pos c4] at H;obtain⟨e6,e7⟩:=bE c4;clear c4;obtain⟨d7,e8,H⟩:=bT H;(try dsimp only at H);replace H:=bS H;obtain⟨d8,e9,H⟩:=H;replace H:(some (d7,d8,0))=some (b4,b5,b6):=H;have f3:=aM e9;clear e9;obtain⟨rfl,rfl,rfl⟩:=q3 H;have hmf_:∀ (fn:Fn) (first cap:Array Value) (w:World),(Instr.makeFunc fn first cap).run Tryz.prog w=.ok (.func fn first cap) w:=fun _ _ _ _=>rfl
  go_enter Tryz.func15,Tryz.ntmps15
  go_wp2_with (first|((with_reducible refine gd 3 rfl ?_);refine bx #[.int .i64 a8] 3 ?_;intro f4 hg f6 f9 hb;have g4:=gA w hg;have g5:=gA w hg;replace HB:=bB hb;clear hb hg)|((with_reducible refine gc 9 rfl ?_);refine gC 9 (some 11) Tryz.func9 #[.slice a6 l0.length a7] ?_;(with_reducible refine(Czy.calls k _ _ l0 d6 _ ?_ ?_ d9.out).mono ?_);exact cB b9;exact d0.out;rintro e w' ⟨rfl,⟨nd,rfl⟩⟩;refine⟨_,rfl,?_⟩)|((with_reducible refine gc 34 rfl ?_);refine gC 34 (some 17) Tryz.func34 #[.slice a6 l0.length a7,.func (.func 35) #[] #[.pointer (some ⟨f4,0,none⟩)]] ?_;(with_reducible refine(Azp.calls k _ _ l0 _ 1 [a8] d7 _ ?_ ?_ ?_ ?_ e8.out).mono ?_);exact cB b9;exact d0.out;exact Kd.cap_C (kW f9) rfl;exact Nat.le_refl _;rintro e g6 ⟨rfl,hb⟩;refine⟨_,rfl,?_⟩;replace f9:=kb f9 hb;replace HB:=bB hb;clear hb)|((with_reducible refine gc 34 rfl ?_);refine gC 34 (some 20) Tryz.func34 #[.slice a6 l0.length a7,.func (.func 36) #[] #[.pointer (some ⟨f4,0,none⟩)]] ?_;(with_reducible refine(Azx.calls k _ _ l0 _ 1 [a8] d8 _ ?_ ?_ ?_ ?_ f3.out).mono ?_);exact cB b9;exact d0.out;exact Kd.cap_C (kW f9) rfl;exact Nat.le_refl _;rintro e g7 ⟨rfl,hb⟩;refine⟨_,rfl,?_⟩;replace f9:=kb f9 hb;replace HB:=bB hb;clear hb))
  go_ret3
  exact⟨eW,pB⟩
 ·rw[if_neg c4] at H;obtain⟨e6,e7⟩:=bI c4;obtain⟨rfl,rfl,rfl⟩:=q3 H;have hmf_:∀ (fn:Fn) (first cap:Array Value) (w:World),(Instr.makeFunc fn first cap).run Tryz.prog w=.ok (.func fn first cap) w:=fun _ _ _ _=>rfl
  go_enter Tryz.func15,Tryz.ntmps15
  go_wp2_with (first|((with_reducible refine gd 3 rfl ?_);refine bx #[.int .i64 a8] 3 ?_;intro f4 hg g8 f9 hb;have g4:=gA w hg;have g5:=gA w hg;replace HB:=bB hb;clear hb hg)|((with_reducible refine gc 9 rfl ?_);refine gC 9 (some 11) Tryz.func9 #[.slice a6 l0.length a7] ?_;(with_reducible refine(Czy.calls k _ _ l0 d6 _ ?_ ?_ d9.out).mono ?_);exact cB b9;exact d0.out;rintro e w' ⟨rfl,⟨nd,rfl⟩⟩;refine⟨_,rfl,?_⟩))
  go_ret3
  exact⟨eW,pB⟩


def Bzm.l0:Nat→List Int→List Int→Int→Option (Bool)
 | 0,_,_,_=>none
 | k+1,x0,x1,x5=>if x5 < (x0.length:Int) then(if 0≤x5 then(if x5 < (x1.length:Int) then(if(rd x0 x5)=(rd x1 x5) then(Bzm.l0 k x0 x1 (wrap64 (x5+1))) else(some false)) else(none)) else(none)) else(some true)
def Bzm.f (k:Nat) (l0:List Int) (l1:List Int):Option (Bool):=if(l0.length:Int)=(l1.length:Int) then(Bzm.l0 k l0 l1 0) else(some false)
theorem Bzm.mono_l:∀ k,(∀ a6 a7 a8,LeO (Bzm.l0 k a6 a7 a8) (Bzm.l0 (k+1) a6 a7 a8))
 | 0=>fun _ _ _ r h=>by simp [Bzm.l0] at h
 | k+1=>by
  have ih0:=Bzm.mono_l k
  ·intro a6 a7 a8;unfold Bzm.l0;exact mM
theorem Bzm.mono:∀ a6 a7 k,LeO (Bzm.f k a6 a7) (Bzm.f (k+1) a6 a7):=by
 intro a6 a7 k;have ih0:=Bzm.mono_l k;unfold Bzm.f;exact mM
theorem Bzm.calls (k:Nat) (a6:Option Addr) (a7:Nat) (l0:List Int) (a8:Option Addr) (b4:Nat) (l1:List Int) (r:Bool) (w:World) (b5:Kd.C (Kd.int .i64) w a6 l0.length l0) (b6:l0.length≤a7) (b7:Kd.C (Kd.int .i64) w a8 l1.length l1) (b8:l1.length≤b4) (h:Bzm.f k l0 l1=some r) :
  Calls Tryz.prog 31 #[.slice a6 l0.length a7,.slice a8 l1.length b4] w fun e w'=>e=.returned (.bool r)∧Drawn0 w w':=by
 have b9:=aM b5;have d0:=aM b6;clear b5 b6;have d6:=aM b7;have d7:=aM b8;clear b7 b8;have H:(if(l0.length:Int)=(l1.length:Int) then(Bzm.l0 k l0 l1 0) else(some false))=some r:=h
 clear h;by_cases c3:(l0.length:Int)=(l1.length:Int)
 ·rw[if_pos c3] at H;obtain⟨d8,d9⟩:=bE c3;have e6:(l0.length == l1.length)=true:=by first|simpa using c3|(simp at c3 ⊢;omega)
  clear c3;have H':=aM H;clear H;go_enter Tryz.func31,Tryz.ntmps31
  go_wp2
  repeat(go_quiet (fail);try go_wp2)
  go_loopg [5] k (fun kq e7 w'=>∃ (e8:Int),e7=.int .i64 e8∧Aside0 (Bzm.l0 kq l0 l1 e8=some r)∧Aside0 (kq≤k)∧Drawn0 w w')
  case atStart=>exact⟨(0),sD,H',⟨Nat.le_refl _⟩,dR⟩
  case round =>
   clear H';try clear b4
   obtain⟨e8,rfl,HA,e9,⟨f3,rfl⟩⟩:=hrel;cases gk with
   | zero=>exact absurd HA.out (by simp [Bzm.l0])
   | succ k1 =>
    have H:=HA.out;clear HA;simp only[Bzm.l0] at H;by_cases c4:e8 < (l0.length:Int)
    ·rw[if_pos c4] at H;have f4:=dE c4;clear c4;obtain⟨f6,H⟩:=iN H;obtain⟨f9,H⟩:=iN H;by_cases c7:(rd l0 e8)=(rd l1 e8)
     ·rw[if_pos c7] at H;obtain⟨g4,g5⟩:=bE c7;clear c7;have H':=aM H;clear H;obtain⟨g6,g7,g8,g9,j3⟩:=aI b9.out e8;cases g7;obtain⟨j4,j5,j6,j7,j8⟩:=aI d6.out e8;cases j5;go_wp2
      repeat(go_quiet (fail);try go_wp2)
      go_roundg k1
      case measure=>have:=e9.out;omega
      case rel=>exact⟨(wrap64 (e8+1)),sD,H',⟨by have:=e9.out;omega⟩,dR⟩
     ·rw[if_neg c7] at H;obtain⟨g4,g5⟩:=bI c7;obtain rfl:=Option.some.inj H;obtain⟨g6,g7,g8,g9,j3⟩:=aI b9.out e8;cases g7;obtain⟨j4,j5,j6,j7,j8⟩:=aI d6.out e8;cases j5;go_wp2
      repeat(go_quiet (fail);try go_wp2)
      go_ret
      exact⟨sD,dR⟩
    ·rw[if_neg c4] at H;have f4:decide (e8 < (l0.length:Int))=false:=decide_eq_false c4;clear c4;obtain rfl:=Option.some.inj H;go_wp2
     repeat(go_quiet (fail);try go_wp2)
     go_ret
     exact⟨sD,dR⟩
 ·rw[if_neg c3] at H;obtain⟨d8,d9⟩:=bI c3;have e6:(l0.length == l1.length)=false:=by first|simpa using c3|(simp at c3 ⊢;omega)
  obtain rfl:=Option.some.inj H;go_enter Tryz.func31,Tryz.ntmps31
  go_wp2
  repeat(go_quiet (fail);try go_wp2)
  go_ret
  exact⟨sD,dR⟩

def Dzm.f (k:Nat) (a0_0:Bool) (l0_1:List Int) (l0_2:List Int) (a1_0:Bool) (l1_1:List Int) (l1_2:List Int):Option (Bool):=if(a0_0 == a1_0)=true then((Bzm.f k l0_1 l1_1).bind fun t654=>(if t654=true then((Bzm.f k l0_2 l1_2).bind fun t655=>(some t655)) else(some false))) else(some false)
theorem Dzm.mono:∀ a6 a7 a8 b4 b5 b6 k,LeO (Dzm.f k a6 a7 a8 b4 b5 b6) (Dzm.f (k+1) a6 a7 a8 b4 b5 b6):=by
 intro a6 a7 a8 b4 b5 b6 k;unfold Dzm.f;have i0:=@Bzm.mono;exact mM
theorem Dzm.calls (k:Nat) (a6:Bool) (a7:Option Addr) (a8:Nat) (b4:List Int) (b5:Option Addr) (b6:Nat) (b7:List Int) (b8:Bool) (b9:Option Addr) (d0:Nat) (d6:List Int) (d7:Option Addr) (d8:Nat) (d9:List Int) (r:Bool) (w:World) (e6:Kd.C (Kd.int .i64) w a7 b4.length b4) (e7:b4.length≤a8) (e8:Kd.C (Kd.int .i64) w b5 b7.length b7) (e9:b7.length≤b6) (f3:Kd.C (Kd.int .i64) w b9 d6.length d6) (f4:d6.length≤d0) (f6:Kd.C (Kd.int .i64) w d7 d9.length d9) (f9:d9.length≤d8) (h:Dzm.f k a6 b4 b7 b8 d6 d9=some r) :
  Calls Tryz.prog 11 #[.agg #[.bool a6,.slice a7 b4.length a8,.slice b5 b7.length b6],.agg #[.bool b8,.slice b9 d6.length d0,.slice d7 d9.length d8]] w fun e w'=>e=.returned (.bool r)∧Below w.heap.size w w':=by
 have hu26:=Tryz.underlying26;have g4:=aM e6;have g5:=aM e7;clear e6 e7;have g6:=aM e8;have g7:=aM e9;clear e8 e9;have g8:=aM f3;have g9:=aM f4;clear f3 f4;have j3:=aM f6;have j4:=aM f9;clear f6 f9;have HB:=aM (Below.refl w.heap.size w);have H:(if(a6 == b8)=true then((Bzm.f k b4 d6).bind fun j5=>(if j5=true then((Bzm.f k b7 d9).bind fun j6=>(some j6)) else(some false))) else(some false))=some r:=h
 clear h;by_cases c3:(a6 == b8)=true
 ·rw[if_pos c3] at H;have j7:(a6 == b8)=true:=c3;(try(have j8:decide (a6=b8)=true:=by simpa using c3))
  (try(have j9:(a6 == b8)=true:=by simpa using c3))
  clear c3;obtain⟨j5,l5,H⟩:=bT H;(try dsimp only at H);by_cases c5:j5=true
  ·subst c5;rw[if_pos rfl] at H;replace H:=bS H;obtain⟨j6,l6,H⟩:=H;replace H:(some j6)=some r:=H;have l7:=aM l6;clear l6;obtain rfl:=Option.some.inj H;go_enter Tryz.func11,Tryz.ntmps11
   go_wp2_with (first|((with_reducible refine gd 2 rfl ?_);refine bx #[.bool a6,.slice a7 b4.length a8,.slice b5 b7.length b6] 26 ?_;intro l8 hg l9 m0 hb;have m3:=gA w hg;have m4:=gA w hg;replace HB:=bB hb;clear hb hg)|((with_reducible refine gd 3 rfl ?_);refine bx #[.bool b8,.slice b9 d6.length d0,.slice d7 d9.length d8] 26 ?_;intro m5 hg m6 m7 hb;have m8:=gA w hg;have m9:=gA w hg;have n0:=nl hg m0;have n6:=ng hg m0;replace m0:=kb m0 hb;replace HB:=bB hb;clear hb hg;have n7:=n0.out;have n8:=n6.out;obtain⟨n9,o0,o8,o9,p0,p3⟩:=bk3 m0;obtain⟨p4,p5,r5,r6,r7,r8⟩:=bk3 m7)|(go_at_call 31;(with_reducible refine(Bzm.calls k _ _ b4 _ _ d6 true _ ?_ ?_ ?_ ?_ l5.out).mono ?_);exact cB g4;exact g5.out;exact cB g8;exact g9.out;rintro e w' ⟨rfl,⟨nd,rfl⟩⟩)|(go_at_call 31;(with_reducible refine(Bzm.calls k _ _ b7 _ _ d9 j6 _ ?_ ?_ ?_ ?_ l7.out).mono ?_);exact cB g6;exact g7.out;exact cB j3;exact j4.out;rintro e w' ⟨rfl,⟨nd,rfl⟩⟩))
   go_ret
   exact⟨eW,pB⟩
  ·obtain rfl:=bN c5;rw[if_neg nF] at H
   obtain rfl:=Option.some.inj H;go_enter Tryz.func11,Tryz.ntmps11
   go_wp2_with (first|((with_reducible refine gd 2 rfl ?_);refine bx #[.bool a6,.slice a7 b4.length a8,.slice b5 b7.length b6] 26 ?_;intro l8 hg r9 m0 hb;have m3:=gA w hg;have m4:=gA w hg;replace HB:=bB hb;clear hb hg)|((with_reducible refine gd 3 rfl ?_);refine bx #[.bool b8,.slice b9 d6.length d0,.slice d7 d9.length d8] 26 ?_;intro m5 hg t6 m7 hb;have m8:=gA w hg;have m9:=gA w hg;have n0:=nl hg m0;have n6:=ng hg m0;replace m0:=kb m0 hb;replace HB:=bB hb;clear hb hg;have t7:=n0.out;have t8:=n6.out;obtain⟨z1,z2,z6,z7,z8,B0⟩:=bk3 m0;obtain⟨B5,B6,B8,B9,C0,C1⟩:=bk3 m7)|(go_at_call 31;(with_reducible refine(Bzm.calls k _ _ b4 _ _ d6 false _ ?_ ?_ ?_ ?_ l5.out).mono ?_);exact cB g4;exact g5.out;exact cB g8;exact g9.out;rintro e w' ⟨rfl,⟨nd,rfl⟩⟩))
   go_ret
   exact⟨eW,pB⟩
 ·rw[if_neg c3] at H;have j7:(a6 == b8)=false:=by simpa using c3
  (try(have j8:decide (a6=b8)=false:=by simpa using c3))
  (try(have j9:(a6 == b8)=false:=by simpa using c3))
  (try(have C2:¬ (a6=b8):=by simpa using c3))
  clear c3;obtain rfl:=Option.some.inj H;go_enter Tryz.func11,Tryz.ntmps11
  go_wp2_with (first|((with_reducible refine gd 2 rfl ?_);refine bx #[.bool a6,.slice a7 b4.length a8,.slice b5 b7.length b6] 26 ?_;intro l8 hg C3 m0 hb;have m3:=gA w hg;have m4:=gA w hg;replace HB:=bB hb;clear hb hg)|((with_reducible refine gd 3 rfl ?_);refine bx #[.bool b8,.slice b9 d6.length d0,.slice d7 d9.length d8] 26 ?_;intro m5 hg C4 m7 hb;have m8:=gA w hg;have m9:=gA w hg;have n0:=nl hg m0;have n6:=ng hg m0;replace m0:=kb m0 hb;replace HB:=bB hb;clear hb hg;have C6:=n0.out;have C7:=n6.out;obtain⟨C8,C9,D0,D1,D2,D3⟩:=bk3 m0;obtain⟨D4,D5,D6,D7,D8,D9⟩:=bk3 m7))
  go_ret
  exact⟨eW,pB⟩

def Fzj.f (k:Nat) (a0_0:Bool) (l0_1:List Int) (l0_2:List Int) (a1:Int) (a2:Int):Option (Bool):=(Ezk.f k a1 a2).bind fun bt657=>(if bt657.2.2.2=0 then((Dzm.f k a0_0 l0_1 l0_2 bt657.1 bt657.2.1 bt657.2.2.1).bind fun t666=>(some t666)) else(some false))
theorem Fzj.mono:∀ a6 a7 a8 b4 b5 k,LeO (Fzj.f k a6 a7 a8 b4 b5) (Fzj.f (k+1) a6 a7 a8 b4 b5):=by
 intro a6 a7 a8 b4 b5 k;unfold Fzj.f;have i0:=@Dzm.mono;have i1:=@Ezk.mono;exact mM
theorem Fzj.calls (k:Nat) (a6:Bool) (a7:Option Addr) (a8:Nat) (b4:List Int) (b5:Option Addr) (b6:Nat) (b7:List Int) (b8:Int) (b9:Int) (r:Bool) (w:World) (d0:Kd.C (Kd.int .i64) w a7 b4.length b4) (d6:b4.length≤a8) (d7:Kd.C (Kd.int .i64) w b5 b7.length b7) (d8:b7.length≤b6) (h:Fzj.f k a6 b4 b7 b8 b9=some r) :
  Calls Tryz.prog 16 #[.agg #[.bool a6,.slice a7 b4.length a8,.slice b5 b7.length b6],.int .i64 b8,.int .i64 b9] w fun e w'=>e=.returned (.bool r)∧Below w.heap.size w w':=by
 have hu26:=Tryz.underlying26;have d9:=aM d0;have e6:=aM d6;clear d0 d6;have e7:=aM d7;have e8:=aM d8;clear d7 d8;have HB:=aM (Below.refl w.heap.size w);have H:((Ezk.f k b8 b9).bind fun e9=>(if e9.2.2.2=0 then((Dzm.f k a6 b4 b7 e9.1 e9.2.1 e9.2.2.1).bind fun f3=>(some f3)) else(some false)))=some r:=h
 clear h;obtain⟨⟨f4,f6,f9,g4⟩,g5,H⟩:=bT H;(try dsimp only at H);by_cases c5:g4=0
 ·rw[if_pos c5] at H;obtain⟨g6,g7⟩:=bE c5;clear c5;replace H:=bS H;obtain⟨f3,g8,H⟩:=H;replace H:(some f3)=some r:=H;have g9:=aM g8;clear g8;obtain rfl:=Option.some.inj H;go_enter Tryz.func16,Tryz.ntmps16
  go_wp2_with (first|((with_reducible refine gd 3 rfl ?_);refine bx #[.bool a6,.slice a7 b4.length a8,.slice b5 b7.length b6] 26 ?_;intro j3 hg j4 j5 hb;have j6:=gA w hg;have j7:=gA w hg;replace HB:=bB hb;clear hb hg)|((with_reducible refine gc 18 rfl ?_);refine gC 18 (some 12) Tryz.func18 #[.int .i64 b8,.int .i64 b9] ?_;(with_reducible refine(Ezk.calls k b8 b9 f4 f6 f9 g4 _ g5.out).mono ?_);rintro e j8 ⟨j9,l5,rfl,l6,l7,hb⟩;refine⟨_,rfl,?_⟩;have l8:=rL l6;have l9:=rL l7;replace j5:=kb j5 hb;replace HB:=bB hb;clear hb l6 l7)|((with_reducible refine gd 7 rfl ?_);refine bx #[.bool false,.slice none 0 0,.slice none 0 0] 26 ?_;intro m0 hg m3 m4 hb;have m5:=gA w hg;have m6:=gA w hg;have m7:=nl hg j5;have m8:=ng hg j5;replace l8:=rB l8 hb;replace l9:=rB l9 hb;replace j5:=kb j5 hb;replace HB:=bB hb;clear hb hg;have m9:=m8.out;have n0:=m7.out;obtain⟨n6,n7,n8,n9,o0,o8⟩:=bk3 m4;obtain⟨o9,p0,rfl⟩:=Kd.R_slice l8.out;obtain⟨p3,p4,rfl⟩:=Kd.R_slice l9.out;obtain⟨p5,r5,r6,r7,r8,r9⟩:=bk3 j5)|(go_at_call 11;(with_reducible refine(Dzm.calls k a6 _ _ b4 _ _ b7 f4 _ _ f6 _ _ f9 f3 _ ?_ ?_ ?_ ?_ ?_ ?_ ?_ ?_ g9.out).mono ?_);exact Kd.C_below d9.out pB;exact e6.out;exact Kd.C_below e7.out pB;exact e8.out;(focus(refine(Kd.R_reads' (e:=3) (base:=w.heap.size) (ok:=fun k_=>some k_≠(.slice p3 f9.length p4:Value).ownBlock) (n:=f6.length) (c:=p0) ?_).2.2;exact(rT l8 m4)));exact lR l8;(focus(refine(Kd.R_reads' (e:=3) (base:=w.heap.size) (ok:=fun k_=>some k_≠(.slice o9 f6.length p0:Value).ownBlock) (n:=f9.length) (c:=p4) ?_).2.2;exact(rT l9 m4)));exact lR l9;rintro e t6 ⟨rfl,hb⟩;replace l8:=rb (rT l8 m4) hb;replace l9:=rb (rT l9 m4) hb;replace j5:=kF j5 m7 hb;replace m4:=kP (o':=.cells #[.bool f4,.slice o9 f6.length p0,.slice p3 f9.length p4] 26 (0,0)) m4 hb;replace HB:=bB hb;clear hb))
  go_ret
  exact⟨eW,pB⟩
 ·rw[if_neg c5] at H;obtain⟨g6,g7⟩:=bI c5;obtain rfl:=Option.some.inj H;go_enter Tryz.func16,Tryz.ntmps16
  go_wp2_with (first|((with_reducible refine gd 3 rfl ?_);refine bx #[.bool a6,.slice a7 b4.length a8,.slice b5 b7.length b6] 26 ?_;intro j3 hg t7 j5 hb;have j6:=gA w hg;have j7:=gA w hg;replace HB:=bB hb;clear hb hg)|((with_reducible refine gc 18 rfl ?_);refine gC 18 (some 12) Tryz.func18 #[.int .i64 b8,.int .i64 b9] ?_;(with_reducible refine(Ezk.calls k b8 b9 f4 f6 f9 g4 _ g5.out).mono ?_);rintro e t8 ⟨j9,l5,rfl,l6,l7,hb⟩;refine⟨_,rfl,?_⟩;have l8:=rL l6;have l9:=rL l7;replace j5:=kb j5 hb;replace HB:=bB hb;clear hb l6 l7)|((with_reducible refine gd 7 rfl ?_);refine bx #[.bool false,.slice none 0 0,.slice none 0 0] 26 ?_;intro m0 hg z1 m4 hb;have m5:=gA w hg;have m6:=gA w hg;have m7:=nl hg j5;have m8:=ng hg j5;replace l8:=rB l8 hb;replace l9:=rB l9 hb;replace j5:=kb j5 hb;replace HB:=bB hb;clear hb hg;have z2:=m8.out;have z6:=m7.out;obtain⟨z7,z8,B0,B5,B6,B8⟩:=bk3 m4;obtain⟨B9,C0,rfl⟩:=Kd.R_slice l8.out;obtain⟨C1,C2,rfl⟩:=Kd.R_slice l9.out))
  go_ret
  exact⟨eW,pB⟩


def Czw.l0:Nat→List Int→List Int→Int→Option (Bool)
 | 0,_,_,_=>none
 | k+1,x0,x1,x5=>if x5 < (x0.length:Int) then(if 0≤x5 then(if x5 < (x1.length:Int) then(if(rd x0 x5)=(rd x1 x5) then(Czw.l0 k x0 x1 (wrap64 (x5+1))) else(some false)) else(none)) else(none)) else(some true)
def Czw.f (k:Nat) (l0:List Int) (l1:List Int):Option (Bool):=if(l0.length:Int)=(l1.length:Int) then(Czw.l0 k l0 l1 0) else(some false)
theorem Czw.mono_l:∀ k,(∀ a6 a7 a8,LeO (Czw.l0 k a6 a7 a8) (Czw.l0 (k+1) a6 a7 a8))
 | 0=>fun _ _ _ r h=>by simp [Czw.l0] at h
 | k+1=>by
  have ih0:=Czw.mono_l k
  ·intro a6 a7 a8;unfold Czw.l0;exact mM
theorem Czw.mono:∀ a6 a7 k,LeO (Czw.f k a6 a7) (Czw.f (k+1) a6 a7):=by
 intro a6 a7 k;have ih0:=Czw.mono_l k;unfold Czw.f;exact mM
theorem Czw.calls (k:Nat) (a6:Option Addr) (a7:Nat) (l0:List Int) (a8:Option Addr) (b4:Nat) (l1:List Int) (r:Bool) (w:World) (b5:Kd.C (Kd.int .i64) w a6 l0.length l0) (b6:l0.length≤a7) (b7:Kd.C (Kd.int .i64) w a8 l1.length l1) (b8:l1.length≤b4) (h:Czw.f k l0 l1=some r) :
  Calls Tryz.prog 17 #[.slice a6 l0.length a7,.slice a8 l1.length b4] w fun e w'=>e=.returned (.bool r)∧Drawn0 w w':=by
 have b9:=aM b5;have d0:=aM b6;clear b5 b6;have d6:=aM b7;have d7:=aM b8;clear b7 b8;have H:(if(l0.length:Int)=(l1.length:Int) then(Czw.l0 k l0 l1 0) else(some false))=some r:=h
 clear h;by_cases c3:(l0.length:Int)=(l1.length:Int)
 ·rw[if_pos c3] at H;obtain⟨d8,d9⟩:=bE c3;have e6:(l0.length == l1.length)=true:=by first|simpa using c3|(simp at c3 ⊢;omega)
  clear c3;have H':=aM H;clear H;go_enter Tryz.func17,Tryz.ntmps17
  go_wp2
  repeat(go_quiet (fail);try go_wp2)
  go_loopg [5] k (fun kq e7 w'=>∃ (e8:Int),e7=.int .i64 e8∧Aside0 (Czw.l0 kq l0 l1 e8=some r)∧Aside0 (kq≤k)∧Drawn0 w w')
  case atStart=>exact⟨(0),sD,H',⟨Nat.le_refl _⟩,dR⟩
  case round =>
   clear H';try clear b4
   obtain⟨e8,rfl,HA,e9,⟨f3,rfl⟩⟩:=hrel;cases gk with
   | zero=>exact absurd HA.out (by simp [Czw.l0])
   | succ k1 =>
    have H:=HA.out;clear HA;simp only[Czw.l0] at H;by_cases c4:e8 < (l0.length:Int)
    ·rw[if_pos c4] at H;have f4:=dE c4;clear c4;obtain⟨f6,H⟩:=iN H;obtain⟨f9,H⟩:=iN H;by_cases c7:(rd l0 e8)=(rd l1 e8)
     ·rw[if_pos c7] at H;obtain⟨g4,g5⟩:=bE c7;clear c7;have H':=aM H;clear H;obtain⟨g6,g7,g8,g9,j3⟩:=aI b9.out e8;cases g7;obtain⟨j4,j5,j6,j7,j8⟩:=aI d6.out e8;cases j5;go_wp2
      repeat(go_quiet (fail);try go_wp2)
      go_roundg k1
      case measure=>have:=e9.out;omega
      case rel=>exact⟨(wrap64 (e8+1)),sD,H',⟨by have:=e9.out;omega⟩,dR⟩
     ·rw[if_neg c7] at H;obtain⟨g4,g5⟩:=bI c7;obtain rfl:=Option.some.inj H;obtain⟨g6,g7,g8,g9,j3⟩:=aI b9.out e8;cases g7;obtain⟨j4,j5,j6,j7,j8⟩:=aI d6.out e8;cases j5;go_wp2
      repeat(go_quiet (fail);try go_wp2)
      go_ret
      exact⟨sD,dR⟩
    ·rw[if_neg c4] at H;have f4:decide (e8 < (l0.length:Int))=false:=decide_eq_false c4;clear c4;obtain rfl:=Option.some.inj H;go_wp2
     repeat(go_quiet (fail);try go_wp2)
     go_ret
     exact⟨sD,dR⟩
 ·rw[if_neg c3] at H;obtain⟨d8,d9⟩:=bI c3;have e6:(l0.length == l1.length)=false:=by first|simpa using c3|(simp at c3 ⊢;omega)
  obtain rfl:=Option.some.inj H;go_enter Tryz.func17,Tryz.ntmps17
  go_wp2
  repeat(go_quiet (fail);try go_wp2)
  go_ret
  exact⟨sD,dR⟩

end Go.Proofs.YtokkiljkgejnhaaGreat.Print
