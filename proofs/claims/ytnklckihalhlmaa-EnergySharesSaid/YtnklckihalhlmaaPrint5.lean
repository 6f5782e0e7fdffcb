import Derived.Test.YtnklckihalhlmaaPrint0
import Derived.Test.YtnklckihalhlmaaPrint4
namespace Go.Proofs.Ytnklckihalhlmaa.Print
open Go.RowKit Go.Proofs.YtnklckihalhlmaaW.PrintWords Go.Proofs.YtnklckihalhlmaaW.PrintLast Go.Proofs.YtnklckihalhlmaaW.PrintMore
attribute [local go_sem] max2_int min2_int max_two min_two max_three min_three max_four min_four
set_option linter.unusedVariables false
set_option maxRecDepth 100000
set_option maxHeartbeats 8000000
set_option linter.unusedSimpArgs false

theorem Hzv.calls (q:S46→Bool) (bf:Nat) (bc:Array Value) (cb cl:Nat) (A:Option Addr) (c:Nat) (l:List S46) (i:Int) (w:World)
  (hb:w.heap[cb]?=some (.cells #[.func (.func bf) #[] bc] 66 (0,0))) (hl:w.heap[cl]?=some (.cells #[.slice A l.length c] 22 (0,0))) (hC:Kd.C k46 w A l.length l)
  (hfn:∃ fn,Try.prog.funcs[bf]?=some fn∧(fn.name == "runtime.NumGoroutine")=false∧fn.body.isSome=true)
  (hq:∀ (m:S46) W,Below w.heap.size w W→Calls Try.prog bf (#[.agg #[.int .i64 m.f0,.int .i64 m.f1]] ++ bc) W fun e W'=>e=.returned (.bool (q m))∧Below W.heap.size W W') (a6:0≤i) (a7:i+1 < (l.length:Int)) (hn:(l.length:Int) < 4611686018427387904) :
  Calls Try.prog 68 #[.int .i64 i,.pointer (some ⟨cb,0,none⟩),.pointer (some ⟨cl,0,none⟩)] w fun e w'=>e=.returned (.bool (! q (rd_T46 l (i+1))))∧Below w.heap.size w w':=by
 have HB:=aM hb;have HL:=aM hl;have a8:=aM hC;have HQ:=aM hq;obtain⟨fn_,hf_,hn_,hb_⟩:=hfn;have HF:=aM hf_;have HNM:=aM hn_;have HBD:=aM hb_;obtain⟨hczB,hfzB⟩:=bk1 HB;obtain⟨hczL,hfzL⟩:=bk1 HL;have a9:IntKind.i64.wrap (i+1)=i+1:=by rw[i64_w];unfold wrap64;omega
 have E1:=aM a9;have p_:0≤i+1:=by omega
 have q_:i+1 < (l.length:Int):=by omega
 obtain⟨ad,ead,b3,b4⟩:=at_T46 a8.out (i+1) p_ q_;subst ead;clear hb hl hC hq hf_ hn_ hb_ a6 a7 hn;have pT:=eq_true p_;have qT:=eq_true q_;go_enter Try.func68,Try.ntmps68
 go_wp2
 have hS:∀ W,Below w.heap.size w W→W.cell? ⟨cb,0,none⟩=some (.func (.func bf) #[] bc)∧W.cell? ⟨cl,0,none⟩=some (.slice (some ad) l.length c)∧W.cell? (ad.add ((i+1).toNat * 2))=some (.int .i64 (rd_T46 l (i+1)).f0)∧W.cell? ⟨(ad.add ((i+1).toNat * 2)).block,(ad.add ((i+1).toNat * 2)).off+1,none⟩=some (.int .i64 (rd_T46 l (i+1)).f1) :=
  fun W hW=>⟨pw_cell_below hW hczB,pw_cell_below hW hczL,pw_cell_below hW b3,pw_cell_below hW b4⟩
 refine start_ (n:=9) (S:=fun W=>W.cell? ⟨cb,0,none⟩=some (.func (.func bf) #[] bc)∧W.cell? ⟨cl,0,none⟩=some (.slice (some ad) l.length c)∧W.cell? (ad.add ((i+1).toNat * 2))=some (.int .i64 (rd_T46 l (i+1)).f0)∧W.cell? ⟨(ad.add ((i+1).toNat * 2)).block,(ad.add ((i+1).toNat * 2)).off+1,none⟩=some (.int .i64 (rd_T46 l (i+1)).f1)) (ds:=[]) (bA 9 0) (by kernel_rfl) rfl rfl (hS _ (Below.refl _ w).drew) (fun hHeld=>?_)
 refine take_ (i:=0) (N:=some 5) (v:=?_) (a':=?_) (bA 9 1) rfl rfl (by kernel_rfl) (fun _ _ _ h=>h) (Or.inl ⟨by rfl,?_⟩) hHeld ?_ ?_
 rotate_left
 ·intro w' b5;obtain⟨b6,b7,b8,b9⟩:=b5;go_simp
  with_reducible rfl
 rotate_left
 ·simp only[Act.put,sA,sZ,sC,i64_w,i32_w];rfl
 refine take_ (i:=1) (N:=some 6) (v:=?_) (a':=?_) (bA 9 3) rfl rfl (by kernel_rfl) (fun _ _ _ h=>h) (Or.inl ⟨by rfl,?_⟩) hHeld ?_ ?_
 rotate_left
 ·intro w' b5;obtain⟨b6,b7,b8,b9⟩:=b5;go_simp
  with_reducible rfl
 rotate_left
 ·simp only[Act.put,sA,sZ,sC,i64_w,i32_w];rfl
 refine pure_ (i:=2) (N:=some 7) (v:=?_) (a':=?_) (bA 9 7) rfl rfl (by kernel_rfl) (fun _ _ _ h=>h) (Or.inl ⟨by rfl,?_⟩) ?_ ?_
 rotate_left
 ·intro w';go_simp
  with_reducible rfl
 rotate_left
 ·simp only[Act.put,sA,sZ,sC,i64_w,i32_w];rfl
 refine pure_ (i:=3) (N:=some 8) (v:=?_) (a':=?_) (bA 9 15) rfl rfl (by kernel_rfl) (fun _ _ _ h=>h) (Or.inl ⟨by rfl,?_⟩) ?_ ?_
 rotate_left
 ·intro w';go_simp
  with_reducible rfl
 rotate_left
 ·simp only[Act.put,sA,sZ,sC,i64_w,i32_w];rfl
 refine pure_ (i:=4) (N:=some 9) (v:=?_) (a':=?_) (bA 9 31) rfl rfl (by kernel_rfl) (fun _ _ _ h=>h) (Or.inl ⟨by rfl,?_⟩) ?_ ?_
 rotate_left
 ·intro w';go_simp
  with_reducible rfl
 rotate_left
 ·simp only[Act.put,sA,sZ,sC,i64_w,i32_w];rfl
 refine take_ (i:=5) (N:=some 10) (v:=?_) (a':=?_) (bA 9 63) rfl rfl (by kernel_rfl) (fun _ _ _ h=>h) (Or.inl ⟨by rfl,?_⟩) hHeld ?_ ?_
 rotate_left
 ·intro w' b5;obtain⟨b6,b7,b8,b9⟩:=b5;go_simp
  with_reducible rfl
 rotate_left
 ·simp only[Act.put,sA,sZ,sC,i64_w,i32_w];rfl
 have hQ1:=HQ.out (rd_T46 l (i+1)) w.drew (Below.refl _ w).drew;refine one_ (i:=6) (N:=some 11) (bA 9 127) rfl rfl (by kernel_rfl) (by decide) (fun K hK=>?_)
 refine goesv_ (f:=bf) (fn:=fn_) HF.out HNM.out HBD.out (#[.agg #[.int .i64 (rd_T46 l (i+1)).f0,.int .i64 (rd_T46 l (i+1)).f1]] ++ bc) (by rfl) rfl rfl (by simp [Act.eval,capsOf]) ?_
 refine hQ1.mono ?_;rintro e d0 ⟨rfl,d1⟩;refine⟨_,rfl,?_⟩;have d3:Below w.heap.size w d0:=(Below.refl _ w).drew.trans d1;refine hK.out _ _ (hS d0 d3) (fun hHeld=>?_)
 clear hK K;refine nm 11 ?_;refine pure_ (i:=7) (N:=some 12) (v:=?_) (a':=?_) (bA 9 255) rfl rfl (by kernel_rfl) (fun _ _ _ h=>h) (Or.inl ⟨by rfl,?_⟩) ?_ ?_
 rotate_left
 ·intro w';go_simp
  with_reducible rfl
 rotate_left
 ·simp only[Act.put,sA,sZ,sC,i64_w,i32_w];rfl
 refine pure_ (i:=8) (N:=some 4) (v:=?_) (a':=?_) (bA 9 511) rfl rfl (by kernel_rfl) (fun _ _ _ h=>h) (Or.inl ⟨by rfl,?_⟩) ?_ ?_
 rotate_left
 ·intro w';go_simp
  with_reducible rfl
 rotate_left
 ·simp only[Act.put,sA,sZ,sC,i64_w,i32_w];rfl
 refine done_ (by kernel_rfl) ?_
 go_wp2
 go_ret
 exact⟨by rfl,d3⟩
/-- Where the search ends. -/
def around_k (q:S46→Bool) (l:List S46):Int:=Fzf.sR (fun i=>! q (rd_T46 l (i+1))) (((l.length:Int) - 2).toNat+1) 0 ((l.length:Int) - 2)
theorem sR_range (p:Int→Bool):∀ (k:Nat) (i j:Int),0≤i→i≤j→i≤Fzf.sR p k i j∧Fzf.sR p k i j≤j:=by
 intro k;induction k with
 | zero=>intro i j _ a6;exact⟨Int.le_refl _,a6⟩
 | succ k ih =>
  intro i j a7 a6;rw[Fzf.sR];by_cases h:i < j
  ·rw[if_pos h];by_cases hp:p ((i+j) / 2)=true
   ·rw[if_pos hp];have:=ih i ((i+j) / 2) a7 (by omega)
    omega
   ·rw[if_neg hp];have:=ih ((i+j) / 2+1) j (by omega) (by omega)
    omega
  ·rw[if_neg h];omega
theorem C_belowM {w a6:World} {A:Option Addr} {n:Nat} {l:List S46} (h:Kd.C k46 w A n l) (hb:Below w.heap.size w a6):Kd.C k46 a6 A n l:=by
 refine⟨h.1,h.2.1,fun hp=>?_⟩
 obtain⟨ad,a7,a8⟩:=h.2.2 hp;refine⟨ad,a7,fun j q hj=>?_⟩
 obtain⟨cs,a9,b3,b4⟩:=a8 j q hj;exact⟨cs,a9,by obtain rfl:=k46_open b3;exact k46_mk _ _,fun i u hu=>pw_cell_below hb (b4 i u hu)⟩
theorem Hzy.calls (q:S46→Bool) (bf:Nat) (bc:Array Value) (A:Option Addr) (c:Nat) (l:List S46) (w:World)
  (hC:Kd.C k46 w A l.length l) (hc:l.length≤c)
  (hfn:∃ fn,Try.prog.funcs[bf]?=some fn∧(fn.name == "runtime.NumGoroutine")=false∧fn.body.isSome=true)
  (hq:∀ (m:S46) W,Below w.heap.size w W→Calls Try.prog bf (#[.agg #[.int .i64 m.f0,.int .i64 m.f1]] ++ bc) W fun e W'=>e=.returned (.bool (q m))∧Below W.heap.size W W') (a6:2≤(l.length:Int)) (hn:(l.length:Int) < 4611686018427387904) :
  Calls Try.prog 48 #[.slice A l.length c,.func (.func bf) #[] bc] w fun e w'=>e=.returned (.tuple #[.agg #[.int .i64 (rd_T46 l (around_k q l)).f0,.int .i64 (rd_T46 l (around_k q l)).f1],.agg #[.int .i64 (rd_T46 l (around_k q l+1)).f0,.int .i64 (rd_T46 l (around_k q l+1)).f1]])∧Below w.heap.size w w':=by
 have a7:=aM hC;have HQ:=aM hq;have HFN:=aM hfn;have HN:=aM (And.intro a6 hn);have hmf_:∀ (fn:Fn) (first cap:Array Value) (w:World),(Instr.makeFunc fn first cap).run Try.prog w=.ok (.func fn first cap) w:=fun _ _ _ _=>rfl
 have a8:IntKind.i64.wrap ((l.length:Int) - 2)=(l.length:Int) - 2:=by rw[i64_w];unfold wrap64;omega
 clear hC hc hfn hq a6 hn;go_enter Try.func48,Try.ntmps48
 have cS:∀ W,W=(((w.alloc (.cells #[.slice A l.length c] 22)).alloc (.cells #[.func (.func bf) #[] bc] 66)).alloc (.cells #[.int .i64 0,.int .i64 0] 46)).alloc (.cells #[.int .i64 0,.int .i64 0] 46)→Calls Try.prog 67 #[.int .i64 ((l.length:Int) - 2),.func (.func 68) #[] #[.pointer (some ⟨w.heap.size+1,0,none⟩),.pointer (some ⟨w.heap.size,0,none⟩)]] W fun e w'=>e=.returned (.int .i64 (around_k q l))∧Below W.heap.size W w':=by
  intro W hW;have hbl:W.heap[w.heap.size]?=some (.cells #[.slice A l.length c] 22 (0,0)):=by subst hW;exact blk_alloc (blk_alloc (blk_alloc (blk_new w _) _) _) _
  have hbb:W.heap[w.heap.size+1]?=some (.cells #[.func (.func bf) #[] bc] 66 (0,0)):=by subst hW;simpa using blk_alloc (blk_alloc (blk_new (w.alloc (.cells #[.slice A l.length c] 22)) (.cells #[.func (.func bf) #[] bc] 66)) _) _
  have a9:Below w.heap.size w W:=by subst hW;exact((((Below.refl _ w).alloc (Nat.le_refl _) _).alloc (by simp) _).alloc (by simp;omega) _).alloc (by simp;omega) _
  refine Fzf.calls ((l.length:Int) - 2) 68 #[.pointer (some ⟨w.heap.size+1,0,none⟩),.pointer (some ⟨w.heap.size,0,none⟩)] (fun i=>! q (rd_T46 l (i+1))) (fun W1=>Below W.heap.size W W1) W ⟨⟨_,Try.func68,by kernel_rfl,rfl⟩,fun i W1 b3 b4 hI=>?_⟩ (Below.refl _ _) (by have:=HN.out;omega) (by have:=HN.out;omega)
  have b5:Below w.heap.size w W1:=a9.trans (hI.mono a9.size);refine(Hzv.calls q bf bc (w.heap.size+1) w.heap.size A c l i W1 (blk_below hbb hI) (blk_below hbl hI) (C_belowM a7.out b5) HFN.out (fun m W2 a6=>HQ.out m W2 (b5.trans (a6.mono b5.size))) b3 (by omega) (by have:=HN.out;omega)).mono ?_
  rintro e W2 ⟨rfl,a6⟩;exact⟨rfl,hI.trans (a6.mono hI.size)⟩
 have hkr:0≤around_k q l∧around_k q l≤(l.length:Int) - 2:=by have:=HN.out;exact sR_range _ _ 0 _ (by omega) (by omega)
 have HK:=aM hkr;have b6:0≤around_k q l:=hkr.1;have q0:around_k q l < (l.length:Int):=by omega
 have b7:0≤around_k q l+1:=by omega
 have q1:around_k q l+1 < (l.length:Int):=by omega
 have b8:IntKind.i64.wrap (around_k q l+1)=around_k q l+1:=by have:=HN.out;rw[i64_w];unfold wrap64;omega
 obtain⟨ad,ead,b9,d0⟩:=at_T46 a7.out (around_k q l) b6 q0;obtain⟨ad',ead',d1,d3⟩:=at_T46 a7.out (around_k q l+1) b7 q1;obtain rfl:ad'=ad:=by rw[ead] at ead';injection ead' with ead';exact ead'.symm
 subst ead;have d4:=eq_true b6;have Q0:=eq_true q0;have d5:=eq_true b7;have Q1:=eq_true q1;generalize around_k q l=kk at *;clear hkr ead';go_wp2_with (first|(refine goesL_ (some 11) rfl rfl Try.func67 (by kernel_rfl) rfl #[.int .i64 ((l.length:Int) - 2),.func (.func 68) #[] #[.pointer (some ⟨w.heap.size+1,0,none⟩),.pointer (some ⟨w.heap.size,0,none⟩)]] rfl (by first|exact mA|(simp [Act.eval];done)) ?_;refine(cS _ rfl).mono ?_;rintro e d6 ⟨rfl,hb⟩;refine⟨_,rfl,?_⟩;have d7:=aM hb;clear hb))
 have hbl:d6.heap[w.heap.size]?=some (.cells #[.slice (some ad') l.length c] 22 (0,0)):=blk_below (blk_alloc (blk_alloc (blk_alloc (blk_new w _) _) _) _) d7.out;have d8:d6.heap[w.heap.size+1+1]?=some (.cells #[.int .i64 0,.int .i64 0] 46 (0,0)):=blk_below (by simpa using blk_alloc (blk_new ((w.alloc (.cells #[.slice (some ad') l.length c] 22)).alloc (.cells #[.func (.func bf) #[] bc] 66)) (.cells #[.int .i64 0,.int .i64 0] 46)) _) d7.out
 have d9:d6.heap[w.heap.size+1+1+1]?=some (.cells #[.int .i64 0,.int .i64 0] 46 (0,0)):=blk_below (by simpa using blk_new (((w.alloc (.cells #[.slice (some ad') l.length c] 22)).alloc (.cells #[.func (.func bf) #[] bc] 66)).alloc (.cells #[.int .i64 0,.int .i64 0] 46)) (.cells #[.int .i64 0,.int .i64 0] 46)) d7.out
 have e6:Below w.heap.size w d6:=(((((Below.refl _ w).alloc (Nat.le_refl _) _).alloc (by simp) _).alloc (by simp;omega) _).alloc (by simp;omega) _).trans (d7.out.mono (by simp;omega))
 have BKL:=aM hbl;have e7:=aM d8;have e8:=aM d9;have HW9:=aM e6;have hlt0:=World.block_lt_of_cell? w _ b9;have hlt1:=World.block_lt_of_cell? w _ d1;have HLT:=aM (And.intro hlt0 hlt1);clear hlt0 hlt1;replace b9:=pw_cell_below e6 b9;replace d0:=pw_cell_below e6 d0;replace d1:=pw_cell_below e6 d1;replace d3:=pw_cell_below e6 d3;clear hbl d8 d9 e6 d7;obtain⟨g4,hg4⟩:∃ g,g=w.heap.size+1+1:=⟨_,rfl⟩;obtain⟨g5,hg5⟩:∃ g,g=w.heap.size+1+1+1:=⟨_,rfl⟩;rw[← hg5];rw[← hg4];rw[← hg4] at e7;rw[← hg5] at e8;have G45:=aM (And.intro hg4 hg5);clear hg4 hg5;refine start_ (n:=11) (S:=fun W=>W.cell? ⟨w.heap.size,0,none⟩=some (.slice (some ad') l.length c)∧W.cell? (ad'.add (kk.toNat * 2))=some (.int .i64 (rd_T46 l kk).f0)∧W.cell? ⟨(ad'.add (kk.toNat * 2)).block,(ad'.add (kk.toNat * 2)).off+1,none⟩=some (.int .i64 (rd_T46 l kk).f1)∧W.cell? (ad'.add ((kk+1).toNat * 2))=some (.int .i64 (rd_T46 l (kk+1)).f0)∧W.cell? ⟨(ad'.add ((kk+1).toNat * 2)).block,(ad'.add ((kk+1).toNat * 2)).off+1,none⟩=some (.int .i64 (rd_T46 l (kk+1)).f1)) (ds:=[10]) (bA 11 0) (by kernel_rfl) rfl rfl ⟨(blk_cell BKL.out 0).trans rfl,b9,d0,d1,d3⟩ (fun hHeld=>?_)
 refine take_ (i:=0) (N:=some 12) (v:=?_) (a':=?_) (bA 11 1) rfl rfl (by kernel_rfl) (fun _ _ _ h=>h) (Or.inl ⟨by rfl,?_⟩) hHeld ?_ ?_
 rotate_left
 ·intro w' f3;obtain⟨f4,f5,f6,f7,f8⟩:=f3;go_simp
  with_reducible rfl
 rotate_left
 ·simp only[Act.put,sA,sZ,sC,i64_w,i32_w];rfl
 refine pure_ (i:=1) (N:=some 13) (v:=?_) (a':=?_) (bA 11 3) rfl rfl (by kernel_rfl) (fun _ _ _ h=>h) (Or.inl ⟨by rfl,?_⟩) ?_ ?_
 rotate_left
 ·intro w';go_simp
  with_reducible rfl
 rotate_left
 ·simp only[Act.put,sA,sZ,sC,i64_w,i32_w];rfl
 refine pure_ (i:=2) (N:=some 14) (v:=?_) (a':=?_) (bA 11 7) rfl rfl (by kernel_rfl) (fun _ _ _ h=>h) (Or.inl ⟨by rfl,?_⟩) ?_ ?_
 rotate_left
 ·intro w';go_simp
  with_reducible rfl
 rotate_left
 ·simp only[Act.put,sA,sZ,sC,i64_w,i32_w];rfl
 refine take_ (i:=3) (N:=some 15) (v:=?_) (a':=?_) (bA 11 15) rfl rfl (by kernel_rfl) (fun _ _ _ h=>h) (Or.inl ⟨by rfl,?_⟩) hHeld ?_ ?_
 rotate_left
 ·intro w' f3;obtain⟨f4,f5,f6,f7,f8⟩:=f3;go_simp
  with_reducible rfl
 rotate_left
 ·simp only[Act.put,sA,sZ,sC,i64_w,i32_w];rfl
 refine take_ (i:=4) (N:=some 16) (v:=?_) (a':=?_) (bA 11 31) rfl rfl (by kernel_rfl) (fun _ _ _ h=>h) (Or.inl ⟨by rfl,?_⟩) hHeld ?_ ?_
 rotate_left
 ·intro w' f3;obtain⟨f4,f5,f6,f7,f8⟩:=f3;go_simp
  with_reducible rfl
 rotate_left
 ·simp only[Act.put,sA,sZ,sC,i64_w,i32_w];rfl
 refine pure_ (i:=5) (N:=some 17) (v:=?_) (a':=?_) (bA 11 63) rfl rfl (by kernel_rfl) (fun _ _ _ h=>h) (Or.inl ⟨by rfl,?_⟩) ?_ ?_
 rotate_left
 ·intro w';go_simp
  with_reducible rfl
 rotate_left
 ·simp only[Act.put,sA,sZ,sC,i64_w,i32_w];rfl
 refine pure_ (i:=6) (N:=some 18) (v:=?_) (a':=?_) (bA 11 127) rfl rfl (by kernel_rfl) (fun _ _ _ h=>h) (Or.inl ⟨by rfl,?_⟩) ?_ ?_
 rotate_left
 ·intro w';go_simp
  with_reducible rfl
 rotate_left
 ·simp only[Act.put,sA,sZ,sC,i64_w,i32_w];rfl
 refine pure_ (i:=7) (N:=some 19) (v:=?_) (a':=?_) (bA 11 255) rfl rfl (by kernel_rfl) (fun _ _ _ h=>h) (Or.inl ⟨by rfl,?_⟩) ?_ ?_
 rotate_left
 ·intro w';go_simp
  with_reducible rfl
 rotate_left
 ·simp only[Act.put,sA,sZ,sC,i64_w,i32_w];rfl
 refine take_ (i:=8) (N:=some 20) (v:=?_) (a':=?_) (bA 11 511) rfl rfl (by kernel_rfl) (fun _ _ _ h=>h) (Or.inl ⟨by rfl,?_⟩) hHeld ?_ ?_
 rotate_left
 ·intro w' f3;obtain⟨f4,f5,f6,f7,f8⟩:=f3;go_simp
  with_reducible rfl
 rotate_left
 ·simp only[Act.put,sA,sZ,sC,i64_w,i32_w];rfl
 have f9:=aM (blk_drew e7.out);have g6:=aM (blk_drew e8.out);have HW9d:=aM HW9.out.drew;clear e7 e8 HW9 b9 d0 d1 d3 BKL;generalize d6.drew=wd at f9 g6 HW9d hHeld ⊢;obtain⟨g7,g8,g9,j5⟩:=bk2 f9;refine one_ (i:=9) (N:=none) (bA 11 1023) rfl rfl (by kernel_rfl) (by decide) (fun K hK=>?_)
 refine skip_ (w1:=?_) (by rfl) rfl ?_ ?_
 rotate_left
 ·go_simp
  rfl
 have hS2:∀ (u v:Value),(fun W:World=>W.cell? ⟨w.heap.size,0,none⟩=some (.slice (some ad') l.length c)∧W.cell? (ad'.add (kk.toNat * 2))=some (.int .i64 (rd_T46 l kk).f0)∧W.cell? ⟨(ad'.add (kk.toNat * 2)).block,(ad'.add (kk.toNat * 2)).off+1,none⟩=some (.int .i64 (rd_T46 l kk).f1)∧W.cell? (ad'.add ((kk+1).toNat * 2))=some (.int .i64 (rd_T46 l (kk+1)).f0)∧W.cell? ⟨(ad'.add ((kk+1).toNat * 2)).block,(ad'.add ((kk+1).toNat * 2)).off+1,none⟩=some (.int .i64 (rd_T46 l (kk+1)).f1)) ((wd.setCell ⟨g4,0,none⟩ u).setCell ⟨g4,1,none⟩ v):=by
  intro u v;have hg:=G45.out;have ht:=HLT.out;have j9:w.heap.size≠g4:=by omega
  have l5:(ad'.add (kk.toNat * 2)).block≠g4:=by omega
  have a6:(ad'.add ((kk+1).toNat * 2)).block≠g4:=by omega
  have hf:∀ q:Addr,q.block≠g4→((wd.setCell ⟨g4,0,none⟩ u).setCell ⟨g4,1,none⟩ v).cell? q=wd.cell? q:=fun q hq=>(cell_far hq _).trans (cell_far hq _)
  exact⟨(hf _ j9).trans hHeld.1,(hf _ l5).trans hHeld.2.1,(hf ⟨(ad'.add (kk.toNat * 2)).block,(ad'.add (kk.toNat * 2)).off+1,none⟩ l5).trans hHeld.2.2.1,(hf _ a6).trans hHeld.2.2.2.1,(hf ⟨(ad'.add ((kk+1).toNat * 2)).block,(ad'.add ((kk+1).toNat * 2)).off+1,none⟩ a6).trans hHeld.2.2.2.2⟩
 refine hK.out _ _ (hS2 _ _) (fun hHeld2=>?_)
 clear hK K hS2 hHeld g7 g8 g9 j5;have hn54:g5≠g4:=by have:=G45.out;omega
 have l6:=aM (blk_put (blk_put f9.out 0 (.int .i64 (rd_T46 l kk).f0) rfl) 1 (.int .i64 (rd_T46 l kk).f1) rfl);have l7:=aM (blk_far (p:=⟨g4,1,none⟩) (blk_far (p:=⟨g4,0,none⟩) g6.out hn54 (.int .i64 (rd_T46 l kk).f0)) hn54 (.int .i64 (rd_T46 l kk).f1));have HW9e:=aM ((HW9d.out.setCell (p:=⟨g4,0,none⟩) (by have:=G45.out;show _≤g4;omega) (.int .i64 (rd_T46 l kk).f0)).setCell (p:=⟨g4,1,none⟩) (by have:=G45.out;show _≤g4;omega) (.int .i64 (rd_T46 l kk).f1))
 clear hHeld2 f9 g6 HW9d;generalize ((wd.setCell ⟨g4,0,none⟩ (.int .i64 (rd_T46 l kk).f0)).setCell ⟨g4,1,none⟩ (.int .i64 (rd_T46 l kk).f1))=we at l6 l7 HW9e ⊢;obtain⟨l8,l9,m4,m5⟩:=bk2 l7;refine last_ (i:=10) (N:=none) (bA 11 2047) rfl rfl (by kernel_rfl) (by decide) (fun K hK=>?_)
 refine skip_ (w1:=?_) (by rfl) rfl ?_ ?_
 rotate_left
 ·go_simp
  rfl
 refine hK.out _ _ ?_;clear hK K l8 l9 m4 m5;have hn45:g4≠g5:=by have:=G45.out;omega
 have m6:=aM (blk_put (blk_put l7.out 0 (.int .i64 (rd_T46 l (kk+1)).f0) rfl) 1 (.int .i64 (rd_T46 l (kk+1)).f1) rfl);have m7:=aM (blk_far (p:=⟨g5,1,none⟩) (blk_far (p:=⟨g5,0,none⟩) l6.out hn45 (.int .i64 (rd_T46 l (kk+1)).f0)) hn45 (.int .i64 (rd_T46 l (kk+1)).f1));have HW9f:=aM ((HW9e.out.setCell (p:=⟨g5,0,none⟩) (by have:=G45.out;show _≤g5;omega) (.int .i64 (rd_T46 l (kk+1)).f0)).setCell (p:=⟨g5,1,none⟩) (by have:=G45.out;show _≤g5;omega) (.int .i64 (rd_T46 l (kk+1)).f1))
 clear l6 l7 HW9e;generalize ((we.setCell ⟨g5,0,none⟩ (.int .i64 (rd_T46 l (kk+1)).f0)).setCell ⟨g5,1,none⟩ (.int .i64 (rd_T46 l (kk+1)).f1))=wf at m7 m6 HW9f ⊢;refine done_ (by kernel_rfl) ?_
 obtain⟨g7,g8,g9,j5⟩:=bk2 m7;obtain⟨l8,l9,m4,m5⟩:=bk2 m6;go_wp2
 refine bodyPost_ret (results_cc rfl _ _ g4 g5 46 46 #[.int .i64 (rd_T46 l kk).f0,.int .i64 (rd_T46 l kk).f1] #[.int .i64 (rd_T46 l (kk+1)).f0,.int .i64 (rd_T46 l (kk+1)).f1] (0,0) (0,0) _ _ rfl m7.out Try.underlying46 rfl (by kernel_rfl) rfl m6.out Try.underlying46 rfl (by kernel_rfl)) rfl ?_
 exact⟨rfl,HW9f.out⟩
def Ezv.at_ (l:List S46) (t:Int):Int:=around_k (fun m=>decide (m.f0 < t)) l
def Ezv.f (l:List S46) (t:Int):Option Int:=if 2≤(l.length:Int)∧(l.length:Int) < 4611686018427387904 then(Azj.f (wrap64 (t - (rd_T46 l (Ezv.at_ l t)).f0)) (wrap64 ((rd_T46 l (Ezv.at_ l t+1)).f1 - (rd_T46 l (Ezv.at_ l t)).f1)) (wrap64 ((rd_T46 l (Ezv.at_ l t+1)).f0 - (rd_T46 l (Ezv.at_ l t)).f0)) 0).bind fun b=>some (wrap64 ((rd_T46 l (Ezv.at_ l t)).f1+b.1)) else none
theorem Ezv.calls (a6:Option Addr) (a7:Nat) (l0:List S46) (a8:Int) (r:Int) (w:World) (a9:Kd.C k46 w a6 l0.length l0) (b3:l0.length≤a7) (h:Ezv.f l0 a8=some r) :
  Calls Try.prog 32 #[.slice a6 l0.length a7,.int .i64 a8] w fun e w'=>e=.returned (.int .i64 r)∧Below w.heap.size w w':=by
 unfold Ezv.f at h;by_cases hl:2≤(l0.length:Int)∧(l0.length:Int) < 4611686018427387904
 ·rw[if_pos hl,Option.bind_eq_some_iff] at h;obtain⟨⟨d,b4⟩,hd,h⟩:=h;injection h with h
  subst h;have hmf_:∀ (fn:Fn) (first cap:Array Value) (w:World),(Instr.makeFunc fn first cap).run Try.prog w=.ok (.func fn first cap) w:=fun _ _ _ _=>rfl
  have cA:∀ W,W=w.alloc (.cells #[.int .i64 a8] 3)→Calls Try.prog 48 #[.slice a6 l0.length a7,.func (.func 49) #[] #[.pointer (some ⟨w.heap.size,0,none⟩)]] W fun e w'=>e=.returned (.tuple #[.agg #[.int .i64 (rd_T46 l0 (Ezv.at_ l0 a8)).f0,.int .i64 (rd_T46 l0 (Ezv.at_ l0 a8)).f1],.agg #[.int .i64 (rd_T46 l0 (Ezv.at_ l0 a8+1)).f0,.int .i64 (rd_T46 l0 (Ezv.at_ l0 a8+1)).f1]])∧Below W.heap.size W w':=by
   intro W hW;have hb:W.heap[w.heap.size]?=some (.cells #[.int .i64 a8] 3 (0,0)):=by subst hW;exact blk_new w _
   have hw:Below w.heap.size w W:=by subst hW;exact(Below.refl _ w).alloc (Nat.le_refl _) _
   refine Hzy.calls (fun m=>decide (m.f0 < a8)) 49 #[.pointer (some ⟨w.heap.size,0,none⟩)] a6 a7 l0 W (C_belowM a9 hw) b3 ⟨_,Try.func49,by kernel_rfl,rfl⟩ (fun m W1 b5=>?_) hl.1 hl.2
   exact Hzq.calls m.f0 m.f1 (some ⟨w.heap.size,0,none⟩) 1 [a8] _ W1 (Kd.cap_C (blk_below hb b5) rfl) (Nat.le_refl _) rfl
  have HD:=aM hd;have HC:=aM cA;clear hd cA a9 b3 hl;generalize rd_T46 l0 (Ezv.at_ l0 a8)=b6 at *;generalize rd_T46 l0 (Ezv.at_ l0 a8+1)=b7 at *;obtain⟨j0,hj0⟩:∃ j_:Int,wrap64 (a8 - b6.f0)=j_:=⟨_,rfl⟩;obtain⟨j1,hj1⟩:∃ j_:Int,wrap64 (b7.f1 - b6.f1)=j_:=⟨_,rfl⟩;obtain⟨j2,hj2⟩:∃ j_:Int,wrap64 (b7.f0 - b6.f0)=j_:=⟨_,rfl⟩;obtain⟨j3,hj3⟩:∃ j_:Int,wrap64 (b6.f1+d)=j_:=⟨_,rfl⟩;rw[hj0,hj1,hj2] at HD;rw[hj3];rw[← i64_w] at hj0 hj1 hj2 hj3;go_enter Try.func32,Try.ntmps32
  go_wp2_with (first|(refine goesL_ (some 12) rfl rfl Try.func48 (by kernel_rfl) rfl #[.slice a6 l0.length a7,.func (.func 49) #[] #[.pointer (some ⟨w.heap.size,0,none⟩)]] rfl (by first|exact mA|(simp [Act.eval];done)) ?_;refine(HC.out _ rfl).mono ?_;rintro e b8 ⟨rfl,hb⟩;refine⟨_,rfl,?_⟩;have b9:=aM (((Below.refl _ w).alloc (Nat.le_refl _) (.cells #[.int .i64 a8] 3)).trans (hb.mono (by simp)));have HT:=aM (blk_below (blk_new w (.cells #[.int .i64 a8] 3)) hb);have hczT:∀ o o',((b8.alloc o).alloc o').cell? ⟨w.heap.size,0,none⟩=some (.int .i64 a8):=fun o o'=>(blk_cell (blk_alloc (blk_alloc HT.out o) o') 0).trans rfl;clear hb)|(refine goesL_ (some 30) rfl rfl Try.func50 (by kernel_rfl) rfl #[.int .i64 j0,.int .i64 j1,.int .i64 j2,.int .i64 0] rfl (by first|exact mA|(simp [Act.eval];done)) ?_;refine(Azj.calls j0 j1 j2 0 d b4 _ HD.out).mono ?_;rintro e d0 ⟨rfl,hb⟩;refine⟨_,rfl,?_⟩;have d1:=aM (b9.out.trans ((((Below.refl _ b8).alloc (Nat.le_refl _) (.cells #[.int .i64 b6.f0,.int .i64 b6.f1] 46)).alloc (by simp) (.cells #[.int .i64 b7.f0,.int .i64 b7.f1] 46)).trans (hb.mono (by simp;omega))|>.mono b9.out.size));have HM0:=aM (blk_below (blk_alloc (blk_new b8 (.cells #[.int .i64 b6.f0,.int .i64 b6.f1] 46)) (.cells #[.int .i64 b7.f0,.int .i64 b7.f1] 46)) hb);obtain⟨hczM_0,hczM_1,hfzM_0,hfzM_1⟩:=bk2 HM0;clear hb))
  go_ret
  exact⟨rfl,d1.out⟩
 ·rw[if_neg hl] at h;cases h


def Gzj.f (k:Nat) (l0:List (S46)) (a1:Int):Option (Int × Int):=(Czv.f k l0).bind fun t112=>(if t112=0 then((Fzq.f l0 a1).bind fun t113=>(if t113=true then((Ezv.f l0 a1).bind fun t114=>(some (t114,0))) else(some (0,1)))) else(some (0,t112)))
theorem Gzj.mono:∀ a6 a7 k,LeO (Gzj.f k a6 a7) (Gzj.f (k+1) a6 a7):=by
 intro a6 a7 k;unfold Gzj.f;have i0:=@Czv.mono;exact mM
theorem Gzj.calls (k:Nat) (a6:Option Addr) (a7:Nat) (l0:List (S46)) (a8:Int) (a9:Int) (b3:Int) (w:World) (b4:Kd.C k46 w a6 l0.length l0) (b5:l0.length≤a7) (h:Gzj.f k l0 a8=some (a9,b3)) :
  Calls Try.prog 12 #[.slice a6 l0.length a7,.int .i64 a8] w fun e w'=>e=.returned (.tuple #[.int .i64 a9,.int .i64 b3])∧Below w.heap.size w w':=by
 have b6:=aM b4;have b7:=aM b5;clear b4 b5;have HB:=aM (Below.refl w.heap.size w);have H:((Czv.f k l0).bind fun b8=>(if b8=0 then((Fzq.f l0 a8).bind fun b9=>(if b9=true then((Ezv.f l0 a8).bind fun d0=>(some (d0,0))) else(some (0,1)))) else(some (0,b8))))=some (a9,b3):=h
 clear h;obtain⟨b8,d1,H⟩:=bT H;(try dsimp only at H);by_cases c4:b8=0
 ·rw[if_pos c4] at H;obtain⟨d3,d4⟩:=bE c4;clear c4;obtain⟨b9,d5,H⟩:=bT H;(try dsimp only at H);by_cases c6:b9=true
  ·subst c6;rw[if_pos rfl] at H;replace H:=bS H;obtain⟨d0,d6,H⟩:=H;replace H:(some (d0,0))=some (a9,b3):=H;have d7:=aM d6;clear d6;obtain⟨rfl,rfl⟩:=q2 H;go_enter Try.func12,Try.ntmps12
   go_wp2_with (first|((with_reducible refine gc 14 rfl ?_);refine gC 14 (some 8) Try.func14 #[.slice a6 l0.length a7] ?_;(with_reducible refine(Czv.calls k _ _ l0 b8 _ ?_ ?_ d1.out).mono ?_);exact cX b6.out;exact b7.out;rintro e d8 ⟨rfl,hb⟩;refine⟨_,rfl,?_⟩;replace HB:=bB hb;clear hb)|((with_reducible refine gc 31 rfl ?_);refine gC 31 (some 14) Try.func31 #[.slice a6 l0.length a7,.int .i64 a8] ?_;(with_reducible refine(Fzq.calls _ _ l0 a8 true _ ?_ ?_ d5.out).mono ?_);exact cB b6;exact b7.out;rintro e w' ⟨rfl,⟨nd,rfl⟩⟩;refine⟨_,rfl,?_⟩)|((with_reducible refine gc 32 rfl ?_);refine gC 32 (some 18) Try.func32 #[.slice a6 l0.length a7,.int .i64 a8] ?_;(with_reducible refine(Ezv.calls _ _ l0 a8 d0 _ ?_ ?_ d7.out).mono ?_);exact cB b6;exact b7.out;rintro e d9 ⟨rfl,hb⟩;refine⟨_,rfl,?_⟩;replace HB:=bB hb;clear hb))
   go_ret2
   exact⟨eW,pB⟩
  ·obtain rfl:=bN c6;rw[if_neg nF] at H
   obtain⟨rfl,rfl⟩:=q2 H;go_enter Try.func12,Try.ntmps12
   go_wp2_with (first|((with_reducible refine gc 14 rfl ?_);refine gC 14 (some 8) Try.func14 #[.slice a6 l0.length a7] ?_;(with_reducible refine(Czv.calls k _ _ l0 b8 _ ?_ ?_ d1.out).mono ?_);exact cX b6.out;exact b7.out;rintro e e6 ⟨rfl,hb⟩;refine⟨_,rfl,?_⟩;replace HB:=bB hb;clear hb)|((with_reducible refine gc 31 rfl ?_);refine gC 31 (some 14) Try.func31 #[.slice a6 l0.length a7,.int .i64 a8] ?_;(with_reducible refine(Fzq.calls _ _ l0 a8 false _ ?_ ?_ d5.out).mono ?_);exact cB b6;exact b7.out;rintro e w' ⟨rfl,⟨nd,rfl⟩⟩;refine⟨_,rfl,?_⟩))
   go_ret2
   exact⟨eW,pB⟩
 ·rw[if_neg c4] at H;obtain⟨d3,d4⟩:=bI c4;obtain⟨rfl,rfl⟩:=q2 H;go_enter Try.func12,Try.ntmps12
  go_wp2_with (first|((with_reducible refine gc 14 rfl ?_);refine gC 14 (some 8) Try.func14 #[.slice a6 l0.length a7] ?_;(with_reducible refine(Czv.calls k _ _ l0 b8 _ ?_ ?_ d1.out).mono ?_);exact cX b6.out;exact b7.out;rintro e e7 ⟨rfl,hb⟩;refine⟨_,rfl,?_⟩;replace HB:=bB hb;clear hb))
  go_ret2
  exact⟨eW,pB⟩

def Dzb.j0:Nat→List (S46)→Bool→Int→Int→Option (Int × Int)
 | 0,_,_,_,_=>none
 | k+1,x0,x17,x116000,x116001=>if x17=true then(some (0,1)) else(if x116000 > x116001 then(some (0,9)) else((Ezv.f x0 x116001).bind fun t118=>((Ezv.f x0 x116000).bind fun t119=>(some (wrap64 (t118 - t119),0)))))
def Dzb.f (k:Nat) (l0:List (S46)) (a1_0:Int) (a1_1:Int):Option (Int × Int):=(Fzq.f l0 a1_0).bind fun t116=>(if t116=true then((Fzq.f l0 a1_1).bind fun t117=>(Dzb.j0 k l0 (!t117) a1_0 a1_1)) else(Dzb.j0 k l0 true a1_0 a1_1))
theorem Dzb.mono_l:∀ k,(∀ a6 a7 a8 a9,LeO (Dzb.j0 k a6 a7 a8 a9) (Dzb.j0 (k+1) a6 a7 a8 a9))
 | 0=>fun _ _ _ _ r h=>by simp [Dzb.j0] at h
 | k+1=>by
  have ih0:=Dzb.mono_l k
  ·intro a6 a7 a8 a9;unfold Dzb.j0;exact mM
theorem Dzb.mono:∀ a6 a7 a8 k,LeO (Dzb.f k a6 a7 a8) (Dzb.f (k+1) a6 a7 a8):=by
 intro a6 a7 a8 k;have ih0:=Dzb.mono_l k;unfold Dzb.f;exact mM
def Dzb.T5:Bool × List (List Nat × List Nat):=(true,[([],[]),([],[]),([1],[1]),([0,2],[0,2]),([],[]),([],[]),([5],[5]),([4,6,3],[4,6]),([3,7],[3,7]),([8,7,0,1,2,3,4,5,6,7,8],[8]),([9,0,1,2,3,4,5,6,7,8,9],[])])
def Dzb.B5:List Nat:=[0,0,2,7,0,0,32,127,255,511,1023]
theorem Dzb.tab5:rtab .any (opsOf Try.f35 5)=Dzb.T5:=by kernel_rfl
theorem Dzb.bits5:waitsOk Dzb.T5.2 Dzb.B5=true:=by kernel_rfl
theorem Dzb.calls (k:Nat) (a6:Option Addr) (a7:Nat) (l0:List (S46)) (a8:Int) (a9:Int) (b3:Int) (b4:Int) (w:World) (b5:Kd.C k46 w a6 l0.length l0) (b6:l0.length≤a7) (h:Dzb.f k l0 a8 a9=some (b3,b4)) :
  Calls Try.prog 35 #[.slice a6 l0.length a7,.agg #[.int .i64 a8,.int .i64 a9]] w fun e w'=>e=.returned (.tuple #[.int .i64 b3,.int .i64 b4])∧Below w.heap.size w w':=by
 have hu31:=Try.underlying31;have b7:=aM b5;have b8:=aM b6;clear b5 b6;have HB:=aM (Below.refl w.heap.size w);have H:((Fzq.f l0 a8).bind fun b9=>(if b9=true then((Fzq.f l0 a9).bind fun d0=>(Dzb.j0 k l0 (!d0) a8 a9)) else(Dzb.j0 k l0 true a8 a9)))=some (b3,b4):=h
 clear h;have d1:=aM H;clear H;go_enter Try.func35,Try.ntmps35
 go_upto_region 1 with (first|((with_reducible refine gd 3 rfl ?_);refine bx #[.int .i64 a8,.int .i64 a9] 31 ?_;intro d3 hg d4 d5 hb;have d6:=gA w hg;have d7:=gA w hg;replace HB:=bB hb;clear hb hg))
 (try simp only[Act.put,sA,sZ,sC])
 go_cut [17] (fun d8 wc=>∃ (kq:Nat) (d9:Bool),d8=.bool d9∧Aside0 (Dzb.j0 kq l0 d9 a8 a9=some (b3,b4))∧Aside0 (kq≤k)∧Aside0 (wc.heap[d3]?=some (.cells #[.int .i64 a8,.int .i64 a9] 31 (0,0)))∧Aside0 (Below w.heap.size w wc))
 case first =>
  have H:=d1.out;clear d1;obtain⟨b9,e6,H⟩:=bT H;(try dsimp only at H);by_cases c6:b9=true
  ·subst c6;rw[if_pos rfl] at H;obtain⟨d0,e7,H⟩:=bT H;(try dsimp only at H);have H':=aM H;clear H;obtain⟨e8,f3,f4,f5⟩:=bk2 d5;go_wp2_with (first|((with_reducible refine gc 31 rfl ?_);refine gC 31 (some 9) Try.func31 #[.slice a6 l0.length a7,.int .i64 a8] ?_;(with_reducible refine(Fzq.calls _ _ l0 a8 true _ ?_ ?_ e6.out).mono ?_);exact cB b7;exact b8.out;rintro e w' ⟨rfl,⟨nd,rfl⟩⟩;refine⟨_,rfl,?_⟩)|(go_at_call 31;(with_reducible refine(Fzq.calls _ _ l0 a9 d0 _ ?_ ?_ e7.out).mono ?_);exact cB b7;exact b8.out;rintro e w' ⟨rfl,⟨nd,rfl⟩⟩))
   go_meet
   case rel=>exact⟨_,(!d0),sD,H',⟨by first|omega|exact Nat.le_refl _⟩,⟨by exact kW d5⟩,⟨pB⟩⟩
  ·obtain rfl:=bN c6;rw[if_neg nF] at H
   have H':=aM H;clear H;obtain⟨f6,f7,f8,f9⟩:=bk2 d5;go_wp2_with (first|((with_reducible refine gc 31 rfl ?_);refine gC 31 (some 9) Try.func31 #[.slice a6 l0.length a7,.int .i64 a8] ?_;(with_reducible refine(Fzq.calls _ _ l0 a8 false _ ?_ ?_ e6.out).mono ?_);exact cB b7;exact b8.out;rintro e w' ⟨rfl,⟨nd,rfl⟩⟩;refine⟨_,rfl,?_⟩))
   go_meet
   case rel=>exact⟨_,(true),sD,H',⟨by first|omega|exact Nat.le_refl _⟩,⟨by exact kW d5⟩,⟨pB⟩⟩
 case rest =>
  clear d1;try clear p2
  obtain⟨kq,d9,rfl,HA,g6,d5,HB⟩:=hcut;cases kq with
  | zero=>exact absurd HA.out (by simp [Dzb.j0])
  | succ g7 =>
   have H:=HA.out;clear HA;simp only[Dzb.j0] at H;by_cases c10:d9=true
   ·subst c10;rw[if_pos rfl] at H;obtain⟨rfl,rfl⟩:=q2 H;go_wp2
    go_ret2
    exact⟨eW,pB⟩
   ·obtain rfl:=bN c10;rw[if_neg nF] at H
    by_cases g8:a8 > a9
    ·rw[if_pos g8] at H;have g9:decide (a9 < a8)=true:=dE g8;clear g8;obtain⟨rfl,rfl⟩:=q2 H;obtain⟨j5,j9,l5,l6⟩:=bk2 d5;go_wp2
     go_ret2
     exact⟨eW,pB⟩
    ·rw[if_neg g8] at H;have g9:decide (a9 < a8)=false:=decide_eq_false g8;clear g8;obtain⟨l7,l8,H⟩:=bT H;(try dsimp only at H);replace H:=bS H;obtain⟨l9,m4,H⟩:=H;replace H:(some (wrap64 (l7 - l9),0))=some (b3,b4):=H;have m5:=aM m4;clear m4;obtain⟨rfl,rfl⟩:=q2 H;obtain⟨m6,m7,m8,m9⟩:=bk2 d5;try go_wp2
     have n0_:=aM (blk_drew d5.out);have n1_:=aM (below_drew1 HB.out);clear d5 HB;have d5:=n0_;have HB:=n1_;clear n0_ n1_;refine start_ (n:=11) (S:=fun w'=>w'.cell? ⟨d3,0,none⟩=some (.int .i64 a8)∧w'.cell? ⟨d3,1,none⟩=some (.int .i64 a9)) (ds:=[]) (bA 11 0) (by kernel_rfl) rfl rfl ⟨(blk_cell d5.out 0).trans rfl,(blk_cell d5.out 1).trans rfl⟩ (fun hHeld=>?_);refine with_tabW Dzb.tab5 Dzb.bits5 (fun HT_ HW_=>?_)
     generalize wc.drew=n0 at d5 HB hHeld ⊢;refine pS 0 23 HT_ ?_;refine pS 1 24 HT_ ?_;refine pS 4 27 HT_ ?_;refine pS 5 28 HT_ ?_;refine tU 2 25 HT_ HW_ hHeld ?_;refine tU 6 29 HT_ HW_ hHeld ?_;refine oU 3 (some 26) HT_ fun K hK=>?_
     refine goes_ Try.func32 (by kernel_rfl) rfl #[.slice a6 l0.length a7,.int .i64 a9] (by rfl) rfl rfl mA ?_
     with_reducible refine(Ezv.calls _ _ l0 a9 l7 _ ?side1 ?side2 l8.out).mono ?_
     (case side1=>exact cB b7)
     (case side2=>exact b8.out)
     rintro e n1 ⟨rfl,hb⟩;refine⟨_,rfl,?_⟩;have n0_:=kb d5 hb;have n1_:=bB hb;clear d5 HB;have d5:=n0_;have HB:=n1_;clear n0_ n1_ hb
     (try clear n2)
     (try clear hk)
     (try clear hi)
     refine hK.out _ _ ⟨(blk_cell d5.out 0).trans rfl,(blk_cell d5.out 1).trans rfl⟩ (fun hHeld=>?_)
     clear hK K;refine nm 26 ?_;refine oU 7 (some 30) HT_ fun K hK=>?_
     refine goes_ Try.func32 (by kernel_rfl) rfl #[.slice a6 l0.length a7,.int .i64 a8] (by rfl) rfl rfl mA ?_
     with_reducible refine(Ezv.calls _ _ l0 a8 l9 _ ?side1 ?side2 m5.out).mono ?_
     (case side1=>exact cB b7)
     (case side2=>exact b8.out)
     rintro e n3 ⟨rfl,hb⟩;refine⟨_,rfl,?_⟩;have n0_:=kb d5 hb;have n1_:=bB hb;clear d5 HB;have d5:=n0_;have HB:=n1_;clear n0_ n1_ hb
     (try clear n2)
     (try clear hk)
     (try clear hi)
     refine hK.out _ _ ⟨(blk_cell d5.out 0).trans rfl,(blk_cell d5.out 1).trans rfl⟩ (fun hHeld=>?_)
     clear hK K;refine nm 30 ?_;refine pS 8 31 HT_ ?_;refine pS 9 4 HT_ ?_;refine pS 10 5 HT_ ?_;refine done_ (done_of HT_.out (by kernel_rfl)) ?_
     try go_wp2
     go_ret2
     exact⟨eW,pB⟩


def Gzy.f (k:Nat) (l0:List (S46)) (a1_0:Int) (a1_1:Int):Option (Int × Int):=(Czv.f k l0).bind fun t121=>(if t121=0 then((Dzb.f k l0 a1_0 a1_1).bind fun bt122=>(some (bt122.1,bt122.2))) else(some (0,t121)))
theorem Gzy.mono:∀ a6 a7 a8 k,LeO (Gzy.f k a6 a7 a8) (Gzy.f (k+1) a6 a7 a8):=by
 intro a6 a7 a8 k;unfold Gzy.f;have i0:=@Czv.mono;have i1:=@Dzb.mono;exact mM
theorem Gzy.calls (k:Nat) (a6:Option Addr) (a7:Nat) (l0:List (S46)) (a8:Int) (a9:Int) (b3:Int) (b4:Int) (w:World) (b5:Kd.C k46 w a6 l0.length l0) (b6:l0.length≤a7) (h:Gzy.f k l0 a8 a9=some (b3,b4)) :
  Calls Try.prog 16 #[.slice a6 l0.length a7,.agg #[.int .i64 a8,.int .i64 a9]] w fun e w'=>e=.returned (.tuple #[.int .i64 b3,.int .i64 b4])∧Below w.heap.size w w':=by
 have hu31:=Try.underlying31;have b7:=aM b5;have b8:=aM b6;clear b5 b6;have HB:=aM (Below.refl w.heap.size w);have H:((Czv.f k l0).bind fun b9=>(if b9=0 then((Dzb.f k l0 a8 a9).bind fun d0=>(some (d0.1,d0.2))) else(some (0,b9))))=some (b3,b4):=h
 clear h;obtain⟨b9,d1,H⟩:=bT H;(try dsimp only at H);by_cases c4:b9=0
 ·rw[if_pos c4] at H;obtain⟨d3,d4⟩:=bE c4;clear c4;replace H:=bS H;obtain⟨⟨d5,d6⟩,d7,H⟩:=H;replace H:(some (d5,d6))=some (b3,b4):=H;have d8:=aM d7;clear d7;obtain⟨rfl,rfl⟩:=q2 H;go_enter Try.func16,Try.ntmps16
  go_wp2_with (first|((with_reducible refine gd 3 rfl ?_);refine bx #[.int .i64 a8,.int .i64 a9] 31 ?_;intro d9 hg e6 e7 hb;have e8:=gA w hg;have f3:=gA w hg;replace HB:=bB hb;clear hb hg)|((with_reducible refine gc 14 rfl ?_);refine gC 14 (some 8) Try.func14 #[.slice a6 l0.length a7] ?_;(with_reducible refine(Czv.calls k _ _ l0 b9 _ ?_ ?_ d1.out).mono ?_);exact cB b7;exact b8.out;rintro e f4 ⟨rfl,hb⟩;refine⟨_,rfl,?_⟩;replace e7:=kb e7 hb;replace HB:=bB hb;clear hb;obtain⟨f5,f6,f7,f8⟩:=bk2 e7)|((with_reducible refine gc 35 rfl ?_);refine gC 35 (some 14) Try.func35 #[.slice a6 l0.length a7,.agg #[.int .i64 a8,.int .i64 a9]] ?_;(with_reducible refine(Dzb.calls k _ _ l0 a8 a9 d5 d6 _ ?_ ?_ d8.out).mono ?_);exact cB b7;exact b8.out;rintro e f9 ⟨rfl,hb⟩;refine⟨_,rfl,?_⟩;replace e7:=kb e7 hb;replace HB:=bB hb;clear hb))
  go_ret2
  exact⟨eW,pB⟩
 ·rw[if_neg c4] at H;obtain⟨d3,d4⟩:=bI c4;obtain⟨rfl,rfl⟩:=q2 H;go_enter Try.func16,Try.ntmps16
  go_wp2_with (first|((with_reducible refine gd 3 rfl ?_);refine bx #[.int .i64 a8,.int .i64 a9] 31 ?_;intro d9 hg g6 e7 hb;have e8:=gA w hg;have f3:=gA w hg;replace HB:=bB hb;clear hb hg)|((with_reducible refine gc 14 rfl ?_);refine gC 14 (some 8) Try.func14 #[.slice a6 l0.length a7] ?_;(with_reducible refine(Czv.calls k _ _ l0 b9 _ ?_ ?_ d1.out).mono ?_);exact cB b7;exact b8.out;rintro e g7 ⟨rfl,hb⟩;refine⟨_,rfl,?_⟩;replace e7:=kb e7 hb;replace HB:=bB hb;clear hb))
  go_ret2
  exact⟨eW,pB⟩



def Gzp.f (a0:Int):Option (Bool):=if a0 < 0 then(some true) else(some (decide (a0 > 1125899906842624)))
theorem Gzp.calls (a6:Int) (r:Bool) (w:World) (h:Gzp.f a6=some r) :
  Calls Try.prog 74 #[.int .i64 a6] w fun e w'=>e=.returned (.bool r)∧Drawn0 w w':=by
 have H:(if a6 < 0 then(some true) else(some (decide (a6 > 1125899906842624))))=some r:=h
 clear h;by_cases c2:a6 < 0
 ·rw[if_pos c2] at H;have a7:=dE c2;clear c2;obtain rfl:=Option.some.inj H;go_enter Try.func74,Try.ntmps74
  go_wp2
  go_ret
  exact⟨sD,dR⟩
 ·rw[if_neg c2] at H;have a7:decide (a6 < 0)=false:=decide_eq_false c2;clear c2;obtain rfl:=Option.some.inj H;go_enter Try.func74,Try.ntmps74
  go_wp2
  go_ret
  exact⟨sD,dR⟩

def Gzv.f (k:Nat) (a0:Int):Option (Int × Int):=(Dzq.f k (([a0]:List Int))).bind fun t127=>(if t127=true then(some (a0,0)) else(some (0,2)))
theorem Gzv.mono:∀ a6 k,LeO (Gzv.f k a6) (Gzv.f (k+1) a6):=by
 intro a6 k;unfold Gzv.f;have i0:=@Dzq.mono;exact mM
theorem Gzv.calls (k:Nat) (a6:Int) (a7:Int) (a8:Int) (w:World) (h:Gzv.f k a6=some (a7,a8)) :
  Calls Try.prog 87 #[.int .i64 a6] w fun e w'=>e=.returned (.tuple #[.int .i64 a7,.int .i64 a8])∧Below w.heap.size w w':=by
 have HB:=aM (Below.refl w.heap.size w);have H:((Dzq.f k (([a6]:List Int))).bind fun a9=>(if a9=true then(some (a6,0)) else(some (0,2))))=some (a7,a8):=h
 clear h;obtain⟨b3,b4⟩:∃ y_:List Int,y_=(([a6]:List Int)):=⟨_,rfl⟩;replace H:((Dzq.f k b3).bind fun a9=>(if a9=true then(some (a6,0)) else(some (0,2))))=some (a7,a8):=yE b4 H
 have b5:=aM b4;clear b4;obtain⟨a9,b6,H⟩:=bT H;(try dsimp only at H);by_cases c3:a9=true
 ·subst c3;rw[if_pos rfl] at H;obtain⟨rfl,rfl⟩:=q2 H;go_enter Try.func87,Try.ntmps87
  go_wp2_with (first|((with_reducible refine gd 5 rfl ?_);refine iL 5 [a6] ?_;intro b7 b8 b9 hb;replace b9:=rY b5 b9;have d0:=rL b9;replace HB:=bB hb;clear hb b9;obtain⟨d1,d3,rfl⟩:=Kd.R_slice d0.out)|((with_reducible refine gc 69 rfl ?_);refine gC 69 (some 6) Try.func69 #[.slice d1 b3.length d3] ?_;(with_reducible refine(Dzq.calls k _ _ b3 true _ ?_ ?_ b6.out).mono ?_);exact cR d0;exact lR d0;rintro e w' ⟨rfl,⟨nd,rfl⟩⟩;refine⟨_,rfl,?_⟩))
  go_ret2
  exact⟨eW,pB⟩
 ·obtain rfl:=bN c3;rw[if_neg nF] at H
  obtain⟨rfl,rfl⟩:=q2 H;go_enter Try.func87,Try.ntmps87
  go_wp2_with (first|((with_reducible refine gd 5 rfl ?_);refine iL 5 [a6] ?_;intro b7 d4 d5 hb;replace d5:=rY b5 d5;have d0:=rL d5;replace HB:=bB hb;clear hb d5;obtain⟨d6,d7,rfl⟩:=Kd.R_slice d0.out)|((with_reducible refine gc 69 rfl ?_);refine gC 69 (some 6) Try.func69 #[.slice d6 b3.length d7] ?_;(with_reducible refine(Dzq.calls k _ _ b3 false _ ?_ ?_ b6.out).mono ?_);exact cR d0;exact lR d0;rintro e w' ⟨rfl,⟨nd,rfl⟩⟩;refine⟨_,rfl,?_⟩))
  go_ret2
  exact⟨eW,pB⟩

def Fzv.l0:Nat→Int→Int→List Int→Int→Int→Option (Int × Int)
 | 0,_,_,_,_,_=>none
 | k+1,x4,x5,x14,x15,x16=>if x16 < x15 then(if 0≤x16 then(if x16 < (x14.length:Int) then(Fzv.l0 k (wrap64 (x4+(wrap64 (Int.tdiv (rd x14 x16) 33554432)))) (wrap64 (x5+(Int.tmod (rd x14 x16) 33554432))) x14 x15 (wrap64 (x16+1))) else(none)) else(none)) else(if(wrap64 (x4+(wrap64 (Int.tdiv x5 33554432)))) > 33554433 then(some (0,2)) else(if(wrap64 (x4+(wrap64 (Int.tdiv x5 33554432)))) < (-33554433) then(some (0,2)) else((Gzv.f k (wrap64 ((wrap64 ((wrap64 (x4+(wrap64 (Int.tdiv x5 33554432)))) * 33554432))+(Int.tmod x5 33554432)))).bind fun bt130=>(some (bt130.1,bt130.2)))))
def Fzv.f (k:Nat) (l0:List Int):Option (Int × Int):=if(l0.length:Int) > 65536 then(some (0,8)) else((Dzq.f k l0).bind fun t128=>(if t128=true then(Fzv.l0 k 0 0 l0 (l0.length:Int) 0) else(some (0,1))))
theorem Fzv.mono_l:∀ k,(∀ a6 a7 a8 a9 b3,LeO (Fzv.l0 k a6 a7 a8 a9 b3) (Fzv.l0 (k+1) a6 a7 a8 a9 b3))
 | 0=>fun _ _ _ _ _ r h=>by simp [Fzv.l0] at h
 | k+1=>by
  have ih0:=Fzv.mono_l k
  ·intro a6 a7 a8 a9 b3;unfold Fzv.l0;have i0:=@Dzq.mono;have i1:=@Gzv.mono;exact mM
theorem Fzv.mono:∀ a6 k,LeO (Fzv.f k a6) (Fzv.f (k+1) a6):=by
 intro a6 k;have ih0:=Fzv.mono_l k;unfold Fzv.f;have i0:=@Dzq.mono;have i1:=@Gzv.mono;exact mM
theorem Fzv.calls (k:Nat) (a6:Option Addr) (a7:Nat) (l0:List Int) (a8:Int) (a9:Int) (w:World) (b3:Kd.C (Kd.int .i64) w a6 l0.length l0) (b4:l0.length≤a7) (h:Fzv.f k l0=some (a8,a9)) :
  Calls Try.prog 75 #[.slice a6 l0.length a7] w fun e w'=>e=.returned (.tuple #[.int .i64 a8,.int .i64 a9])∧Below w.heap.size w w':=by
 have b5:=aM b3;have b6:=aM b4;clear b3 b4;have HB:=aM (Below.refl w.heap.size w);have H:(if(l0.length:Int) > 65536 then(some (0,8)) else((Dzq.f k l0).bind fun b7=>(if b7=true then(Fzv.l0 k 0 0 l0 (l0.length:Int) 0) else(some (0,1)))))=some (a8,a9):=h
 clear h;by_cases c2:(l0.length:Int) > 65536
 ·rw[if_pos c2] at H;have b8:decide (65536 < (l0.length:Int))=true:=dE c2;have b9:decide (65536 < l0.length)=true:=dE (by omega)
  clear c2;obtain⟨rfl,rfl⟩:=q2 H;go_enter Try.func75,Try.ntmps75
  go_wp2
  go_ret2
  exact⟨eW,pB⟩
 ·rw[if_neg c2] at H;have b8:decide (65536 < (l0.length:Int))=false:=decide_eq_false c2;have b9:decide (65536 < l0.length)=false:=decide_eq_false (by omega)
  clear c2;obtain⟨b7,d0,H⟩:=bT H;(try dsimp only at H);by_cases c4:b7=true
  ·subst c4;rw[if_pos rfl] at H;have H':=aM H;clear H;go_enter Try.func75,Try.ntmps75
   go_wp2_with (first|((with_reducible refine gc 69 rfl ?_);refine gC 69 (some 12) Try.func69 #[.slice a6 l0.length a7] ?_;(with_reducible refine(Dzq.calls k _ _ l0 true _ ?_ ?_ d0.out).mono ?_);exact cX b5.out;exact b6.out;rintro e w' ⟨rfl,⟨nd,rfl⟩⟩;refine⟨_,rfl,?_⟩))
   try simp only[Act.put,sA,sZ,sC]
   go_loopg [4,5,16] k (fun kq d1 d3 d4 w'=>∃ (d5:Int) (d6:Int) (d7:Int),d1=.int .i64 d5∧d3=.int .i64 d6∧d4=.int .i64 d7∧Aside0 (Fzv.l0 kq d5 d6 l0 (l0.length:Int) d7=some (a8,a9))∧Aside0 (kq≤k)∧Aside0 (Below w.heap.size w w'))
   case atStart=>exact⟨(0),(0),(0),sD,sD,sD,H',⟨Nat.le_refl _⟩,⟨pB⟩⟩
   case round =>
    clear H';try clear c2
    obtain⟨d5,d6,d7,rfl,rfl,rfl,HA,d8,HB⟩:=hrel;cases gk with
    | zero=>exact absurd HA.out (by simp [Fzv.l0])
    | succ k1 =>
     have H:=HA.out;clear HA;simp only[Fzv.l0] at H;by_cases c5:d7 < (l0.length:Int)
     ·rw[if_pos c5] at H;have d9:=dE c5;clear c5;obtain⟨e6,H⟩:=iN H;obtain⟨e7,H⟩:=iN H;have H':=aM H;clear H;obtain⟨e8,f3,f4,f5,f6⟩:=aI b5.out d7;cases f3
      replace f4:=hB HB f4;go_wp2
      go_roundg k1
      case measure=>have:=d8.out;omega
      case rel=>exact⟨(wrap64 (d5+(wrap64 (Int.tdiv (rd l0 d7) 33554432)))),(wrap64 (d6+(Int.tmod (rd l0 d7) 33554432))),(wrap64 (d7+1)),sD,sD,sD,H',⟨by have:=d8.out;omega⟩,⟨pB⟩⟩
     ·rw[if_neg c5] at H;have d9:decide (d7 < (l0.length:Int))=false:=decide_eq_false c5;clear c5;by_cases c8:(wrap64 (d5+(wrap64 (Int.tdiv d6 33554432)))) > 33554433
      ·rw[if_pos c8] at H;have f7:decide (33554433 < (wrap64 (d5+(wrap64 (Int.tdiv d6 33554432)))))=true:=dE c8;have f8:decide (33554433 < (IntKind.i64.wrap (d5+(IntKind.i64.wrap (Int.tdiv d6 33554432)))))=true:=by have h_:=f7;first|exact h_|(simp only[i64_w];exact h_)
       clear c8;obtain⟨rfl,rfl⟩:=q2 H;go_wp2
       go_ret2
       exact⟨eW,pB⟩
      ·rw[if_neg c8] at H;have f7:decide (33554433 < (wrap64 (d5+(wrap64 (Int.tdiv d6 33554432)))))=false:=decide_eq_false c8;have f8:decide (33554433 < (IntKind.i64.wrap (d5+(IntKind.i64.wrap (Int.tdiv d6 33554432)))))=false:=by have h_:=f7;first|exact h_|(simp only[i64_w];exact h_)
       clear c8;by_cases c9:(wrap64 (d5+(wrap64 (Int.tdiv d6 33554432)))) < (-33554433)
       ·rw[if_pos c9] at H;have f9:decide ((wrap64 (d5+(wrap64 (Int.tdiv d6 33554432)))) < (-33554433))=true:=dE c9;have g6:decide ((IntKind.i64.wrap (d5+(IntKind.i64.wrap (Int.tdiv d6 33554432)))) < (-33554433))=true:=by have h_:=f9;first|exact h_|(simp only[i64_w];exact h_)
        clear c9;obtain⟨rfl,rfl⟩:=q2 H;go_wp2
        go_ret2
        exact⟨eW,pB⟩
       ·rw[if_neg c9] at H;have f9:decide ((wrap64 (d5+(wrap64 (Int.tdiv d6 33554432)))) < (-33554433))=false:=decide_eq_false c9;have g6:decide ((IntKind.i64.wrap (d5+(IntKind.i64.wrap (Int.tdiv d6 33554432)))) < (-33554433))=false:=by have h_:=f9;first|exact h_|(simp only[i64_w];exact h_)
        clear c9;replace H:=bS H;obtain⟨⟨g7,g8⟩,g9,H⟩:=H;replace H:(some (g7,g8))=some (a8,a9):=H;have j5:=aM g9;clear g9;obtain⟨rfl,rfl⟩:=q2 H;go_wp2_with (first|((with_reducible refine gc 87 rfl ?_);refine gC 87 (some 45) Try.func87 #[.int .i64 (wrap64 ((wrap64 ((wrap64 (d5+(wrap64 (Int.tdiv d6 33554432)))) * 33554432))+(Int.tmod d6 33554432)))] ?_;(with_reducible refine(Gzv.calls k1 (wrap64 ((wrap64 ((wrap64 (d5+(wrap64 (Int.tdiv d6 33554432)))) * 33554432))+(Int.tmod d6 33554432))) g7 g8 _ j5.out).mono ?_);rintro e j9 ⟨rfl,hb⟩;refine⟨_,rfl,?_⟩;replace HB:=bB hb;clear hb))
        go_ret2
        exact⟨eW,pB⟩
  ·obtain rfl:=bN c4;rw[if_neg nF] at H
   obtain⟨rfl,rfl⟩:=q2 H;go_enter Try.func75,Try.ntmps75
   go_wp2_with (first|((with_reducible refine gc 69 rfl ?_);refine gC 69 (some 12) Try.func69 #[.slice a6 l0.length a7] ?_;(with_reducible refine(Dzq.calls k _ _ l0 false _ ?_ ?_ d0.out).mono ?_);exact cX b5.out;exact b6.out;rintro e w' ⟨rfl,⟨nd,rfl⟩⟩;refine⟨_,rfl,?_⟩))
   go_ret2
   exact⟨eW,pB⟩

end Go.Proofs.Ytnklckihalhlmaa.Print
