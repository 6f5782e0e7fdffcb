import Derived.Test.YtnklckihalhlmaaPrint0
import Derived.Test.YtnklckihalhlmaaPrint2
import Derived.Test.YtnklckihalhlmaaPrint4
namespace Go.Proofs.Ytnklckihalhlmaa.Print
open Go.RowKit Go.Proofs.YtnklckihalhlmaaW.PrintWords Go.Proofs.YtnklckihalhlmaaW.PrintLast Go.Proofs.YtnklckihalhlmaaW.PrintMore
attribute [local go_sem] max2_int min2_int max_two min_two max_three min_three max_four min_four
set_option linter.unusedVariables false
set_option maxRecDepth 100000
set_option maxHeartbeats 8000000
set_option linter.unusedSimpArgs false

theorem Hzj.calls (q:S46→Bool) (bf:Nat) (bc:Array Value) (cb cl:Nat) (A:Option Addr) (c:Nat) (l:List S46) (i:Int) (w:World)
  (hb:w.heap[cb]?=some (.cells #[.func (.func bf) #[] bc] 66 (0,0))) (hl:w.heap[cl]?=some (.cells #[.slice A l.length c] 22 (0,0))) (hC:Kd.C k46 w A l.length l)
  (hfn:∃ fn,Try.prog.funcs[bf]?=some fn∧(fn.name == "runtime.NumGoroutine")=false∧fn.body.isSome=true)
  (hq:∀ (m:S46) W,Below w.heap.size w W→Calls Try.prog bf (#[.agg #[.int .i64 m.f0,.int .i64 m.f1]] ++ bc) W fun e W'=>e=.returned (.bool (q m))∧Below W.heap.size W W') (h0:0≤i) (h1:i+1 < (l.length:Int)) (hn:(l.length:Int) < 4611686018427387904) :
  Calls Try.prog 68 #[.int .i64 i,.pointer (some ⟨cb,0,none⟩),.pointer (some ⟨cl,0,none⟩)] w fun e w'=>e=.returned (.bool (! q (rd_T46 l (i+1))))∧Below w.heap.size w w':=by
 have HB:=aM hb;have HL:=aM hl;have HR0:=aM hC;have HQ:=aM hq;obtain⟨fn_,hf_,hn_,hb_⟩:=hfn;have HF:=aM hf_;have HNM:=aM hn_;have HBD:=aM hb_;obtain⟨hczB,hfzB⟩:=bk1 HB;obtain⟨hczL,hfzL⟩:=bk1 HL;have e1:IntKind.i64.wrap (i+1)=i+1:=by rw[i64_w];unfold wrap64;omega
 have E1:=aM e1;have p_:0≤i+1:=by omega
 have q_:i+1 < (l.length:Int):=by omega
 obtain⟨ad,ead,hx0,hx1⟩:=at_T46 HR0.out (i+1) p_ q_;subst ead;clear hb hl hC hq hf_ hn_ hb_ h0 h1 hn;have pT:=eq_true p_;have qT:=eq_true q_;go_enter Try.func68,Try.ntmps68
 go_wp2
 have hS:∀ W,Below w.heap.size w W→W.cell? ⟨cb,0,none⟩=some (.func (.func bf) #[] bc)∧W.cell? ⟨cl,0,none⟩=some (.slice (some ad) l.length c)∧W.cell? (ad.add ((i+1).toNat * 2))=some (.int .i64 (rd_T46 l (i+1)).f0)∧W.cell? ⟨(ad.add ((i+1).toNat * 2)).block,(ad.add ((i+1).toNat * 2)).off+1,none⟩=some (.int .i64 (rd_T46 l (i+1)).f1) :=
  fun W hW=>⟨pw_cell_below hW hczB,pw_cell_below hW hczL,pw_cell_below hW hx0,pw_cell_below hW hx1⟩
 refine start_ (n:=9) (S:=fun W=>W.cell? ⟨cb,0,none⟩=some (.func (.func bf) #[] bc)∧W.cell? ⟨cl,0,none⟩=some (.slice (some ad) l.length c)∧W.cell? (ad.add ((i+1).toNat * 2))=some (.int .i64 (rd_T46 l (i+1)).f0)∧W.cell? ⟨(ad.add ((i+1).toNat * 2)).block,(ad.add ((i+1).toNat * 2)).off+1,none⟩=some (.int .i64 (rd_T46 l (i+1)).f1)) (ds:=[]) (bA 9 0) (by kernel_rfl) rfl rfl (hS _ (Below.refl _ w).drew) (fun hHeld=>?_)
 refine take_ (i:=0) (N:=some 5) (v:=?_) (a':=?_) (bA 9 1) rfl rfl (by kernel_rfl) (fun _ _ _ h=>h) (Or.inl ⟨by rfl,?_⟩) hHeld ?_ ?_
 rotate_left
 ·intro w' s0;obtain⟨s1,s2,s3,s4⟩:=s0;go_simp
  with_reducible rfl
 rotate_left
 ·simp only[Act.put,sA,sZ,sC,i64_w,i32_w];rfl
 refine take_ (i:=1) (N:=some 6) (v:=?_) (a':=?_) (bA 9 3) rfl rfl (by kernel_rfl) (fun _ _ _ h=>h) (Or.inl ⟨by rfl,?_⟩) hHeld ?_ ?_
 rotate_left
 ·intro w' s0;obtain⟨s1,s2,s3,s4⟩:=s0;go_simp
  with_reducible rfl
 rotate_left
 ·simp only[Act.put,sA,sZ,sC,i64_w,i32_w];rfl
 refine pure_ (i:=2) (N:=some 7) (v:=?_) (a':=?_) (bA 9 7) rfl rfl (by kernel_rfl) (fun _ _ _ h=>h) (Or.inl ⟨by rfl,?_⟩) ?_ ?_
 rotate_left
 ·intro w';go_simp
  with_reducible rfl
 rotate_left
 ·simp only[Act.put,sA,sZ,sC,i64_w,i32_w];rfl
 refine pure_ (i:=3) (N:=some 8) (v:=?_) (a':=?_) (bA 9 15) rfl rfl (by kernel_rfl) (fun _ _ _ h=>h) (Or.inl ⟨by rfl,?_⟩) ?_ ?_
 rotate_left
 ·intro w';go_simp
  with_reducible rfl
 rotate_left
 ·simp only[Act.put,sA,sZ,sC,i64_w,i32_w];rfl
 refine pure_ (i:=4) (N:=some 9) (v:=?_) (a':=?_) (bA 9 31) rfl rfl (by kernel_rfl) (fun _ _ _ h=>h) (Or.inl ⟨by rfl,?_⟩) ?_ ?_
 rotate_left
 ·intro w';go_simp
  with_reducible rfl
 rotate_left
 ·simp only[Act.put,sA,sZ,sC,i64_w,i32_w];rfl
 refine take_ (i:=5) (N:=some 10) (v:=?_) (a':=?_) (bA 9 63) rfl rfl (by kernel_rfl) (fun _ _ _ h=>h) (Or.inl ⟨by rfl,?_⟩) hHeld ?_ ?_
 rotate_left
 ·intro w' s0;obtain⟨s1,s2,s3,s4⟩:=s0;go_simp
  with_reducible rfl
 rotate_left
 ·simp only[Act.put,sA,sZ,sC,i64_w,i32_w];rfl
 have hQ1:=HQ.out (rd_T46 l (i+1)) w.drew (Below.refl _ w).drew;refine one_ (i:=6) (N:=some 11) (bA 9 127) rfl rfl (by kernel_rfl) (by decide) (fun K hK=>?_)
 refine goesv_ (f:=bf) (fn:=fn_) HF.out HNM.out HBD.out (#[.agg #[.int .i64 (rd_T46 l (i+1)).f0,.int .i64 (rd_T46 l (i+1)).f1]] ++ bc) (by rfl) rfl rfl (by simp [Act.eval,capsOf]) ?_
 refine hQ1.mono ?_;rintro e w9 ⟨rfl,hb9⟩;refine⟨_,rfl,?_⟩;have hb9':Below w.heap.size w w9:=(Below.refl _ w).drew.trans hb9;refine hK.out _ _ (hS w9 hb9') (fun hHeld=>?_)
 clear hK K;refine nm 11 ?_;refine pure_ (i:=7) (N:=some 12) (v:=?_) (a':=?_) (bA 9 255) rfl rfl (by kernel_rfl) (fun _ _ _ h=>h) (Or.inl ⟨by rfl,?_⟩) ?_ ?_
 rotate_left
 ·intro w';go_simp
  with_reducible rfl
 rotate_left
 ·simp only[Act.put,sA,sZ,sC,i64_w,i32_w];rfl
 refine pure_ (i:=8) (N:=some 4) (v:=?_) (a':=?_) (bA 9 511) rfl rfl (by kernel_rfl) (fun _ _ _ h=>h) (Or.inl ⟨by rfl,?_⟩) ?_ ?_
 rotate_left
 ·intro w';go_simp
  with_reducible rfl
 rotate_left
 ·simp only[Act.put,sA,sZ,sC,i64_w,i32_w];rfl
 refine done_ (by kernel_rfl) ?_
 go_wp2
 go_ret
 exact⟨by rfl,hb9'⟩
/-- Where the search ends. -/
def around_k (q:S46→Bool) (l:List S46):Int:=Fzp.sR (fun i=>! q (rd_T46 l (i+1))) (((l.length:Int) - 2).toNat+1) 0 ((l.length:Int) - 2)
theorem sR_range (p:Int→Bool):∀ (k:Nat) (i j:Int),0≤i→i≤j→i≤Fzp.sR p k i j∧Fzp.sR p k i j≤j:=by
 intro k;induction k with
 | zero=>intro i j _ h1;exact⟨Int.le_refl _,h1⟩
 | succ k ih =>
  intro i j h0 h1;rw[Fzp.sR];by_cases h:i < j
  ·rw[if_pos h];by_cases hp:p ((i+j) / 2)=true
   ·rw[if_pos hp];have:=ih i ((i+j) / 2) h0 (by omega)
    omega
   ·rw[if_neg hp];have:=ih ((i+j) / 2+1) j (by omega) (by omega)
    omega
  ·rw[if_neg h];omega
theorem C_belowM {w w1:World} {A:Option Addr} {n:Nat} {l:List S46} (h:Kd.C k46 w A n l) (hb:Below w.heap.size w w1):Kd.C k46 w1 A n l:=by
 refine⟨h.1,h.2.1,fun hp=>?_⟩
 obtain⟨ad,e1,h2⟩:=h.2.2 hp;refine⟨ad,e1,fun j q hj=>?_⟩
 obtain⟨cs,h3,h4,h5⟩:=h2 j q hj;exact⟨cs,h3,by obtain rfl:=k46_open h4;exact k46_mk _ _,fun i u hu=>pw_cell_below hb (h5 i u hu)⟩
theorem Hzw.calls (q:S46→Bool) (bf:Nat) (bc:Array Value) (A:Option Addr) (c:Nat) (l:List S46) (w:World)
  (hC:Kd.C k46 w A l.length l) (hc:l.length≤c)
  (hfn:∃ fn,Try.prog.funcs[bf]?=some fn∧(fn.name == "runtime.NumGoroutine")=false∧fn.body.isSome=true)
  (hq:∀ (m:S46) W,Below w.heap.size w W→Calls Try.prog bf (#[.agg #[.int .i64 m.f0,.int .i64 m.f1]] ++ bc) W fun e W'=>e=.returned (.bool (q m))∧Below W.heap.size W W') (h2:2≤(l.length:Int)) (hn:(l.length:Int) < 4611686018427387904) :
  Calls Try.prog 48 #[.slice A l.length c,.func (.func bf) #[] bc] w fun e w'=>e=.returned (.tuple #[.agg #[.int .i64 (rd_T46 l (around_k q l)).f0,.int .i64 (rd_T46 l (around_k q l)).f1],.agg #[.int .i64 (rd_T46 l (around_k q l+1)).f0,.int .i64 (rd_T46 l (around_k q l+1)).f1]])∧Below w.heap.size w w':=by
 have HR0:=aM hC;have HQ:=aM hq;have HFN:=aM hfn;have HN:=aM (And.intro h2 hn);have hmf_:∀ (fn:Fn) (first cap:Array Value) (w:World),(Instr.makeFunc fn first cap).run Try.prog w=.ok (.func fn first cap) w:=fun _ _ _ _=>rfl
 have e1:IntKind.i64.wrap ((l.length:Int) - 2)=(l.length:Int) - 2:=by rw[i64_w];unfold wrap64;omega
 clear hC hc hfn hq h2 hn;go_enter Try.func48,Try.ntmps48
 have cS:∀ W,W=(((w.alloc (.cells #[.slice A l.length c] 22)).alloc (.cells #[.func (.func bf) #[] bc] 66)).alloc (.cells #[.int .i64 0,.int .i64 0] 46)).alloc (.cells #[.int .i64 0,.int .i64 0] 46)→Calls Try.prog 67 #[.int .i64 ((l.length:Int) - 2),.func (.func 68) #[] #[.pointer (some ⟨w.heap.size+1,0,none⟩),.pointer (some ⟨w.heap.size,0,none⟩)]] W fun e w'=>e=.returned (.int .i64 (around_k q l))∧Below W.heap.size W w':=by
  intro W hW;have hbl:W.heap[w.heap.size]?=some (.cells #[.slice A l.length c] 22 (0,0)):=by subst hW;exact blk_alloc (blk_alloc (blk_alloc (blk_new w _) _) _) _
  have hbb:W.heap[w.heap.size+1]?=some (.cells #[.func (.func bf) #[] bc] 66 (0,0)):=by subst hW;simpa using blk_alloc (blk_alloc (blk_new (w.alloc (.cells #[.slice A l.length c] 22)) (.cells #[.func (.func bf) #[] bc] 66)) _) _
  have hw4:Below w.heap.size w W:=by subst hW;exact((((Below.refl _ w).alloc (Nat.le_refl _) _).alloc (by simp) _).alloc (by simp;omega) _).alloc (by simp;omega) _
  refine Fzp.calls ((l.length:Int) - 2) 68 #[.pointer (some ⟨w.heap.size+1,0,none⟩),.pointer (some ⟨w.heap.size,0,none⟩)] (fun i=>! q (rd_T46 l (i+1))) (fun W1=>Below W.heap.size W W1) W ⟨⟨_,Try.func68,by kernel_rfl,rfl⟩,fun i W1 hi0 hi1 hI=>?_⟩ (Below.refl _ _) (by have:=HN.out;omega) (by have:=HN.out;omega)
  have hb1:Below w.heap.size w W1:=hw4.trans (hI.mono hw4.size);refine(Hzj.calls q bf bc (w.heap.size+1) w.heap.size A c l i W1 (blk_below hbb hI) (blk_below hbl hI) (C_belowM HR0.out hb1) HFN.out (fun m W2 h2=>HQ.out m W2 (hb1.trans (h2.mono hb1.size))) hi0 (by omega) (by have:=HN.out;omega)).mono ?_
  rintro e W2 ⟨rfl,h2⟩;exact⟨rfl,hI.trans (h2.mono hI.size)⟩
 have hkr:0≤around_k q l∧around_k q l≤(l.length:Int) - 2:=by have:=HN.out;exact sR_range _ _ 0 _ (by omega) (by omega)
 have HK:=aM hkr;have p0:0≤around_k q l:=hkr.1;have q0:around_k q l < (l.length:Int):=by omega
 have p1:0≤around_k q l+1:=by omega
 have q1:around_k q l+1 < (l.length:Int):=by omega
 have e2:IntKind.i64.wrap (around_k q l+1)=around_k q l+1:=by have:=HN.out;rw[i64_w];unfold wrap64;omega
 obtain⟨ad,ead,hx0,hx1⟩:=at_T46 HR0.out (around_k q l) p0 q0;obtain⟨ad',ead',hy0,hy1⟩:=at_T46 HR0.out (around_k q l+1) p1 q1;obtain rfl:ad'=ad:=by rw[ead] at ead';injection ead' with ead';exact ead'.symm
 subst ead;have P0:=eq_true p0;have Q0:=eq_true q0;have P1:=eq_true p1;have Q1:=eq_true q1;generalize around_k q l=kk at *;clear hkr ead';go_wp2_with (first|(refine goesL_ (some 11) rfl rfl Try.func67 (by kernel_rfl) rfl #[.int .i64 ((l.length:Int) - 2),.func (.func 68) #[] #[.pointer (some ⟨w.heap.size+1,0,none⟩),.pointer (some ⟨w.heap.size,0,none⟩)]] rfl (by first|exact mA|(simp [Act.eval];done)) ?_;refine(cS _ rfl).mono ?_;rintro e w9 ⟨rfl,hb⟩;refine⟨_,rfl,?_⟩;have HB9:=aM hb;clear hb))
 have hbl:w9.heap[w.heap.size]?=some (.cells #[.slice (some ad') l.length c] 22 (0,0)):=blk_below (blk_alloc (blk_alloc (blk_alloc (blk_new w _) _) _) _) HB9.out;have hb4:w9.heap[w.heap.size+1+1]?=some (.cells #[.int .i64 0,.int .i64 0] 46 (0,0)):=blk_below (by simpa using blk_alloc (blk_new ((w.alloc (.cells #[.slice (some ad') l.length c] 22)).alloc (.cells #[.func (.func bf) #[] bc] 66)) (.cells #[.int .i64 0,.int .i64 0] 46)) _) HB9.out
 have hb5:w9.heap[w.heap.size+1+1+1]?=some (.cells #[.int .i64 0,.int .i64 0] 46 (0,0)):=blk_below (by simpa using blk_new (((w.alloc (.cells #[.slice (some ad') l.length c] 22)).alloc (.cells #[.func (.func bf) #[] bc] 66)).alloc (.cells #[.int .i64 0,.int .i64 0] 46)) (.cells #[.int .i64 0,.int .i64 0] 46)) HB9.out
 have hw9:Below w.heap.size w w9:=(((((Below.refl _ w).alloc (Nat.le_refl _) _).alloc (by simp) _).alloc (by simp;omega) _).alloc (by simp;omega) _).trans (HB9.out.mono (by simp;omega))
 have BKL:=aM hbl;have BK4:=aM hb4;have BK5:=aM hb5;have HW9:=aM hw9;have hlt0:=World.block_lt_of_cell? w _ hx0;have hlt1:=World.block_lt_of_cell? w _ hy0;have HLT:=aM (And.intro hlt0 hlt1);clear hlt0 hlt1;replace hx0:=pw_cell_below hw9 hx0;replace hx1:=pw_cell_below hw9 hx1;replace hy0:=pw_cell_below hw9 hy0;replace hy1:=pw_cell_below hw9 hy1;clear hbl hb4 hb5 hw9 HB9;obtain⟨g4,hg4⟩:∃ g,g=w.heap.size+1+1:=⟨_,rfl⟩;obtain⟨g5,hg5⟩:∃ g,g=w.heap.size+1+1+1:=⟨_,rfl⟩;rw[← hg5];rw[← hg4];rw[← hg4] at BK4;rw[← hg5] at BK5;have G45:=aM (And.intro hg4 hg5);clear hg4 hg5;refine start_ (n:=11) (S:=fun W=>W.cell? ⟨w.heap.size,0,none⟩=some (.slice (some ad') l.length c)∧W.cell? (ad'.add (kk.toNat * 2))=some (.int .i64 (rd_T46 l kk).f0)∧W.cell? ⟨(ad'.add (kk.toNat * 2)).block,(ad'.add (kk.toNat * 2)).off+1,none⟩=some (.int .i64 (rd_T46 l kk).f1)∧W.cell? (ad'.add ((kk+1).toNat * 2))=some (.int .i64 (rd_T46 l (kk+1)).f0)∧W.cell? ⟨(ad'.add ((kk+1).toNat * 2)).block,(ad'.add ((kk+1).toNat * 2)).off+1,none⟩=some (.int .i64 (rd_T46 l (kk+1)).f1)) (ds:=[10]) (bA 11 0) (by kernel_rfl) rfl rfl ⟨(blk_cell BKL.out 0).trans rfl,hx0,hx1,hy0,hy1⟩ (fun hHeld=>?_)
 refine take_ (i:=0) (N:=some 12) (v:=?_) (a':=?_) (bA 11 1) rfl rfl (by kernel_rfl) (fun _ _ _ h=>h) (Or.inl ⟨by rfl,?_⟩) hHeld ?_ ?_
 rotate_left
 ·intro w' s0;obtain⟨s1,s2,s3,s4,s5⟩:=s0;go_simp
  with_reducible rfl
 rotate_left
 ·simp only[Act.put,sA,sZ,sC,i64_w,i32_w];rfl
 refine pure_ (i:=1) (N:=some 13) (v:=?_) (a':=?_) (bA 11 3) rfl rfl (by kernel_rfl) (fun _ _ _ h=>h) (Or.inl ⟨by rfl,?_⟩) ?_ ?_
 rotate_left
 ·intro w';go_simp
  with_reducible rfl
 rotate_left
 ·simp only[Act.put,sA,sZ,sC,i64_w,i32_w];rfl
 refine pure_ (i:=2) (N:=some 14) (v:=?_) (a':=?_) (bA 11 7) rfl rfl (by kernel_rfl) (fun _ _ _ h=>h) (Or.inl ⟨by rfl,?_⟩) ?_ ?_
 rotate_left
 ·intro w';go_simp
  with_reducible rfl
 rotate_left
 ·simp only[Act.put,sA,sZ,sC,i64_w,i32_w];rfl
 refine take_ (i:=3) (N:=some 15) (v:=?_) (a':=?_) (bA 11 15) rfl rfl (by kernel_rfl) (fun _ _ _ h=>h) (Or.inl ⟨by rfl,?_⟩) hHeld ?_ ?_
 rotate_left
 ·intro w' s0;obtain⟨s1,s2,s3,s4,s5⟩:=s0;go_simp
  with_reducible rfl
 rotate_left
 ·simp only[Act.put,sA,sZ,sC,i64_w,i32_w];rfl
 refine take_ (i:=4) (N:=some 16) (v:=?_) (a':=?_) (bA 11 31) rfl rfl (by kernel_rfl) (fun _ _ _ h=>h) (Or.inl ⟨by rfl,?_⟩) hHeld ?_ ?_
 rotate_left
 ·intro w' s0;obtain⟨s1,s2,s3,s4,s5⟩:=s0;go_simp
  with_reducible rfl
 rotate_left
 ·simp only[Act.put,sA,sZ,sC,i64_w,i32_w];rfl
 refine pure_ (i:=5) (N:=some 17) (v:=?_) (a':=?_) (bA 11 63) rfl rfl (by kernel_rfl) (fun _ _ _ h=>h) (Or.inl ⟨by rfl,?_⟩) ?_ ?_
 rotate_left
 ·intro w';go_simp
  with_reducible rfl
 rotate_left
 ·simp only[Act.put,sA,sZ,sC,i64_w,i32_w];rfl
 refine pure_ (i:=6) (N:=some 18) (v:=?_) (a':=?_) (bA 11 127) rfl rfl (by kernel_rfl) (fun _ _ _ h=>h) (Or.inl ⟨by rfl,?_⟩) ?_ ?_
 rotate_left
 ·intro w';go_simp
  with_reducible rfl
 rotate_left
 ·simp only[Act.put,sA,sZ,sC,i64_w,i32_w];rfl
 refine pure_ (i:=7) (N:=some 19) (v:=?_) (a':=?_) (bA 11 255) rfl rfl (by kernel_rfl) (fun _ _ _ h=>h) (Or.inl ⟨by rfl,?_⟩) ?_ ?_
 rotate_left
 ·intro w';go_simp
  with_reducible rfl
 rotate_left
 ·simp only[Act.put,sA,sZ,sC,i64_w,i32_w];rfl
 refine take_ (i:=8) (N:=some 20) (v:=?_) (a':=?_) (bA 11 511) rfl rfl (by kernel_rfl) (fun _ _ _ h=>h) (Or.inl ⟨by rfl,?_⟩) hHeld ?_ ?_
 rotate_left
 ·intro w' s0;obtain⟨s1,s2,s3,s4,s5⟩:=s0;go_simp
  with_reducible rfl
 rotate_left
 ·simp only[Act.put,sA,sZ,sC,i64_w,i32_w];rfl
 have BK4d:=aM (blk_drew BK4.out);have BK5d:=aM (blk_drew BK5.out);have HW9d:=aM HW9.out.drew;clear BK4 BK5 HW9 hx0 hx1 hy0 hy1 BKL;generalize w9.drew=wd at BK4d BK5d HW9d hHeld ⊢;obtain⟨hcz4_0,hcz4_1,hfz4_0,hfz4_1⟩:=bk2 BK4d;refine one_ (i:=9) (N:=none) (bA 11 1023) rfl rfl (by kernel_rfl) (by decide) (fun K hK=>?_)
 refine skip_ (w1:=?_) (by rfl) rfl ?_ ?_
 rotate_left
 ·go_simp
  rfl
 have hS2:∀ (u v:Value),(fun W:World=>W.cell? ⟨w.heap.size,0,none⟩=some (.slice (some ad') l.length c)∧W.cell? (ad'.add (kk.toNat * 2))=some (.int .i64 (rd_T46 l kk).f0)∧W.cell? ⟨(ad'.add (kk.toNat * 2)).block,(ad'.add (kk.toNat * 2)).off+1,none⟩=some (.int .i64 (rd_T46 l kk).f1)∧W.cell? (ad'.add ((kk+1).toNat * 2))=some (.int .i64 (rd_T46 l (kk+1)).f0)∧W.cell? ⟨(ad'.add ((kk+1).toNat * 2)).block,(ad'.add ((kk+1).toNat * 2)).off+1,none⟩=some (.int .i64 (rd_T46 l (kk+1)).f1)) ((wd.setCell ⟨g4,0,none⟩ u).setCell ⟨g4,1,none⟩ v):=by
  intro u v;have hg:=G45.out;have ht:=HLT.out;have h0:w.heap.size≠g4:=by omega
  have h1:(ad'.add (kk.toNat * 2)).block≠g4:=by omega
  have h2:(ad'.add ((kk+1).toNat * 2)).block≠g4:=by omega
  have hf:∀ q:Addr,q.block≠g4→((wd.setCell ⟨g4,0,none⟩ u).setCell ⟨g4,1,none⟩ v).cell? q=wd.cell? q:=fun q hq=>(cell_far hq _).trans (cell_far hq _)
  exact⟨(hf _ h0).trans hHeld.1,(hf _ h1).trans hHeld.2.1,(hf ⟨(ad'.add (kk.toNat * 2)).block,(ad'.add (kk.toNat * 2)).off+1,none⟩ h1).trans hHeld.2.2.1,(hf _ h2).trans hHeld.2.2.2.1,(hf ⟨(ad'.add ((kk+1).toNat * 2)).block,(ad'.add ((kk+1).toNat * 2)).off+1,none⟩ h2).trans hHeld.2.2.2.2⟩
 refine hK.out _ _ (hS2 _ _) (fun hHeld2=>?_)
 clear hK K hS2 hHeld hcz4_0 hcz4_1 hfz4_0 hfz4_1;have hn54:g5≠g4:=by have:=G45.out;omega
 have BK4e:=aM (blk_put (blk_put BK4d.out 0 (.int .i64 (rd_T46 l kk).f0) rfl) 1 (.int .i64 (rd_T46 l kk).f1) rfl);have BK5e:=aM (blk_far (p:=⟨g4,1,none⟩) (blk_far (p:=⟨g4,0,none⟩) BK5d.out hn54 (.int .i64 (rd_T46 l kk).f0)) hn54 (.int .i64 (rd_T46 l kk).f1));have HW9e:=aM ((HW9d.out.setCell (p:=⟨g4,0,none⟩) (by have:=G45.out;show _≤g4;omega) (.int .i64 (rd_T46 l kk).f0)).setCell (p:=⟨g4,1,none⟩) (by have:=G45.out;show _≤g4;omega) (.int .i64 (rd_T46 l kk).f1))
 clear hHeld2 BK4d BK5d HW9d;generalize ((wd.setCell ⟨g4,0,none⟩ (.int .i64 (rd_T46 l kk).f0)).setCell ⟨g4,1,none⟩ (.int .i64 (rd_T46 l kk).f1))=we at BK4e BK5e HW9e ⊢;obtain⟨hcz5_0,hcz5_1,hfz5_0,hfz5_1⟩:=bk2 BK5e;refine last_ (i:=10) (N:=none) (bA 11 2047) rfl rfl (by kernel_rfl) (by decide) (fun K hK=>?_)
 refine skip_ (w1:=?_) (by rfl) rfl ?_ ?_
 rotate_left
 ·go_simp
  rfl
 refine hK.out _ _ ?_;clear hK K hcz5_0 hcz5_1 hfz5_0 hfz5_1;have hn45:g4≠g5:=by have:=G45.out;omega
 have BK5f:=aM (blk_put (blk_put BK5e.out 0 (.int .i64 (rd_T46 l (kk+1)).f0) rfl) 1 (.int .i64 (rd_T46 l (kk+1)).f1) rfl);have BK4f:=aM (blk_far (p:=⟨g5,1,none⟩) (blk_far (p:=⟨g5,0,none⟩) BK4e.out hn45 (.int .i64 (rd_T46 l (kk+1)).f0)) hn45 (.int .i64 (rd_T46 l (kk+1)).f1));have HW9f:=aM ((HW9e.out.setCell (p:=⟨g5,0,none⟩) (by have:=G45.out;show _≤g5;omega) (.int .i64 (rd_T46 l (kk+1)).f0)).setCell (p:=⟨g5,1,none⟩) (by have:=G45.out;show _≤g5;omega) (.int .i64 (rd_T46 l (kk+1)).f1))
 clear BK4e BK5e HW9e;generalize ((we.setCell ⟨g5,0,none⟩ (.int .i64 (rd_T46 l (kk+1)).f0)).setCell ⟨g5,1,none⟩ (.int .i64 (rd_T46 l (kk+1)).f1))=wf at BK4f BK5f HW9f ⊢;refine done_ (by kernel_rfl) ?_
 obtain⟨hcz4_0,hcz4_1,hfz4_0,hfz4_1⟩:=bk2 BK4f;obtain⟨hcz5_0,hcz5_1,hfz5_0,hfz5_1⟩:=bk2 BK5f;go_wp2
 refine bodyPost_ret (results_cc rfl _ _ g4 g5 46 46 #[.int .i64 (rd_T46 l kk).f0,.int .i64 (rd_T46 l kk).f1] #[.int .i64 (rd_T46 l (kk+1)).f0,.int .i64 (rd_T46 l (kk+1)).f1] (0,0) (0,0) _ _ rfl BK4f.out Try.underlying46 rfl (by kernel_rfl) rfl BK5f.out Try.underlying46 rfl (by kernel_rfl)) rfl ?_
 exact⟨rfl,HW9f.out⟩
def Ezj.at_ (l:List S46) (t:Int):Int:=around_k (fun m=>decide (m.f0 < t)) l
def Ezj.f (l:List S46) (t:Int):Option Int:=if 2≤(l.length:Int)∧(l.length:Int) < 4611686018427387904 then(Azq.f (wrap64 (t - (rd_T46 l (Ezj.at_ l t)).f0)) (wrap64 ((rd_T46 l (Ezj.at_ l t+1)).f1 - (rd_T46 l (Ezj.at_ l t)).f1)) (wrap64 ((rd_T46 l (Ezj.at_ l t+1)).f0 - (rd_T46 l (Ezj.at_ l t)).f0)) 0).bind fun b=>some (wrap64 ((rd_T46 l (Ezj.at_ l t)).f1+b.1)) else none
theorem Ezj.calls (A0:Option Addr) (c0:Nat) (l0:List S46) (a1:Int) (r:Int) (w:World) (hr0:Kd.C k46 w A0 l0.length l0) (hc0:l0.length≤c0) (h:Ezj.f l0 a1=some r) :
  Calls Try.prog 32 #[.slice A0 l0.length c0,.int .i64 a1] w fun e w'=>e=.returned (.int .i64 r)∧Below w.heap.size w w':=by
 unfold Ezj.f at h;by_cases hl:2≤(l0.length:Int)∧(l0.length:Int) < 4611686018427387904
 ·rw[if_pos hl,Option.bind_eq_some_iff] at h;obtain⟨⟨d,e1⟩,hd,h⟩:=h;injection h with h
  subst h;have hmf_:∀ (fn:Fn) (first cap:Array Value) (w:World),(Instr.makeFunc fn first cap).run Try.prog w=.ok (.func fn first cap) w:=fun _ _ _ _=>rfl
  have cA:∀ W,W=w.alloc (.cells #[.int .i64 a1] 3)→Calls Try.prog 48 #[.slice A0 l0.length c0,.func (.func 49) #[] #[.pointer (some ⟨w.heap.size,0,none⟩)]] W fun e w'=>e=.returned (.tuple #[.agg #[.int .i64 (rd_T46 l0 (Ezj.at_ l0 a1)).f0,.int .i64 (rd_T46 l0 (Ezj.at_ l0 a1)).f1],.agg #[.int .i64 (rd_T46 l0 (Ezj.at_ l0 a1+1)).f0,.int .i64 (rd_T46 l0 (Ezj.at_ l0 a1+1)).f1]])∧Below W.heap.size W w':=by
   intro W hW;have hb:W.heap[w.heap.size]?=some (.cells #[.int .i64 a1] 3 (0,0)):=by subst hW;exact blk_new w _
   have hw:Below w.heap.size w W:=by subst hW;exact(Below.refl _ w).alloc (Nat.le_refl _) _
   refine Hzw.calls (fun m=>decide (m.f0 < a1)) 49 #[.pointer (some ⟨w.heap.size,0,none⟩)] A0 c0 l0 W (C_belowM hr0 hw) hc0 ⟨_,Try.func49,by kernel_rfl,rfl⟩ (fun m W1 h1=>?_) hl.1 hl.2
   exact Gzf.calls m.f0 m.f1 (some ⟨w.heap.size,0,none⟩) 1 [a1] _ W1 (Kd.cap_C (blk_below hb h1) rfl) (Nat.le_refl _) rfl
  have HD:=aM hd;have HC:=aM cA;clear hd cA hr0 hc0 hl;generalize rd_T46 l0 (Ezj.at_ l0 a1)=m0 at *;generalize rd_T46 l0 (Ezj.at_ l0 a1+1)=m1 at *;obtain⟨j0,hj0⟩:∃ j_:Int,wrap64 (a1 - m0.f0)=j_:=⟨_,rfl⟩;obtain⟨j1,hj1⟩:∃ j_:Int,wrap64 (m1.f1 - m0.f1)=j_:=⟨_,rfl⟩;obtain⟨j2,hj2⟩:∃ j_:Int,wrap64 (m1.f0 - m0.f0)=j_:=⟨_,rfl⟩;obtain⟨j3,hj3⟩:∃ j_:Int,wrap64 (m0.f1+d)=j_:=⟨_,rfl⟩;rw[hj0,hj1,hj2] at HD;rw[hj3];rw[← i64_w] at hj0 hj1 hj2 hj3;go_enter Try.func32,Try.ntmps32
  go_wp2_with (first|(refine goesL_ (some 12) rfl rfl Try.func48 (by kernel_rfl) rfl #[.slice A0 l0.length c0,.func (.func 49) #[] #[.pointer (some ⟨w.heap.size,0,none⟩)]] rfl (by first|exact mA|(simp [Act.eval];done)) ?_;refine(HC.out _ rfl).mono ?_;rintro e w9 ⟨rfl,hb⟩;refine⟨_,rfl,?_⟩;have HB9:=aM (((Below.refl _ w).alloc (Nat.le_refl _) (.cells #[.int .i64 a1] 3)).trans (hb.mono (by simp)));have HT:=aM (blk_below (blk_new w (.cells #[.int .i64 a1] 3)) hb);have hczT:∀ o o',((w9.alloc o).alloc o').cell? ⟨w.heap.size,0,none⟩=some (.int .i64 a1):=fun o o'=>(blk_cell (blk_alloc (blk_alloc HT.out o) o') 0).trans rfl;clear hb)|(refine goesL_ (some 30) rfl rfl Try.func50 (by kernel_rfl) rfl #[.int .i64 j0,.int .i64 j1,.int .i64 j2,.int .i64 0] rfl (by first|exact mA|(simp [Act.eval];done)) ?_;refine(Azq.calls j0 j1 j2 0 d e1 _ HD.out).mono ?_;rintro e w10 ⟨rfl,hb⟩;refine⟨_,rfl,?_⟩;have HB10:=aM (HB9.out.trans ((((Below.refl _ w9).alloc (Nat.le_refl _) (.cells #[.int .i64 m0.f0,.int .i64 m0.f1] 46)).alloc (by simp) (.cells #[.int .i64 m1.f0,.int .i64 m1.f1] 46)).trans (hb.mono (by simp;omega))|>.mono HB9.out.size));have HM0:=aM (blk_below (blk_alloc (blk_new w9 (.cells #[.int .i64 m0.f0,.int .i64 m0.f1] 46)) (.cells #[.int .i64 m1.f0,.int .i64 m1.f1] 46)) hb);obtain⟨hczM_0,hczM_1,hfzM_0,hfzM_1⟩:=bk2 HM0;clear hb))
  go_ret
  exact⟨rfl,HB10.out⟩
 ·rw[if_neg hl] at h;cases h

end Go.Proofs.Ytnklckihalhlmaa.Print
