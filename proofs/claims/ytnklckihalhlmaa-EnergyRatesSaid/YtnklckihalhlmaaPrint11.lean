import Derived.Test.YtnklckihalhlmaaPrint0
import Derived.Test.YtnklckihalhlmaaPrint10
namespace Go.Proofs.Ytnklckihalhlmaa.Print
open Go.RowKit Go.Proofs.YtnklckihalhlmaaW.PrintWords Go.Proofs.YtnklckihalhlmaaW.PrintLast Go.Proofs.YtnklckihalhlmaaW.PrintMore
attribute [local go_sem] max2_int min2_int max_two min_two max_three min_three max_four min_four
set_option linter.unusedVariables false
set_option maxRecDepth 100000
set_option maxHeartbeats 8000000
set_option linter.unusedSimpArgs false

/-- Not told (lists of at most 20 elements don't come here): no answer. -/
def Bzf.f (_k:Nat) (_l0:List Int) (_a1:Int) (_a2:Int) (_a3:Int) (_l4_0:List (List Int)):Option (List Int):=none
theorem Bzf.mono:∀ a0 a1 a2 a3 a4 k,LeO (Bzf.f k a0 a1 a2 a3 a4) (Bzf.f (k+1) a0 a1 a2 a3 a4):=fun _ _ _ _ _ _=>LeO.refl _
theorem Bzf.calls (k:Nat) (P0_:Nat→Prop) (u9000_:Value) (l0:List Int) (a1:Int) (a2:Int) (a3:Int) (A4_0:Option Addr) (c4_0:Nat) (l4_0:List (List Int)) (r:List Int) (w0 w:World) (hB:Below w0.heap.size w0 w) (ho0:Kd.R (Kd.int .i64) 3 w w0.heap.size P0_ u9000_ l0) (hr4_0:∀ W_,Kept w W_ (fun k_=>P0_ k_)→Kd.C (Kd.slice 3 (Kd.int .i64)) W_ A4_0 l4_0.length l4_0) (hc4_0:l4_0.length≤c4_0) (h:Bzf.f k l0 a1 a2 a3 l4_0=some r) :
  Calls Try.prog 89 #[u9000_,.int .i64 a1,.int .i64 a2,.int .i64 a3,.func (.func 55) #[] #[.pointer A4_0]] w fun e w'=>e=.returned (.tuple #[])∧Kd.R (Kd.int .i64) 3 w' w0.heap.size (fun k_=>(P0_ k_∨w.heap.size≤k_)) u9000_ r∧Below w0.heap.size w0 w'∧Kept w w' (fun k_=>P0_ k_):=by
 simp [Bzf.f] at h

mutual
def Azj.l0:Nat→List Int→Int→Int→Int→Int→List (List Int)→Option (List Int)
 | 0,_,_,_,_,_,_=>none
 | k+1,x0,x1,x6,x7,x8,x920=>if x8≤x1 then((Azz.f k x0 x7 x8 x920).bind fun t172=>(Azj.l0 k t172 x1 x6 x8 (wrap64 (x8+x6)) x920)) else((Azz.f k x0 x7 x1 x920).bind fun t173=>(Azj.l1 k t173 x1 x6 x920))
def Azj.l1:Nat→List Int→Int→Int→List (List Int)→Option (List Int)
 | 0,_,_,_,_=>none
 | k+1,x0,x1,x6,x920=>if x6 < x1 then(Azj.l2 k x0 x1 x6 0 (wrap64 (2 * x6)) x920) else(some x0)
def Azj.l2:Nat→List Int→Int→Int→Int→Int→List (List Int)→Option (List Int)
 | 0,_,_,_,_,_,_=>none
 | k+1,x0,x1,x6,x7,x8,x920=>if x8≤x1 then((Bzf.f k x0 x7 (wrap64 (x7+x6)) x8 x920).bind fun t174=>(Azj.l2 k t174 x1 x6 x8 (wrap64 (x8+(wrap64 (2 * x6)))) x920)) else(if(wrap64 (x7+x6)) < x1 then((Bzf.f k x0 x7 (wrap64 (x7+x6)) x1 x920).bind fun t175=>(Azj.l1 k t175 x1 (wrap64 (x6 * 2)) x920)) else(Azj.l1 k x0 x1 (wrap64 (x6 * 2)) x920))
end
def Azj.f (k:Nat) (l0:List Int) (a1:Int) (l2_0:List (List Int)):Option (List Int):=Azj.l0 k l0 a1 20 0 20 l2_0
theorem Azj.mono_l:∀ k,(∀ y0 y1 y2 y3 y4 y5,LeO (Azj.l0 k y0 y1 y2 y3 y4 y5) (Azj.l0 (k+1) y0 y1 y2 y3 y4 y5))∧(∀ y0 y1 y2 y3,LeO (Azj.l1 k y0 y1 y2 y3) (Azj.l1 (k+1) y0 y1 y2 y3))∧(∀ y0 y1 y2 y3 y4 y5,LeO (Azj.l2 k y0 y1 y2 y3 y4 y5) (Azj.l2 (k+1) y0 y1 y2 y3 y4 y5))
 | 0=>⟨fun _ _ _ _ _ _ r h=>by simp [Azj.l0] at h,fun _ _ _ _ r h=>by simp [Azj.l1] at h,fun _ _ _ _ _ _ r h=>by simp [Azj.l2] at h⟩
 | k+1=>by
  obtain⟨ih0,ih1,ih2⟩:=Azj.mono_l k;have i0:=@Azz.mono;have i1:=@Bzf.mono;refine⟨?_,?_,?_⟩
  ·intro y0 y1 y2 y3 y4 y5;unfold Azj.l0;exact mM
  ·intro y0 y1 y2 y3;unfold Azj.l1;exact mM
  ·intro y0 y1 y2 y3 y4 y5;unfold Azj.l2;exact mM
theorem Azj.mono:∀ a0 a1 a2 k,LeO (Azj.f k a0 a1 a2) (Azj.f (k+1) a0 a1 a2):=by
 intro a0 a1 a2 k;obtain⟨ih0,ih1,ih2⟩:=Azj.mono_l k;unfold Azj.f;have i0:=@Azz.mono;have i1:=@Bzf.mono;exact mM
theorem Azj.calls (k:Nat) (P0_:Nat→Prop) (u9000_:Value) (l0:List Int) (a1:Int) (A2_0:Option Addr) (c2_0:Nat) (l2_0:List (List Int)) (r:List Int) (w0 w:World) (hB:Below w0.heap.size w0 w) (ho0:Kd.R (Kd.int .i64) 3 w w0.heap.size P0_ u9000_ l0) (hr2_0:∀ W_,Kept w W_ (fun k_=>P0_ k_)→Kd.C (Kd.slice 3 (Kd.int .i64)) W_ A2_0 l2_0.length l2_0) (hc2_0:l2_0.length≤c2_0) (h:Azj.f k l0 a1 l2_0=some r) :
  Calls Try.prog 76 #[u9000_,.int .i64 a1,.func (.func 55) #[] #[.pointer A2_0]] w fun e w'=>e=.returned (.tuple #[])∧Kd.R (Kd.int .i64) 3 w' w0.heap.size (fun k_=>(P0_ k_∨w.heap.size≤k_)) u9000_ r∧Below w0.heap.size w0 w'∧Kept w w' (fun k_=>P0_ k_):=by
 have HO0:=aM (show Kd.R (Kd.int .i64) 3 w w0.heap.size (fun k_=>(P0_ k_∨w.heap.size≤k_)) u9000_ l0 from Kd.R_mono ho0 (fun k_ hk=>(.inl hk)))
 have HR2_0:=aM hr2_0;have HC2_0:=aM hc2_0;clear hr2_0 hc2_0;have HK:=aM (Kept.refl w (fun k_=>P0_ k_))
 have HW0:=aM hB.size;have HB:=aM hB;clear hB;have H:(Azj.l0 k l0 a1 20 0 20 l2_0)=some r:=h;clear h;have H':=aM H;clear H;go_enter Try.func76,Try.ntmps76
 go_wp2
 go_loopg [7,8] k (fun kq v7 v8 w'=>∃ (x0_1:List Int) (x7_1:Int) (x8_1:Int),v7=.int .i64 x7_1∧v8=.int .i64 x8_1∧Aside0 (Azj.l0 kq x0_1 a1 20 x7_1 x8_1 l2_0=some r)∧Aside0 (kq≤k)∧Aside0 (Kd.R (Kd.int .i64) 3 w' w0.heap.size (fun k_=>(P0_ k_∨w.heap.size≤k_)) u9000_ x0_1)∧Aside0 (Kept w w' (fun k_=>P0_ k_))∧Aside0 (Below w0.heap.size w0 w'))
 case atStart=>exact⟨(l0),(0),(20),sD,sD,H',⟨Nat.le_refl _⟩,⟨rX HO0.out⟩,⟨kK HK⟩,⟨pB⟩⟩
 case round =>
  clear H';try clear c2
  try clear p2
  obtain⟨x0_1,x7_1,x8_1,rfl,rfl,HA,HK1,HO_0,HK,HB⟩:=hrel;cases gk with
  | zero=>exact absurd HA.out (by simp [Azj.l0])
  | succ k1 =>
   have H:=HA.out;clear HA;simp only[Azj.l0] at H;by_cases c4:x8_1≤a1
   ·rw[if_pos c4] at H;have c4b0:=dE c4;clear c4;obtain⟨t172,A5,H⟩:=bT H;(try dsimp only at H);have H':=aM H;clear H;obtain⟨Ao6,co6,rfl⟩:=Kd.R_slice HO_0.out;go_wp2_with (first|((with_reducible refine gc 88 rfl ?_);refine gC 88 (some 18) Try.func88 #[.slice Ao6 x0_1.length co6,.int .i64 x7_1,.int .i64 x8_1,.func (.func 55) #[] #[.pointer A2_0]] ?_;(with_reducible refine(Azz.calls k1 (fun k_=>some k_=(.slice Ao6 x0_1.length co6:Value).ownBlock) (.slice Ao6 x0_1.length co6) x0_1 x7_1 x8_1 _ c2_0 l2_0 t172 w0 _ ?side1 ?side2 ?side3 ?side4 A5.out).mono ?_);(case side1=>exact pB);(case side2=>exact Kd.R_tight rfl HO_0.out);(case side3=>exact Kd.C_kept_call HR2_0.out (kK HK) (fun k_ hs_=>(fun e_=>(HO_0.out.1 k_ e_.symm)) hs_));(case side4=>exact HC2_0.out);rintro e w7 ⟨rfl,hy0,hb,hkp⟩;refine⟨_,rfl,?_⟩;replace HK:=aM (Kept.then_ (S:=(fun k_=>P0_ k_)) (kK HK) hkp (fun k_ hs_=>(fun e_=>(HO_0.out.1 k_ e_.symm)) hs_));replace HO_0:=aM (Kd.R_reok rfl hy0 (fun k_ e_=>HO_0.out.1 k_ e_));replace HB:=aM (hb);clear hb hkp hy0))
    go_roundg k1
    case measure=>have:=HK1.out;omega
    case rel=>exact⟨(t172),(x8_1),(wrap64 (x8_1+20)),sD,sD,H',⟨by have:=HK1.out;omega⟩,⟨rX HO_0.out⟩,⟨kK HK⟩,⟨pB⟩⟩
   ·rw[if_neg c4] at H;have c4b0:decide (x8_1≤a1)=false:=decide_eq_false c4;clear c4;obtain⟨t173,A8,H⟩:=bT H;(try dsimp only at H);have H':=aM H;clear H;obtain⟨Ao9,co9,rfl⟩:=Kd.R_slice HO_0.out;go_wp2_with (first|((with_reducible refine gc 88 rfl ?_);refine gC 88 (some 27) Try.func88 #[.slice Ao9 x0_1.length co9,.int .i64 x7_1,.int .i64 a1,.func (.func 55) #[] #[.pointer A2_0]] ?_;(with_reducible refine(Azz.calls k1 (fun k_=>some k_=(.slice Ao9 x0_1.length co9:Value).ownBlock) (.slice Ao9 x0_1.length co9) x0_1 x7_1 a1 _ c2_0 l2_0 t173 w0 _ ?side1 ?side2 ?side3 ?side4 A8.out).mono ?_);(case side1=>exact pB);(case side2=>exact Kd.R_tight rfl HO_0.out);(case side3=>exact Kd.C_kept_call HR2_0.out (kK HK) (fun k_ hs_=>(fun e_=>(HO_0.out.1 k_ e_.symm)) hs_));(case side4=>exact HC2_0.out);rintro e w10 ⟨rfl,hy0,hb,hkp⟩;refine⟨_,rfl,?_⟩;replace HK:=aM (Kept.then_ (S:=(fun k_=>P0_ k_)) (kK HK) hkp (fun k_ hs_=>(fun e_=>(HO_0.out.1 k_ e_.symm)) hs_));replace HO_0:=aM (Kd.R_reok rfl hy0 (fun k_ e_=>HO_0.out.1 k_ e_));replace HB:=aM (hb);clear hb hkp hy0))
    try simp only[Act.put,sA,sZ,sC]
    go_loopg [6] k1 (fun kq v6 w'=>∃ (x0_2:List Int) (x6_2:Int),v6=.int .i64 x6_2∧Aside0 (Azj.l1 kq x0_2 a1 x6_2 l2_0=some r)∧Aside0 (kq≤k1)∧Aside0 (Kd.R (Kd.int .i64) 3 w' w0.heap.size (fun k_=>(P0_ k_∨w.heap.size≤k_)) (.slice Ao9 x0_1.length co9) x0_2)∧Aside0 (Kept w w' (fun k_=>P0_ k_))∧Aside0 (Below w0.heap.size w0 w'))
    case atStart=>exact⟨(t173),(20),sD,H',⟨Nat.le_refl _⟩,⟨rX HO_0.out⟩,⟨kK HK⟩,⟨pB⟩⟩
    case round =>
     clear H';try clear c2
     try clear p2
     try clear c4
     try clear c4b0
     try clear p6
     try clear c9
     try clear p2
     obtain⟨x0_2,x6_2,rfl,HA,HK2,HO_0,HK,HB⟩:=hrel;have hl0_2:=(Kd.R_reads' HO_0.out).1;rw[hl0_2] at HO_0;(try simp only[hl0_2])
     cases gk with
     | zero=>exact absurd HA.out (by simp [Azj.l1])
     | succ k2 =>
      have H:=HA.out;clear HA;simp only[Azj.l1] at H;by_cases c11:x6_2 < a1
      ·rw[if_pos c11] at H;have c11b0:=dE c11;clear c11;have H':=aM H;clear H;go_wp2
       go_loopg [7,8] k2 (fun kq v7 v8 w'=>∃ (x0_3:List Int) (x7_3:Int) (x8_3:Int),v7=.int .i64 x7_3∧v8=.int .i64 x8_3∧Aside0 (Azj.l2 kq x0_3 a1 x6_2 x7_3 x8_3 l2_0=some r)∧Aside0 (kq≤k2)∧Aside0 (Kd.R (Kd.int .i64) 3 w' w0.heap.size (fun k_=>(P0_ k_∨w.heap.size≤k_)) (.slice Ao9 x0_2.length co9) x0_3)∧Aside0 (Kept w w' (fun k_=>P0_ k_))∧Aside0 (Below w0.heap.size w0 w'))
       case atStart=>exact⟨(x0_2),(0),(wrap64 (2 * x6_2)),sD,sD,H',⟨Nat.le_refl _⟩,⟨by(try simp only[hl0_2]);(with_reducible repeat(first|apply Kd.R_alloc|apply Kd.R_drewN|apply Kd.R_drew));exact HO_0.out⟩,⟨kK HK⟩,⟨pB⟩⟩
       case round =>
        clear H';try clear c1
        try clear c2
        try clear p2
        try clear c4
        try clear c4b0
        try clear p6
        try clear c9
        try clear c11
        try clear c11b0
        try clear p2
        try clear p6
        obtain⟨x0_3,x7_3,x8_3,rfl,rfl,HA,HK3,HO_0,HK,HB⟩:=hrel;have hl0_3:=(Kd.R_reads' HO_0.out).1;rw[hl0_3] at HO_0;(try simp only[hl0_3])
        cases gk with
        | zero=>exact absurd HA.out (by simp [Azj.l2])
        | succ k3 =>
         have H:=HA.out;clear HA;simp only[Azj.l2] at H;by_cases c12:x8_3≤a1
         ·rw[if_pos c12] at H;have c12b0:=dE c12;clear c12;obtain⟨t174,A13,H⟩:=bT H;(try dsimp only at H);have H':=aM H;clear H;go_wp2_with (first|((with_reducible refine gc 89 rfl ?_);refine gC 89 (some 43) Try.func89 #[.slice Ao9 x0_3.length co9,.int .i64 x7_3,.int .i64 (wrap64 (x7_3+x6_2)),.int .i64 x8_3,.func (.func 55) #[] #[.pointer A2_0]] ?_;(with_reducible refine(Bzf.calls k3 (fun k_=>some k_=(.slice Ao9 x0_3.length co9:Value).ownBlock) (.slice Ao9 x0_3.length co9) x0_3 x7_3 (wrap64 (x7_3+x6_2)) x8_3 _ c2_0 l2_0 t174 w0 _ ?side1 ?side2 ?side3 ?side4 A13.out).mono ?_);(case side1=>exact pB);(case side2=>exact Kd.R_tight rfl HO_0.out);(case side3=>exact Kd.C_kept_call HR2_0.out (kK HK) (fun k_ hs_=>(fun e_=>(HO_0.out.1 k_ e_.symm)) hs_));(case side4=>exact HC2_0.out);rintro e w14 ⟨rfl,hy0,hb,hkp⟩;refine⟨_,rfl,?_⟩;replace HK:=aM (Kept.then_ (S:=(fun k_=>P0_ k_)) (kK HK) hkp (fun k_ hs_=>(fun e_=>(HO_0.out.1 k_ e_.symm)) hs_));replace HO_0:=aM (Kd.R_reok rfl hy0 (fun k_ e_=>HO_0.out.1 k_ e_));replace HB:=aM (hb);clear hb hkp hy0))
          (try simp only[← hl0_3])
          go_roundg k3
          case measure=>have:=HK1.out;have:=HK2.out;have:=HK3.out;omega
          case rel=>exact⟨(t174),(x8_3),(wrap64 (x8_3+(wrap64 (2 * x6_2)))),sD,sD,H',⟨by have:=HK1.out;have:=HK2.out;have:=HK3.out;omega⟩,⟨by(try simp only[hl0_2]);(try simp only[hl0_3]);(with_reducible repeat(first|apply Kd.R_alloc|apply Kd.R_drewN|apply Kd.R_drew));exact HO_0.out⟩,⟨kK HK⟩,⟨pB⟩⟩
         ·rw[if_neg c12] at H;have c12b0:decide (x8_3≤a1)=false:=decide_eq_false c12;clear c12;by_cases c15:(wrap64 (x7_3+x6_2)) < a1
          ·rw[if_pos c15] at H;have c15b0:=dE c15;have c15b0w:decide ((IntKind.i64.wrap (x7_3+x6_2)) < a1)=true:=by have h_:=c15b0;first|exact h_|(simp only[i64_w];exact h_)
           clear c15;obtain⟨t175,A16,H⟩:=bT H;(try dsimp only at H);have H':=aM H;clear H;go_wp2_with (first|((with_reducible refine gc 89 rfl ?_);refine gC 89 (some 60) Try.func89 #[.slice Ao9 x0_3.length co9,.int .i64 x7_3,.int .i64 (wrap64 (x7_3+x6_2)),.int .i64 a1,.func (.func 55) #[] #[.pointer A2_0]] ?_;(with_reducible refine(Bzf.calls k3 (fun k_=>some k_=(.slice Ao9 x0_3.length co9:Value).ownBlock) (.slice Ao9 x0_3.length co9) x0_3 x7_3 (wrap64 (x7_3+x6_2)) a1 _ c2_0 l2_0 t175 w0 _ ?side1 ?side2 ?side3 ?side4 A16.out).mono ?_);(case side1=>exact pB);(case side2=>exact Kd.R_tight rfl HO_0.out);(case side3=>exact Kd.C_kept_call HR2_0.out (kK HK) (fun k_ hs_=>(fun e_=>(HO_0.out.1 k_ e_.symm)) hs_));(case side4=>exact HC2_0.out);rintro e w17 ⟨rfl,hy0,hb,hkp⟩;refine⟨_,rfl,?_⟩;replace HK:=aM (Kept.then_ (S:=(fun k_=>P0_ k_)) (kK HK) hkp (fun k_ hs_=>(fun e_=>(HO_0.out.1 k_ e_.symm)) hs_));replace HO_0:=aM (Kd.R_reok rfl hy0 (fun k_ e_=>HO_0.out.1 k_ e_));replace HB:=aM (hb);clear hb hkp hy0))
           (try simp only[← hl0_2,← hl0_3])
           go_roundg k3
           case measure=>have:=HK1.out;have:=HK2.out;have:=HK3.out;omega
           case rel=>exact⟨(t175),(wrap64 (x6_2 * 2)),sD,H',⟨by have:=HK1.out;have:=HK2.out;have:=HK3.out;omega⟩,⟨by(try simp only[hl0_2]);(try simp only[hl0_3]);(with_reducible repeat(first|apply Kd.R_alloc|apply Kd.R_drewN|apply Kd.R_drew));exact HO_0.out⟩,⟨kK HK⟩,⟨pB⟩⟩
          ·rw[if_neg c15] at H;have c15b0:decide ((wrap64 (x7_3+x6_2)) < a1)=false:=decide_eq_false c15;have c15b0w:decide ((IntKind.i64.wrap (x7_3+x6_2)) < a1)=false:=by have h_:=c15b0;first|exact h_|(simp only[i64_w];exact h_)
           clear c15;have H':=aM H;clear H;go_wp2
           (try simp only[← hl0_2,← hl0_3])
           go_roundg k3
           case measure=>have:=HK1.out;have:=HK2.out;have:=HK3.out;omega
           case rel=>exact⟨(x0_3),(wrap64 (x6_2 * 2)),sD,H',⟨by have:=HK1.out;have:=HK2.out;have:=HK3.out;omega⟩,⟨by(try simp only[hl0_2]);(try simp only[hl0_3]);(with_reducible repeat(first|apply Kd.R_alloc|apply Kd.R_drewN|apply Kd.R_drew));exact HO_0.out⟩,⟨kK HK⟩,⟨pB⟩⟩
      ·rw[if_neg c11] at H;have c11b0:decide (x6_2 < a1)=false:=decide_eq_false c11;clear c11;obtain rfl:=Option.some.inj H;go_wp2
       first|go_end0|((try simp only[Exit.inBlock,Exit.then]);refine bodyPost_ret (results_none rfl _ _ _) rfl ?_)
       exact⟨eW,(by first|exact(rX HO_0.out)|(simp only[hl0_2];exact(rX HO_0.out))),pB,kK HK⟩

def Czp.f (k:Nat) (l0:List Int) (l1_0:List (List Int)):Option (List Int):=(Azj.f k l0 (l0.length:Int) l1_0).bind fun t176=>(some t176)
theorem Czp.mono:∀ a0 a1 k,LeO (Czp.f k a0 a1) (Czp.f (k+1) a0 a1):=by
 intro a0 a1 k;unfold Czp.f;have i0:=@Azj.mono;exact mM
theorem Czp.calls (k:Nat) (P0_:Nat→Prop) (u9000_:Value) (l0:List Int) (A1_0:Option Addr) (c1_0:Nat) (l1_0:List (List Int)) (r:List Int) (w0 w:World) (hB:Below w0.heap.size w0 w) (ho0:Kd.R (Kd.int .i64) 3 w w0.heap.size P0_ u9000_ l0) (hr1_0:∀ W_,Kept w W_ (fun k_=>P0_ k_)→Kd.C (Kd.slice 3 (Kd.int .i64)) W_ A1_0 l1_0.length l1_0) (hc1_0:l1_0.length≤c1_0) (h:Czp.f k l0 l1_0=some r) :
  Calls Try.prog 54 #[u9000_,.func (.func 55) #[] #[.pointer A1_0]] w fun e w'=>e=.returned (.tuple #[])∧Kd.R (Kd.int .i64) 3 w' w0.heap.size (fun k_=>(P0_ k_∨w.heap.size≤k_)) u9000_ r∧Below w0.heap.size w0 w'∧Kept w w' (fun k_=>P0_ k_):=by
 have HO0:=aM (show Kd.R (Kd.int .i64) 3 w w0.heap.size (fun k_=>(P0_ k_∨w.heap.size≤k_)) u9000_ l0 from Kd.R_mono ho0 (fun k_ hk=>(.inl hk)))
 have HR1_0:=aM hr1_0;have HC1_0:=aM hc1_0;clear hr1_0 hc1_0;have HK:=aM (Kept.refl w (fun k_=>P0_ k_))
 have HW0:=aM hB.size;have HB:=aM hB;clear hB;have H:((Azj.f k l0 (l0.length:Int) l1_0).bind fun t176=>(some t176))=some r:=h
 clear h;replace H:=bS H;obtain⟨t176,A30,H⟩:=H;replace H:(some t176)=some r:=H;have A3:=aM A30;clear A30;obtain rfl:=Option.some.inj H;obtain⟨Ao4,co4,rfl⟩:=Kd.R_slice HO0.out;go_enter Try.func54,Try.ntmps54
 go_wp2_with (first|((with_reducible refine gc 76 rfl ?_);refine gC 76 (some 8) Try.func76 #[.slice Ao4 l0.length co4,.int .i64 (l0.length:Int),.func (.func 55) #[] #[.pointer A1_0]] ?_;(with_reducible refine(Azj.calls k (fun k_=>some k_=(.slice Ao4 l0.length co4:Value).ownBlock) (.slice Ao4 l0.length co4) l0 (l0.length:Int) _ c1_0 l1_0 t176 w0 _ ?side1 ?side2 ?side3 ?side4 A3.out).mono ?_);(case side1=>exact pB);(case side2=>exact Kd.R_tight rfl HO0.out);(case side3=>exact Kd.C_kept_call HR1_0.out (kK HK) (fun k_ hs_=>(fun e_=>(HO0.out.1 k_ e_.symm)) hs_));(case side4=>exact HC1_0.out);rintro e w5 ⟨rfl,hy0,hb,hkp⟩;refine⟨_,rfl,?_⟩;replace HK:=aM (Kept.then_ (S:=(fun k_=>P0_ k_)) (kK HK) hkp (fun k_ hs_=>(fun e_=>(HO0.out.1 k_ e_.symm)) hs_));replace HO0:=aM (Kd.R_reok rfl hy0 (fun k_ e_=>HO0.out.1 k_ e_));replace HB:=aM (hb);clear hb hkp hy0))
 first|go_end0|((try simp only[Exit.inBlock,Exit.then]);refine bodyPost_ret (results_none rfl _ _ _) rfl ?_)
 exact⟨eW,rX HO0.out,pB,kK HK⟩

end Go.Proofs.Ytnklckihalhlmaa.Print
