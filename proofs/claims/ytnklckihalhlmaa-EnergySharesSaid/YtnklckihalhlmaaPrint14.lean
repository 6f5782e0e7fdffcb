import Derived.Test.YtnklckihalhlmaaPrint0
import Derived.Test.YtnklckihalhlmaaPrint8
import Derived.Test.YtnklckihalhlmaaPrint13
namespace Go.Proofs.Ytnklckihalhlmaa.Print
open Go.RowKit Go.Proofs.YtnklckihalhlmaaW.PrintWords Go.Proofs.YtnklckihalhlmaaW.PrintLast Go.Proofs.YtnklckihalhlmaaW.PrintMore
attribute [local go_sem] max2_int min2_int max_two min_two max_three min_three max_four min_four
set_option linter.unusedVariables false
set_option maxRecDepth 100000
set_option maxHeartbeats 8000000
set_option linter.unusedSimpArgs false

mutual
def Azw.l0:Nat→List Int→Int→Int→Int→Int→List (List Int)→Option (List Int)
 | 0,_,_,_,_,_,_=>none
 | k+1,x0,x1,x6,x7,x8,x920=>if x8≤x1 then((Azq.f k x0 x7 x8 x920).bind fun t217=>(Azw.l0 k t217 x1 x6 x8 (wrap64 (x8+x6)) x920)) else((Azq.f k x0 x7 x1 x920).bind fun t218=>(Azw.l1 k t218 x1 x6 x920))
def Azw.l1:Nat→List Int→Int→Int→List (List Int)→Option (List Int)
 | 0,_,_,_,_=>none
 | k+1,x0,x1,x6,x920=>if x6 < x1 then(Azw.l2 k x0 x1 x6 0 (wrap64 (2 * x6)) x920) else(some x0)
def Azw.l2:Nat→List Int→Int→Int→Int→Int→List (List Int)→Option (List Int)
 | 0,_,_,_,_,_,_=>none
 | k+1,x0,x1,x6,x7,x8,x920=>if x8≤x1 then((Azz.f k x0 x7 (wrap64 (x7+x6)) x8 x920).bind fun t219=>(Azw.l2 k t219 x1 x6 x8 (wrap64 (x8+(wrap64 (2 * x6)))) x920)) else(if(wrap64 (x7+x6)) < x1 then((Azz.f k x0 x7 (wrap64 (x7+x6)) x1 x920).bind fun t220=>(Azw.l1 k t220 x1 (wrap64 (x6 * 2)) x920)) else(Azw.l1 k x0 x1 (wrap64 (x6 * 2)) x920))
end
def Azw.f (k:Nat) (l0:List Int) (a1:Int) (l2_0:List (List Int)):Option (List Int):=Azw.l0 k l0 a1 20 0 20 l2_0
theorem Azw.mono_l:∀ k,(∀ a6 a7 a8 a9 b3 b4,LeO (Azw.l0 k a6 a7 a8 a9 b3 b4) (Azw.l0 (k+1) a6 a7 a8 a9 b3 b4))∧(∀ a6 a7 a8 a9,LeO (Azw.l1 k a6 a7 a8 a9) (Azw.l1 (k+1) a6 a7 a8 a9))∧(∀ a6 a7 a8 a9 b3 b4,LeO (Azw.l2 k a6 a7 a8 a9 b3 b4) (Azw.l2 (k+1) a6 a7 a8 a9 b3 b4))
 | 0=>⟨fun _ _ _ _ _ _ r h=>by simp [Azw.l0] at h,fun _ _ _ _ r h=>by simp [Azw.l1] at h,fun _ _ _ _ _ _ r h=>by simp [Azw.l2] at h⟩
 | k+1=>by
  obtain⟨ih0,ih1,ih2⟩:=Azw.mono_l k;have i0:=@Azq.mono;have i1:=@Azz.mono;refine⟨?_,?_,?_⟩
  ·intro a6 a7 a8 a9 b3 b4;unfold Azw.l0;exact mM
  ·intro a6 a7 a8 a9;unfold Azw.l1;exact mM
  ·intro a6 a7 a8 a9 b3 b4;unfold Azw.l2;exact mM
theorem Azw.mono:∀ a6 a7 a8 k,LeO (Azw.f k a6 a7 a8) (Azw.f (k+1) a6 a7 a8):=by
 intro a6 a7 a8 k;obtain⟨ih0,ih1,ih2⟩:=Azw.mono_l k;unfold Azw.f;have i0:=@Azq.mono;have i1:=@Azz.mono;exact mM
theorem Azw.calls (k:Nat) (a6:Nat→Prop) (u9000_:Value) (l0:List Int) (a7:Int) (a8:Option Addr) (a9:Nat) (b3:List (List Int)) (r:List Int) (b4 w:World) (hB:Below b4.heap.size b4 w) (b5:Kd.R (Kd.int .i64) 3 w b4.heap.size a6 u9000_ l0) (b6:∀ W_,Kept w W_ (fun k_=>a6 k_)→Kd.C (Kd.slice 3 (Kd.int .i64)) W_ a8 b3.length b3) (b7:b3.length≤a9) (h:Azw.f k l0 a7 b3=some r) :
  Calls Try.prog 76 #[u9000_,.int .i64 a7,.func (.func 55) #[] #[.pointer a8]] w fun e w'=>e=.returned (.tuple #[])∧Kd.R (Kd.int .i64) 3 w' b4.heap.size (fun k_=>(a6 k_∨w.heap.size≤k_)) u9000_ r∧Below b4.heap.size b4 w'∧Kept w w' (fun k_=>a6 k_):=by
 have b8:=aM (show Kd.R (Kd.int .i64) 3 w b4.heap.size (fun k_=>(a6 k_∨w.heap.size≤k_)) u9000_ l0 from Kd.R_mono b5 (fun k_ hk=>(.inl hk)))
 have b9:=aM b6;have d0:=aM b7;clear b6 b7;have HK:=aM (Kept.refl w (fun k_=>a6 k_))
 have HW0:=aM hB.size;have HB:=aM hB;clear hB;have H:(Azw.l0 k l0 a7 20 0 20 b3)=some r:=h;clear h;have H':=aM H;clear H;go_enter Try.func76,Try.ntmps76
 go_wp2
 go_loopg [7,8] k (fun kq d1 d3 w'=>∃ (d4:List Int) (d5:Int) (d6:Int),d1=.int .i64 d5∧d3=.int .i64 d6∧Aside0 (Azw.l0 kq d4 a7 20 d5 d6 b3=some r)∧Aside0 (kq≤k)∧Aside0 (Kd.R (Kd.int .i64) 3 w' b4.heap.size (fun k_=>(a6 k_∨w.heap.size≤k_)) u9000_ d4)∧Aside0 (Kept w w' (fun k_=>a6 k_))∧Aside0 (Below b4.heap.size b4 w'))
 case atStart=>exact⟨(l0),(0),(20),sD,sD,H',⟨Nat.le_refl _⟩,⟨rX b8.out⟩,⟨kK HK⟩,⟨pB⟩⟩
 case round =>
  clear H';try clear c2
  obtain⟨d4,d5,d6,rfl,rfl,HA,d7,d8,HK,HB⟩:=hrel;cases gk with
  | zero=>exact absurd HA.out (by simp [Azw.l0])
  | succ k1 =>
   have H:=HA.out;clear HA;simp only[Azw.l0] at H;by_cases c4:d6≤a7
   ·rw[if_pos c4] at H;have d9:=dE c4;clear c4;obtain⟨e6,e7,H⟩:=bT H;(try dsimp only at H);have H':=aM H;clear H;obtain⟨e8,f3,rfl⟩:=Kd.R_slice d8.out;go_wp2_with (first|((with_reducible refine gc 88 rfl ?_);refine gC 88 (some 18) Try.func88 #[.slice e8 d4.length f3,.int .i64 d5,.int .i64 d6,.func (.func 55) #[] #[.pointer a8]] ?_;(with_reducible refine(Azq.calls k1 (fun k_=>some k_=(.slice e8 d4.length f3:Value).ownBlock) (.slice e8 d4.length f3) d4 d5 d6 _ a9 b3 e6 b4 _ ?_ ?_ ?_ ?_ e7.out).mono ?_);exact pB;exact Kd.R_tight rfl d8.out;exact Kd.C_kept_call b9.out (kK HK) (fun k_ hs_=>(fun e_=>(d8.out.1 k_ e_.symm)) hs_);exact d0.out;rintro e f4 ⟨rfl,f5,hb,hkp⟩;refine⟨_,rfl,?_⟩;replace HK:=aM (Kept.then_ (S:=(fun k_=>a6 k_)) (kK HK) hkp (fun k_ hs_=>(fun e_=>(d8.out.1 k_ e_.symm)) hs_));replace d8:=aM (Kd.R_reok rfl f5 (fun k_ e_=>d8.out.1 k_ e_));replace HB:=aM (hb);clear hb hkp f5))
    go_roundg k1
    case measure=>have:=d7.out;omega
    case rel=>exact⟨(e6),(d6),(wrap64 (d6+20)),sD,sD,H',⟨by have:=d7.out;omega⟩,⟨rX d8.out⟩,⟨kK HK⟩,⟨pB⟩⟩
   ·rw[if_neg c4] at H;have d9:decide (d6≤a7)=false:=decide_eq_false c4;clear c4;obtain⟨f6,f7,H⟩:=bT H;(try dsimp only at H);have H':=aM H;clear H;obtain⟨f8,f9,rfl⟩:=Kd.R_slice d8.out;go_wp2_with (first|((with_reducible refine gc 88 rfl ?_);refine gC 88 (some 27) Try.func88 #[.slice f8 d4.length f9,.int .i64 d5,.int .i64 a7,.func (.func 55) #[] #[.pointer a8]] ?_;(with_reducible refine(Azq.calls k1 (fun k_=>some k_=(.slice f8 d4.length f9:Value).ownBlock) (.slice f8 d4.length f9) d4 d5 a7 _ a9 b3 f6 b4 _ ?_ ?_ ?_ ?_ f7.out).mono ?_);exact pB;exact Kd.R_tight rfl d8.out;exact Kd.C_kept_call b9.out (kK HK) (fun k_ hs_=>(fun e_=>(d8.out.1 k_ e_.symm)) hs_);exact d0.out;rintro e g6 ⟨rfl,f5,hb,hkp⟩;refine⟨_,rfl,?_⟩;replace HK:=aM (Kept.then_ (S:=(fun k_=>a6 k_)) (kK HK) hkp (fun k_ hs_=>(fun e_=>(d8.out.1 k_ e_.symm)) hs_));replace d8:=aM (Kd.R_reok rfl f5 (fun k_ e_=>d8.out.1 k_ e_));replace HB:=aM (hb);clear hb hkp f5))
    try simp only[Act.put,sA,sZ,sC]
    go_loopg [6] k1 (fun kq g7 w'=>∃ (g8:List Int) (g9:Int),g7=.int .i64 g9∧Aside0 (Azw.l1 kq g8 a7 g9 b3=some r)∧Aside0 (kq≤k1)∧Aside0 (Kd.R (Kd.int .i64) 3 w' b4.heap.size (fun k_=>(a6 k_∨w.heap.size≤k_)) (.slice f8 d4.length f9) g8)∧Aside0 (Kept w w' (fun k_=>a6 k_))∧Aside0 (Below b4.heap.size b4 w'))
    case atStart=>exact⟨(f6),(20),sD,H',⟨Nat.le_refl _⟩,⟨rX d8.out⟩,⟨kK HK⟩,⟨pB⟩⟩
    case round =>
     clear H';try clear c2
     obtain⟨g8,g9,rfl,HA,j5,d8,HK,HB⟩:=hrel;have j9:=(Kd.R_reads' d8.out).1;rw[j9] at d8;(try simp only[j9])
     cases gk with
     | zero=>exact absurd HA.out (by simp [Azw.l1])
     | succ k2 =>
      have H:=HA.out;clear HA;simp only[Azw.l1] at H;by_cases l5:g9 < a7
      ·rw[if_pos l5] at H;have l6:=dE l5;clear l5;have H':=aM H;clear H;go_wp2
       go_loopg [7,8] k2 (fun kq d1 d3 w'=>∃ (l7:List Int) (l8:Int) (l9:Int),d1=.int .i64 l8∧d3=.int .i64 l9∧Aside0 (Azw.l2 kq l7 a7 g9 l8 l9 b3=some r)∧Aside0 (kq≤k2)∧Aside0 (Kd.R (Kd.int .i64) 3 w' b4.heap.size (fun k_=>(a6 k_∨w.heap.size≤k_)) (.slice f8 g8.length f9) l7)∧Aside0 (Kept w w' (fun k_=>a6 k_))∧Aside0 (Below b4.heap.size b4 w'))
       case atStart=>exact⟨(g8),(0),(wrap64 (2 * g9)),sD,sD,H',⟨Nat.le_refl _⟩,⟨by(try simp only[j9]);(with_reducible repeat(first|apply Kd.R_alloc|apply Kd.R_drewN|apply Kd.R_drew));exact d8.out⟩,⟨kK HK⟩,⟨pB⟩⟩
       case round =>
        clear H';try clear m4
        obtain⟨l7,l8,l9,rfl,rfl,HA,m5,d8,HK,HB⟩:=hrel;have m6:=(Kd.R_reads' d8.out).1;rw[m6] at d8;(try simp only[m6])
        cases gk with
        | zero=>exact absurd HA.out (by simp [Azw.l2])
        | succ k3 =>
         have H:=HA.out;clear HA;simp only[Azw.l2] at H;by_cases m7:l9≤a7
         ·rw[if_pos m7] at H;have m8:=dE m7;clear m7;obtain⟨m9,n0,H⟩:=bT H;(try dsimp only at H);have H':=aM H;clear H;go_wp2_with (first|((with_reducible refine gc 89 rfl ?_);refine gC 89 (some 43) Try.func89 #[.slice f8 l7.length f9,.int .i64 l8,.int .i64 (wrap64 (l8+g9)),.int .i64 l9,.func (.func 55) #[] #[.pointer a8]] ?_;(with_reducible refine(Azz.calls k3 (fun k_=>some k_=(.slice f8 l7.length f9:Value).ownBlock) (.slice f8 l7.length f9) l7 l8 (wrap64 (l8+g9)) l9 _ a9 b3 m9 b4 _ ?_ ?_ ?_ ?_ n0.out).mono ?_);exact pB;exact Kd.R_tight rfl d8.out;exact Kd.C_kept_call b9.out (kK HK) (fun k_ hs_=>(fun e_=>(d8.out.1 k_ e_.symm)) hs_);exact d0.out;rintro e n1 ⟨rfl,f5,hb,hkp⟩;refine⟨_,rfl,?_⟩;replace HK:=aM (Kept.then_ (S:=(fun k_=>a6 k_)) (kK HK) hkp (fun k_ hs_=>(fun e_=>(d8.out.1 k_ e_.symm)) hs_));replace d8:=aM (Kd.R_reok rfl f5 (fun k_ e_=>d8.out.1 k_ e_));replace HB:=aM (hb);clear hb hkp f5))
          (try simp only[← m6])
          go_roundg k3
          case measure=>have:=d7.out;have:=j5.out;have:=m5.out;omega
          case rel=>exact⟨(m9),(l9),(wrap64 (l9+(wrap64 (2 * g9)))),sD,sD,H',⟨by have:=d7.out;have:=j5.out;have:=m5.out;omega⟩,⟨by(try simp only[j9]);(try simp only[m6]);(with_reducible repeat(first|apply Kd.R_alloc|apply Kd.R_drewN|apply Kd.R_drew));exact d8.out⟩,⟨kK HK⟩,⟨pB⟩⟩
         ·rw[if_neg m7] at H;have m8:decide (l9≤a7)=false:=decide_eq_false m7;clear m7;by_cases n2:(wrap64 (l8+g9)) < a7
          ·rw[if_pos n2] at H;have n3:=dE n2;have n4:decide ((IntKind.i64.wrap (l8+g9)) < a7)=true:=by have h_:=n3;first|exact h_|(simp only[i64_w];exact h_)
           clear n2;obtain⟨n5,n6,H⟩:=bT H;(try dsimp only at H);have H':=aM H;clear H;go_wp2_with (first|((with_reducible refine gc 89 rfl ?_);refine gC 89 (some 60) Try.func89 #[.slice f8 l7.length f9,.int .i64 l8,.int .i64 (wrap64 (l8+g9)),.int .i64 a7,.func (.func 55) #[] #[.pointer a8]] ?_;(with_reducible refine(Azz.calls k3 (fun k_=>some k_=(.slice f8 l7.length f9:Value).ownBlock) (.slice f8 l7.length f9) l7 l8 (wrap64 (l8+g9)) a7 _ a9 b3 n5 b4 _ ?_ ?_ ?_ ?_ n6.out).mono ?_);exact pB;exact Kd.R_tight rfl d8.out;exact Kd.C_kept_call b9.out (kK HK) (fun k_ hs_=>(fun e_=>(d8.out.1 k_ e_.symm)) hs_);exact d0.out;rintro e n7 ⟨rfl,f5,hb,hkp⟩;refine⟨_,rfl,?_⟩;replace HK:=aM (Kept.then_ (S:=(fun k_=>a6 k_)) (kK HK) hkp (fun k_ hs_=>(fun e_=>(d8.out.1 k_ e_.symm)) hs_));replace d8:=aM (Kd.R_reok rfl f5 (fun k_ e_=>d8.out.1 k_ e_));replace HB:=aM (hb);clear hb hkp f5))
           (try simp only[← j9,← m6])
           go_roundg k3
           case measure=>have:=d7.out;have:=j5.out;have:=m5.out;omega
           case rel=>exact⟨(n5),(wrap64 (g9 * 2)),sD,H',⟨by have:=d7.out;have:=j5.out;have:=m5.out;omega⟩,⟨by(try simp only[j9]);(try simp only[m6]);(with_reducible repeat(first|apply Kd.R_alloc|apply Kd.R_drewN|apply Kd.R_drew));exact d8.out⟩,⟨kK HK⟩,⟨pB⟩⟩
          ·rw[if_neg n2] at H;have n3:decide ((wrap64 (l8+g9)) < a7)=false:=decide_eq_false n2;have n4:decide ((IntKind.i64.wrap (l8+g9)) < a7)=false:=by have h_:=n3;first|exact h_|(simp only[i64_w];exact h_)
           clear n2;have H':=aM H;clear H;go_wp2
           (try simp only[← j9,← m6])
           go_roundg k3
           case measure=>have:=d7.out;have:=j5.out;have:=m5.out;omega
           case rel=>exact⟨(l7),(wrap64 (g9 * 2)),sD,H',⟨by have:=d7.out;have:=j5.out;have:=m5.out;omega⟩,⟨by(try simp only[j9]);(try simp only[m6]);(with_reducible repeat(first|apply Kd.R_alloc|apply Kd.R_drewN|apply Kd.R_drew));exact d8.out⟩,⟨kK HK⟩,⟨pB⟩⟩
      ·rw[if_neg l5] at H;have l6:decide (g9 < a7)=false:=decide_eq_false l5;clear l5;obtain rfl:=Option.some.inj H;go_wp2
       first|go_end0|((try simp only[Exit.inBlock,Exit.then]);refine bodyPost_ret (results_none rfl _ _ _) rfl ?_)
       exact⟨eW,(by first|exact(rX d8.out)|(simp only[j9];exact(rX d8.out))),pB,kK HK⟩

def Czx.f (k:Nat) (l0:List Int) (l1_0:List (List Int)):Option (List Int):=(Azw.f k l0 (l0.length:Int) l1_0).bind fun t221=>(some t221)
theorem Czx.mono:∀ a6 a7 k,LeO (Czx.f k a6 a7) (Czx.f (k+1) a6 a7):=by
 intro a6 a7 k;unfold Czx.f;have i0:=@Azw.mono;exact mM
theorem Czx.calls (k:Nat) (a6:Nat→Prop) (u9000_:Value) (l0:List Int) (a7:Option Addr) (a8:Nat) (a9:List (List Int)) (r:List Int) (b3 w:World) (hB:Below b3.heap.size b3 w) (b4:Kd.R (Kd.int .i64) 3 w b3.heap.size a6 u9000_ l0) (b5:∀ W_,Kept w W_ (fun k_=>a6 k_)→Kd.C (Kd.slice 3 (Kd.int .i64)) W_ a7 a9.length a9) (b6:a9.length≤a8) (h:Czx.f k l0 a9=some r) :
  Calls Try.prog 54 #[u9000_,.func (.func 55) #[] #[.pointer a7]] w fun e w'=>e=.returned (.tuple #[])∧Kd.R (Kd.int .i64) 3 w' b3.heap.size (fun k_=>(a6 k_∨w.heap.size≤k_)) u9000_ r∧Below b3.heap.size b3 w'∧Kept w w' (fun k_=>a6 k_):=by
 have b7:=aM (show Kd.R (Kd.int .i64) 3 w b3.heap.size (fun k_=>(a6 k_∨w.heap.size≤k_)) u9000_ l0 from Kd.R_mono b4 (fun k_ hk=>(.inl hk)))
 have b8:=aM b5;have b9:=aM b6;clear b5 b6;have HK:=aM (Kept.refl w (fun k_=>a6 k_))
 have HW0:=aM hB.size;have HB:=aM hB;clear hB;have H:((Azw.f k l0 (l0.length:Int) a9).bind fun d0=>(some d0))=some r:=h
 clear h;replace H:=bS H;obtain⟨d0,d1,H⟩:=H;replace H:(some d0)=some r:=H;have d3:=aM d1;clear d1;obtain rfl:=Option.some.inj H;obtain⟨d4,d5,rfl⟩:=Kd.R_slice b7.out;go_enter Try.func54,Try.ntmps54
 go_wp2_with (first|((with_reducible refine gc 76 rfl ?_);refine gC 76 (some 8) Try.func76 #[.slice d4 l0.length d5,.int .i64 (l0.length:Int),.func (.func 55) #[] #[.pointer a7]] ?_;(with_reducible refine(Azw.calls k (fun k_=>some k_=(.slice d4 l0.length d5:Value).ownBlock) (.slice d4 l0.length d5) l0 (l0.length:Int) _ a8 a9 d0 b3 _ ?_ ?_ ?_ ?_ d3.out).mono ?_);exact pB;exact Kd.R_tight rfl b7.out;exact Kd.C_kept_call b8.out (kK HK) (fun k_ hs_=>(fun e_=>(b7.out.1 k_ e_.symm)) hs_);exact b9.out;rintro e d6 ⟨rfl,d7,hb,hkp⟩;refine⟨_,rfl,?_⟩;replace HK:=aM (Kept.then_ (S:=(fun k_=>a6 k_)) (kK HK) hkp (fun k_ hs_=>(fun e_=>(b7.out.1 k_ e_.symm)) hs_));replace b7:=aM (Kd.R_reok rfl d7 (fun k_ e_=>b7.out.1 k_ e_));replace HB:=aM (hb);clear hb hkp d7))
 first|go_end0|((try simp only[Exit.inBlock,Exit.then]);refine bodyPost_ret (results_none rfl _ _ _) rfl ?_)
 exact⟨eW,rX b7.out,pB,kK HK⟩

end Go.Proofs.Ytnklckihalhlmaa.Print
