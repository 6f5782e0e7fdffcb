import Derived.Test.YtblifmmcmngdnaaPrint0
import Derived.Test.YtblifmmcmngdnaaPrint5
import Derived.Test.YtblifmmcmngdnaaPrint9
namespace Go.Proofs.Ytblifmmcmngdnaa.Print
open Go.RowKit Go.Proofs.YtblifmmcmngdnaaW.PrintWords Go.Proofs.YtblifmmcmngdnaaW.PrintLast Go.Proofs.YtblifmmcmngdnaaW.PrintMore
attribute [local go_sem] max2_int min2_int max_two min_two max_three min_three max_four min_four
set_option linter.unusedVariables false
set_option maxRecDepth 100000
set_option maxHeartbeats 8000000
set_option linter.unusedSimpArgs false

mutual
def Azw.l0:Nat→List Int→Int→Int→Int→Int→List (List Int)→Option (List Int)
 | 0,_,_,_,_,_,_=>none
 | k+1,x0,x1,x6,x7,x8,x920=>if x8≤x1 then((Azq.f k x0 x7 x8 x920).bind fun t195=>(Azw.l0 k t195 x1 x6 x8 (wrap64 (x8+x6)) x920)) else((Azq.f k x0 x7 x1 x920).bind fun t196=>(Azw.l1 k t196 x1 x6 x920))
def Azw.l1:Nat→List Int→Int→Int→List (List Int)→Option (List Int)
 | 0,_,_,_,_=>none
 | k+1,x0,x1,x6,x920=>if x6 < x1 then(Azw.l2 k x0 x1 x6 0 (wrap64 (2 * x6)) x920) else(some x0)
def Azw.l2:Nat→List Int→Int→Int→Int→Int→List (List Int)→Option (List Int)
 | 0,_,_,_,_,_,_=>none
 | k+1,x0,x1,x6,x7,x8,x920=>if x8≤x1 then((Azz.f k x0 x7 (wrap64 (x7+x6)) x8 x920).bind fun t197=>(Azw.l2 k t197 x1 x6 x8 (wrap64 (x8+(wrap64 (2 * x6)))) x920)) else(if(wrap64 (x7+x6)) < x1 then((Azz.f k x0 x7 (wrap64 (x7+x6)) x1 x920).bind fun t198=>(Azw.l1 k t198 x1 (wrap64 (x6 * 2)) x920)) else(Azw.l1 k x0 x1 (wrap64 (x6 * 2)) x920))
end
def Azw.f (k:Nat) (l0:List Int) (a1:Int) (l2_0:List (List Int)):Option (List Int):=Azw.l0 k l0 a1 20 0 20 l2_0
theorem Azw.mono_l:∀ k,(∀ a5 a6 a7 a8 a9 b3,LeO (Azw.l0 k a5 a6 a7 a8 a9 b3) (Azw.l0 (k+1) a5 a6 a7 a8 a9 b3))∧(∀ a5 a6 a7 a8,LeO (Azw.l1 k a5 a6 a7 a8) (Azw.l1 (k+1) a5 a6 a7 a8))∧(∀ a5 a6 a7 a8 a9 b3,LeO (Azw.l2 k a5 a6 a7 a8 a9 b3) (Azw.l2 (k+1) a5 a6 a7 a8 a9 b3))
 | 0=>⟨fun _ _ _ _ _ _ r h=>by simp [Azw.l0] at h,fun _ _ _ _ r h=>by simp [Azw.l1] at h,fun _ _ _ _ _ _ r h=>by simp [Azw.l2] at h⟩
 | k+1=>by
  obtain⟨ih0,ih1,ih2⟩:=Azw.mono_l k;have i0:=@Azq.mono;have i1:=@Azz.mono;refine⟨?_,?_,?_⟩
  ·intro a5 a6 a7 a8 a9 b3;unfold Azw.l0;exact mM
  ·intro a5 a6 a7 a8;unfold Azw.l1;exact mM
  ·intro a5 a6 a7 a8 a9 b3;unfold Azw.l2;exact mM
theorem Azw.mono:∀ a5 a6 a7 k,LeO (Azw.f k a5 a6 a7) (Azw.f (k+1) a5 a6 a7):=by
 intro a5 a6 a7 k;obtain⟨ih0,ih1,ih2⟩:=Azw.mono_l k;unfold Azw.f;have i0:=@Azq.mono;have i1:=@Azz.mono;exact mM
theorem Azw.calls (k:Nat) (a5:Nat→Prop) (u9000_:Value) (l0:List Int) (a6:Int) (a7:Option Addr) (a8:Nat) (a9:List (List Int)) (r:List Int) (b3 w:World) (hB:Below b3.heap.size b3 w) (b4:Kd.R (Kd.int .i64) 3 w b3.heap.size a5 u9000_ l0) (b5:∀ W_,Kept w W_ (fun k_=>a5 k_)→Kd.C (Kd.slice 3 (Kd.int .i64)) W_ a7 a9.length a9) (b6:a9.length≤a8) (h:Azw.f k l0 a6 a9=some r) :
  Calls Try.prog 26 #[u9000_,.int .i64 a6,.func (.func 16) #[] #[.pointer a7]] w fun e w'=>e=.returned (.tuple #[])∧Kd.R (Kd.int .i64) 3 w' b3.heap.size (fun k_=>(a5 k_∨w.heap.size≤k_)) u9000_ r∧Below b3.heap.size b3 w'∧Kept w w' (fun k_=>a5 k_):=by
 have b7:=aM (show Kd.R (Kd.int .i64) 3 w b3.heap.size (fun k_=>(a5 k_∨w.heap.size≤k_)) u9000_ l0 from Kd.R_mono b4 (fun k_ hk=>(.inl hk)))
 have b8:=aM b5;have b9:=aM b6;clear b5 b6;have HK:=aM (Kept.refl w (fun k_=>a5 k_))
 have HW0:=aM hB.size;have HB:=aM hB;clear hB;have H:(Azw.l0 k l0 a6 20 0 20 a9)=some r:=h;clear h;have H':=aM H;clear H;go_enter Try.func26,Try.ntmps26
 go_wp2
 go_loopg [7,8] k (fun kq d0 d3 w'=>∃ (d4:List Int) (d5:Int) (d6:Int),d0=.int .i64 d5∧d3=.int .i64 d6∧Aside0 (Azw.l0 kq d4 a6 20 d5 d6 a9=some r)∧Aside0 (kq≤k)∧Aside0 (Kd.R (Kd.int .i64) 3 w' b3.heap.size (fun k_=>(a5 k_∨w.heap.size≤k_)) u9000_ d4)∧Aside0 (Kept w w' (fun k_=>a5 k_))∧Aside0 (Below b3.heap.size b3 w'))
 case atStart=>exact⟨(l0),(0),(20),sD,sD,H',⟨Nat.le_refl _⟩,⟨rX b7.out⟩,⟨kK HK⟩,⟨pB⟩⟩
 case round =>
  clear H';try clear c2
  obtain⟨d4,d5,d6,rfl,rfl,HA,d7,d8,HK,HB⟩:=hrel;cases gk with
  | zero=>exact absurd HA.out (by simp [Azw.l0])
  | succ k1 =>
   have H:=HA.out;clear HA;simp only[Azw.l0] at H;replace H:=iD H;rcases H with⟨d9,H⟩|⟨d9,H⟩
   ·obtain⟨e0,e8,H⟩:=bT H;(try dsimp only at H);have H':=aM H;clear H;obtain⟨f2,f3,rfl⟩:=Kd.R_slice d8.out;go_wp2_with (first|((with_reducible refine gc 35 rfl ?_);refine gC 35 (some 18) Try.func35 #[.slice f2 d4.length f3,.int .i64 d5,.int .i64 d6,.func (.func 16) #[] #[.pointer a7]] ?_;(with_reducible refine(Azq.calls k1 (fun k_=>some k_=(.slice f2 d4.length f3:Value).ownBlock) (.slice f2 d4.length f3) d4 d5 d6 _ a8 a9 e0 b3 _ ?_ ?_ ?_ ?_ e8.out).mono ?_);exact pB;exact Kd.R_tight rfl d8.out;exact Kd.C_kept_call b8.out (kK HK) (fun k_ hs_=>(fun e_=>(d8.out.1 k_ e_.symm)) hs_);exact b9.out;rintro e f4 ⟨rfl,f5,hb,hkp⟩;refine⟨_,rfl,?_⟩;replace HK:=aM (Kept.then_ (S:=(fun k_=>a5 k_)) (kK HK) hkp (fun k_ hs_=>(fun e_=>(d8.out.1 k_ e_.symm)) hs_));replace d8:=aM (Kd.R_reok rfl f5 (fun k_ e_=>d8.out.1 k_ e_));replace HB:=aM (hb);clear hb hkp f5))
    go_roundg k1
    case measure=>have:=d7.out;omega
    case rel=>exact⟨(e0),(d6),(wrap64 (d6+20)),sD,sD,H',⟨by have:=d7.out;omega⟩,⟨rX d8.out⟩,⟨kK HK⟩,⟨pB⟩⟩
   ·obtain⟨f6,f7,H⟩:=bT H;(try dsimp only at H);have H':=aM H;clear H;obtain⟨f9,g4,rfl⟩:=Kd.R_slice d8.out;go_wp2_with (first|((with_reducible refine gc 35 rfl ?_);refine gC 35 (some 27) Try.func35 #[.slice f9 d4.length g4,.int .i64 d5,.int .i64 a6,.func (.func 16) #[] #[.pointer a7]] ?_;(with_reducible refine(Azq.calls k1 (fun k_=>some k_=(.slice f9 d4.length g4:Value).ownBlock) (.slice f9 d4.length g4) d4 d5 a6 _ a8 a9 f6 b3 _ ?_ ?_ ?_ ?_ f7.out).mono ?_);exact pB;exact Kd.R_tight rfl d8.out;exact Kd.C_kept_call b8.out (kK HK) (fun k_ hs_=>(fun e_=>(d8.out.1 k_ e_.symm)) hs_);exact b9.out;rintro e g5 ⟨rfl,f5,hb,hkp⟩;refine⟨_,rfl,?_⟩;replace HK:=aM (Kept.then_ (S:=(fun k_=>a5 k_)) (kK HK) hkp (fun k_ hs_=>(fun e_=>(d8.out.1 k_ e_.symm)) hs_));replace d8:=aM (Kd.R_reok rfl f5 (fun k_ e_=>d8.out.1 k_ e_));replace HB:=aM (hb);clear hb hkp f5))
    try simp only[Act.put,sA,sZ,sC]
    go_loopg [6] k1 (fun kq g6 w'=>∃ (g7:List Int) (g8:Int),g6=.int .i64 g8∧Aside0 (Azw.l1 kq g7 a6 g8 a9=some r)∧Aside0 (kq≤k1)∧Aside0 (Kd.R (Kd.int .i64) 3 w' b3.heap.size (fun k_=>(a5 k_∨w.heap.size≤k_)) (.slice f9 d4.length g4) g7)∧Aside0 (Kept w w' (fun k_=>a5 k_))∧Aside0 (Below b3.heap.size b3 w'))
    case atStart=>exact⟨(f6),(20),sD,H',⟨Nat.le_refl _⟩,⟨rX d8.out⟩,⟨kK HK⟩,⟨pB⟩⟩
    case round =>
     clear H';try clear c2
     obtain⟨g7,g8,rfl,HA,g9,d8,HK,HB⟩:=hrel;have j2:=(Kd.R_reads' d8.out).1;rw[j2] at d8;(try simp only[j2])
     cases gk with
     | zero=>exact absurd HA.out (by simp [Azw.l1])
     | succ k2 =>
      have H:=HA.out;clear HA;simp only[Azw.l1] at H;replace H:=iD H;rcases H with⟨j5,H⟩|⟨j5,H⟩
      ·have H':=aM H;clear H;go_wp2
       go_loopg [7,8] k2 (fun kq d0 d3 w'=>∃ (j9:List Int) (l5:Int) (l6:Int),d0=.int .i64 l5∧d3=.int .i64 l6∧Aside0 (Azw.l2 kq j9 a6 g8 l5 l6 a9=some r)∧Aside0 (kq≤k2)∧Aside0 (Kd.R (Kd.int .i64) 3 w' b3.heap.size (fun k_=>(a5 k_∨w.heap.size≤k_)) (.slice f9 g7.length g4) j9)∧Aside0 (Kept w w' (fun k_=>a5 k_))∧Aside0 (Below b3.heap.size b3 w'))
       case atStart=>exact⟨(g7),(0),(wrap64 (2 * g8)),sD,sD,H',⟨Nat.le_refl _⟩,⟨by(try simp only[j2]);(with_reducible repeat(first|apply Kd.R_alloc|apply Kd.R_drewN|apply Kd.R_drew));exact d8.out⟩,⟨kK HK⟩,⟨pB⟩⟩
       case round =>
        clear H';try clear l7
        obtain⟨j9,l5,l6,rfl,rfl,HA,l8,d8,HK,HB⟩:=hrel;have l9:=(Kd.R_reads' d8.out).1;rw[l9] at d8;(try simp only[l9])
        cases gk with
        | zero=>exact absurd HA.out (by simp [Azw.l2])
        | succ k3 =>
         have H:=HA.out;clear HA;simp only[Azw.l2] at H;replace H:=iD H;rcases H with⟨m4,H⟩|⟨m4,H⟩
         ·obtain⟨m5,m6,H⟩:=bT H;(try dsimp only at H);have H':=aM H;clear H;go_wp2_with (first|((with_reducible refine gc 36 rfl ?_);refine gC 36 (some 43) Try.func36 #[.slice f9 j9.length g4,.int .i64 l5,.int .i64 (wrap64 (l5+g8)),.int .i64 l6,.func (.func 16) #[] #[.pointer a7]] ?_;(with_reducible refine(Azz.calls k3 (fun k_=>some k_=(.slice f9 j9.length g4:Value).ownBlock) (.slice f9 j9.length g4) j9 l5 (wrap64 (l5+g8)) l6 _ a8 a9 m5 b3 _ ?_ ?_ ?_ ?_ m6.out).mono ?_);exact pB;exact Kd.R_tight rfl d8.out;exact Kd.C_kept_call b8.out (kK HK) (fun k_ hs_=>(fun e_=>(d8.out.1 k_ e_.symm)) hs_);exact b9.out;rintro e m7 ⟨rfl,f5,hb,hkp⟩;refine⟨_,rfl,?_⟩;replace HK:=aM (Kept.then_ (S:=(fun k_=>a5 k_)) (kK HK) hkp (fun k_ hs_=>(fun e_=>(d8.out.1 k_ e_.symm)) hs_));replace d8:=aM (Kd.R_reok rfl f5 (fun k_ e_=>d8.out.1 k_ e_));replace HB:=aM (hb);clear hb hkp f5))
          (try simp only[← l9])
          go_roundg k3
          case measure=>have:=d7.out;have:=g9.out;have:=l8.out;omega
          case rel=>exact⟨(m5),(l6),(wrap64 (l6+(wrap64 (2 * g8)))),sD,sD,H',⟨by have:=d7.out;have:=g9.out;have:=l8.out;omega⟩,⟨by(try simp only[j2]);(try simp only[l9]);(with_reducible repeat(first|apply Kd.R_alloc|apply Kd.R_drewN|apply Kd.R_drew));exact d8.out⟩,⟨kK HK⟩,⟨pB⟩⟩
         ·by_cases m8:(wrap64 (l5+g8)) < a6
          ·rw[if_pos m8] at H;have m9:=dE m8;have n0:decide ((IntKind.i64.wrap (l5+g8)) < a6)=true:=by have h_:=m9;first|exact h_|(simp only[i64_w];exact h_)
           clear m8;obtain⟨n1,n2,H⟩:=bT H;(try dsimp only at H);have H':=aM H;clear H;go_wp2_with (first|((with_reducible refine gc 36 rfl ?_);refine gC 36 (some 60) Try.func36 #[.slice f9 j9.length g4,.int .i64 l5,.int .i64 (wrap64 (l5+g8)),.int .i64 a6,.func (.func 16) #[] #[.pointer a7]] ?_;(with_reducible refine(Azz.calls k3 (fun k_=>some k_=(.slice f9 j9.length g4:Value).ownBlock) (.slice f9 j9.length g4) j9 l5 (wrap64 (l5+g8)) a6 _ a8 a9 n1 b3 _ ?_ ?_ ?_ ?_ n2.out).mono ?_);exact pB;exact Kd.R_tight rfl d8.out;exact Kd.C_kept_call b8.out (kK HK) (fun k_ hs_=>(fun e_=>(d8.out.1 k_ e_.symm)) hs_);exact b9.out;rintro e n3 ⟨rfl,f5,hb,hkp⟩;refine⟨_,rfl,?_⟩;replace HK:=aM (Kept.then_ (S:=(fun k_=>a5 k_)) (kK HK) hkp (fun k_ hs_=>(fun e_=>(d8.out.1 k_ e_.symm)) hs_));replace d8:=aM (Kd.R_reok rfl f5 (fun k_ e_=>d8.out.1 k_ e_));replace HB:=aM (hb);clear hb hkp f5))
           (try simp only[← j2,← l9])
           go_roundg k3
           case measure=>have:=d7.out;have:=g9.out;have:=l8.out;omega
           case rel=>exact⟨(n1),(wrap64 (g8 * 2)),sD,H',⟨by have:=d7.out;have:=g9.out;have:=l8.out;omega⟩,⟨by(try simp only[j2]);(try simp only[l9]);(with_reducible repeat(first|apply Kd.R_alloc|apply Kd.R_drewN|apply Kd.R_drew));exact d8.out⟩,⟨kK HK⟩,⟨pB⟩⟩
          ·rw[if_neg m8] at H;have m9:decide ((wrap64 (l5+g8)) < a6)=false:=decide_eq_false m8;have n0:decide ((IntKind.i64.wrap (l5+g8)) < a6)=false:=by have h_:=m9;first|exact h_|(simp only[i64_w];exact h_)
           clear m8;have H':=aM H;clear H;go_wp2
           (try simp only[← j2,← l9])
           go_roundg k3
           case measure=>have:=d7.out;have:=g9.out;have:=l8.out;omega
           case rel=>exact⟨(j9),(wrap64 (g8 * 2)),sD,H',⟨by have:=d7.out;have:=g9.out;have:=l8.out;omega⟩,⟨by(try simp only[j2]);(try simp only[l9]);(with_reducible repeat(first|apply Kd.R_alloc|apply Kd.R_drewN|apply Kd.R_drew));exact d8.out⟩,⟨kK HK⟩,⟨pB⟩⟩
      ·obtain rfl:=Option.some.inj H;go_wp2
       first|go_end0|((try simp only[Exit.inBlock,Exit.then]);refine bodyPost_ret (results_none rfl _ _ _) rfl ?_)
       exact⟨eW,(by first|exact(rX d8.out)|(simp only[j2];exact(rX d8.out))),pB,kK HK⟩

def Bzk.f (k:Nat) (l0:List Int) (l1_0:List (List Int)):Option (List Int):=(Azw.f k l0 (l0.length:Int) l1_0).bind fun t199=>(some t199)
theorem Bzk.mono:∀ a5 a6 k,LeO (Bzk.f k a5 a6) (Bzk.f (k+1) a5 a6):=by
 intro a5 a6 k;unfold Bzk.f;have i0:=@Azw.mono;exact mM
theorem Bzk.calls (k:Nat) (a5:Nat→Prop) (u9000_:Value) (l0:List Int) (a6:Option Addr) (a7:Nat) (a8:List (List Int)) (r:List Int) (a9 w:World) (hB:Below a9.heap.size a9 w) (b3:Kd.R (Kd.int .i64) 3 w a9.heap.size a5 u9000_ l0) (b4:∀ W_,Kept w W_ (fun k_=>a5 k_)→Kd.C (Kd.slice 3 (Kd.int .i64)) W_ a6 a8.length a8) (b5:a8.length≤a7) (h:Bzk.f k l0 a8=some r) :
  Calls Try.prog 15 #[u9000_,.func (.func 16) #[] #[.pointer a6]] w fun e w'=>e=.returned (.tuple #[])∧Kd.R (Kd.int .i64) 3 w' a9.heap.size (fun k_=>(a5 k_∨w.heap.size≤k_)) u9000_ r∧Below a9.heap.size a9 w'∧Kept w w' (fun k_=>a5 k_):=by
 have b6:=aM (show Kd.R (Kd.int .i64) 3 w a9.heap.size (fun k_=>(a5 k_∨w.heap.size≤k_)) u9000_ l0 from Kd.R_mono b3 (fun k_ hk=>(.inl hk)))
 have b7:=aM b4;have b8:=aM b5;clear b4 b5;have HK:=aM (Kept.refl w (fun k_=>a5 k_))
 have HW0:=aM hB.size;have HB:=aM hB;clear hB;have H:((Azw.f k l0 (l0.length:Int) a8).bind fun b9=>(some b9))=some r:=h
 clear h;replace H:=bS H;obtain⟨b9,d0,H⟩:=H;replace H:(some b9)=some r:=H;have d3:=aM d0;clear d0;obtain rfl:=Option.some.inj H;obtain⟨d4,d5,rfl⟩:=Kd.R_slice b6.out;go_enter Try.func15,Try.ntmps15
 go_wp2_with (first|((with_reducible refine gc 26 rfl ?_);refine gC 26 (some 8) Try.func26 #[.slice d4 l0.length d5,.int .i64 (l0.length:Int),.func (.func 16) #[] #[.pointer a6]] ?_;(with_reducible refine(Azw.calls k (fun k_=>some k_=(.slice d4 l0.length d5:Value).ownBlock) (.slice d4 l0.length d5) l0 (l0.length:Int) _ a7 a8 b9 a9 _ ?_ ?_ ?_ ?_ d3.out).mono ?_);exact pB;exact Kd.R_tight rfl b6.out;exact Kd.C_kept_call b7.out (kK HK) (fun k_ hs_=>(fun e_=>(b6.out.1 k_ e_.symm)) hs_);exact b8.out;rintro e d6 ⟨rfl,d7,hb,hkp⟩;refine⟨_,rfl,?_⟩;replace HK:=aM (Kept.then_ (S:=(fun k_=>a5 k_)) (kK HK) hkp (fun k_ hs_=>(fun e_=>(b6.out.1 k_ e_.symm)) hs_));replace b6:=aM (Kd.R_reok rfl d7 (fun k_ e_=>b6.out.1 k_ e_));replace HB:=aM (hb);clear hb hkp d7))
 first|go_end0|((try simp only[Exit.inBlock,Exit.then]);refine bodyPost_ret (results_none rfl _ _ _) rfl ?_)
 exact⟨eW,rX b6.out,pB,kK HK⟩


mutual
def Azp.l0:Nat→Int→Int→List Int→List Int→Int→List Int→Int→Int→List Int→Option (List Int × Int)
 | 0,_,_,_,_,_,_,_,_,_=>none
 | k+1,x0,x6,x8,x10,x11,x35,x36,x37,x212000=>if x37 < x36 then(if 0≤x37 then(if x37 < (x35.length:Int) then((Czk.f x0 (rd x35 x37) x6).bind fun bt213=>(if x37 < (x8.length:Int) then((some (x8.set (x37:Int).toNat bt213.1:List Int)).bind fun y215=>(if x37 < (x212000.length:Int) then(if x37 < (x10.length:Int) then(Azp.l0 k x0 x6 y215 (x10.set (x37:Int).toNat x37) (wrap64 (x11 - (rd y215 x37))) x35 x36 (wrap64 (x37+1)) (x212000.set (x37:Int).toNat bt213.2)) else(none)) else(none))) else(none))) else(none)) else(none)) else((Bzk.f k x10 [x212000]).bind fun t219=>(if 0≤x11 then(if x11≤(x10.length:Int) then((some (t219.take (x11:Int).toNat:List Int)).bind fun y220=>(Azp.l1 k x8 y220 (y220.length:Int) 0)) else(none)) else(none)))
def Azp.l1:Nat→List Int→List Int→Int→Int→Option (List Int × Int)
 | 0,_,_,_,_=>none
 | k+1,x8,x71,x72,x73=>if x73 < x72 then(if 0≤x73 then(if x73 < (x71.length:Int) then(if 0≤(rd x71 x73) then(if(rd x71 x73) < (x8.length:Int) then(Azp.l1 k (x8.set ((rd x71 x73):Int).toNat (wrap64 ((rd x8 (rd x71 x73))+1))) x71 x72 (wrap64 (x73+1))) else(none)) else(none)) else(none)) else(none)) else(some (x8,0))
end
def Azp.f (k:Nat) (a0:Int) (l1:List Int):Option (List Int × Int):=(Bzf.f k a0 l1).bind fun bt200=>(if bt200.2=0 then(if 0≤(l1.length:Int) then(if((l1.length:Int):Int).toNat≤35184372088832 then(Azp.l0 k a0 bt200.1 (List.replicate ((l1.length:Int):Int).toNat 0) (List.replicate ((l1.length:Int):Int).toNat 0) a0 l1 (l1.length:Int) 0 (List.replicate ((l1.length:Int):Int).toNat 0)) else(none)) else(none)) else(some (([]:List Int),bt200.2)))
theorem Azp.mono_l:∀ k,(∀ a5 a6 a7 a8 a9 b3 b4 b5 b6,LeO (Azp.l0 k a5 a6 a7 a8 a9 b3 b4 b5 b6) (Azp.l0 (k+1) a5 a6 a7 a8 a9 b3 b4 b5 b6))∧(∀ a5 a6 a7 a8,LeO (Azp.l1 k a5 a6 a7 a8) (Azp.l1 (k+1) a5 a6 a7 a8))
 | 0=>⟨fun _ _ _ _ _ _ _ _ _ r h=>by simp [Azp.l0] at h,fun _ _ _ _ r h=>by simp [Azp.l1] at h⟩
 | k+1=>by
  obtain⟨ih0,ih1⟩:=Azp.mono_l k;have i0:=@Bzf.mono;have i1:=@Bzk.mono;refine⟨?_,?_⟩
  ·intro a5 a6 a7 a8 a9 b3 b4 b5 b6;unfold Azp.l0;exact mM
  ·intro a5 a6 a7 a8;unfold Azp.l1;exact mM
theorem Azp.mono:∀ a5 a6 k,LeO (Azp.f k a5 a6) (Azp.f (k+1) a5 a6):=by
 intro a5 a6 k;obtain⟨ih0,ih1⟩:=Azp.mono_l k;unfold Azp.f;have i0:=@Bzf.mono;have i1:=@Bzk.mono;exact mM
def Azp.T4:Bool × List (List Nat × List Nat):=(true,[([],[]),([0],[0]),([1,1],[1]),([],[]),([3],[3]),([4,4],[4]),([],[]),([6],[6]),([7,7],[7]),([],[]),([2,0,1,2,9],[2]),([9,5,10,0,1,2,3,4,5,9,10],[5,9]),([8,11,0,1,2,3,4,5,6,7,8,9,10,11],[8])])
def Azp.B4:List Nat:=[0,1,3,0,8,24,0,64,192,0,519,1599,4095]
theorem Azp.tab4:rtab .any (opsOf Try.f8 4)=Azp.T4:=by kernel_rfl
theorem Azp.bits4:waitsOk Azp.T4.2 Azp.B4=true:=by kernel_rfl
def Azp.T9:Bool × List (List Nat × List Nat):=(true,[([],[]),([],[]),([],[]),([],[]),([],[]),([],[]),([],[]),([4,5,6],[4,5,6]),([7],[7]),([8],[8]),([8],[8]),([0,1,0,1,4,5,6,7,8,9],[0,1]),([11,9,7,0,1,4,5,6,7,8,9],[9,11]),([2,3,0,1,2,3,4,5,6,7,8,9,10,11,12],[2,3]),([13,10,12,0,1,2,3,4,5,6,7,8,9,10,11,12],[10,13])])
def Azp.B9:List Nat:=[0,0,0,0,0,0,0,112,240,496,496,1011,3059,8191,16383]
theorem Azp.tab9:rtab .any (opsOf Try.f8 9)=Azp.T9:=by kernel_rfl
theorem Azp.bits9:waitsOk Azp.T9.2 Azp.B9=true:=by kernel_rfl
theorem Azp.calls (k:Nat) (a5:Int) (a6:Option Addr) (a7:Nat) (l1:List Int) (a8:List Int) (a9:Int) (w:World) (b3:cI w a6 l1) (b4:l1.length≤a7) (h:Azp.f k a5 l1=some (a8,a9)) :
  Calls Try.prog 8 #[.int .i64 a5,.slice a6 l1.length a7] w fun e w'=>∃ v0_:Value,e=.returned (.tuple #[v0_,.int .i64 a9])∧rI w' w (fun _=>True) v0_ a8∧bw w w':=by
 have b5:=aM b3;have b6:=aM b4;clear b3 b4;have HB:=aM (Below.refl w.heap.size w);have H:((Bzf.f k a5 l1).bind fun b7=>(if b7.2=0 then(if 0≤(l1.length:Int) then(if((l1.length:Int):Int).toNat≤35184372088832 then(Azp.l0 k a5 b7.1 (List.replicate ((l1.length:Int):Int).toNat 0) (List.replicate ((l1.length:Int):Int).toNat 0) a5 l1 (l1.length:Int) 0 (List.replicate ((l1.length:Int):Int).toNat 0)) else(none)) else(none)) else(some (([]:List Int),b7.2))))=some (a8,a9):=h
 clear h;obtain⟨⟨b8,b9⟩,d0,H⟩:=bT H;(try dsimp only at H);replace H:=iE H;rcases H with⟨d3,d4,H⟩|⟨c4,d3,d4,H⟩
 ·obtain⟨c5,H⟩:=iO H;have d5:=eq_true c5;have d6:decide (0≤(l1.length:Int))=true:=dE c5;clear c5;obtain⟨c6,H⟩:=iO H;have d7:=eq_true c6;have d8:decide (((l1.length:Int):Int).toNat≤35184372088832)=true:=dE c6;clear c6;obtain⟨d9,e0⟩:∃ y_:List Int,y_=(List.replicate ((l1.length:Int):Int).toNat 0):=⟨_,rfl⟩;replace H:(Azp.l0 k a5 b8 d9 (List.replicate ((l1.length:Int):Int).toNat 0) a5 l1 (l1.length:Int) 0 (List.replicate ((l1.length:Int):Int).toNat 0))=some (a8,a9):=yE e0 H
  have e8:=aM e0;clear e0;obtain⟨f2,f3⟩:∃ y_:List Int,y_=(List.replicate ((l1.length:Int):Int).toNat 0):=⟨_,rfl⟩;replace H:(Azp.l0 k a5 b8 d9 (List.replicate ((l1.length:Int):Int).toNat 0) a5 l1 (l1.length:Int) 0 f2)=some (a8,a9):=yE f3 H
  have f4:=aM f3;clear f3;obtain⟨f5,f6⟩:∃ y_:List Int,y_=(List.replicate ((l1.length:Int):Int).toNat 0):=⟨_,rfl⟩;replace H:(Azp.l0 k a5 b8 d9 f5 a5 l1 (l1.length:Int) 0 f2)=some (a8,a9):=yE f6 H
  have f7:=aM f6;clear f6;have H':=aM H;clear H;have hmf_:∀ (fn:Fn) (first cap:Array Value) (w:World),(Instr.makeFunc fn first cap).run Try.prog w=.ok (.func fn first cap) w:=fun _ _ _ _=>rfl
  go_enter Try.func8,Try.ntmps8
  try go_wp2_with (first|((with_reducible refine gc 13 rfl ?_);refine gC 13 (some 19) Try.func13 #[.int .i64 a5,.slice a6 l1.length a7] ?_;(with_reducible refine(Bzf.calls k a5 _ _ l1 b8 b9 _ ?_ ?_ d0.out).mono ?_);exact cX b5.out;exact b6.out;rintro e f9 ⟨rfl,hb⟩;refine⟨_,rfl,?_⟩;replace HB:=bB hb;clear hb))
  have n0_:=aM (below_drew1 HB.out);clear HB;have HB:=n0_;clear n0_;refine start_ (n:=13) (S:=fun w'=>True) (ds:=[]) (bA 13 0) (by kernel_rfl) rfl rfl trivial (fun hHeld=>?_);refine with_tabW Azp.tab4 Azp.bits4 (fun HT_ HW_=>?_)
  generalize f9.drew=g4 at HB hHeld ⊢;refine pS 0 25 HT_ ?_;refine pS 3 28 HT_ ?_;refine pS 6 31 HT_ ?_;refine inv_at [1,2,4,5,7,8,9,10,11,12] (fun a0_ b a w'=>∃ (g5:Value) (g6:Value) (g7:Value) (g8:Nat) (m9_:Value) (g9:Value) (j2:Value),a=putSel a0_ b [(1,26,.int .i64 (l1.length:Int)),(2,27,g5),(4,29,.int .i64 (l1.length:Int)),(5,30,g6),(7,32,.int .i64 (l1.length:Int)),(8,33,g7),(9,9,m9_),(10,8,g9),(12,10,j2)]∧(bw w w')∧(b 2=true→rI w' w (fun _=>True) g5 d9)∧(b 5=true→rI w' w (fun _=>True) g6 f2)∧(b 8=true→rI w' w (fun _=>True) g7 f5)∧(b 9=true→b 11=false→w'.heap[g8]?=some (.cells #[.slice none 0 0] 22 (0,0)))∧(b 9=true→w.heap.size≤g8)∧(b 9=true→w.heap.size≤g8)∧(b 11=true→w'.heap[g8]?=some (.cells #[g6] 22 (0,0)))∧(b 9=true→(m9_:Value)=.pointer (some ⟨g8,0,none⟩))∧(b 10=true→(g9:Value)=g5)∧(b 12=true→(j2:Value)=g7)∧(b 2=true→b 5=true→NEb g5 g6)∧(b 2=true→b 8=true→NEb g5 g7)∧(b 5=true→b 8=true→NEb g6 g7)) HT_.out HW_.out (by kernel_rfl) (by kernel_rfl) ?_ ?_ ?_
  ·exact⟨.bool false,.bool false,.bool false,0,.bool false,.bool false,.bool false,by simp only[putSel,Bool.false_eq_true,if_false],HB.out,fun h_=>absurd h_ (by decide),fun h_=>absurd h_ (by decide),fun h_=>absurd h_ (by decide),fun h_=>absurd h_ (by decide),fun h_=>absurd h_ (by decide),fun h_=>absurd h_ (by decide),fun h_=>absurd h_ (by decide),fun h_=>absurd h_ (by decide),fun h_=>absurd h_ (by decide),fun h_=>absurd h_ (by decide),fun h_=>absurd h_ (by decide),fun h_=>absurd h_ (by decide),fun h_=>absurd h_ (by decide)⟩
  ·skip
   clear HB;refine steps_cons ?_ ?_
   ·rintro b a w' ⟨g5,g6,g7,g8,m9_,g9,j2,ha,Q_HB,j3,j5,j9,l5,l6,l7,l8,Q_X9_,Q_X10_,Q_X12_,Q_N0,Q_N1,Q_N2⟩ hb_ hon hoff;refine⟨_,rfl,fun K hK=>?_⟩
    have l9:a.tmps[25]?=some (.slice a6 l1.length a7):=by rw[ha];exact(putSel_off rfl).trans rfl
    replace ha:=aM ha;have HB:=aM Q_HB;refine value_ (w1:=w') (v:=.int .i64 (l1.length:Int)) (by rfl) rfl ?_ ?_
    ·go_simp
     (try simp only[i64_w])
     try rfl
    refine hK.out _ _ ⟨g5,g6,g7,g8,m9_,g9,j2,(by rw[ha.out];exact putSel_upk 0 hb_ rfl rfl rfl),Q_HB,fun h0_=>absurd ((hoff 2 (by kernel_rfl)).symm.trans h0_) (by decide),j5,j9,l5,l6,l7,fun h0_=>absurd ((hoff 11 (by kernel_rfl)).symm.trans h0_) (by decide),Q_X9_,fun h0_=>absurd ((hoff 10 (by kernel_rfl)).symm.trans h0_) (by decide),fun h0_=>absurd ((hoff 12 (by kernel_rfl)).symm.trans h0_) (by decide),Q_N0,Q_N1,Q_N2⟩
   refine steps_cons ?_ ?_
   ·rintro b a w' ⟨g5,g6,g7,g8,m9_,g9,j2,ha,Q_HB,j3,j5,j9,l5,l6,l7,l8,Q_X9_,Q_X10_,Q_X12_,Q_N0,Q_N1,Q_N2⟩ hb_ hon hoff;refine⟨_,rfl,fun K hK=>?_⟩
    have m0:a.tmps[26]?=some (.int .i64 (l1.length:Int)):=by rw[ha];exact putSel_on (e:=(1,26,.int .i64 (l1.length:Int))) 0 rfl rfl (hon 1 (by kernel_rfl)) rfl
    replace ha:=aM ha;have HB:=aM Q_HB;refine Kd.R_make_step (Kd.int .i64) _ 3 (by rfl) (N:=27) rfl 22 _ _ rfl (l1.length:Int) (by first|rfl|exact eval_some (by assumption)) (by first|rfl|exact eval_some (by assumption)) Try.underlying22 (.int .i64 0) 8 info3 rfl (by decide) (by omega) 0 (ok:=fun _=>True) (okp:=fun _=>True) rfl (fun _ hk=>hk) trivial (oE aS) (Nat.le_trans (Nat.mul_le_mul_right _ (oE aS:(l1.length:Int).toNat≤35184372088832)) (by omega)) (Below.refl _ _) (Nat.le_refl _) ?_
    intro g5 m4 m5 hb hg_ hnew_;have z_N0:=fun(h0_:b 5=true)=>NEb_new (j5 h0_) (Kd.R_base m5)
    have z_N1:=fun(h0_:b 8=true)=>NEb_new (j9 h0_) (Kd.R_base m5)
    clear hg_ hnew_;(first|rw[← e8.out] at m5|(simp only[Int.reduceToNat] at m5;rw[← e8.out] at m5))
    have n0_:=rL m5;have n1_:=bB hb;have m6:=fun(h0_:b 5=true)=>(show rI m4 w (fun _=>True) g6 f2 from by first|exact(Kd.R_elder' (rX (j5 h0_)) (Kd.R_base m5) hb)|exact Kd.R_mono (Kd.R_elder' (rX (j5 h0_)) (Kd.R_base m5) hb) (fun _ h_=>by first|trivial|exact h_|exact h_.1))
    have m7:=fun(h0_:b 8=true)=>(show rI m4 w (fun _=>True) g7 f5 from by first|exact(Kd.R_elder' (rX (j9 h0_)) (Kd.R_base m5) hb)|exact Kd.R_mono (Kd.R_elder' (rX (j9 h0_)) (Kd.R_base m5) hb) (fun _ h_=>by first|trivial|exact h_|exact h_.1))
    have m8:=fun(h0_:b 9=true) (h1_:b 11=false)=>(show m4.heap[g8]?=some (.cells #[.slice none 0 0] 22 (0,0)) from by first|exact(blk_below (g:=g8) (o:=.cells #[.slice none 0 0] 22 (0,0)) (by(with_reducible repeat(first|refine blk_drewN ?_ _|refine blk_drew ?_|refine blk_alloc ?_ _));exact(l5 h0_ h1_)) hb))
    clear HB;have m9:=n0_;have HB:=n1_;clear n0_ n1_ hb m5;refine hK.out _ _ ⟨g5,g6,g7,g8,m9_,g9,j2,(by rw[ha.out];exact putSel_upk 1 hb_ rfl rfl rfl),pB,fun _=>(rX m9.out),m6,m7,m8,l6,l7,fun h0_=>absurd ((hoff 11 (by kernel_rfl)).symm.trans h0_) (by decide),Q_X9_,fun h0_=>absurd ((hoff 10 (by kernel_rfl)).symm.trans h0_) (by decide),fun h0_=>absurd ((hoff 12 (by kernel_rfl)).symm.trans h0_) (by decide),fun _ h1_=>z_N0 h1_,fun _ h1_=>z_N1 h1_,Q_N2⟩
   refine steps_cons ?_ ?_
   ·rintro b a w' ⟨g5,g6,g7,g8,m9_,g9,j2,ha,Q_HB,j3,j5,j9,l5,l6,l7,l8,Q_X9_,Q_X10_,Q_X12_,Q_N0,Q_N1,Q_N2⟩ hb_ hon hoff;refine⟨_,rfl,fun K hK=>?_⟩
    have n0:a.tmps[28]?=some (.slice a6 l1.length a7):=by rw[ha];exact(putSel_off rfl).trans rfl
    replace ha:=aM ha;have HB:=aM Q_HB;refine value_ (w1:=w') (v:=.int .i64 (l1.length:Int)) (by rfl) rfl ?_ ?_
    ·go_simp
     (try simp only[i64_w])
     try rfl
    refine hK.out _ _ ⟨g5,g6,g7,g8,m9_,g9,j2,(by rw[ha.out];exact putSel_upk 2 hb_ rfl rfl rfl),Q_HB,j3,fun h0_=>absurd ((hoff 5 (by kernel_rfl)).symm.trans h0_) (by decide),j9,l5,l6,l7,fun h0_=>absurd ((hoff 11 (by kernel_rfl)).symm.trans h0_) (by decide),Q_X9_,Q_X10_,fun h0_=>absurd ((hoff 12 (by kernel_rfl)).symm.trans h0_) (by decide),Q_N0,Q_N1,Q_N2⟩
   refine steps_cons ?_ ?_
   ·rintro b a w' ⟨g5,g6,g7,g8,m9_,g9,j2,ha,Q_HB,j3,j5,j9,l5,l6,l7,l8,Q_X9_,Q_X10_,Q_X12_,Q_N0,Q_N1,Q_N2⟩ hb_ hon hoff;refine⟨_,rfl,fun K hK=>?_⟩
    have n1:a.tmps[29]?=some (.int .i64 (l1.length:Int)):=by rw[ha];exact putSel_on (e:=(4,29,.int .i64 (l1.length:Int))) 2 rfl rfl (hon 4 (by kernel_rfl)) rfl
    replace ha:=aM ha;have HB:=aM Q_HB;refine Kd.R_make_step (Kd.int .i64) _ 3 (by rfl) (N:=30) rfl 22 _ _ rfl (l1.length:Int) (by first|rfl|exact eval_some (by assumption)) (by first|rfl|exact eval_some (by assumption)) Try.underlying22 (.int .i64 0) 8 info3 rfl (by decide) (by omega) 0 (ok:=fun _=>True) (okp:=fun _=>True) rfl (fun _ hk=>hk) trivial (oE aS) (Nat.le_trans (Nat.mul_le_mul_right _ (oE aS:(l1.length:Int).toNat≤35184372088832)) (by omega)) (Below.refl _ _) (Nat.le_refl _) ?_
    intro g6 m4 m5 hb hg_ hnew_;have z_N0:=fun(h0_:b 2=true)=>NEb_new (j3 h0_) (Kd.R_base m5)
    have z_N2:=fun(h0_:b 8=true)=>NEb_new (j9 h0_) (Kd.R_base m5)
    clear hg_ hnew_;(first|rw[← f4.out] at m5|(simp only[Int.reduceToNat] at m5;rw[← f4.out] at m5))
    have n0_:=rL m5;have n1_:=bB hb;have n2:=fun(h0_:b 2=true)=>(show rI m4 w (fun _=>True) g5 d9 from by first|exact(Kd.R_elder' (rX (j3 h0_)) (Kd.R_base m5) hb)|exact Kd.R_mono (Kd.R_elder' (rX (j3 h0_)) (Kd.R_base m5) hb) (fun _ h_=>by first|trivial|exact h_|exact h_.1))
    have m7:=fun(h0_:b 8=true)=>(show rI m4 w (fun _=>True) g7 f5 from by first|exact(Kd.R_elder' (rX (j9 h0_)) (Kd.R_base m5) hb)|exact Kd.R_mono (Kd.R_elder' (rX (j9 h0_)) (Kd.R_base m5) hb) (fun _ h_=>by first|trivial|exact h_|exact h_.1))
    have m8:=fun(h0_:b 9=true) (h1_:b 11=false)=>(show m4.heap[g8]?=some (.cells #[.slice none 0 0] 22 (0,0)) from by first|exact(blk_below (g:=g8) (o:=.cells #[.slice none 0 0] 22 (0,0)) (by(with_reducible repeat(first|refine blk_drewN ?_ _|refine blk_drew ?_|refine blk_alloc ?_ _));exact(l5 h0_ h1_)) hb))
    clear HB;have n3:=n0_;have HB:=n1_;clear n0_ n1_ hb m5;refine hK.out _ _ ⟨g5,g6,g7,g8,m9_,g9,j2,(by rw[ha.out];exact putSel_upk 3 hb_ rfl rfl rfl),pB,n2,fun _=>(rX n3.out),m7,m8,l6,l7,fun h0_=>absurd ((hoff 11 (by kernel_rfl)).symm.trans h0_) (by decide),Q_X9_,Q_X10_,fun h0_=>absurd ((hoff 12 (by kernel_rfl)).symm.trans h0_) (by decide),fun h1_ _=>(z_N0 h1_).symm,Q_N1,fun _ h1_=>z_N2 h1_⟩
   refine steps_cons ?_ ?_
   ·rintro b a w' ⟨g5,g6,g7,g8,m9_,g9,j2,ha,Q_HB,j3,j5,j9,l5,l6,l7,l8,Q_X9_,Q_X10_,Q_X12_,Q_N0,Q_N1,Q_N2⟩ hb_ hon hoff;refine⟨_,rfl,fun K hK=>?_⟩
    have n4:a.tmps[31]?=some (.slice a6 l1.length a7):=by rw[ha];exact(putSel_off rfl).trans rfl
    replace ha:=aM ha;have HB:=aM Q_HB;refine value_ (w1:=w') (v:=.int .i64 (l1.length:Int)) (by rfl) rfl ?_ ?_
    ·go_simp
     (try simp only[i64_w])
     try rfl
    refine hK.out _ _ ⟨g5,g6,g7,g8,m9_,g9,j2,(by rw[ha.out];exact putSel_upk 4 hb_ rfl rfl rfl),Q_HB,j3,j5,fun h0_=>absurd ((hoff 8 (by kernel_rfl)).symm.trans h0_) (by decide),l5,l6,l7,l8,Q_X9_,Q_X10_,fun h0_=>absurd ((hoff 12 (by kernel_rfl)).symm.trans h0_) (by decide),Q_N0,Q_N1,Q_N2⟩
   refine steps_cons ?_ ?_
   ·rintro b a w' ⟨g5,g6,g7,g8,m9_,g9,j2,ha,Q_HB,j3,j5,j9,l5,l6,l7,l8,Q_X9_,Q_X10_,Q_X12_,Q_N0,Q_N1,Q_N2⟩ hb_ hon hoff;refine⟨_,rfl,fun K hK=>?_⟩
    have n5:a.tmps[32]?=some (.int .i64 (l1.length:Int)):=by rw[ha];exact putSel_on (e:=(7,32,.int .i64 (l1.length:Int))) 4 rfl rfl (hon 7 (by kernel_rfl)) rfl
    replace ha:=aM ha;have HB:=aM Q_HB;refine Kd.R_make_step (Kd.int .i64) _ 3 (by rfl) (N:=33) rfl 22 _ _ rfl (l1.length:Int) (by first|rfl|exact eval_some (by assumption)) (by first|rfl|exact eval_some (by assumption)) Try.underlying22 (.int .i64 0) 8 info3 rfl (by decide) (by omega) 0 (ok:=fun _=>True) (okp:=fun _=>True) rfl (fun _ hk=>hk) trivial (oE aS) (Nat.le_trans (Nat.mul_le_mul_right _ (oE aS:(l1.length:Int).toNat≤35184372088832)) (by omega)) (Below.refl _ _) (Nat.le_refl _) ?_
    intro g7 m4 m5 hb hg_ hnew_;have z_N1:=fun(h0_:b 2=true)=>NEb_new (j3 h0_) (Kd.R_base m5)
    have z_N2:=fun(h0_:b 5=true)=>NEb_new (j5 h0_) (Kd.R_base m5)
    clear hg_ hnew_;(first|rw[← f7.out] at m5|(simp only[Int.reduceToNat] at m5;rw[← f7.out] at m5))
    have n0_:=rL m5;have n1_:=bB hb;have n2:=fun(h0_:b 2=true)=>(show rI m4 w (fun _=>True) g5 d9 from by first|exact(Kd.R_elder' (rX (j3 h0_)) (Kd.R_base m5) hb)|exact Kd.R_mono (Kd.R_elder' (rX (j3 h0_)) (Kd.R_base m5) hb) (fun _ h_=>by first|trivial|exact h_|exact h_.1))
    have m6:=fun(h0_:b 5=true)=>(show rI m4 w (fun _=>True) g6 f2 from by first|exact(Kd.R_elder' (rX (j5 h0_)) (Kd.R_base m5) hb)|exact Kd.R_mono (Kd.R_elder' (rX (j5 h0_)) (Kd.R_base m5) hb) (fun _ h_=>by first|trivial|exact h_|exact h_.1))
    have m8:=fun(h0_:b 9=true) (h1_:b 11=false)=>(show m4.heap[g8]?=some (.cells #[.slice none 0 0] 22 (0,0)) from by first|exact(blk_below (g:=g8) (o:=.cells #[.slice none 0 0] 22 (0,0)) (by(with_reducible repeat(first|refine blk_drewN ?_ _|refine blk_drew ?_|refine blk_alloc ?_ _));exact(l5 h0_ h1_)) hb))
    have n6:=fun(h0_:b 11=true)=>(show m4.heap[g8]?=some (.cells #[g6] 22 (0,0)) from by first|exact(blk_below (g:=g8) (o:=.cells #[g6] 22 (0,0)) (by(with_reducible repeat(first|refine blk_drewN ?_ _|refine blk_drew ?_|refine blk_alloc ?_ _));exact(l8 h0_)) hb))
    clear HB;have n7:=n0_;have HB:=n1_;clear n0_ n1_ hb m5;refine hK.out _ _ ⟨g5,g6,g7,g8,m9_,g9,j2,(by rw[ha.out];exact putSel_upk 5 hb_ rfl rfl rfl),pB,n2,m6,fun _=>(rX n7.out),m8,l6,l7,n6,Q_X9_,Q_X10_,fun h0_=>absurd ((hoff 12 (by kernel_rfl)).symm.trans h0_) (by decide),Q_N0,fun h1_ _=>(z_N1 h1_).symm,fun h1_ _=>(z_N2 h1_).symm⟩
   refine steps_cons ?_ ?_
   ·rintro b a w' ⟨g5,g6,g7,g8,m9_,g9,j2,ha,Q_HB,j3,j5,j9,l5,l6,l7,l8,Q_X9_,Q_X10_,Q_X12_,Q_N0,Q_N1,Q_N2⟩ hb_ hon hoff;refine⟨_,rfl,fun K hK=>?_⟩
    replace ha:=aM ha;have HB:=aM Q_HB;refine box_step ?hg (N:=9) ?hd (cs:=#[.slice none 0 0]) (t:=22) ?hr ?_;(case hd=>rfl);(case hg=>rfl);(case hr=>first|(go_simp;done)|(go_simp;rfl))
    intro g8 hg m4 hbox hb;have n0_:=bB hb;have n1_:=aM (hbox);have n2_:=gA w hg;have n3_:=gA w hg;have n2:=fun(h0_:b 2=true)=>(show rI m4 w (fun _=>True) g5 d9 from by first|exact(Kd.R_below (rX (j3 h0_)) hb)|exact Kd.R_mono (Kd.R_below (rX (j3 h0_)) hb) (fun _ h_=>by first|trivial|exact h_|exact h_.1))
    have m6:=fun(h0_:b 5=true)=>(show rI m4 w (fun _=>True) g6 f2 from by first|exact(Kd.R_below (rX (j5 h0_)) hb)|exact Kd.R_mono (Kd.R_below (rX (j5 h0_)) hb) (fun _ h_=>by first|trivial|exact h_|exact h_.1))
    have m7:=fun(h0_:b 8=true)=>(show rI m4 w (fun _=>True) g7 f5 from by first|exact(Kd.R_below (rX (j9 h0_)) hb)|exact Kd.R_mono (Kd.R_below (rX (j9 h0_)) hb) (fun _ h_=>by first|trivial|exact h_|exact h_.1))
    clear HB;have HB:=n0_;have n8:=n1_;have n9:=n2_;have o0:=n3_;clear n0_ n1_ n2_ n3_ hb hbox hg;refine hK.out _ _ ⟨g5,g6,g7,g8,(.pointer (some ⟨g8,0,none⟩)),g9,j2,(by rw[ha.out];exact putSel_upk 6 hb_ rfl rfl rfl),pB,n2,m6,m7,fun _ _=>(kW n8),fun _=>n9.out,fun _=>o0.out,fun h0_=>absurd ((hoff 11 (by kernel_rfl)).symm.trans h0_) (by decide),fun _=>rfl,fun h0_=>absurd ((hoff 10 (by kernel_rfl)).symm.trans h0_) (by decide),fun h0_=>absurd ((hoff 12 (by kernel_rfl)).symm.trans h0_) (by decide),Q_N0,Q_N1,Q_N2⟩
   refine steps_cons ?_ ?_
   ·rintro b a w' ⟨g5,g6,g7,g8,m9_,g9,j2,ha,Q_HB,j3,j5,j9,l5,l6,l7,l8,Q_X9_,Q_X10_,Q_X12_,Q_N0,Q_N1,Q_N2⟩ hb_ hon hoff;refine⟨_,rfl,fun K hK=>?_⟩
    have o1:a.tmps[27]?=some (g5):=by rw[ha];exact putSel_on (e:=(2,27,g5)) 1 rfl rfl (hon 2 (by kernel_rfl)) rfl
    replace ha:=aM ha;have HB:=aM Q_HB;have m9:=aM (j3 (hon 2 (by kernel_rfl)))
    have n8:=aM (l5 (hon 9 (by kernel_rfl)) (hoff 11 (by kernel_rfl)))
    have n9:=aM (l6 (hon 9 (by kernel_rfl)))
    have o0:=aM (l7 (hon 9 (by kernel_rfl)))
    refine value_ (w1:=w') (v:=g5) (by rfl) rfl ?_ ?_
    ·go_simp
     (try simp only[i64_w])
     try rfl
    refine hK.out _ _ ⟨g5,g6,g7,g8,m9_,(g5),j2,(by rw[ha.out];exact putSel_upk 7 hb_ rfl rfl rfl),Q_HB,j3,j5,j9,l5,l6,l7,fun h0_=>absurd ((hoff 11 (by kernel_rfl)).symm.trans h0_) (by decide),Q_X9_,fun _=>rfl,fun h0_=>absurd ((hoff 12 (by kernel_rfl)).symm.trans h0_) (by decide),Q_N0,Q_N1,Q_N2⟩
   refine steps_cons ?_ ?_
   ·rintro b a w' ⟨g5,g6,g7,g8,m9_,g9,j2,ha,Q_HB,j3,j5,j9,l5,l6,l7,l8,Q_X9_,Q_X10_,Q_X12_,Q_N0,Q_N1,Q_N2⟩ hb_ hon hoff;refine⟨_,rfl,fun K hK=>?_⟩
    have o2:a.tmps[9]?=some (m9_):=by rw[ha];exact putSel_on (e:=(9,9,m9_)) 6 rfl rfl (hon 9 (by kernel_rfl)) rfl
    rw[Q_X9_ (hon 9 (by kernel_rfl))] at o2
    have o3:a.tmps[30]?=some (g6):=by rw[ha];exact putSel_on (e:=(5,30,g6)) 3 rfl rfl (hon 5 (by kernel_rfl)) rfl
    replace ha:=aM ha;have HB:=aM Q_HB;have m9:=aM (j3 (hon 2 (by kernel_rfl)))
    have n3:=aM (j5 (hon 5 (by kernel_rfl)))
    have n8:=aM (l5 (hon 9 (by kernel_rfl)) hb_)
    have n9:=aM (l6 (hon 9 (by kernel_rfl)))
    have o0:=aM (l7 (hon 9 (by kernel_rfl)))
    obtain⟨o4,o5,o6⟩:=Kd.R_slice n3.out;(first|subst o6|(injection o6 with f1_ f2_ f3_;have f4_:=f1_.symm;have f5_:=f3_.symm;clear f1_ f2_ f3_;subst f4_;subst f5_))
    have o7:w'.cell? ⟨g8,0,none⟩=some (.slice none 0 0):=(blk_cell n8.out 0).trans rfl;have hfs16:=blk_frozen n8.out 0;refine skip_ (w1:=?_) (by rfl) rfl ?_ ?_
    rotate_left
    ·go_simp
     rfl
    refine hK.out _ _ ⟨g5,.slice o4 f2.length o5,g7,g8,m9_,g9,j2,(by rw[ha.out];exact putSel_none (v:=undef) rfl),pB,fun _=>(Kd.R_mono (rT m9 n8) (fun _ hk=>hk)),fun _=>(Kd.R_mono (rT n3 n8) (fun _ hk=>hk)),fun h0_=>(rX (Kd.R_mono (Kd.R_far (p:=⟨g8,0,none⟩) (Kd.R_types (j9 h0_) n8.out (by decide)) (fun _ hk=>hk.2) (.slice o4 f2.length o5)) (by first|exact(fun _ hk=>hk.1)|exact(fun _ hk=>⟨hk.1.1,hk.1.2⟩)))),fun _ h1_=>absurd ((up_self b 11).symm.trans h1_) (by decide),fun _=>n9.out,fun _=>o0.out,fun _=>(kQ n8),Q_X9_,Q_X10_,fun h0_=>absurd ((hoff 12 (by kernel_rfl)).symm.trans h0_) (by decide),Q_N0,Q_N1,Q_N2⟩
   refine steps_cons ?_ ?_
   ·rintro b a w' ⟨g5,g6,g7,g8,m9_,g9,j2,ha,Q_HB,j3,j5,j9,l5,l6,l7,l8,Q_X9_,Q_X10_,Q_X12_,Q_N0,Q_N1,Q_N2⟩ hb_ hon hoff;refine⟨_,rfl,fun K hK=>?_⟩
    have o8:a.tmps[33]?=some (g7):=by rw[ha];exact putSel_on (e:=(8,33,g7)) 5 rfl rfl (hon 8 (by kernel_rfl)) rfl
    replace ha:=aM ha;have HB:=aM Q_HB;have m9:=aM (j3 (hon 2 (by kernel_rfl)))
    have n3:=aM (j5 (hon 5 (by kernel_rfl)))
    have n7:=aM (j9 (hon 8 (by kernel_rfl)))
    have n9:=aM (l6 (hon 9 (by kernel_rfl)))
    have o0:=aM (l7 (hon 9 (by kernel_rfl)))
    have n8:=aM (l8 (hon 11 (by kernel_rfl)))
    refine value_ (w1:=w') (v:=g7) (by rfl) rfl ?_ ?_
    ·go_simp
     (try simp only[i64_w])
     try rfl
    refine hK.out _ _ ⟨g5,g6,g7,g8,m9_,g9,(g7),(by rw[ha.out];exact putSel_upk 8 hb_ rfl rfl rfl),Q_HB,j3,j5,j9,fun _ h1_=>absurd ((hon 11 (by kernel_rfl)).symm.trans h1_) (by decide),l6,l7,l8,Q_X9_,Q_X10_,fun _=>rfl,Q_N0,Q_N1,Q_N2⟩
   exact steps_nil
  rintro b a o9 hall ⟨g5,g6,g7,g8,m9_,g9,j2,ha,Q_HB,j3,j5,j9,l5,l6,l7,l8,Q_X9_,Q_X10_,Q_X12_,Q_N0,Q_N1,Q_N2⟩;clear HB;have p0:=hall 1 (by kernel_rfl)
  have p3:=hall 2 (by kernel_rfl)
  have p4:=hall 4 (by kernel_rfl)
  have p7:=hall 5 (by kernel_rfl)
  have p8:=hall 7 (by kernel_rfl)
  have p9:=hall 8 (by kernel_rfl)
  have r0:=hall 9 (by kernel_rfl)
  have r4:=hall 10 (by kernel_rfl)
  have r5:=hall 11 (by kernel_rfl)
  have r6:=hall 12 (by kernel_rfl)
  subst ha;obtain rfl:=(Q_X9_ r0).symm;obtain rfl:=(Q_X10_ r4).symm;obtain rfl:=(Q_X12_ r6).symm;simp only[putSel,p0,p3,p4,p7,p8,p9,r0,r4,r5,r6,if_true,Act.put,sA,sZ,sC];have HB:=aM Q_HB;clear Q_HB;have m9:=aM (Kd.R_reok (ok:=fun k_=>oV g6 k_∧oV g7 k_) rfl (j3 p3) (fun k_ hk_=>⟨(Q_N0 p3 p7) k_ hk_,(Q_N1 p3 p9) k_ hk_⟩))
  clear j3;have n3:=aM (Kd.R_reok (ok:=fun k_=>oV g5 k_∧oV g7 k_) rfl (j5 p7) (fun k_ hk_=>⟨(Q_N0 p3 p7).symm k_ hk_,(Q_N2 p7 p9) k_ hk_⟩))
  clear j5;have n7:=aM (Kd.R_reok (ok:=fun k_=>oV g5 k_∧oV g6 k_) rfl (j9 p9) (fun k_ hk_=>⟨(Q_N1 p3 p9).symm k_ hk_,(Q_N2 p7 p9).symm k_ hk_⟩))
  clear j9 l5;have n9:=aM (l6 r0);clear l6;have o0:=aM (l7 r0);clear l7;have n8:=aM (l8 r5);clear l8 hall p0 p3 p4 p7 p8 p9 r0 r4 r5 r6;try go_wp2
  go_loopg [11,37] k (fun kq r7 r8 w'=>∃ (r9:List Int) (t0:List Int) (t1:Int) (t2:Int) (t3:List Int) (u212000:Value),r7=.int .i64 t1∧r8=.int .i64 t2∧Aside0 (Azp.l0 kq a5 b8 r9 t0 t1 l1 (l1.length:Int) t2 t3=some (a8,a9))∧Aside0 (kq≤k)∧Aside0 (rI w' w (fun k_=>oV g7 k_∧oV u212000 k_) g5 r9)∧Aside0 (rI w' w (fun k_=>oV g5 k_∧oV u212000 k_) g7 t0)∧Aside0 (rI w' w (fun k_=>oV g5 k_∧oV g7 k_) u212000 t3)∧Aside0 (w'.heap[g8]?=some (.cells #[u212000] 22 (0,0)))∧Aside0 (bw w w'))
  case atStart=>exact⟨(d9),(f5),(a5),(0),(f2),(g6),sD,sD,H',⟨Nat.le_refl _⟩,⟨by exact rX (Kd.R_mono m9.out (fun _ hk=>⟨hk.2,hk.1⟩))⟩,⟨rX n7.out⟩,⟨rX n3.out⟩,⟨by exact kW n8⟩,⟨pB⟩⟩
  case round =>
   clear H';try clear a7
   obtain⟨r9,t0,t1,t2,t3,u212000,rfl,rfl,HA,t4,t5,t6,t7,n8,HB⟩:=hrel;cases gk with
   | zero=>exact absurd HA.out (by simp [Azp.l0])
   | succ k1 =>
    have H:=HA.out;clear HA;simp only[Azp.l0] at H;replace H:=iD H;rcases H with⟨t9,H⟩|⟨t9,H⟩
    ·obtain⟨v2,H⟩:=iN H;obtain⟨v3,H⟩:=iN H;obtain⟨⟨z3,z4⟩,z5,H⟩:=bT H;(try dsimp only at H);obtain⟨z6,H⟩:=iN H;obtain⟨z7,z8⟩:∃ y_:List Int,y_=(r9.set (t2:Int).toNat z3):=⟨_,rfl⟩;replace H:(if t2 < (t3.length:Int) then(if t2 < (t0.length:Int) then(Azp.l0 k1 a5 b8 z7 (t0.set (t2:Int).toNat t2) (wrap64 (t1 - (rd z7 t2))) l1 (l1.length:Int) (wrap64 (t2+1)) (t3.set (t2:Int).toNat z4)) else(none)) else(none))=some (a8,a9):=yE z8 H
     have z9:=aM z8;clear z8;obtain⟨B0,H⟩:=iN H;obtain⟨B1,B2⟩:∃ y_:List Int,y_=(t3.set (t2:Int).toNat z4):=⟨_,rfl⟩;replace H:(if t2 < (t0.length:Int) then(Azp.l0 k1 a5 b8 z7 (t0.set (t2:Int).toNat t2) (wrap64 (t1 - (rd z7 t2))) l1 (l1.length:Int) (wrap64 (t2+1)) B1) else(none))=some (a8,a9):=yE B2 H
     have B7:=aM B2;clear B2;obtain⟨B8,H⟩:=iN H;obtain⟨C0,C1⟩:∃ y_:List Int,y_=(t0.set (t2:Int).toNat t2):=⟨_,rfl⟩;replace H:(Azp.l0 k1 a5 b8 z7 C0 (wrap64 (t1 - (rd z7 t2))) l1 (l1.length:Int) (wrap64 (t2+1)) B1)=some (a8,a9):=yE C1 H
     have C2:=aM C1;clear C1;have H':=aM H;clear H;obtain⟨C3,C4,C5,C6,C7⟩:=aI b5.out t2;cases C4
     replace C5:=hB HB C5;try go_wp2
     have n0_:=aM (Kd.R_drew t5.out);have n1_:=aM (Kd.R_drew t6.out);have n2_:=aM (Kd.R_drew t7.out);have n3_:=aM (blk_drew n8.out);have n4_:=aM (below_drew1 HB.out);clear t5 t6 t7 n8 HB;have t5:=n0_;have t6:=n1_;have t7:=n2_;have n8:=n3_;have HB:=n4_;clear n0_ n1_ n2_ n3_ n4_;refine start_ (n:=15) (S:=fun w'=>w'.cell? ⟨g8,0,none⟩=some (u212000)) (ds:=[14]) (bA 15 0) (by kernel_rfl) rfl rfl ((blk_cell n8.out 0).trans rfl) (fun hHeld=>?_);refine with_tabW Azp.tab9 Azp.bits9 (fun HT_ HW_=>?_)
     generalize wr.drew=C8 at t5 t6 t7 n8 HB hHeld ⊢;refine pS 0 43 HT_ ?_;refine pS 1 44 HT_ ?_;refine pS 3 46 HT_ ?_;refine pS 4 47 HT_ ?_;refine pS 5 48 HT_ ?_;refine pS 6 49 HT_ ?_;refine tU 2 45 HT_ HW_ hHeld ?_;refine oU 7 (some 50) HT_ fun K hK=>?_
     refine goes_ Try.func14 (by kernel_rfl) rfl #[.int .i64 a5,.int .i64 (rd l1 t2),.int .i64 b8] (by rfl) rfl rfl mA ?_
     with_reducible refine(Czk.calls a5 (rd l1 t2) b8 z3 z4 _ z5.out).mono ?_
     rintro e C9 ⟨rfl,hb⟩;refine⟨_,rfl,?_⟩;have n0_:=rB t5 hb;have n1_:=rB t6 hb;have n2_:=rB t7 hb;have n3_:=kb n8 hb;have n4_:=bB hb;clear t5 t6 t7 n8 HB;have t5:=n0_;have t6:=n1_;have t7:=n2_;have n8:=n3_;have HB:=n4_;clear n0_ n1_ n2_ n3_ n4_ hb
     (try clear D0)
     (try clear hk)
     (try clear hi)
     have D1:0≤(t2:Int):=oE aS
     have D2:(t2:Int) < ((r9.length:Int):Int):=oE aS
     obtain⟨D3,D4,D5,D6,D7,D8,D9⟩:=Kd.R_form t5.out (by omega)
     (first|cases D5|(injection D5 with ea_ en_ ec_;(first|subst ea_|(injection ea_ with ea_;subst ea_));subst ec_;clear en_))
     have E0:=aM D6;have E1:=aM D9;clear D6 D7 D9;obtain⟨E2,E3⟩:=Kd.R_celln 0 t5.out (t2:Int) D1 D2;replace D1:=eq_true D1;replace D2:=eq_true D2;have E4:=Kd.R_putn t5.out (t2:Int) z3;rw[← z9.out] at E4;have E5:=aM E4;clear E4;have E6:0≤(t2:Int):=oE aS
     have E7:(t2:Int) < ((t3.length:Int):Int):=oE aS
     obtain⟨E8,E9,F0,F1,F2,F3,F4⟩:=Kd.R_form t7.out (by omega)
     (first|cases F0|(injection F0 with ea_ en_ ec_;(first|subst ea_|(injection ea_ with ea_;subst ea_));subst ec_;clear en_))
     have F5:=aM F1;have F6:=aM F4;clear F1 F2 F4;obtain⟨F7,F8⟩:=Kd.R_celln 0 (Kd.R_far (p:=⟨D3,(t2:Int).toNat,none⟩) (Kd.R_mono t7.out (fun k_ hk=>(⟨hk,fun e_=>hk.1 (by rw[e_];rfl)⟩:_∧k_≠D3))) (fun _ hk=>hk.2) (.int .i64 z3)) (t2:Int) E6 E7
     replace E6:=eq_true E6;replace E7:=eq_true E7;have F9:=Kd.R_putn (Kd.R_far (p:=⟨D3,(t2:Int).toNat,none⟩) (Kd.R_mono t7.out (fun k_ hk=>(⟨hk,fun e_=>hk.1 (by rw[e_];rfl)⟩:_∧k_≠D3))) (fun _ hk=>hk.2) (.int .i64 z3)) (t2:Int) z4
     rw[← B7.out] at F9;have G0:=aM F9;clear F9;refine hK.out _ _ ((blk_cell n8.out 0).trans rfl) (fun hHeld=>?_)
     clear hK K;refine nm 50 ?_;refine pS 8 42 HT_ ?_;refine pS 9 51 HT_ ?_;refine pS 10 52 HT_ ?_;refine pS 11 53 HT_ ?_;refine oU 12 none HT_ fun K hK=>?_
     refine skip_ (w1:=?_) (by rfl) rfl ?_ ?_
     rotate_left
     ·go_simp
      rfl
     refine hK.out _ _ (((cell_far (by have h_:=Kd.R_ne t5.out n8.out (by decide);intro e_;exact h_ (congrArg some e_)) _).trans (hHeld))) (fun hHeld=>?_)
     clear hK K;refine pS 13 54 HT_ ?_;refine lU 14 none HT_ fun K hK=>?_
     refine skip_ (w1:=?_) (by rfl) rfl ?_ ?_
     rotate_left
     ·go_simp
      rfl
     refine hK.out _ _ ?_;clear hK K;refine done_ (done_of HT_.out (by kernel_rfl)) ?_
     have n0_:Aside0 (Kd.R (Kd.int .i64) 3 ((C9.setCell ⟨D3,(t2:Int).toNat,none⟩ (.int .i64 z3)).setCell ⟨E8,(t2:Int).toNat,none⟩ (.int .i64 z4)) w.heap.size (fun k_=>oV g7 k_∧oN (some ⟨E8,0,none⟩) t3.length E9 k_) (.slice (some ⟨D3,0,none⟩) r9.length D4) z7):=⟨by exact rX (Kd.R_mono (Kd.R_far (p:=⟨E8,(t2:Int).toNat,none⟩) (Kd.R_mono E5.out (fun k_ hk=>(⟨hk,fun e_=>hk.2 (by rw[e_];rfl)⟩:_∧k_≠E8))) (fun _ hk=>hk.2) (.int .i64 z4)) (fun _ hk=>⟨hk.1.1,hk.1.2⟩))⟩
     have n1_:Aside0 (Kd.R (Kd.int .i64) 3 ((C9.setCell ⟨D3,(t2:Int).toNat,none⟩ (.int .i64 z3)).setCell ⟨E8,(t2:Int).toNat,none⟩ (.int .i64 z4)) w.heap.size (fun k_=>oN (some ⟨D3,0,none⟩) r9.length D4 k_∧oN (some ⟨E8,0,none⟩) t3.length E9 k_) g7 t0):=⟨by exact rX (Kd.R_mono (Kd.R_far (p:=⟨E8,(t2:Int).toNat,none⟩) (Kd.R_far (p:=⟨D3,(t2:Int).toNat,none⟩) (Kd.R_mono (Kd.R_mono t6.out (fun k_ hk=>(⟨hk,fun e_=>hk.1 (by rw[e_];rfl)⟩:_∧k_≠D3))) (fun k_ hk=>(⟨hk,fun e_=>hk.1.2 (by rw[e_];rfl)⟩:_∧k_≠E8))) (fun _ hk=>hk.1.2) (.int .i64 z3)) (fun _ hk=>hk.2) (.int .i64 z4)) (fun _ hk=>⟨hk.1.1.1,hk.1.1.2⟩))⟩
     have n2_:Aside0 (Kd.R (Kd.int .i64) 3 ((C9.setCell ⟨D3,(t2:Int).toNat,none⟩ (.int .i64 z3)).setCell ⟨E8,(t2:Int).toNat,none⟩ (.int .i64 z4)) w.heap.size (fun k_=>oN (some ⟨D3,0,none⟩) r9.length D4 k_∧oV g7 k_) (.slice (some ⟨E8,0,none⟩) t3.length E9) B1):=⟨by exact rX (Kd.R_mono G0.out (fun _ hk=>⟨hk.1.1,hk.1.2⟩))⟩
     have n3_:Aside0 (((C9.setCell ⟨D3,(t2:Int).toNat,none⟩ (.int .i64 z3)).setCell ⟨E8,(t2:Int).toNat,none⟩ (.int .i64 z4)).heap[g8]?=some (.cells #[.slice (some ⟨E8,0,none⟩) t3.length E9] 22 (0,0))):=⟨by refine bD ?_;refine blk_far ?_ (by have h_:=Kd.R_ne t7.out n8.out (by decide);intro e_;exact h_ (by rw[e_];rfl)) _;refine bD ?_;refine blk_far ?_ (by have h_:=Kd.R_ne t5.out n8.out (by decide);intro e_;exact h_ (by rw[e_];rfl)) _;(with_reducible repeat(first|refine blk_drewN ?_ _|refine blk_drew ?_|refine blk_alloc ?_ _));exact n8.out⟩
     have n4_:Aside0 (Below w.heap.size w ((C9.setCell ⟨D3,(t2:Int).toNat,none⟩ (.int .i64 z3)).setCell ⟨E8,(t2:Int).toNat,none⟩ (.int .i64 z4))):=⟨pB⟩;(try clear t5)
     (try clear t6)
     (try clear t7)
     (try clear n8)
     (try clear HB)
     generalize ((C9.setCell ⟨D3,(t2:Int).toNat,none⟩ (.int .i64 z3)).setCell ⟨E8,(t2:Int).toNat,none⟩ (.int .i64 z4))=G1 at n0_ n1_ n2_ n3_ n4_ ⊢;have t5:=n0_;have t6:=n1_;have t7:=n2_;have n8:=n3_;have HB:=n4_;clear n0_ n1_ n2_ n3_ n4_;have G2:0≤(t2:Int):=oE aS
     have G3:(t2:Int) < ((t0.length:Int):Int):=oE aS
     obtain⟨G4,G5,G6,G7,G8,G9,H0⟩:=Kd.R_form t6.out (by omega)
     (first|cases G6|(injection G6 with ea_ en_ ec_;(first|subst ea_|(injection ea_ with ea_;subst ea_));subst ec_;clear en_))
     have H1:=aM G7;have H2:=aM H0;clear G7 G8 H0;obtain⟨H3,H4⟩:=Kd.R_celln 0 t6.out (t2:Int) G2 G3;replace G2:=eq_true G2;replace G3:=eq_true G3;obtain⟨H5,hz34_⟩:=Kd.R_celln 0 t6.out (t2:Int) (oE aS) (oE aS)
     have H6:=Kd.R_putg t6.out (t2:Int) t2;try go_wp2_with (first|((with_reducible refine gate_store (t:=3) (p:=58) rfl ?_);refine store_event (t:=3) (p:=58) (v:=?vo_w35) (w1:=(G1.setCell ⟨G4,(t2:Int).toNat,none⟩ (.int .i64 t2))) ?hg ?ho ?hn ?hr ?_;(case ho=>rfl);(case hg=>rfl);(case hn=>rfl);(case hr=>first|(go_simp;done)|(go_simp;rfl));intro H7 hw;have hg:G1.grownBy H7 (some G4):=(by rw[hw];exact H6.2);have hp_:rI H7 w (fun k_=>oN (some ⟨D3,0,none⟩) r9.length D4 k_∧oN (some ⟨E8,0,none⟩) t3.length E9 k_) (.slice (some ⟨G4,0,none⟩) t0.length G5) C0:=(by rw[hw,C2.out];exact H6.1);clear H6;replace t5:=aM (Kd.R_after (v:=(.slice (some ⟨G4,0,none⟩) t0.length G5)) (v1:=(.slice (some ⟨G4,0,none⟩) t0.length G5)) (ok:=(fun k_=>oN (some ⟨E8,0,none⟩) t3.length E9 k_)) (rX (Kd.R_mono t5.out (fun _ hk=>⟨hk.2,hk.1⟩))) hg (.inl rfl));replace t7:=aM (Kd.R_after (v:=(.slice (some ⟨G4,0,none⟩) t0.length G5)) (v1:=(.slice (some ⟨G4,0,none⟩) t0.length G5)) (ok:=(fun k_=>oN (some ⟨D3,0,none⟩) r9.length D4 k_)) (rX t7.out) hg (.inl rfl));replace n8:=aM (blk_grown (g:=g8) (o:=.cells #[.slice (some ⟨E8,0,none⟩) t3.length E9] 22 (0,0)) (kW n8) hg (Kd.R_ne t6.out n8.out (by decide)));replace t6:=aM (hp_);replace HB:=aM ((by rw[hw];exact below_set (HB.out) H1.out:bw w H7));clear hg hw hp_;have H8:0≤(t2:Int):=oE aS;have H9:t2 < (z7.length:Int):=(by have h_:(t2:Int) < ((r9.length:Int):Int):=oE aS;first|(have e_:=(Kd.R_reads' t5.out).1;omega)|simpa only[z9.out,List.length_set] using h_);have ql218:((t2:Int) < ((r9.length:Int):Int))=True:=eq_true (oE aS);obtain⟨I0,I1,I2⟩:=Kd.at_int (Kd.R_reads' t5.out).2.2 t2 H8 H9;obtain rfl:(⟨D3,0,none⟩:Addr)=I0:=(by injection I1);(first|simp only[add_plain] at I2|simp only[add_at] at I2|simp only[Addr.add,Nat.zero_add] at I2|skip);replace H8:=eq_true H8;replace H9:=eq_true H9))
     go_roundg k1
     case measure=>have:=t4.out;omega
     case rel=>exact⟨(z7),(C0),(wrap64 (t1 - (rd z7 t2))),(wrap64 (t2+1)),(B1),(.slice (some ⟨E8,0,none⟩) t3.length E9),sD,sD,H',⟨by have:=t4.out;omega⟩,⟨by exact rX (Kd.R_mono t5.out (fun _ hk=>⟨hk.2,hk.1⟩))⟩,⟨rX t6.out⟩,⟨rX t7.out⟩,⟨by exact kW n8⟩,⟨pB⟩⟩
    ·obtain⟨I3,I4,H⟩:=bT H;(try dsimp only at H);obtain⟨I5,H⟩:=iO H;have I6:=eq_true I5;have I7:decide (0≤t1)=true:=dE I5;clear I5;obtain⟨I8,H⟩:=iO H;have I9:=eq_true I8;have J0:decide (t1≤(t0.length:Int))=true:=dE I8;clear I8;obtain⟨J1,J2⟩:∃ y_:List Int,y_=(I3.take (t1:Int).toNat):=⟨_,rfl⟩;replace H:(Azp.l1 k1 r9 J1 (J1.length:Int) 0)=some (a8,a9):=yE J2 H
     have J3:=aM J2;clear J2;have H':=aM H;clear H;obtain⟨J4,J5,rfl⟩:=Kd.R_slice t6.out;obtain⟨J6,J7,rfl⟩:=Kd.R_slice t7.out;go_wp2_with (first|((with_reducible refine gc 15 rfl ?_);refine gC 15 (some 68) Try.func15 #[.slice J4 t0.length J5,.func (.func 16) #[] #[.pointer (some ⟨g8,0,none⟩)]] ?_;(with_reducible refine(Bzk.calls k1 (fun k_=>some k_=(.slice J4 t0.length J5:Value).ownBlock) (.slice J4 t0.length J5) t0 _ 1 [t3] I3 w _ ?_ ?_ ?_ ?_ I4.out).mono ?_);(focus(repeat(first|(with_reducible first|exact HB.out|apply below_alloc|apply pw_below_drewN|apply below_drew1|refine below_set ?_ o0.out)|exact HB.out)));exact Kd.R_tight rfl t6.out;exact Kd.cap_kept (kW n8) (fun hs_=>(fun e_=>(Kd.R_ne t6.out n8.out (by decide)) e_) hs_) (fun W_ hk_=>⟨_,_,rfl,by exact(Kd.R_reads' t7.out).2.1,(Kd.C_kept_own (t7.out) (fun k_ hk_ hs_=>(hk_.2) hs_)) W_ hk_⟩);exact Nat.le_refl _;rintro e J8 ⟨rfl,J9,hb,hkp⟩;refine⟨_,rfl,?_⟩;replace t5:=aM (Kd.R_mono (ok':=fun k_=>oN J4 t0.length J5 k_∧oN J6 t3.length J7 k_) (Kd.R_keptB (t5.out) hkp (fun k_ hk_ hs_=>(hk_.1) hs_)) (fun k_ hk_=>⟨hk_.1.1,hk_.1.2⟩));replace t7:=aM (Kd.R_mono (ok':=fun k_=>oV g5 k_∧oN J4 t0.length J5 k_) (Kd.R_keptB (t7.out) hkp (fun k_ hk_ hs_=>(hk_.2) hs_)) (fun k_ hk_=>⟨hk_.1.1,hk_.1.2⟩));replace n8:=aM (blk_kept (kW n8) hkp (fun hs_=>(fun e_=>(Kd.R_ne t6.out n8.out (by decide)) e_) hs_));replace t6:=aM (Kd.R_reok rfl J9 (fun k_ e_=>t6.out.1 k_ e_));replace HB:=aM (hb);clear hb hkp J9;have K0:(t1:Int)≤((t0.length:Int):Int):=oE aS;obtain⟨i042,K1,_,hsz42,_⟩:=info_parts info3;have hcut42:=cut_to (P:=Try.prog) 22 3 .i64 Try.underlying22 K1 J4 t0.length J5 t1 (oE aS) K0 (Kd.R_reads' t6.out).2.1;have hlx42:=(Kd.R_reads' t6.out).1;have K2:=Kd.R_take (m:=(t1:Int).toNat) t6.out (by omega);have K3:J1.length=(t1:Int).toNat:=(by rw[J3.out,List.length_take];omega);rw[← J3.out] at K2;rw[← K3] at K2 hcut42;clear hlx42 K3 K1 hsz42 t6;have K4:=aM K2;clear K2;replace K0:=eq_true K0))
     go_loopg [73] k1 (fun kq K5 w'=>∃ (K6:List Int) (K7:Int),K5=.int .i64 K7∧Aside0 (Azp.l1 kq K6 J1 (J1.length:Int) K7=some (a8,a9))∧Aside0 (kq≤k1)∧Aside0 (rI w' w (fun k_=>oN J4 J1.length J5 k_∧oN J6 t3.length J7 k_) g5 K6)∧Aside0 (rI w' w (fun k_=>oV g5 k_∧oN J6 t3.length J7 k_) (.slice J4 J1.length J5) J1)∧Aside0 (rI w' w (fun k_=>oV g5 k_∧oN J4 J1.length J5 k_) (.slice J6 t3.length J7) t3)∧Aside0 (w'.heap[g8]?=some (.cells #[(.slice J6 t3.length J7)] 22 (0,0)))∧Aside0 (bw w w'))
     case atStart=>exact⟨(r9),(0),sD,H',⟨Nat.le_refl _⟩,⟨by(with_reducible repeat(first|apply Kd.R_alloc|apply Kd.R_drewN|apply Kd.R_drew));first|exact t5.out|exact Kd.R_mono t5.out (fun k_ hk_=>by refine⟨?_,?_⟩ <;> first|exact hk_.1|exact hk_.2|exact fun h_=>hk_.1 (h_.trans (own_len _ _ _ _))|exact fun h_=>hk_.2 (h_.trans (own_len _ _ _ _)))⟩,⟨rX K4.out⟩,⟨by(with_reducible repeat(first|apply Kd.R_alloc|apply Kd.R_drewN|apply Kd.R_drew));first|exact t7.out|exact Kd.R_mono t7.out (fun k_ hk_=>by refine⟨?_,?_⟩ <;> first|exact hk_.1|exact hk_.2|exact fun h_=>hk_.1 (h_.trans (own_len _ _ _ _))|exact fun h_=>hk_.2 (h_.trans (own_len _ _ _ _)))⟩,⟨by exact kW n8⟩,⟨pB⟩⟩
     case round =>
      clear H';try clear a7
      obtain⟨K6,K7,rfl,HA,K8,t5,K9,t7,n8,HB⟩:=hrel;cases gk with
      | zero=>exact absurd HA.out (by simp [Azp.l1])
      | succ k2 =>
       have H:=HA.out;clear HA;simp only[Azp.l1] at H;replace H:=iD H;rcases H with⟨L3,H⟩|⟨L3,H⟩
       ·obtain⟨L4,H⟩:=iN H;obtain⟨L5,H⟩:=iN H;obtain⟨L6,H⟩:=iN H;obtain⟨L7,H⟩:=iN H;obtain⟨L8,L9⟩:∃ y_:List Int,y_=(K6.set ((rd J1 K7):Int).toNat (wrap64 ((rd K6 (rd J1 K7))+1))):=⟨_,rfl⟩;replace H:(Azp.l1 k2 L8 J1 (J1.length:Int) (wrap64 (K7+1)))=some (a8,a9):=yE L9 H
        have M0:=aM L9;clear L9;have H':=aM H;clear H;obtain⟨M1,M2,M3,M4,M5⟩:=aI (Kd.R_reads' K9.out).2.2 K7;cases M2;obtain⟨M6,M7,rfl⟩:=Kd.R_slice t5.out;obtain⟨M8,M9,N0,N1,N2⟩:=aI (Kd.R_reads' t5.out).2.2 (rd J1 K7);cases M9;have N3:0≤((rd J1 K7):Int):=oE aS
        have N4:((rd J1 K7):Int) < ((K6.length:Int):Int):=oE aS
        obtain⟨N5,N6,N7,N8,N9,O0,O1⟩:=Kd.R_form t5.out (by omega)
        (first|cases N7|(injection N7 with ea_ en_ ec_;(first|subst ea_|(injection ea_ with ea_;subst ea_));subst ec_;clear en_))
        have O2:=aM N8;have O3:=aM O1;clear N8 N9 O1;(first|simp only[add_plain] at N0|skip)
        obtain⟨O4,O5⟩:=Kd.R_celln 0 t5.out ((rd J1 K7):Int) N3 N4;replace N3:=eq_true N3;replace N4:=eq_true N4;have O6:=Kd.R_putg t5.out ((rd J1 K7):Int) (wrap64 ((rd K6 (rd J1 K7))+1));go_wp2_with (first|((with_reducible refine gate_store (t:=3) (p:=82) rfl ?_);refine store_event (t:=3) (p:=82) (v:=?vo_w51) (w1:=(wr.setCell ⟨N5,((rd J1 K7):Int).toNat,none⟩ (.int .i64 (wrap64 ((rd K6 (rd J1 K7))+1))))) ?hg ?ho ?hn ?hr ?_;(case ho=>rfl);(case hg=>rfl);(case hn=>rfl);(case hr=>first|(go_simp;done)|(go_simp;rfl));intro O7 hw;have hg:wr.grownBy O7 (some N5):=(by rw[hw];exact O6.2);have hp_:rI O7 w (fun k_=>oN (some M1) J1.length J5 k_∧oN J6 t3.length J7 k_) (.slice (some ⟨N5,0,none⟩) K6.length M7) L8:=(by rw[hw,M0.out];exact O6.1);clear O6;replace K9:=aM (Kd.R_after (v:=(.slice (some ⟨N5,0,none⟩) K6.length M7)) (v1:=(.slice (some ⟨N5,0,none⟩) K6.length M7)) (ok:=(fun k_=>oN J6 t3.length J7 k_)) (rX (Kd.R_mono K9.out (fun _ hk=>⟨hk.2,hk.1⟩))) hg (.inl rfl));replace t7:=aM (Kd.R_after (v:=(.slice (some ⟨N5,0,none⟩) K6.length M7)) (v1:=(.slice (some ⟨N5,0,none⟩) K6.length M7)) (ok:=(fun k_=>oN (some M1) J1.length J5 k_)) (rX (Kd.R_mono t7.out (fun _ hk=>⟨hk.2,hk.1⟩))) hg (.inl rfl));replace n8:=aM (blk_grown (g:=g8) (o:=.cells #[.slice J6 t3.length J7] 22 (0,0)) (kW n8) hg (Kd.R_ne t5.out n8.out (by decide)));replace t5:=aM (hp_);replace HB:=aM ((by rw[hw];exact below_set (HB.out) O2.out:bw w O7));clear hg hw hp_))
        go_roundg k2
        case measure=>have:=t4.out;have:=K8.out;omega
        case rel=>exact⟨(L8),(wrap64 (K7+1)),sD,H',⟨by have:=t4.out;have:=K8.out;omega⟩,⟨rX t5.out⟩,⟨by exact rX (Kd.R_mono K9.out (fun _ hk=>⟨hk.2,hk.1⟩))⟩,⟨by exact rX (Kd.R_mono t7.out (fun _ hk=>⟨hk.2,hk.1⟩))⟩,⟨by exact kW n8⟩,⟨pB⟩⟩
       ·obtain⟨rfl,rfl⟩:=q2 H;go_wp2
        go_ret2
        exact⟨_,eW,by exact rX (Kd.R_mono t5.out (fun _ hk=>trivial)),pB⟩
 ·obtain⟨rfl,rfl⟩:=q2 H;have hmf_:∀ (fn:Fn) (first cap:Array Value) (w:World),(Instr.makeFunc fn first cap).run Try.prog w=.ok (.func fn first cap) w:=fun _ _ _ _=>rfl
  go_enter Try.func8,Try.ntmps8
  go_wp2_with (first|((with_reducible refine gc 13 rfl ?_);refine gC 13 (some 19) Try.func13 #[.int .i64 a5,.slice a6 l1.length a7] ?_;(with_reducible refine(Bzf.calls k a5 _ _ l1 b8 b9 _ ?_ ?_ d0.out).mono ?_);exact cX b5.out;exact b6.out;rintro e O8 ⟨rfl,hb⟩;refine⟨_,rfl,?_⟩;replace HB:=bB hb;clear hb))
  go_ret2
  exact⟨_,eW,nK,pB⟩


theorem bits_Mul_one (c:Int) (a5:0≤c) (a6:c≤1000000) (w:World):Calls Try.prog 17 #[.int .u64 1,.int .u64 c] w fun e w'=>e=.returned (.tuple #[.int .u64 0,.int .u64 c])∧w'=w:=by
 have eq:∀ z:Int,IntKind.u64.wrap z=z % 18446744073709551616:=fun z=>by simp [IntKind.wrap,IntKind.bits,IntKind.signed]
 have a7:Go.bits .and .u64 1 4294967295=1:=by decide
 have a8:Go.bits .and .u64 c 4294967295=c:=by
  have:=bits_mask .u64 64 (by decide) (fun n h h'=>by rw[eq];omega) 32 (by decide) c a5 (by omega)
  rw[show((2:Int) ^ 32 - 1)=4294967295 by decide] at this
  rw[this];omega
 have a9:Go.bits .and .u64 0 4294967295=0:=by decide
 have b3:c % 18446744073709551616=c:=by omega
 have b4:c / 4294967296=0:=by omega
 have hc:Aside0 (0≤c∧c≤1000000):=⟨⟨a5,a6⟩⟩;clear a5 a6;go_enter Try.func17,Try.ntmps17
 go_wp2
 go_ret2
 exact⟨rfl,rfl⟩
theorem mk_row {P:Program} {ops:Array Oper} {Q:Exit→Act→World→Prop} {rest:List Oper} {o:Oper} {a:Act} {W:World} (hgd:o.guard=none) {N:Tmp} (hd:o.dst=some N) (t e:TypeId) (x y:Operand) (ho:o.op=.makeSlice t x y) (n:Nat) (hx:a.eval x=.int .i64 (n:Int)) (hy:a.eval y=.int .i64 (n:Int))
  (ht:P.underlying t=some (.slice e)) (hinfo:(P.info? e).map (fun i=>(i.zero,i.size,i.bytes))=some (some (.int .i64 0),1,8)) (hn:n≤1000000)
  (h:∀ g,g=W.heap.size→∀ w1,w1.heap[g]?=some (.cells (List.replicate n (Value.int .i64 0)).toArray e (0,0))→Below W.heap.size W w1→wpList P ops Q rest (a.put o.dst (.slice (some ⟨g,0,none⟩) n n)) w1):wpList P ops Q (o :: rest) a W:=by
 obtain⟨i0,hi,hzz⟩:=Option.map_eq_some_iff.1 hinfo;simp only[Prod.mk.injEq] at hzz;obtain⟨hz0,hz1,hz2⟩:=hzz;have hr:=run_make (P:=P) W t e i0 (.int .i64 0) ht hi hz0 .i64 .i64 (n:Int) (n:Int) (by omega) (by omega) (by rw[hz2];omega) (by omega)
 simp only[Int.toNat_natCast] at hr;rw[hz1,Nat.mul_one] at hr;have hm:madeCells (Value.int .i64 0).cells n=(List.replicate n (Value.int .i64 0)).toArray:=by
  have:=toList_madeCells_one (Value.int .i64 0) n;rw[show(Value.int .i64 0).cells=#[Value.int .i64 0] from rfl,← this]
 rw[hm] at hr;refine Kd.event_run (v:=.slice (some ⟨W.heap.size,0,none⟩) n n) (w1:=W.alloc (.cells (List.replicate n (Value.int .i64 0)).toArray e)) hgd (by simp [execOp,ho,hx,hy,hr]) (h _ rfl _ (blk_new W _) (below_alloc (Below.refl _ _) _))
def Czv.f (l0:List Int) (a1:Int):Option (List Int):=if l0.length=1∧1≤a1∧a1≤1000000 then some (List.replicate a1.toNat (rd l0 0)) else none
theorem Czv.calls (a5:Option Addr) (a6:Nat) (l0:List Int) (a7:Int) (r:List Int) (w:World) (a8:cI w a5 l0) (a9:l0.length≤a6) (h:Czv.f l0 a7=some r) :
  Calls Try.prog 9 #[.slice a5 l0.length a6,.int .i64 a7] w fun e w'=>∃ v0_:Value,e=.returned v0_∧rI w' w (fun _=>True) v0_ r∧bw w w':=by
 unfold Czv.f at h;by_cases hc:l0.length=1∧1≤a7∧a7≤1000000
 rotate_left
 ·rw[if_neg hc] at h;cases h
 rw[if_pos hc] at h;injection h with h
 obtain⟨b3,b4,b5⟩:=hc;obtain⟨n,rfl⟩:=Int.eq_ofNat_of_zero_le (show 0≤a7 by omega)
 simp only[Int.toNat_natCast] at h;obtain⟨ad,rfl,hx⟩:=Kd.at_int a8 0 (by omega) (by omega)
 rw[show(0:Int).toNat=0 from rfl] at hx
 generalize rd l0 0=x at *;have HX:=aM hx;have HN:=aM (And.intro b4 b5);have HR:=aM h;rw[b3] at a9 ⊢;have HB:=aM (Below.refl w.heap.size w);have b6:((n:Int) < 0)=False:=eq_false (by omega)
 have b7:(n:Int) % 18446744073709551616=n:=by omega
 have b8:wrap64 (n:Int)=n:=by unfold wrap64;omega
 have b9:(9223372036854775807 < (n:Int))=False:=eq_false (by omega)
 have d0:decide ((n:Int) < 0)=false:=decide_eq_false (by omega)
 have d3:decide (9223372036854775807 < (n:Int))=false:=decide_eq_false (by omega)
 clear a8 hx b4 b5 h b3;go_enter Try.func9,Try.ntmps9
 go_wp2_with (first|((with_reducible refine gate_callee (f:=17) rfl ?_);refine goesL_ (some 18) rfl rfl Try.func17 (by kernel_rfl) rfl #[.int .u64 1,.int .u64 (n:Int)] rfl (by first|exact mA|(simp [Act.eval];done)) ?_;refine(bits_Mul_one (n:Int) (by omega) (by have:=HN.out;omega) _).mono ?_;rintro e d4 ⟨rfl,rfl⟩;refine⟨_,rfl,?_⟩)|((with_reducible refine gate_dst (N:=30) rfl ?_);refine mk_row rfl rfl 22 3 _ _ rfl n (by show Value.int .i64 (wrap64 (n:Int))=_;rw[b8]) (by show Value.int .i64 (wrap64 (n:Int))=_;rw[b8]) Try.underlying22 (by kernel_rfl) (by have:=HN.out;omega) ?_;intro g hg d5 hrow hb;have HROW:=aM hrow;have HG:=aM (show d4.heap.size≤g by rw[hg];exact Nat.le_refl _);have d6:=aM hb;clear hrow hb hg)|((with_reducible refine gate_builtin (b:=.copy) (xs:=#[.tmp 31,.tmp 32]) rfl ?_);refine wpList_copy_splice rfl (.tmp 31) (.tmp 32) 22 22 rfl 3 Try.underlying22 (by kernel_rfl) (some ⟨g,0,none⟩) (some ad) n n 1 a6 rfl rfl g 0 (List.replicate n (.int .i64 0)) 3 HROW.out [.int .i64 x] (by have:=HN.out;show 1=Nat.min 1 n;exact(Nat.min_eq_left (by omega)).symm) (fun _=>⟨rfl,ad,rfl,?src⟩) (by have:=HN.out;simp;omega) (by simp [Value.oneCell']) _ _ d6.out HG.out ?_;(case src=>(intro j v hj;cases j with|zero=>(injection hj with hj;subst hj;exact(d6.out.cell (World.block_lt_of_cell? _ _ HX.out)).trans HX.out)|succ j=>(exact absurd hj (by simp))));intro d7 hid d8;have d9:=aM hid;have e0:=aM d8;clear hid d8 HROW d6))
 go_loopg [8] (n+1) (fun kq e8 w'=>∃ m:Nat,e8=.int .i64 (m:Int)∧Aside0 (1≤m∧m≤n∧n - m < kq)∧Aside0 (w'.heap[g]?=some (.cells (List.replicate m (Value.int .i64 x) ++ List.replicate (n - m) (Value.int .i64 0)).toArray 3 (0,0)))∧Aside0 (Below d4.heap.size d4 w'))
 case atStart =>
  refine⟨1,rfl,aM (by have:=HN.out;omega),aM ?_,e0⟩
  refine(show _=_ from d9.out).trans ?_
  obtain⟨q,rfl⟩:∃ q,n=q+1:=⟨n - 1,by have:=HN.out;omega⟩
  simp [splice,List.replicate_succ]
 case round =>
  clear d9 e0;obtain⟨m,rfl,HM,HROW,HBr⟩:=hrel;by_cases hmn:m < n
  ·have d1:((m:Int) < (n:Int))=True:=eq_true (by omega)
   have d2:decide ((m:Int) < (n:Int))=true:=dE (by omega)
   have f2:∀ W:World,(Instr.slice 22 (.slice (some ⟨g,0,none⟩) n n) (some (.int .i64 (m:Int))) none none).run Try.prog W=.ok (.slice (some ⟨g,m,none⟩) (n - m) (n - m)) W:=by
    intro W;obtain⟨i3,hi,hz⟩:=Option.map_eq_some_iff.1 (show(Try.prog.info? 3).map (fun i=>(i.zero,i.size,i.bytes))=some (some (.int .i64 0),1,8) by kernel_rfl)
    simp only[Prod.mk.injEq] at hz;have:=cut_from (P:=Try.prog) 22 3 .i64 Try.underlying22 hi 1 hz.2.1 (some ⟨g,0,none⟩) n n (m:Int) (by omega) (by omega) W
    rw[Int.toNat_natCast,if_neg (by omega)] at this
    rw[this];have f3:m≠0:=by have:=HM.out;omega
    simp [Addr.add,f3]
   have f4:∀ W:World,(Instr.slice 22 (.slice (some ⟨g,0,none⟩) n n) none (some (.int .i64 (m:Int))) none).run Try.prog W=.ok (.slice (some ⟨g,0,none⟩) m n) W:=by
    intro W;obtain⟨i3,hi,hz⟩:=Option.map_eq_some_iff.1 (show(Try.prog.info? 3).map (fun i=>(i.zero,i.size,i.bytes))=some (some (.int .i64 0),1,8) by kernel_rfl)
    have:=cut_to (P:=Try.prog) 22 3 .i64 Try.underlying22 hi (some ⟨g,0,none⟩) n n (m:Int) (by omega) (by omega) (Nat.le_refl _) W
    rw[Int.toNat_natCast] at this;exact this
   go_wp2
   refine start_ (n:=10) (S:=fun w'=>True) (ds:=[]) (bA 10 0) (by kernel_rfl) rfl rfl trivial (fun hHeld=>?_)
   refine pV 0 38 (bA 10 1) ?_;refine pV 1 39 (bA 10 3) ?_;refine pV 2 40 (bA 10 7) ?_;refine pV 3 41 (bA 10 15) ?_;refine pV 4 42 (bA 10 31) ?_;refine pV 5 43 (bA 10 63) ?_;refine pV 6 44 (bA 10 127) ?_;refine one_ (i:=7) (N:=some 45) (bA 10 255) rfl rfl (by kernel_rfl) (by decide) (fun K hK=>?_)
   refine step_copy_splice rfl (.tmp 41) (.tmp 44) 22 22 rfl 3 Try.underlying22 (by kernel_rfl) (some ⟨g,m,none⟩) (some ⟨g,0,none⟩) (n - m) (n - m) m n rfl rfl g m (List.replicate m (Value.int .i64 x) ++ List.replicate (n - m) (Value.int .i64 0)) 3 HROW.out (List.replicate (Nat.min m (n - m)) (Value.int .i64 x)) List.length_replicate (fun _=>⟨rfl,⟨g,0,none⟩,rfl,?src⟩) ?fit ?one _ _ HBr.out.drew HG.out ?_
   case src =>
    intro j v hj;rw[List.getElem?_replicate] at hj;split at hj
    ·rename_i hjl
     have hjm:j < m:=Nat.lt_of_lt_of_le hjl (Nat.min_le_left _ _);have ha:(⟨g,0,none⟩:Addr).add j=⟨g,j,none⟩:=by unfold Addr.add;by_cases hj0:j=0 <;> simp [hj0]
     rw[ha,blk_cell (show wr.drew.heap[g]?=_ from HROW.out) j,← hj]
     simp [List.getElem?_append,hjm]
    ·cases hj
   case fit =>
    have:Nat.min m (n - m)≤n - m:=Nat.min_le_right _ _;simp only[List.length_replicate,List.length_append];omega
   case one =>
    intro v hv;rw[List.eq_of_mem_replicate hv];rfl
   intro f5 hid f6;have f7:Aside0 (f5.heap[g]?=some (.cells (List.replicate (m+Nat.min m (n - m)) (Value.int .i64 x) ++ List.replicate (n - (m+Nat.min m (n - m))) (Value.int .i64 0)).toArray 3 (0,0))):=by
    refine aM ((show _=_ from hid).trans ?_)
    generalize hq:Nat.min m (n - m)=q;have hq1:q≤n - m:=by rw[← hq];exact Nat.min_le_right _ _
    have:splice (List.replicate m (Value.int .i64 x) ++ List.replicate (n - m) (Value.int .i64 0)) m (List.replicate q (Value.int .i64 x))=List.replicate (m+q) (Value.int .i64 x) ++ List.replicate (n - (m+q)) (Value.int .i64 0):=by
     unfold splice;rw[List.take_left' (by simp),List.drop_append,List.drop_replicate,List.drop_replicate,List.length_replicate,List.length_replicate]
     rw[show m - (m+q)=0 by omega,show n - m - (m+q - m)=n - (m+q) by omega,List.replicate_zero,List.nil_append,← List.append_assoc,List.replicate_append_replicate]
    rw[this]
   have f9:=aM f6;have g4:wrap64 ((m:Int)+(Nat.min m (n - m):Nat))=((m+Nat.min m (n - m):Nat):Int):=by
    have:Nat.min m (n - m)≤n - m:=Nat.min_le_right _ _;have:=HN.out;unfold wrap64;omega
   have HQ:Aside0 (1≤m+Nat.min m (n - m)∧m+Nat.min m (n - m)≤n∧m < m+Nat.min m (n - m)):=by
    have hmin:Nat.min m (n - m)=if m≤n - m then m else n - m:=Nat.min_def ..
    have:=HM.out;refine aM ?_;rw[hmin];split <;> omega
   rw[List.length_replicate];generalize Nat.min m (n - m)=q at g4 HQ f7;clear hid f6 HROW HBr f2 f4 d1 d2;refine hK.out _ _ trivial (fun hHeld=>?_)
   clear hK K;refine nm 45 ?_;refine pV 8 46 (bA 10 511) ?_;refine pV 9 8 (bA 10 1023) ?_;refine done_ (by kernel_rfl) ?_
   go_wp2
   go_roundg (n - (m+q)+1)
   case measure=>have:=HM.out;have:=HQ.out;omega
   case rel=>exact⟨m+q,by first|rfl|(show Value.int .i64 (wrap64 ((m:Int)+(q:Int)))=_;rw[g4]),aM (by have:=HQ.out;omega),f7,f9⟩
  ·have d2:decide ((m:Int) < (n:Int))=false:=decide_eq_false (by omega)
   have d1:((m:Int) < (n:Int))=False:=eq_false (by omega)
   have hmm:m=n:=by have:=HM.out;omega
   subst hmm;go_wp2
   go_ret
   have hrow:=HROW.out;rw[Nat.sub_self,List.replicate_zero,List.append_nil] at hrow;refine⟨_,by rfl,⟨fun _ _=>trivial,List.replicate m (Value.int .i64 x),?_,?_⟩,HBr.out⟩
   ·rw[← HR.out,List.length_replicate];show World.ownsRow _ _ 3 1 (.slice (some ⟨g,0,none⟩) m m) m _
    refine⟨by simp,.inr ⟨g,m,(List.replicate m (Value.int .i64 x)).toArray,rfl,HG.out,hrow,Nat.le_refl _,?_,by simp,by simp⟩⟩
    have:=HN.out;simp [maxLen];omega
   ·rw[← HR.out];have hsz:(Kd.int .i64).sz=1:=rfl;rw[hsz];refine⟨by simp,fun j p hj=>?_⟩
    rw[List.getElem?_replicate] at hj;split at hj
    ·rename_i hjm
     injection hj with hj
     subst hj;show _=_
     rw[List.drop_replicate,List.take_replicate,Nat.mul_one,Nat.min_eq_left (by omega)]
     rfl
    ·cases hj


def Czq.j0:Nat→Int→Int→Bool→Option (List Int × Int)
 | 0,_,_,_=>none
 | k+1,x0,x1,x19=>if x19=true then(some (([]:List Int),1)) else((Czv.f (([1]:List Int)) x1).bind fun t231=>((Azp.f k x0 t231).bind fun bt234=>(some (bt234.1,bt234.2))))
def Czq.f (k:Nat) (a0:Int) (a1:Int):Option (List Int × Int):=if a0 < 0 then(Czq.j0 k a0 a1 true) else(if a0 > 1125899906842624 then(Czq.j0 k a0 a1 true) else(if a1 < 1 then(Czq.j0 k a0 a1 true) else(Czq.j0 k a0 a1 (decide (a1 > 512)))))
theorem Czq.mono_l:∀ k,(∀ a5 a6 a7,LeO (Czq.j0 k a5 a6 a7) (Czq.j0 (k+1) a5 a6 a7))
 | 0=>fun _ _ _ r h=>by simp [Czq.j0] at h
 | k+1=>by
  have ih0:=Czq.mono_l k
  ·intro a5 a6 a7;unfold Czq.j0;have i0:=@Azp.mono;exact mM
theorem Czq.mono:∀ a5 a6 k,LeO (Czq.f k a5 a6) (Czq.f (k+1) a5 a6):=by
 intro a5 a6 k;have ih0:=Czq.mono_l k;unfold Czq.f;have i0:=@Azp.mono;exact mM
theorem Czq.calls (k:Nat) (a5:Int) (a6:Int) (a7:List Int) (a8:Int) (w:World) (h:Czq.f k a5 a6=some (a7,a8)) :
  Calls Try.prog 4 #[.int .i64 a5,.int .i64 a6] w fun e w'=>∃ v0_:Value,e=.returned (.tuple #[v0_,.int .i64 a8])∧rI w' w (fun _=>True) v0_ a7∧bw w w':=by
 have HB:=aM (Below.refl w.heap.size w);have H:(if a5 < 0 then(Czq.j0 k a5 a6 true) else(if a5 > 1125899906842624 then(Czq.j0 k a5 a6 true) else(if a6 < 1 then(Czq.j0 k a5 a6 true) else(Czq.j0 k a5 a6 (decide (a6 > 512))))))=some (a7,a8):=h
 clear h;have a9:=aM H;clear H;go_enter Try.func4,Try.ntmps4
 go_upto_region 1 with (fail)
 go_cut [19] (fun b3 wc=>∃ (kq:Nat) (b4:Bool),b3=.bool b4∧Aside0 (Czq.j0 kq a5 a6 b4=some (a7,a8))∧Aside0 (kq≤k)∧Aside0 (bw w wc))
 case first =>
  have H:=a9.out;clear a9;replace H:=iD H;rcases H with⟨b5,H⟩|⟨b5,H⟩
  ·(first|rw[b5]|(simp only[i64_w,i32_w];rw[b5])|skip)
   have H':=aM H;clear H;go_wp2
   go_meet
   case rel=>exact⟨_,(true),sD,H',⟨by first|omega|exact Nat.le_refl _⟩,⟨pB⟩⟩
  ·(first|rw[b5]|(simp only[i64_w,i32_w];rw[b5])|skip)
   by_cases c5:a5 > 1125899906842624
   ·rw[if_pos c5] at H;have b6:decide (1125899906842624 < a5)=true:=dE c5;clear c5;have H':=aM H;clear H;go_wp2
    go_meet
    case rel=>exact⟨_,(true),sD,H',⟨by first|omega|exact Nat.le_refl _⟩,⟨pB⟩⟩
   ·rw[if_neg c5] at H;have b6:decide (1125899906842624 < a5)=false:=decide_eq_false c5;clear c5;replace H:=iD H;rcases H with⟨b7,H⟩|⟨b7,H⟩
    ·have H':=aM H;clear H;go_wp2
     go_meet
     case rel=>exact⟨_,(true),sD,H',⟨by first|omega|exact Nat.le_refl _⟩,⟨pB⟩⟩
    ·have H':=aM H;clear H;go_wp2
     go_meet
     case rel=>exact⟨_,(decide (a6 > 512)),sD,H',⟨by first|omega|exact Nat.le_refl _⟩,⟨pB⟩⟩
 case rest =>
  clear a9;try clear p2
  obtain⟨kq,b4,rfl,HA,b8,HB⟩:=hcut;cases kq with
  | zero=>exact absurd HA.out (by simp [Czq.j0])
  | succ b9 =>
   have H:=HA.out;clear HA;simp only[Czq.j0] at H;by_cases c7:b4=true
   ·subst c7;rw[if_pos rfl] at H;obtain⟨rfl,rfl⟩:=q2 H;go_wp2
    go_ret2
    exact⟨_,eW,nK,pB⟩
   ·obtain rfl:=bN c7;rw[if_neg nF] at H
    obtain⟨d0,d3⟩:∃ y_:List Int,y_=(([1]:List Int)):=⟨_,rfl⟩;replace H:((Czv.f d0 a6).bind fun d4=>((Azp.f b9 a5 d4).bind fun d5=>(some (d5.1,d5.2))))=some (a7,a8):=yE d3 H
    have d6:=aM d3;clear d3;obtain⟨d4,d7,H⟩:=bT H;(try dsimp only at H);replace H:=bS H;obtain⟨⟨d8,d9⟩,e0,H⟩:=H;replace H:(some (d8,d9))=some (a7,a8):=H;have e8:=aM e0;clear e0;obtain⟨rfl,rfl⟩:=q2 H;go_wp2_with (first|((with_reducible refine gd 21 rfl ?_);refine iL 21 [1] ?_;intro f2 f3 f4 hb;replace f4:=rY d6 f4;have f5:=rL f4;replace HB:=bB hb;clear hb f4;obtain⟨f6,f7,rfl⟩:=Kd.R_slice f5.out)|((with_reducible refine gc 9 rfl ?_);refine gC 9 (some 23) Try.func9 #[.slice f6 d0.length f7,.int .i64 a6] ?_;(with_reducible refine(Czv.calls _ _ d0 a6 d4 _ ?_ ?_ d7.out).mono ?_);exact cR f5;exact lR f5;rintro e f9 ⟨g4,rfl,g5,hb⟩;refine⟨_,rfl,?_⟩;have g6:=rL (rn g5 f5);replace f5:=rE f5 g5 hb;replace HB:=bB hb;clear hb g5;obtain⟨g7,g8,rfl⟩:=Kd.R_slice g6.out)|((with_reducible refine gc 8 rfl ?_);refine gC 8 (some 24) Try.func8 #[.int .i64 a5,.slice g7 d4.length g8] ?_;(with_reducible refine(Azp.calls b9 a5 _ _ d4 d8 d9 _ ?_ ?_ e8.out).mono ?_);exact cR g6;exact lR g6;rintro e g9 ⟨j2,rfl,g5,hb⟩;refine⟨_,rfl,?_⟩;have j3:=rL (rn (rn g5 f5) g6);replace f5:=rE f5 g5 hb;replace g6:=rE g6 g5 hb;replace HB:=bB hb;clear hb g5))
    go_ret2
    exact⟨_,eW,by exact rX (Kd.R_mono j3.out (fun _ hk=>trivial)),pB⟩


mutual
def Azb.j0:Nat→Int→List Int→Bool→Option (Int × Int)
 | 0,_,_,_=>none
 | k+1,x0,x1,x14=>if x14=true then(some (0,1)) else(if(x1.length:Int)=0 then(some (0,10)) else(if(x1.length:Int) > 512 then(some (0,8)) else(Azb.l0 k x0 x1 0)))
def Azb.l0:Nat→Int→List Int→Int→Option (Int × Int)
 | 0,_,_,_=>none
 | k+1,x0,x1,x6=>if x6 < (x1.length:Int) then(if 0≤x6 then(if(rd x1 x6) < 0 then(some (0,1)) else(if(rd x1 x6) > 1125899906842624 then(some (0,1)) else(Azb.l0 k x0 x1 (wrap64 (x6+1))))) else(none)) else(Azb.l1 k x0 x1 0 0)
def Azb.l1:Nat→Int→List Int→Int→Int→Option (Int × Int)
 | 0,_,_,_,_=>none
 | k+1,x0,x1,x7,x8=>if x8 < (x1.length:Int) then(if 0≤x8 then(Azb.l1 k x0 x1 (wrap64 (x7+(rd x1 x8))) (wrap64 (x8+1))) else(none)) else(if x7 > 1125899906842624 then(some (0,2)) else(if x7=0 then(if x0=0 then(some (x7,0)) else(some (0,16))) else(some (x7,0))))
end
def Azb.f (k:Nat) (a0:Int) (l1:List Int):Option (Int × Int):=if a0 < 0 then(Azb.j0 k a0 l1 true) else(Azb.j0 k a0 l1 (decide (a0 > 1125899906842624)))
theorem Azb.mono_l:∀ k,(∀ a5 a6 a7,LeO (Azb.j0 k a5 a6 a7) (Azb.j0 (k+1) a5 a6 a7))∧(∀ a5 a6 a7,LeO (Azb.l0 k a5 a6 a7) (Azb.l0 (k+1) a5 a6 a7))∧(∀ a5 a6 a7 a8,LeO (Azb.l1 k a5 a6 a7 a8) (Azb.l1 (k+1) a5 a6 a7 a8))
 | 0=>⟨fun _ _ _ r h=>by simp [Azb.j0] at h,fun _ _ _ r h=>by simp [Azb.l0] at h,fun _ _ _ _ r h=>by simp [Azb.l1] at h⟩
 | k+1=>by
  obtain⟨ih0,ih1,ih2⟩:=Azb.mono_l k;refine⟨?_,?_,?_⟩
  ·intro a5 a6 a7;unfold Azb.j0;exact mM
  ·intro a5 a6 a7;unfold Azb.l0;exact mM
  ·intro a5 a6 a7 a8;unfold Azb.l1;exact mM
theorem Azb.mono:∀ a5 a6 k,LeO (Azb.f k a5 a6) (Azb.f (k+1) a5 a6):=by
 intro a5 a6 k;obtain⟨ih0,ih1,ih2⟩:=Azb.mono_l k;unfold Azb.f;exact mM
theorem Azb.calls (k:Nat) (a5:Int) (a6:Option Addr) (a7:Nat) (l1:List Int) (a8:Int) (a9:Int) (w:World) (b3:cI w a6 l1) (b4:l1.length≤a7) (h:Azb.f k a5 l1=some (a8,a9)) :
  Calls Try.prog 18 #[.int .i64 a5,.slice a6 l1.length a7] w fun e w'=>e=.returned (.tuple #[.int .i64 a8,.int .i64 a9])∧Drawn0 w w':=by
 have b5:=aM b3;have b6:=aM b4;clear b3 b4;have H:(if a5 < 0 then(Azb.j0 k a5 l1 true) else(Azb.j0 k a5 l1 (decide (a5 > 1125899906842624))))=some (a8,a9):=h
 clear h;have b7:=aM H;clear H;go_enter Try.func18,Try.ntmps18
 go_upto_region 1 with (fail)
 go_cut [14] (fun b8 wc=>∃ (kq:Nat) (b9:Bool),b8=.bool b9∧Aside0 (Azb.j0 kq a5 l1 b9=some (a8,a9))∧Aside0 (kq≤k)∧Drawn0 w wc)
 case first =>
  have H:=b7.out;clear b7;replace H:=iD H;rcases H with⟨d0,H⟩|⟨d0,H⟩
  ·(first|rw[d0]|(simp only[i64_w,i32_w];rw[d0])|skip)
   have H':=aM H;clear H;go_wp2
   go_meet
   case rel=>exact⟨_,(true),sD,H',⟨by first|omega|exact Nat.le_refl _⟩,dR⟩
  ·(first|rw[d0]|(simp only[i64_w,i32_w];rw[d0])|skip)
   have H':=aM H;clear H;go_wp2
   go_meet
   case rel=>exact⟨_,(decide (a5 > 1125899906842624)),sD,H',⟨by first|omega|exact Nat.le_refl _⟩,dR⟩
 case rest =>
  clear b7;try clear a7
  obtain⟨kq,b9,rfl,HA,d3,⟨mc2,rfl⟩⟩:=hcut;cases kq with
  | zero=>exact absurd HA.out (by simp [Azb.j0])
  | succ d4 =>
   have H:=HA.out;clear HA;simp only[Azb.j0] at H;by_cases c5:b9=true
   ·subst c5;rw[if_pos rfl] at H;obtain⟨rfl,rfl⟩:=q2 H;go_wp2
    go_ret2
    exact⟨sD,dR⟩
   ·obtain rfl:=bN c5;rw[if_neg nF] at H
    replace H:=iE H;rcases H with⟨d5,d6,H⟩|⟨c6,d5,d6,H⟩
    ·obtain⟨rfl,rfl⟩:=q2 H;go_wp2
     go_ret2
     exact⟨sD,dR⟩
    ·have d7:¬ (l1=[]):=fun h_=>c6 (by rw[h_];rfl)
     by_cases c7:(l1.length:Int) > 512
     ·rw[if_pos c7] at H;have d8:decide (512 < (l1.length:Int))=true:=dE c7;have d9:decide (512 < l1.length)=true:=dE (by omega)
      clear c7;obtain⟨rfl,rfl⟩:=q2 H;go_wp2
      go_ret2
      exact⟨sD,dR⟩
     ·rw[if_neg c7] at H;have d8:decide (512 < (l1.length:Int))=false:=decide_eq_false c7;have d9:decide (512 < l1.length)=false:=decide_eq_false (by omega)
      clear c7;have H':=aM H;clear H;go_wp2
      go_loopg [6] d4 (fun kq e0 w'=>∃ (e8:Int),e0=.int .i64 e8∧Aside0 (Azb.l0 kq a5 l1 e8=some (a8,a9))∧Aside0 (kq≤d4)∧Drawn0 w w')
      case atStart=>exact⟨(0),sD,H',⟨Nat.le_refl _⟩,dR⟩
      case round =>
       clear H';try clear a7
       obtain⟨e8,rfl,HA,f2,⟨f3,rfl⟩⟩:=hrel;cases gk with
       | zero=>exact absurd HA.out (by simp [Azb.l0])
       | succ k2 =>
        have H:=HA.out;clear HA;simp only[Azb.l0] at H;replace H:=iD H;rcases H with⟨f4,H⟩|⟨f4,H⟩
        ·obtain⟨f5,H⟩:=iN H;replace H:=iD H;rcases H with⟨f6,H⟩|⟨f6,H⟩
         ·obtain⟨rfl,rfl⟩:=q2 H;obtain⟨f7,f9,g4,g5,g6⟩:=aI b5.out e8;cases f9;go_wp2
          go_ret2
          exact⟨sD,dR⟩
         ·by_cases g7:(rd l1 e8) > 1125899906842624
          ·rw[if_pos g7] at H;have g8:decide (1125899906842624 < (rd l1 e8))=true:=dE g7;clear g7;obtain⟨rfl,rfl⟩:=q2 H;obtain⟨f7,f9,g4,g5,g6⟩:=aI b5.out e8;cases f9;obtain⟨g9,j2,j3,j5,j9⟩:=aI b5.out e8;obtain rfl:f7=g9:=(by injection j2);go_wp2
           go_ret2
           exact⟨sD,dR⟩
          ·rw[if_neg g7] at H;have g8:decide (1125899906842624 < (rd l1 e8))=false:=decide_eq_false g7;clear g7;have H':=aM H;clear H;obtain⟨f7,f9,g4,g5,g6⟩:=aI b5.out e8;cases f9;obtain⟨g9,j2,j3,j5,j9⟩:=aI b5.out e8;obtain rfl:f7=g9:=(by injection j2);go_wp2
           go_roundg k2
           case measure=>have:=d3.out;have:=f2.out;omega
           case rel=>exact⟨(wrap64 (e8+1)),sD,H',⟨by have:=d3.out;have:=f2.out;omega⟩,dR⟩
        ·have H':=aM H;clear H;go_wp2
         go_loopg [7,8] k2 (fun kq l5 l6 w'=>∃ (l7:Int) (l8:Int),l5=.int .i64 l7∧l6=.int .i64 l8∧Aside0 (Azb.l1 kq a5 l1 l7 l8=some (a8,a9))∧Aside0 (kq≤k2)∧Drawn0 w w')
         case atStart=>exact⟨(0),(0),sD,sD,H',⟨Nat.le_refl _⟩,dR⟩
         case round =>
          clear H';try clear a7
          obtain⟨l7,l8,rfl,rfl,HA,l9,⟨m0,rfl⟩⟩:=hrel;cases gk with
          | zero=>exact absurd HA.out (by simp [Azb.l1])
          | succ k3 =>
           have H:=HA.out;clear HA;simp only[Azb.l1] at H;replace H:=iD H;rcases H with⟨m5,H⟩|⟨m5,H⟩
           ·obtain⟨m6,H⟩:=iN H;have H':=aM H;clear H;obtain⟨m7,m8,m9,n0,n1⟩:=aI b5.out l8;cases m8;go_wp2
            go_roundg k3
            case measure=>have:=d3.out;have:=f2.out;have:=l9.out;omega
            case rel=>exact⟨(wrap64 (l7+(rd l1 l8))),(wrap64 (l8+1)),sD,sD,H',⟨by have:=d3.out;have:=f2.out;have:=l9.out;omega⟩,dR⟩
           ·by_cases n2:l7 > 1125899906842624
            ·rw[if_pos n2] at H;have n3:decide (1125899906842624 < l7)=true:=dE n2;clear n2;obtain⟨rfl,rfl⟩:=q2 H;go_wp2
             go_ret2
             exact⟨sD,dR⟩
            ·rw[if_neg n2] at H;have n3:decide (1125899906842624 < l7)=false:=decide_eq_false n2;clear n2;replace H:=iE H;rcases H with⟨n5,n6,H⟩|⟨n4,n5,n6,H⟩
             ·replace H:=iE H;rcases H with⟨n8,n9,H⟩|⟨n7,n8,n9,H⟩
              ·obtain⟨rfl,rfl⟩:=q2 H;go_wp2
               go_ret2
               exact⟨sD,dR⟩
              ·obtain⟨rfl,rfl⟩:=q2 H;go_wp2
               go_ret2
               exact⟨sD,dR⟩
             ·obtain⟨rfl,rfl⟩:=q2 H;go_wp2
              go_ret2
              exact⟨sD,dR⟩


mutual
def Azf.l0:Nat→Int→Int→Int→Int→Int→Int→Option (Int × Int)
 | 0,_,_,_,_,_,_=>none
 | k+1,x0,x1,x2,x8,x9,x10=>if x10≥0 then(if 0≤x10 then(if(Go.bits .and .i64 (shr .i64 x1 x10) 1)=1 then(Azf.j1 k x0 x1 x2 (wrap64 (2 * x8)) (wrap64 ((wrap64 (2 * x9))+x0)) x10) else(Azf.j1 k x0 x1 x2 (wrap64 (2 * x8)) (wrap64 (2 * x9)) x10)) else(none)) else(some (x8,x9))
def Azf.j1:Nat→Int→Int→Int→Int→Int→Int→Option (Int × Int)
 | 0,_,_,_,_,_,_=>none
 | k+1,x0,x1,x2,x8,x9,x10=>Azf.l1 k x0 x1 x2 x8 x9 x10
def Azf.l1:Nat→Int→Int→Int→Int→Int→Int→Option (Int × Int)
 | 0,_,_,_,_,_,_=>none
 | k+1,x0,x1,x2,x8,x9,x10=>if x9≥x2 then(Azf.l1 k x0 x1 x2 (wrap64 (x8+1)) (wrap64 (x9 - x2)) x10) else(Azf.l0 k x0 x1 x2 x8 x9 (wrap64 (x10 - 1)))
end
def Azf.f (k:Nat) (a0:Int) (a1:Int) (a2:Int):Option (Int × Int):=Azf.l0 k a0 a1 a2 0 0 50
theorem Azf.mono_l:∀ k,(∀ a5 a6 a7 a8 a9 b3,LeO (Azf.l0 k a5 a6 a7 a8 a9 b3) (Azf.l0 (k+1) a5 a6 a7 a8 a9 b3))∧(∀ a5 a6 a7 a8 a9 b3,LeO (Azf.j1 k a5 a6 a7 a8 a9 b3) (Azf.j1 (k+1) a5 a6 a7 a8 a9 b3))∧(∀ a5 a6 a7 a8 a9 b3,LeO (Azf.l1 k a5 a6 a7 a8 a9 b3) (Azf.l1 (k+1) a5 a6 a7 a8 a9 b3))
 | 0=>⟨fun _ _ _ _ _ _ r h=>by simp [Azf.l0] at h,fun _ _ _ _ _ _ r h=>by simp [Azf.j1] at h,fun _ _ _ _ _ _ r h=>by simp [Azf.l1] at h⟩
 | k+1=>by
  obtain⟨ih0,ih1,ih2⟩:=Azf.mono_l k;refine⟨?_,?_,?_⟩
  ·intro a5 a6 a7 a8 a9 b3;unfold Azf.l0;exact mM
  ·intro a5 a6 a7 a8 a9 b3;unfold Azf.j1;exact mM
  ·intro a5 a6 a7 a8 a9 b3;unfold Azf.l1;exact mM
theorem Azf.mono:∀ a5 a6 a7 k,LeO (Azf.f k a5 a6 a7) (Azf.f (k+1) a5 a6 a7):=by
 intro a5 a6 a7 k;obtain⟨ih0,ih1,ih2⟩:=Azf.mono_l k;unfold Azf.f;exact mM
theorem Azf.calls (k:Nat) (a5:Int) (a6:Int) (a7:Int) (a8:Int) (a9:Int) (w:World) (h:Azf.f k a5 a6 a7=some (a8,a9)) :
  Calls Try.prog 19 #[.int .i64 a5,.int .i64 a6,.int .i64 a7] w fun e w'=>e=.returned (.tuple #[.int .i64 a8,.int .i64 a9])∧Drawn0 w w':=by
 have H:(Azf.l0 k a5 a6 a7 0 0 50)=some (a8,a9):=h;clear h;have H':=aM H;clear H;go_enter Try.func19,Try.ntmps19
 go_wp2
 go_loopg [8,9,10] k (fun kq b3 b4 b5 w'=>∃ (b6:Int) (b7:Int) (b8:Int),b3=.int .i64 b6∧b4=.int .i64 b7∧b5=.int .i64 b8∧Aside0 (Azf.l0 kq a5 a6 a7 b6 b7 b8=some (a8,a9))∧Aside0 (kq≤k)∧Drawn0 w w')
 case atStart=>exact⟨(0),(0),(50),sD,sD,sD,H',⟨Nat.le_refl _⟩,dR⟩
 case round =>
  clear H';try clear b9
  obtain⟨b6,b7,b8,rfl,rfl,rfl,HA,d0,⟨d3,rfl⟩⟩:=hrel;cases gk with
  | zero=>exact absurd HA.out (by simp [Azf.l0])
  | succ k1 =>
   have H:=HA.out;clear HA;simp only[Azf.l0] at H;by_cases c4:b8≥0
   ·rw[if_pos c4] at H;have d4:decide (0≤b8)=true:=dE c4;clear c4;obtain⟨c5,H⟩:=iO H;have d5:=eq_true c5;have d6:decide (0≤b8)=true:=dE c5;clear c5;obtain⟨d7,d8⟩:∃ j_:Int,(shr .i64 a6 b8)=j_:=⟨_,rfl⟩;replace H:(if(Go.bits .and .i64 (d7) 1)=1 then(Azf.j1 k1 a5 a6 a7 (wrap64 (2 * b6)) (wrap64 ((wrap64 (2 * b7))+a5)) b8) else(Azf.j1 k1 a5 a6 a7 (wrap64 (2 * b6)) (wrap64 (2 * b7)) b8))=some (a8,a9):=by first|(rw[d8] at H;exact H)|(simp only[d8] at H ⊢;exact H)
    have d9:(a6 / 2 ^ min b8.toNat 64)=d7:=d8;have e0:b8≤64→(a6 / 2 ^ b8.toNat)=d7:=shr_small d8;have e8:=aM H;clear H;go_upto_if 23 with (fail)
    go_cut [9] (fun b4 wc=>∃ (kq:Nat) (f2:Int),b4=.int .i64 f2∧Aside0 (Azf.j1 kq a5 a6 a7 (wrap64 (2 * b6)) f2 b8=some (a8,a9))∧Aside0 (kq≤k1)∧Drawn0 w wc)
    case first =>
     have H:=e8.out;clear e8;replace H:=iE H;rcases H with⟨f3,f4,H⟩|⟨c8,f3,f4,H⟩
     ·(first|rw[f3]|(simp only[i64_w,i32_w];rw[f3])|skip)
      have H':=aM H;clear H;go_wp2
      go_meet
      case rel=>exact⟨_,(wrap64 ((wrap64 (2 * b7))+a5)),sD,H',⟨by have:=d0.out;first|omega|exact Nat.le_refl _⟩,dR⟩
     ·(first|rw[f3]|(simp only[i64_w,i32_w];rw[f3])|skip)
      have H':=aM H;clear H;go_wp2
      go_meet
      case rel=>exact⟨_,(wrap64 (2 * b7)),sD,H',⟨by have:=d0.out;first|omega|exact Nat.le_refl _⟩,dR⟩
    case rest =>
     clear e8;try clear b9
     obtain⟨kq,f2,rfl,HA,f5,⟨mc6,rfl⟩⟩:=hcut;cases kq with
     | zero=>exact absurd HA.out (by simp [Azf.j1])
     | succ f6 =>
      have H:=HA.out;clear HA;simp only[Azf.j1] at H;have H':=aM H;clear H;go_wp2
      go_loopg [8,9] f6 (fun kq b3 b4 w'=>∃ (f7:Int) (f9:Int),b3=.int .i64 f7∧b4=.int .i64 f9∧Aside0 (Azf.l1 kq a5 a6 a7 f7 f9 b8=some (a8,a9))∧Aside0 (kq≤f6)∧Drawn0 w w')
      case atStart=>exact⟨((wrap64 (2 * b6))),(f2),sD,sD,H',⟨Nat.le_refl _⟩,dR⟩
      case round =>
       clear H';try clear b9
       obtain⟨f7,f9,rfl,rfl,HA,g4,⟨g5,rfl⟩⟩:=hrel;cases gk with
       | zero=>exact absurd HA.out (by simp [Azf.l1])
       | succ k3 =>
        have H:=HA.out;clear HA;simp only[Azf.l1] at H;by_cases c9:f9≥a7
        ·rw[if_pos c9] at H;have g6:decide (a7≤f9)=true:=dE c9;clear c9;have H':=aM H;clear H;go_wp2
         go_roundg k3
         case measure=>have:=d0.out;have:=f5.out;have:=g4.out;omega
         case rel=>exact⟨(wrap64 (f7+1)),(wrap64 (f9 - a7)),sD,sD,H',⟨by have:=d0.out;have:=f5.out;have:=g4.out;omega⟩,dR⟩
        ·rw[if_neg c9] at H;have g6:decide (a7≤f9)=false:=decide_eq_false c9;clear c9;have H':=aM H;clear H;go_wp2
         go_roundg k3
         case measure=>have:=d0.out;have:=f5.out;have:=g4.out;omega
         case rel=>exact⟨(f7),(f9),(wrap64 (b8 - 1)),sD,sD,sD,H',⟨by have:=d0.out;have:=f5.out;have:=g4.out;omega⟩,dR⟩
   ·rw[if_neg c4] at H;have d4:decide (0≤b8)=false:=decide_eq_false c4;clear c4;obtain⟨rfl,rfl⟩:=q2 H;go_wp2
    go_ret2
    exact⟨sD,dR⟩


mutual
def Azm.l0:Nat→Int→List Int→Int→List Int→Int→List Int→Int→Option (List Int × Int)
 | 0,_,_,_,_,_,_,_=>none
 | k+1,x0,x1,x6,x8,x9,x10,x11=>if x11 < (x1.length:Int) then(if 0≤x11 then((Azf.f k (rd x1 x11) x0 x6).bind fun bt250=>(if x11 < (x8.length:Int) then((some (x8.set (x11:Int).toNat bt250.1:List Int)).bind fun y252=>(if x11 < (x10.length:Int) then(Azm.l0 k x0 x1 x6 y252 (wrap64 (x9 - (rd y252 x11))) (x10.set (x11:Int).toNat bt250.2) (wrap64 (x11+1))) else(none))) else(none))) else(none)) else(Azm.l1 k x8 x9 x10)
def Azm.l1:Nat→List Int→Int→List Int→Option (List Int × Int)
 | 0,_,_,_=>none
 | k+1,x8,x9,x10=>if x9 > 0 then(Azm.l2 k x8 x9 x10 0 1) else(some (x8,0))
def Azm.l2:Nat→List Int→Int→List Int→Int→Int→Option (List Int × Int)
 | 0,_,_,_,_,_=>none
 | k+1,x8,x9,x10,x12,x13=>if x13 < (x10.length:Int) then(if 0≤x13 then(if 0≤x12 then(if x12 < (x10.length:Int) then(if(rd x10 x13) > (rd x10 x12) then(Azm.l2 k x8 x9 x10 x13 (wrap64 (x13+1))) else(Azm.l2 k x8 x9 x10 x12 (wrap64 (x13+1)))) else(none)) else(none)) else(none)) else(if 0≤x12 then(if x12 < (x8.length:Int) then(if x12 < (x10.length:Int) then(Azm.l1 k (x8.set (x12:Int).toNat (wrap64 ((rd x8 x12)+1))) (wrap64 (x9 - 1)) (x10.set (x12:Int).toNat (-1))) else(none)) else(none)) else(none))
end
def Azm.f (k:Nat) (a0:Int) (l1:List Int):Option (List Int × Int):=(Azb.f k a0 l1).bind fun bt241=>(if bt241.2=0 then(if 0≤(l1.length:Int) then(if((l1.length:Int):Int).toNat≤35184372088832 then((some (List.replicate ((l1.length:Int):Int).toNat 0:List Int)).bind fun y243=>(if bt241.1=0 then(some (y243,0)) else(Azm.l0 k a0 l1 bt241.1 y243 a0 (List.replicate ((l1.length:Int):Int).toNat 0) 0))) else(none)) else(none)) else(some (([]:List Int),bt241.2)))
theorem Azm.mono_l:∀ k,(∀ a5 a6 a7 a8 a9 b3 b4,LeO (Azm.l0 k a5 a6 a7 a8 a9 b3 b4) (Azm.l0 (k+1) a5 a6 a7 a8 a9 b3 b4))∧(∀ a5 a6 a7,LeO (Azm.l1 k a5 a6 a7) (Azm.l1 (k+1) a5 a6 a7))∧(∀ a5 a6 a7 a8 a9,LeO (Azm.l2 k a5 a6 a7 a8 a9) (Azm.l2 (k+1) a5 a6 a7 a8 a9))
 | 0=>⟨fun _ _ _ _ _ _ _ r h=>by simp [Azm.l0] at h,fun _ _ _ r h=>by simp [Azm.l1] at h,fun _ _ _ _ _ r h=>by simp [Azm.l2] at h⟩
 | k+1=>by
  obtain⟨ih0,ih1,ih2⟩:=Azm.mono_l k;have i0:=@Azf.mono;have i1:=@Azb.mono;refine⟨?_,?_,?_⟩
  ·intro a5 a6 a7 a8 a9 b3 b4;unfold Azm.l0;exact mM
  ·intro a5 a6 a7;unfold Azm.l1;exact mM
  ·intro a5 a6 a7 a8 a9;unfold Azm.l2;exact mM
theorem Azm.mono:∀ a5 a6 k,LeO (Azm.f k a5 a6) (Azm.f (k+1) a5 a6):=by
 intro a5 a6 k;obtain⟨ih0,ih1,ih2⟩:=Azm.mono_l k;unfold Azm.f;have i0:=@Azf.mono;have i1:=@Azb.mono;exact mM
theorem Azm.calls (k:Nat) (a5:Int) (a6:Option Addr) (a7:Nat) (l1:List Int) (a8:List Int) (a9:Int) (w:World) (b3:cI w a6 l1) (b4:l1.length≤a7) (h:Azm.f k a5 l1=some (a8,a9)) :
  Calls Try.prog 10 #[.int .i64 a5,.slice a6 l1.length a7] w fun e w'=>∃ v0_:Value,e=.returned (.tuple #[v0_,.int .i64 a9])∧rI w' w (fun _=>True) v0_ a8∧bw w w':=by
 have b5:=aM b3;have b6:=aM b4;clear b3 b4;have HB:=aM (Below.refl w.heap.size w);have H:((Azb.f k a5 l1).bind fun b7=>(if b7.2=0 then(if 0≤(l1.length:Int) then(if((l1.length:Int):Int).toNat≤35184372088832 then((some (List.replicate ((l1.length:Int):Int).toNat 0:List Int)).bind fun b8=>(if b7.1=0 then(some (b8,0)) else(Azm.l0 k a5 l1 b7.1 b8 a5 (List.replicate ((l1.length:Int):Int).toNat 0) 0))) else(none)) else(none)) else(some (([]:List Int),b7.2))))=some (a8,a9):=h
 clear h;obtain⟨⟨b9,d0⟩,d3,H⟩:=bT H;(try dsimp only at H);by_cases c4:d0=0
 ·rw[if_pos c4] at H;obtain⟨d4,d5⟩:=bE c4;clear c4;obtain⟨c5,H⟩:=iO H;have d6:=eq_true c5;have d7:decide (0≤(l1.length:Int))=true:=dE c5;clear c5;obtain⟨c6,H⟩:=iO H;have d8:=eq_true c6;have d9:decide (((l1.length:Int):Int).toNat≤35184372088832)=true:=dE c6;clear c6;obtain⟨b8,e0⟩:∃ y_:List Int,y_=(List.replicate ((l1.length:Int):Int).toNat 0):=⟨_,rfl⟩;replace H:(if b9=0 then(some (b8,0)) else(Azm.l0 k a5 l1 b9 b8 a5 (List.replicate ((l1.length:Int):Int).toNat 0) 0))=some (a8,a9):=yE e0 H
  have e8:=aM e0;clear e0;by_cases c7:b9=0
  ·rw[if_pos c7] at H;obtain⟨f2,f3⟩:=bE c7;clear c7;obtain⟨rfl,rfl⟩:=q2 H;go_enter Try.func10,Try.ntmps10
   have fl_:True:=trivial;repeat((first|clear fl_|go_quiet (first|(go_at_call 18;(with_reducible refine(Azb.calls k a5 _ _ l1 b9 d0 _ ?_ ?_ d3.out).mono ?_);exact cX b5.out;exact b6.out;rintro e w' ⟨rfl,⟨nd,rfl⟩⟩;(try exact dD))|((with_reducible refine gate_dst (N:=25) rfl ?_);refine Kd.R_make (Kd.int .i64) _ 3 rfl (N:=25) rfl 22 _ _ rfl (l1.length:Int) rfl rfl Try.underlying22 (.int .i64 0) 8 info3 rfl (by decide) (by omega) 0 (ok:=fun _=>True) (okp:=fun _=>True) rfl (fun _ hk=>hk) trivial (oE aS) (Nat.le_trans (Nat.mul_le_mul_right _ (oE aS:(l1.length:Int).toNat≤35184372088832)) (by omega)) (Below.refl _ _) (Nat.le_refl _) ?_;intro f4 f5 f6 hb hg_ hnew_;clear hg_ hnew_;replace f6:=rY e8 f6;have f7:=rL f6;replace HB:=bB hb;clear hb f6)));go_wp2_with (first|(go_at_call 18;(with_reducible refine(Azb.calls k a5 _ _ l1 b9 d0 _ ?_ ?_ d3.out).mono ?_);exact cX b5.out;exact b6.out;rintro e w' ⟨rfl,⟨nd,rfl⟩⟩;(try exact dD))|((with_reducible refine gate_dst (N:=25) rfl ?_);refine Kd.R_make (Kd.int .i64) _ 3 rfl (N:=25) rfl 22 _ _ rfl (l1.length:Int) rfl rfl Try.underlying22 (.int .i64 0) 8 info3 rfl (by decide) (by omega) 0 (ok:=fun _=>True) (okp:=fun _=>True) rfl (fun _ hk=>hk) trivial (oE aS) (Nat.le_trans (Nat.mul_le_mul_right _ (oE aS:(l1.length:Int).toNat≤35184372088832)) (by omega)) (Below.refl _ _) (Nat.le_refl _) ?_;intro f4 f5 f6 hb hg_ hnew_;clear hg_ hnew_;replace f6:=rY e8 f6;have f7:=rL f6;replace HB:=bB hb;clear hb f6)))
   go_ret2
   exact⟨_,eW,rX f7.out,pB⟩
  ·rw[if_neg c7] at H;obtain⟨f2,f3⟩:=bI c7;obtain⟨f9,g4⟩:∃ y_:List Int,y_=(List.replicate ((l1.length:Int):Int).toNat 0):=⟨_,rfl⟩;replace H:(Azm.l0 k a5 l1 b9 b8 a5 f9 0)=some (a8,a9):=yE g4 H
   have g5:=aM g4;clear g4;have H':=aM H;clear H;go_enter Try.func10,Try.ntmps10
   have fl_:True:=trivial;repeat((first|clear fl_|go_quiet (first|(go_at_call 18;(with_reducible refine(Azb.calls k a5 _ _ l1 b9 d0 _ ?_ ?_ d3.out).mono ?_);exact cX b5.out;exact b6.out;rintro e w' ⟨rfl,⟨nd,rfl⟩⟩;(try exact dD))|((with_reducible refine gate_dst (N:=25) rfl ?_);refine Kd.R_make (Kd.int .i64) _ 3 rfl (N:=25) rfl 22 _ _ rfl (l1.length:Int) rfl rfl Try.underlying22 (.int .i64 0) 8 info3 rfl (by decide) (by omega) 0 (ok:=fun _=>True) (okp:=fun _=>True) rfl (fun _ hk=>hk) trivial (oE aS) (Nat.le_trans (Nat.mul_le_mul_right _ (oE aS:(l1.length:Int).toNat≤35184372088832)) (by omega)) (Below.refl _ _) (Nat.le_refl _) ?_;intro f4 g6 g7 hb hg_ hnew_;clear hg_ hnew_;replace g7:=rY e8 g7;have f7:=rL g7;replace HB:=bB hb;clear hb g7)|((with_reducible refine gate_dst (N:=32) rfl ?_);refine Kd.R_make (Kd.int .i64) _ 3 rfl (N:=32) rfl 22 _ _ rfl (l1.length:Int) rfl rfl Try.underlying22 (.int .i64 0) 8 info3 rfl (by decide) (by omega) 0 (ok:=fun _=>True) (okp:=fun _=>True) rfl (fun _ hk=>hk) trivial (oE aS) (Nat.le_trans (Nat.mul_le_mul_right _ (oE aS:(l1.length:Int).toNat≤35184372088832)) (by omega)) (Below.refl _ _) (Nat.le_refl _) ?_;intro g8 g9 j2 hb hg_ hnew_;clear hg_ hnew_;replace j2:=rY g5 j2;have j3:=rL (rn j2 f7);replace f7:=rE f7 j2 hb;replace HB:=bB hb;clear hb j2)));go_wp2_with (first|(go_at_call 18;(with_reducible refine(Azb.calls k a5 _ _ l1 b9 d0 _ ?_ ?_ d3.out).mono ?_);exact cX b5.out;exact b6.out;rintro e w' ⟨rfl,⟨nd,rfl⟩⟩;(try exact dD))|((with_reducible refine gate_dst (N:=25) rfl ?_);refine Kd.R_make (Kd.int .i64) _ 3 rfl (N:=25) rfl 22 _ _ rfl (l1.length:Int) rfl rfl Try.underlying22 (.int .i64 0) 8 info3 rfl (by decide) (by omega) 0 (ok:=fun _=>True) (okp:=fun _=>True) rfl (fun _ hk=>hk) trivial (oE aS) (Nat.le_trans (Nat.mul_le_mul_right _ (oE aS:(l1.length:Int).toNat≤35184372088832)) (by omega)) (Below.refl _ _) (Nat.le_refl _) ?_;intro f4 g6 g7 hb hg_ hnew_;clear hg_ hnew_;replace g7:=rY e8 g7;have f7:=rL g7;replace HB:=bB hb;clear hb g7)|((with_reducible refine gate_dst (N:=32) rfl ?_);refine Kd.R_make (Kd.int .i64) _ 3 rfl (N:=32) rfl 22 _ _ rfl (l1.length:Int) rfl rfl Try.underlying22 (.int .i64 0) 8 info3 rfl (by decide) (by omega) 0 (ok:=fun _=>True) (okp:=fun _=>True) rfl (fun _ hk=>hk) trivial (oE aS) (Nat.le_trans (Nat.mul_le_mul_right _ (oE aS:(l1.length:Int).toNat≤35184372088832)) (by omega)) (Below.refl _ _) (Nat.le_refl _) ?_;intro g8 g9 j2 hb hg_ hnew_;clear hg_ hnew_;replace j2:=rY g5 j2;have j3:=rL (rn j2 f7);replace f7:=rE f7 j2 hb;replace HB:=bB hb;clear hb j2)))
   go_loopg [9,11] k (fun kq j5 j9 w'=>∃ (l5:List Int) (l6:Int) (l7:List Int) (l8:Int),j5=.int .i64 l6∧j9=.int .i64 l8∧Aside0 (Azm.l0 kq a5 l1 b9 l5 l6 l7 l8=some (a8,a9))∧Aside0 (kq≤k)∧Aside0 (rI w' w (oV g8) f4 l5)∧Aside0 (rI w' w (oV f4) g8 l7)∧Aside0 (bw w w'))
   case atStart=>exact⟨(b8),(a5),(f9),(0),sD,sD,H',⟨Nat.le_refl _⟩,⟨by exact rX (Kd.R_mono f7.out (fun _ hk=>hk.2))⟩,⟨by exact rX (Kd.R_mono j3.out (fun _ hk=>hk.2))⟩,⟨pB⟩⟩
   case round =>
    clear H';try clear a7
    obtain⟨l5,l6,l7,l8,rfl,rfl,HA,l9,m0,m4,HB⟩:=hrel;cases gk with
    | zero=>exact absurd HA.out (by simp [Azm.l0])
    | succ k1 =>
     have H:=HA.out;clear HA;simp only[Azm.l0] at H;by_cases m5:l8 < (l1.length:Int)
     ·rw[if_pos m5] at H;have m6:=dE m5;clear m5;obtain⟨m7,H⟩:=iN H;obtain⟨⟨m8,m9⟩,n0,H⟩:=bT H;(try dsimp only at H);obtain⟨n1,H⟩:=iN H;obtain⟨n2,n3⟩:∃ y_:List Int,y_=(l5.set (l8:Int).toNat m8):=⟨_,rfl⟩;replace H:(if l8 < (l7.length:Int) then(Azm.l0 k1 a5 l1 b9 n2 (wrap64 (l6 - (rd n2 l8))) (l7.set (l8:Int).toNat m9) (wrap64 (l8+1))) else(none))=some (a8,a9):=yE n3 H
      have n4:=aM n3;clear n3;obtain⟨n5,H⟩:=iN H;obtain⟨n6,n7⟩:∃ y_:List Int,y_=(l7.set (l8:Int).toNat m9):=⟨_,rfl⟩;replace H:(Azm.l0 k1 a5 l1 b9 n2 (wrap64 (l6 - (rd n2 l8))) n6 (wrap64 (l8+1)))=some (a8,a9):=yE n7 H
      have n8:=aM n7;clear n7;have H':=aM H;clear H;obtain⟨n9,o0,o1,o2,o3⟩:=aI b5.out l8;cases o0
      replace o1:=hB HB o1;have fl_:True:=trivial;repeat((first|clear fl_|go_quiet (first|(go_at_call 19;(with_reducible refine(Azf.calls k1 (rd l1 l8) a5 b9 m8 m9 _ n0.out).mono ?_);rintro e w' ⟨rfl,⟨nd,rfl⟩⟩;(try exact dD);have o4:0≤(l8:Int):=oE aS;have o5:(l8:Int) < ((l5.length:Int):Int):=oE aS;obtain⟨o6,o7,o8,o9,p0,p3,p4⟩:=Kd.R_form m0.out (by omega);(first|cases o8|(injection o8 with ea_ en_ ec_;(first|subst ea_|(injection ea_ with ea_;subst ea_));subst ec_;clear en_));have p7:=aM o9;have p8:=aM p4;clear o9 p0 p4;obtain⟨p9,r0⟩:=Kd.R_celln 0 m0.out (l8:Int) o4 o5;replace o4:=eq_true o4;replace o5:=eq_true o5;obtain⟨r4,hz21_⟩:=Kd.R_celln 0 m0.out (l8:Int) (oE aS) (oE aS);have r5:=Kd.R_putg m0.out (l8:Int) m8)|((with_reducible refine gate_store (t:=3) (p:=53) rfl ?_);(try(rw[drewN_self wr];generalize hq_:World.drewN wr _=wr;have n0_:=aM (Kd.R_at hq_ m0.out);have n1_:=aM (Kd.R_at hq_ m4.out);have n2_:=aM (below_at hq_ HB.out);clear hq_ m0 m4 HB;have m0:=n0_;have m4:=n1_;have HB:=n2_;clear n0_ n1_ n2_;(try(obtain⟨r4,hz21_⟩:=Kd.R_celln 0 m0.out (l8:Int) (oE aS) (oE aS)));(try(have r5:=Kd.R_putg m0.out (l8:Int) m8))));refine store_event (t:=3) (p:=53) (v:=?vo_w22) (w1:=(wr.setCell ⟨o6,(l8:Int).toNat,none⟩ (.int .i64 m8))) ?hg ?ho ?hn ?hr ?_;(case ho=>rfl);(case hg=>rfl);(case hn=>rfl);(case hr=>first|(go_simp;done)|(go_simp;rfl));intro r6 hw;have hg:wr.grownBy r6 (some o6):=(by rw[hw];exact r5.2);have hp_:rI r6 w (oV g8) (.slice (some ⟨o6,0,none⟩) l5.length o7) n2:=(by rw[hw,n4.out];exact r5.1);clear r5;replace m0:=aM (hp_);replace m4:=aM (Kd.R_after (v:=(.slice (some ⟨o6,0,none⟩) l5.length o7)) (v1:=(.slice (some ⟨o6,0,none⟩) l5.length o7)) (ok:=(fun _=>True)) (rX (Kd.R_mono m4.out (fun _ hk=>⟨trivial,hk⟩))) hg (.inl rfl));replace HB:=aM ((by rw[hw];exact below_set (HB.out) p7.out:bw w r6));clear hg hw hp_;have r7:0≤(l8:Int):=oE aS;have r8:(l8:Int) < ((l7.length:Int):Int):=oE aS;obtain⟨r9,t0,t1,t2,t3,t4,t5⟩:=Kd.R_form m4.out (by omega);(first|cases t1|(injection t1 with ea_ en_ ec_;(first|subst ea_|(injection ea_ with ea_;subst ea_));subst ec_;clear en_));have t6:=aM t2;have t7:=aM t5;clear t2 t3 t5;obtain⟨t8,t9⟩:=Kd.R_celln 0 m4.out (l8:Int) r7 r8;replace r7:=eq_true r7;replace r8:=eq_true r8;have n_:=aM (Kd.R_mono (ok':=(fun k_=>oN (some ⟨o6,0,none⟩) l5.length o7 k_)) m4.out (fun k_ hk=>hk.2));clear m4;have m4:=n_;clear n_;obtain⟨v2,hz23_⟩:=Kd.R_celln 0 m4.out (l8:Int) (oE aS) (oE aS);have v3:=Kd.R_putg m4.out (l8:Int) m9)|((with_reducible refine gate_store (t:=3) (p:=54) rfl ?_);(try(rw[drewN_self r6];generalize hq_:World.drewN r6 _=r6;have n0_:=aM (Kd.R_at hq_ m0.out);have n1_:=aM (Kd.R_at hq_ m4.out);have n2_:=aM (below_at hq_ HB.out);clear hq_ m0 m4 HB;have m0:=n0_;have m4:=n1_;have HB:=n2_;clear n0_ n1_ n2_;(try(have n_:=aM (Kd.R_mono (ok':=(fun k_=>oN (some ⟨o6,0,none⟩) l5.length o7 k_)) m4.out (fun k_ hk=>hk.2));clear m4;have m4:=n_;clear n_));(try(obtain⟨v2,hz23_⟩:=Kd.R_celln 0 m4.out (l8:Int) (oE aS) (oE aS)));(try(have v3:=Kd.R_putg m4.out (l8:Int) m9))));refine store_event (t:=3) (p:=54) (v:=?vo_w24) (w1:=(r6.setCell ⟨r9,(l8:Int).toNat,none⟩ (.int .i64 m9))) ?hg ?ho ?hn ?hr ?_;(case ho=>rfl);(case hg=>rfl);(case hn=>rfl);(case hr=>first|(go_simp;done)|(go_simp;rfl));intro z3 hw;have hg:r6.grownBy z3 (some r9):=(by rw[hw];exact v3.2);have hp_:rI z3 w (fun k_=>oN (some ⟨o6,0,none⟩) l5.length o7 k_) (.slice (some ⟨r9,0,none⟩) l7.length t0) n6:=(by rw[hw,n8.out];exact v3.1);clear v3;replace m0:=aM (Kd.R_after (v:=(.slice (some ⟨r9,0,none⟩) l7.length t0)) (v1:=(.slice (some ⟨r9,0,none⟩) l7.length t0)) (ok:=(fun _=>True)) (rX (Kd.R_mono m0.out (fun _ hk=>⟨trivial,hk⟩))) hg (.inl rfl));replace m4:=aM (hp_);replace HB:=aM ((by rw[hw];exact below_set (HB.out) t6.out:bw w z3));clear hg hw hp_;have z4:0≤(l8:Int):=oE aS;have z5:l8 < (n2.length:Int):=(by have h_:(l8:Int) < ((l5.length:Int):Int):=oE aS;first|(have e_:=(Kd.R_reads' m0.out).1;omega)|simpa only[n4.out,List.length_set] using h_);have ql254:((l8:Int) < ((l5.length:Int):Int))=True:=eq_true (oE aS);obtain⟨z6,z7,z8⟩:=Kd.at_int (Kd.R_reads' m0.out).2.2 l8 z4 z5;obtain rfl:(⟨o6,0,none⟩:Addr)=z6:=(by injection z7);(first|simp only[add_plain] at z8|simp only[add_at] at z8|simp only[Addr.add,Nat.zero_add] at z8|skip);replace z4:=eq_true z4;replace z5:=eq_true z5)));go_wp2_with (first|(go_at_call 19;(with_reducible refine(Azf.calls k1 (rd l1 l8) a5 b9 m8 m9 _ n0.out).mono ?_);rintro e w' ⟨rfl,⟨nd,rfl⟩⟩;(try exact dD);have o4:0≤(l8:Int):=oE aS;have o5:(l8:Int) < ((l5.length:Int):Int):=oE aS;obtain⟨o6,o7,o8,o9,p0,p3,p4⟩:=Kd.R_form m0.out (by omega);(first|cases o8|(injection o8 with ea_ en_ ec_;(first|subst ea_|(injection ea_ with ea_;subst ea_));subst ec_;clear en_));have p7:=aM o9;have p8:=aM p4;clear o9 p0 p4;obtain⟨p9,r0⟩:=Kd.R_celln 0 m0.out (l8:Int) o4 o5;replace o4:=eq_true o4;replace o5:=eq_true o5;obtain⟨r4,hz21_⟩:=Kd.R_celln 0 m0.out (l8:Int) (oE aS) (oE aS);have r5:=Kd.R_putg m0.out (l8:Int) m8)|((with_reducible refine gate_store (t:=3) (p:=53) rfl ?_);(try(rw[drewN_self wr];generalize hq_:World.drewN wr _=wr;have n0_:=aM (Kd.R_at hq_ m0.out);have n1_:=aM (Kd.R_at hq_ m4.out);have n2_:=aM (below_at hq_ HB.out);clear hq_ m0 m4 HB;have m0:=n0_;have m4:=n1_;have HB:=n2_;clear n0_ n1_ n2_;(try(obtain⟨r4,hz21_⟩:=Kd.R_celln 0 m0.out (l8:Int) (oE aS) (oE aS)));(try(have r5:=Kd.R_putg m0.out (l8:Int) m8))));refine store_event (t:=3) (p:=53) (v:=?vo_w22) (w1:=(wr.setCell ⟨o6,(l8:Int).toNat,none⟩ (.int .i64 m8))) ?hg ?ho ?hn ?hr ?_;(case ho=>rfl);(case hg=>rfl);(case hn=>rfl);(case hr=>first|(go_simp;done)|(go_simp;rfl));intro r6 hw;have hg:wr.grownBy r6 (some o6):=(by rw[hw];exact r5.2);have hp_:rI r6 w (oV g8) (.slice (some ⟨o6,0,none⟩) l5.length o7) n2:=(by rw[hw,n4.out];exact r5.1);clear r5;replace m0:=aM (hp_);replace m4:=aM (Kd.R_after (v:=(.slice (some ⟨o6,0,none⟩) l5.length o7)) (v1:=(.slice (some ⟨o6,0,none⟩) l5.length o7)) (ok:=(fun _=>True)) (rX (Kd.R_mono m4.out (fun _ hk=>⟨trivial,hk⟩))) hg (.inl rfl));replace HB:=aM ((by rw[hw];exact below_set (HB.out) p7.out:bw w r6));clear hg hw hp_;have r7:0≤(l8:Int):=oE aS;have r8:(l8:Int) < ((l7.length:Int):Int):=oE aS;obtain⟨r9,t0,t1,t2,t3,t4,t5⟩:=Kd.R_form m4.out (by omega);(first|cases t1|(injection t1 with ea_ en_ ec_;(first|subst ea_|(injection ea_ with ea_;subst ea_));subst ec_;clear en_));have t6:=aM t2;have t7:=aM t5;clear t2 t3 t5;obtain⟨t8,t9⟩:=Kd.R_celln 0 m4.out (l8:Int) r7 r8;replace r7:=eq_true r7;replace r8:=eq_true r8;have n_:=aM (Kd.R_mono (ok':=(fun k_=>oN (some ⟨o6,0,none⟩) l5.length o7 k_)) m4.out (fun k_ hk=>hk.2));clear m4;have m4:=n_;clear n_;obtain⟨v2,hz23_⟩:=Kd.R_celln 0 m4.out (l8:Int) (oE aS) (oE aS);have v3:=Kd.R_putg m4.out (l8:Int) m9)|((with_reducible refine gate_store (t:=3) (p:=54) rfl ?_);(try(rw[drewN_self r6];generalize hq_:World.drewN r6 _=r6;have n0_:=aM (Kd.R_at hq_ m0.out);have n1_:=aM (Kd.R_at hq_ m4.out);have n2_:=aM (below_at hq_ HB.out);clear hq_ m0 m4 HB;have m0:=n0_;have m4:=n1_;have HB:=n2_;clear n0_ n1_ n2_;(try(have n_:=aM (Kd.R_mono (ok':=(fun k_=>oN (some ⟨o6,0,none⟩) l5.length o7 k_)) m4.out (fun k_ hk=>hk.2));clear m4;have m4:=n_;clear n_));(try(obtain⟨v2,hz23_⟩:=Kd.R_celln 0 m4.out (l8:Int) (oE aS) (oE aS)));(try(have v3:=Kd.R_putg m4.out (l8:Int) m9))));refine store_event (t:=3) (p:=54) (v:=?vo_w24) (w1:=(r6.setCell ⟨r9,(l8:Int).toNat,none⟩ (.int .i64 m9))) ?hg ?ho ?hn ?hr ?_;(case ho=>rfl);(case hg=>rfl);(case hn=>rfl);(case hr=>first|(go_simp;done)|(go_simp;rfl));intro z3 hw;have hg:r6.grownBy z3 (some r9):=(by rw[hw];exact v3.2);have hp_:rI z3 w (fun k_=>oN (some ⟨o6,0,none⟩) l5.length o7 k_) (.slice (some ⟨r9,0,none⟩) l7.length t0) n6:=(by rw[hw,n8.out];exact v3.1);clear v3;replace m0:=aM (Kd.R_after (v:=(.slice (some ⟨r9,0,none⟩) l7.length t0)) (v1:=(.slice (some ⟨r9,0,none⟩) l7.length t0)) (ok:=(fun _=>True)) (rX (Kd.R_mono m0.out (fun _ hk=>⟨trivial,hk⟩))) hg (.inl rfl));replace m4:=aM (hp_);replace HB:=aM ((by rw[hw];exact below_set (HB.out) t6.out:bw w z3));clear hg hw hp_;have z4:0≤(l8:Int):=oE aS;have z5:l8 < (n2.length:Int):=(by have h_:(l8:Int) < ((l5.length:Int):Int):=oE aS;first|(have e_:=(Kd.R_reads' m0.out).1;omega)|simpa only[n4.out,List.length_set] using h_);have ql254:((l8:Int) < ((l5.length:Int):Int))=True:=eq_true (oE aS);obtain⟨z6,z7,z8⟩:=Kd.at_int (Kd.R_reads' m0.out).2.2 l8 z4 z5;obtain rfl:(⟨o6,0,none⟩:Addr)=z6:=(by injection z7);(first|simp only[add_plain] at z8|simp only[add_at] at z8|simp only[Addr.add,Nat.zero_add] at z8|skip);replace z4:=eq_true z4;replace z5:=eq_true z5)))
      go_roundg k1
      case measure=>have:=l9.out;omega
      case rel=>exact⟨(n2),(wrap64 (l6 - (rd n2 l8))),(n6),(wrap64 (l8+1)),sD,sD,H',⟨by have:=l9.out;omega⟩,⟨by exact rX (Kd.R_mono m0.out (fun _ hk=>hk.2))⟩,⟨rX m4.out⟩,⟨pB⟩⟩
     ·rw[if_neg m5] at H;have m6:decide (l8 < (l1.length:Int))=false:=decide_eq_false m5;clear m5;have H':=aM H;clear H;go_wp2
      repeat(go_quiet (fail);try go_wp2)
      go_loopg [9] k1 (fun kq j5 w'=>∃ (z9:List Int) (B0:Int) (B1:List Int),j5=.int .i64 B0∧Aside0 (Azm.l1 kq z9 B0 B1=some (a8,a9))∧Aside0 (kq≤k1)∧Aside0 (rI w' w (oV g8) f4 z9)∧Aside0 (rI w' w (oV f4) g8 B1)∧Aside0 (bw w w'))
      case atStart=>exact⟨(l5),(l6),(l7),sD,H',⟨Nat.le_refl _⟩,⟨rX m0.out⟩,⟨rX m4.out⟩,⟨pB⟩⟩
      case round =>
       clear H';try clear a7
       obtain⟨z9,B0,B1,rfl,HA,B2,m0,m4,HB⟩:=hrel;cases gk with
       | zero=>exact absurd HA.out (by simp [Azm.l1])
       | succ k2 =>
        have H:=HA.out;clear HA;simp only[Azm.l1] at H;by_cases B7:B0 > 0
        ·rw[if_pos B7] at H;have B8:decide (0 < B0)=true:=dE B7;clear B7;have H':=aM H;clear H;go_wp2
         repeat(go_quiet (fail);try go_wp2)
         go_loopg [12,13] k2 (fun kq C0 C1 w'=>∃ (C2:Int) (C3:Int),C0=.int .i64 C2∧C1=.int .i64 C3∧Aside0 (Azm.l2 kq z9 B0 B1 C2 C3=some (a8,a9))∧Aside0 (kq≤k2)∧Aside0 (rI w' w (oV g8) f4 z9)∧Aside0 (rI w' w (oV f4) g8 B1)∧Aside0 (bw w w'))
         case atStart=>exact⟨(0),(1),sD,sD,H',⟨Nat.le_refl _⟩,⟨rX m0.out⟩,⟨rX m4.out⟩,⟨pB⟩⟩
         case round =>
          clear H';try clear a7
          obtain⟨C2,C3,rfl,rfl,HA,C4,m0,m4,HB⟩:=hrel;cases gk with
          | zero=>exact absurd HA.out (by simp [Azm.l2])
          | succ k3 =>
           have H:=HA.out;clear HA;simp only[Azm.l2] at H;by_cases C5:C3 < (B1.length:Int)
           ·rw[if_pos C5] at H;have C6:=dE C5;clear C5;obtain⟨C7,H⟩:=iN H;obtain⟨C8,H⟩:=iN H;obtain⟨C9,H⟩:=iN H;by_cases D0:(rd B1 C3) > (rd B1 C2)
            ·rw[if_pos D0] at H;have D1:decide ((rd B1 C2) < (rd B1 C3))=true:=dE D0;clear D0;have H':=aM H;clear H;obtain⟨D2,D3,rfl⟩:=Kd.R_slice m4.out;obtain⟨D4,D5,D6,D7,D8⟩:=aI (Kd.R_reads' m4.out).2.2 C3;cases D5;obtain⟨D9,E0,E1,E2,E3⟩:=aI (Kd.R_reads' m4.out).2.2 C2;obtain rfl:D4=D9:=(by injection E0);go_wp2
             repeat(go_quiet (fail);try go_wp2)
             go_roundg k3
             case measure=>have:=l9.out;have:=B2.out;have:=C4.out;omega
             case rel=>exact⟨(C3),(wrap64 (C3+1)),sD,sD,H',⟨by have:=l9.out;have:=B2.out;have:=C4.out;omega⟩,⟨rX m0.out⟩,⟨rX m4.out⟩,⟨pB⟩⟩
            ·rw[if_neg D0] at H;have D1:decide ((rd B1 C2) < (rd B1 C3))=false:=decide_eq_false D0;clear D0;have H':=aM H;clear H;obtain⟨E4,E5,rfl⟩:=Kd.R_slice m4.out;obtain⟨D4,D5,D6,D7,D8⟩:=aI (Kd.R_reads' m4.out).2.2 C3;cases D5;obtain⟨D9,E0,E1,E2,E3⟩:=aI (Kd.R_reads' m4.out).2.2 C2;obtain rfl:D4=D9:=(by injection E0);go_wp2
             repeat(go_quiet (fail);try go_wp2)
             go_roundg k3
             case measure=>have:=l9.out;have:=B2.out;have:=C4.out;omega
             case rel=>exact⟨(C2),(wrap64 (C3+1)),sD,sD,H',⟨by have:=l9.out;have:=B2.out;have:=C4.out;omega⟩,⟨rX m0.out⟩,⟨rX m4.out⟩,⟨pB⟩⟩
           ·rw[if_neg C5] at H;have C6:decide (C3 < (B1.length:Int))=false:=decide_eq_false C5;clear C5;obtain⟨E6,H⟩:=iN H;obtain⟨E7,H⟩:=iN H;obtain⟨E8,E9⟩:∃ y_:List Int,y_=(z9.set (C2:Int).toNat (wrap64 ((rd z9 C2)+1))):=⟨_,rfl⟩;replace H:(if C2 < (B1.length:Int) then(Azm.l1 k3 E8 (wrap64 (B0 - 1)) (B1.set (C2:Int).toNat (-1))) else(none))=some (a8,a9):=yE E9 H
            have F0:=aM E9;clear E9;obtain⟨F1,H⟩:=iN H;obtain⟨F2,F3⟩:∃ y_:List Int,y_=(B1.set (C2:Int).toNat (-1)):=⟨_,rfl⟩;replace H:(Azm.l1 k3 E8 (wrap64 (B0 - 1)) F2)=some (a8,a9):=yE F3 H
            have F4:=aM F3;clear F3;have H':=aM H;clear H;obtain⟨F5,F6,rfl⟩:=Kd.R_slice m4.out;obtain⟨F7,F8,rfl⟩:=Kd.R_slice m0.out;obtain⟨F9,G0,G1,G2,G3⟩:=aI (Kd.R_reads' m0.out).2.2 C2;cases G0;have G4:0≤(C2:Int):=oE aS
            have G5:(C2:Int) < ((z9.length:Int):Int):=oE aS
            obtain⟨G6,G7,G8,G9,H0,H1,H2⟩:=Kd.R_form m0.out (by omega)
            (first|cases G8|(injection G8 with ea_ en_ ec_;(first|subst ea_|(injection ea_ with ea_;subst ea_));subst ec_;clear en_))
            have H3:=aM G9;have H4:=aM H2;clear G9 H0 H2;(first|simp only[add_plain] at G1|skip)
            obtain⟨H5,H6⟩:=Kd.R_celln 0 m0.out (C2:Int) G4 G5;replace G4:=eq_true G4;replace G5:=eq_true G5;have H7:=Kd.R_putg m0.out (C2:Int) (wrap64 ((rd z9 C2)+1));have fl_:True:=trivial;repeat((first|clear fl_|go_quiet (first|((with_reducible refine gate_store (t:=3) (p:=88) rfl ?_);(try(rw[drewN_self wr];generalize hq_:World.drewN wr _=wr;have n0_:=aM (Kd.R_at hq_ m0.out);have n1_:=aM (Kd.R_at hq_ m4.out);have n2_:=aM (below_at hq_ HB.out);clear hq_ m0 m4 HB;have m0:=n0_;have m4:=n1_;have HB:=n2_;clear n0_ n1_ n2_;(try(obtain⟨H5,H6⟩:=Kd.R_celln 0 m0.out (C2:Int) (of_eq_true G4) (of_eq_true G5)));(try(have H7:=Kd.R_putg m0.out (C2:Int) (wrap64 ((rd z9 C2)+1))))));refine store_event (t:=3) (p:=88) (v:=?vo_w41) (w1:=(wr.setCell ⟨G6,(C2:Int).toNat,none⟩ (.int .i64 (wrap64 ((rd z9 C2)+1))))) ?hg ?ho ?hn ?hr ?_;(case ho=>rfl);(case hg=>rfl);(case hn=>rfl);(case hr=>first|(go_simp;done)|(go_simp;rfl));intro H8 hw;have hg:wr.grownBy H8 (some G6):=(by rw[hw];exact H7.2);have hp_:rI H8 w (fun k_=>oN F5 B1.length F6 k_) (.slice (some ⟨G6,0,none⟩) z9.length F8) E8:=(by rw[hw,F0.out];exact H7.1);clear H7;replace m0:=aM (hp_);replace m4:=aM (Kd.R_after (v:=(.slice (some ⟨G6,0,none⟩) z9.length F8)) (v1:=(.slice (some ⟨G6,0,none⟩) z9.length F8)) (ok:=(fun _=>True)) (rX (Kd.R_mono m4.out (fun _ hk=>⟨trivial,hk⟩))) hg (.inl rfl));replace HB:=aM ((by rw[hw];exact below_set (HB.out) H3.out:bw w H8));clear hg hw hp_;have H9:0≤(C2:Int):=oE aS;have I0:(C2:Int) < ((B1.length:Int):Int):=oE aS;obtain⟨I1,I2,I3,I4,I5,I6,I7⟩:=Kd.R_form m4.out (by omega);(first|cases I3|(injection I3 with ea_ en_ ec_;(first|subst ea_|(injection ea_ with ea_;subst ea_));subst ec_;clear en_));have I8:=aM I4;have I9:=aM I7;clear I4 I5 I7;obtain⟨J0,J1⟩:=Kd.R_celln 0 m4.out (C2:Int) H9 I0;replace H9:=eq_true H9;replace I0:=eq_true I0;have n_:=aM (Kd.R_mono (ok':=(fun k_=>oN (some ⟨G6,0,none⟩) z9.length F8 k_)) m4.out (fun k_ hk=>hk.2));clear m4;have m4:=n_;clear n_;obtain⟨J2,hz42_⟩:=Kd.R_celln 0 m4.out (C2:Int) (oE aS) (oE aS);have J3:=Kd.R_putg m4.out (C2:Int) (-1))|((with_reducible refine gate_store (t:=3) (p:=91) rfl ?_);(try(rw[drewN_self H8];generalize hq_:World.drewN H8 _=H8;have n0_:=aM (Kd.R_at hq_ m0.out);have n1_:=aM (Kd.R_at hq_ m4.out);have n2_:=aM (below_at hq_ HB.out);clear hq_ m0 m4 HB;have m0:=n0_;have m4:=n1_;have HB:=n2_;clear n0_ n1_ n2_;(try(have n_:=aM (Kd.R_mono (ok':=(fun k_=>oN (some ⟨G6,0,none⟩) z9.length F8 k_)) m4.out (fun k_ hk=>hk.2));clear m4;have m4:=n_;clear n_));(try(obtain⟨J2,hz42_⟩:=Kd.R_celln 0 m4.out (C2:Int) (oE aS) (oE aS)));(try(have J3:=Kd.R_putg m4.out (C2:Int) (-1)))));refine store_event (t:=3) (p:=91) (v:=?vo_w43) (w1:=(H8.setCell ⟨I1,(C2:Int).toNat,none⟩ (.int .i64 (-1)))) ?hg ?ho ?hn ?hr ?_;(case ho=>rfl);(case hg=>rfl);(case hn=>rfl);(case hr=>first|(go_simp;done)|(go_simp;rfl));intro J4 hw;have hg:H8.grownBy J4 (some I1):=(by rw[hw];exact J3.2);have hp_:rI J4 w (fun k_=>oN (some ⟨G6,0,none⟩) z9.length F8 k_) (.slice (some ⟨I1,0,none⟩) B1.length F6) F2:=(by rw[hw,F4.out];exact J3.1);clear J3;replace m0:=aM (Kd.R_after (v:=(.slice (some ⟨I1,0,none⟩) B1.length F6)) (v1:=(.slice (some ⟨I1,0,none⟩) B1.length F6)) (ok:=(fun _=>True)) (rX (Kd.R_mono m0.out (fun _ hk=>⟨trivial,hk⟩))) hg (.inl rfl));replace m4:=aM (hp_);replace HB:=aM ((by rw[hw];exact below_set (HB.out) I8.out:bw w J4));clear hg hw hp_)));go_wp2_with (first|((with_reducible refine gate_store (t:=3) (p:=88) rfl ?_);(try(rw[drewN_self wr];generalize hq_:World.drewN wr _=wr;have n0_:=aM (Kd.R_at hq_ m0.out);have n1_:=aM (Kd.R_at hq_ m4.out);have n2_:=aM (below_at hq_ HB.out);clear hq_ m0 m4 HB;have m0:=n0_;have m4:=n1_;have HB:=n2_;clear n0_ n1_ n2_;(try(obtain⟨H5,H6⟩:=Kd.R_celln 0 m0.out (C2:Int) (of_eq_true G4) (of_eq_true G5)));(try(have H7:=Kd.R_putg m0.out (C2:Int) (wrap64 ((rd z9 C2)+1))))));refine store_event (t:=3) (p:=88) (v:=?vo_w41) (w1:=(wr.setCell ⟨G6,(C2:Int).toNat,none⟩ (.int .i64 (wrap64 ((rd z9 C2)+1))))) ?hg ?ho ?hn ?hr ?_;(case ho=>rfl);(case hg=>rfl);(case hn=>rfl);(case hr=>first|(go_simp;done)|(go_simp;rfl));intro H8 hw;have hg:wr.grownBy H8 (some G6):=(by rw[hw];exact H7.2);have hp_:rI H8 w (fun k_=>oN F5 B1.length F6 k_) (.slice (some ⟨G6,0,none⟩) z9.length F8) E8:=(by rw[hw,F0.out];exact H7.1);clear H7;replace m0:=aM (hp_);replace m4:=aM (Kd.R_after (v:=(.slice (some ⟨G6,0,none⟩) z9.length F8)) (v1:=(.slice (some ⟨G6,0,none⟩) z9.length F8)) (ok:=(fun _=>True)) (rX (Kd.R_mono m4.out (fun _ hk=>⟨trivial,hk⟩))) hg (.inl rfl));replace HB:=aM ((by rw[hw];exact below_set (HB.out) H3.out:bw w H8));clear hg hw hp_;have H9:0≤(C2:Int):=oE aS;have I0:(C2:Int) < ((B1.length:Int):Int):=oE aS;obtain⟨I1,I2,I3,I4,I5,I6,I7⟩:=Kd.R_form m4.out (by omega);(first|cases I3|(injection I3 with ea_ en_ ec_;(first|subst ea_|(injection ea_ with ea_;subst ea_));subst ec_;clear en_));have I8:=aM I4;have I9:=aM I7;clear I4 I5 I7;obtain⟨J0,J1⟩:=Kd.R_celln 0 m4.out (C2:Int) H9 I0;replace H9:=eq_true H9;replace I0:=eq_true I0;have n_:=aM (Kd.R_mono (ok':=(fun k_=>oN (some ⟨G6,0,none⟩) z9.length F8 k_)) m4.out (fun k_ hk=>hk.2));clear m4;have m4:=n_;clear n_;obtain⟨J2,hz42_⟩:=Kd.R_celln 0 m4.out (C2:Int) (oE aS) (oE aS);have J3:=Kd.R_putg m4.out (C2:Int) (-1))|((with_reducible refine gate_store (t:=3) (p:=91) rfl ?_);(try(rw[drewN_self H8];generalize hq_:World.drewN H8 _=H8;have n0_:=aM (Kd.R_at hq_ m0.out);have n1_:=aM (Kd.R_at hq_ m4.out);have n2_:=aM (below_at hq_ HB.out);clear hq_ m0 m4 HB;have m0:=n0_;have m4:=n1_;have HB:=n2_;clear n0_ n1_ n2_;(try(have n_:=aM (Kd.R_mono (ok':=(fun k_=>oN (some ⟨G6,0,none⟩) z9.length F8 k_)) m4.out (fun k_ hk=>hk.2));clear m4;have m4:=n_;clear n_));(try(obtain⟨J2,hz42_⟩:=Kd.R_celln 0 m4.out (C2:Int) (oE aS) (oE aS)));(try(have J3:=Kd.R_putg m4.out (C2:Int) (-1)))));refine store_event (t:=3) (p:=91) (v:=?vo_w43) (w1:=(H8.setCell ⟨I1,(C2:Int).toNat,none⟩ (.int .i64 (-1)))) ?hg ?ho ?hn ?hr ?_;(case ho=>rfl);(case hg=>rfl);(case hn=>rfl);(case hr=>first|(go_simp;done)|(go_simp;rfl));intro J4 hw;have hg:H8.grownBy J4 (some I1):=(by rw[hw];exact J3.2);have hp_:rI J4 w (fun k_=>oN (some ⟨G6,0,none⟩) z9.length F8 k_) (.slice (some ⟨I1,0,none⟩) B1.length F6) F2:=(by rw[hw,F4.out];exact J3.1);clear J3;replace m0:=aM (Kd.R_after (v:=(.slice (some ⟨I1,0,none⟩) B1.length F6)) (v1:=(.slice (some ⟨I1,0,none⟩) B1.length F6)) (ok:=(fun _=>True)) (rX (Kd.R_mono m0.out (fun _ hk=>⟨trivial,hk⟩))) hg (.inl rfl));replace m4:=aM (hp_);replace HB:=aM ((by rw[hw];exact below_set (HB.out) I8.out:bw w J4));clear hg hw hp_)))
            go_roundg k3
            case measure=>have:=l9.out;have:=B2.out;have:=C4.out;omega
            case rel=>exact⟨(E8),(wrap64 (B0 - 1)),(F2),sD,H',⟨by have:=l9.out;have:=B2.out;have:=C4.out;omega⟩,⟨by exact rX (Kd.R_mono m0.out (fun _ hk=>hk.2))⟩,⟨rX m4.out⟩,⟨pB⟩⟩
        ·rw[if_neg B7] at H;have B8:decide (0 < B0)=false:=decide_eq_false B7;clear B7;obtain⟨rfl,rfl⟩:=q2 H;go_wp2
         repeat(go_quiet (fail);try go_wp2)
         go_ret2
         exact⟨_,eW,by exact rX (Kd.R_mono m0.out (fun _ hk=>trivial)),pB⟩
 ·rw[if_neg c4] at H;obtain⟨d4,d5⟩:=bI c4;obtain⟨rfl,rfl⟩:=q2 H;go_enter Try.func10,Try.ntmps10
  have fl_:True:=trivial;repeat((first|clear fl_|go_quiet (first|(go_at_call 18;(with_reducible refine(Azb.calls k a5 _ _ l1 b9 d0 _ ?_ ?_ d3.out).mono ?_);exact cX b5.out;exact b6.out;rintro e w' ⟨rfl,⟨nd,rfl⟩⟩;(try exact dD))));go_wp2_with (first|(go_at_call 18;(with_reducible refine(Azb.calls k a5 _ _ l1 b9 d0 _ ?_ ?_ d3.out).mono ?_);exact cX b5.out;exact b6.out;rintro e w' ⟨rfl,⟨nd,rfl⟩⟩;(try exact dD))))
  go_ret2
  exact⟨_,eW,nK,pB⟩

end Go.Proofs.Ytblifmmcmngdnaa.Print
