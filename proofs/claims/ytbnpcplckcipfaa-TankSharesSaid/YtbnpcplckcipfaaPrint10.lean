import Derived.Test.YtbnpcplckcipfaaPrint0
import Derived.Test.YtbnpcplckcipfaaPrint4
import Derived.Test.YtbnpcplckcipfaaPrint9
namespace Go.Proofs.Ytbnpcplckcipfaa.Print
open Go.RowKit Go.Proofs.YtbnpcplckcipfaaW.PrintWords Go.Proofs.YtbnpcplckcipfaaW.PrintLast Go.Proofs.YtbnpcplckcipfaaW.PrintMore
attribute [local go_sem] max2_int min2_int max_two min_two max_three min_three max_four min_four
set_option linter.unusedVariables false
set_option maxRecDepth 100000
set_option maxHeartbeats 8000000
set_option linter.unusedSimpArgs false

def Ezm.f (k:Nat) (l0:List Int) (l1:List Int):Option (List Int × List Int):=(Dzw.f k l0 l1).bind fun t160=>(if t160 < 0 then((Gzk.f l0 (l0.length:Int)).bind fun t161=>((Bzx.f k t161).bind fun t164=>(some (([]:List Int),t164)))) else(if(l1.length:Int)=1 then(if 0 < (l1.length:Int) then((Dzv.f k l0 (rd l1 0)).bind fun bt168=>(some (bt168.1,bt168.2))) else(none)) else((Czb.f k l0 l1).bind fun bt174=>(some (bt174.1,bt174.2)))))
theorem Ezm.mono:∀ a6 a7 k,LeO (Ezm.f k a6 a7) (Ezm.f (k+1) a6 a7):=by
 intro a6 a7 k;unfold Ezm.f;have i0:=@Dzw.mono;have i1:=@Czb.mono;have i2:=@Dzv.mono;have i3:=@Bzx.mono;exact mM
theorem Ezm.calls (k:Nat) (a6:Option Addr) (a7:Nat) (l0:List Int) (a8:Option Addr) (a9:Nat) (l1:List Int) (b4:List Int) (b5:List Int) (w:World) (b6:cI w a6 l0) (b7:l0.length≤a7) (b8:cI w a8 l1) (b9:l1.length≤a9) (h:Ezm.f k l0 l1=some (b4,b5)) :
  Calls Try.prog 91 #[.slice a6 l0.length a7,.slice a8 l1.length a9] w fun e w'=>∃ v0_ v1_:Value,e=.returned (.tuple #[v0_,v1_])∧rI w' w (oV v1_) v0_ b4∧rI w' w (oV v0_) v1_ b5∧bw w w':=by
 have d6:=aM b6;have d7:=aM b7;clear b6 b7;have d8:=aM b8;have d9:=aM b9;clear b8 b9;have HB:=aM (Below.refl w.heap.size w);have H:((Dzw.f k l0 l1).bind fun e6=>(if e6 < 0 then((Gzk.f l0 (l0.length:Int)).bind fun e7=>((Bzx.f k e7).bind fun e8=>(some (([]:List Int),e8)))) else(if(l1.length:Int)=1 then(if 0 < (l1.length:Int) then((Dzv.f k l0 (rd l1 0)).bind fun e9=>(some (e9.1,e9.2))) else(none)) else((Czb.f k l0 l1).bind fun f3=>(some (f3.1,f3.2))))))=some (b4,b5):=h
 clear h;obtain⟨e6,f4,H⟩:=bT H;(try dsimp only at H);have f5:=aM H;clear H;go_enter Try.func91,Try.ntmps91
 go_upto_if 6 with (first|((with_reducible refine gc 98 rfl ?_);refine gC 98 (some 9) Try.func98 #[.slice a6 l0.length a7,.slice a8 l1.length a9] ?_;(with_reducible refine(Dzw.calls k _ _ l0 _ _ l1 e6 _ ?_ ?_ ?_ ?_ f4.out).mono ?_);exact cX d6.out;exact d7.out;exact cX d8.out;exact d9.out;rintro e w' ⟨rfl,⟨nd,rfl⟩⟩;refine⟨_,rfl,?_⟩))
 have H:=f5.out;clear f5;replace H:=iD H;rcases H with⟨f6,H⟩|⟨f6,H⟩
 ·(first|rw[f6]|(simp only[i64_w,i32_w];rw[f6])|skip)
  obtain⟨e7,f7,H⟩:=bT H;(try dsimp only at H);replace H:=bS H;obtain⟨e8,f8,H⟩:=H;replace H:(some (([]:List Int),e8))=some (b4,b5):=H;have f9:=aM f8;clear f8;obtain⟨rfl,rfl⟩:=q2 H;go_wp2_with (first|((with_reducible refine gc 93 rfl ?_);refine gC 93 (some 14) Try.func93 #[.slice a6 l0.length a7,.int .i64 (l0.length:Int)] ?_;(with_reducible refine(Gzk.calls _ _ l0 (l0.length:Int) e7 _ ?_ ?_ f7.out).mono ?_);exact cB d6;exact d7.out;rintro e g4 ⟨g5,rfl,g6,hb⟩;refine⟨_,rfl,?_⟩;have g7:=rL g6;replace HB:=bB hb;clear hb g6;obtain⟨g8,g9,rfl⟩:=Kd.R_slice g7.out)|((with_reducible refine gc 92 rfl ?_);refine gC 92 (some 15) Try.func92 #[.slice g8 e7.length g9] ?_;(with_reducible refine(Bzx.calls k (fun k_=>some k_=(.slice g8 e7.length g9:Value).ownBlock) (.slice g8 e7.length g9) e7 e8 w _ ?_ ?_ f9.out).mono ?_);exact pB;exact Kd.R_tight rfl g7.out;rintro e j3 ⟨j4,rfl,g6,hb,hkp⟩;refine⟨_,rfl,?_⟩;have j5:=aM (Kd.R_mono (ok':=fun k_=>True) g6 (fun k_ hk_=>trivial));replace HB:=aM (hb);clear g7 hb hkp g6))
  go_ret2
  exact⟨_,_,eW,nK,by exact rX (Kd.R_mono j5.out (fun _ hk=>(by simp [Value.ownBlock]))),pB⟩
 ·(first|rw[f6]|(simp only[i64_w,i32_w];rw[f6])|skip)
  replace H:=iE H;rcases H with⟨j7,j8,H⟩|⟨j6,j7,j8,H⟩
  ·obtain⟨j9,H⟩:=iO H;have l5:decide (0 < (l1.length:Int))=true:=dE j9;have l6:decide (0 < l1.length)=true:=dE (by omega)
   clear j9;replace H:=bS H;obtain⟨⟨l7,l8⟩,l9,H⟩:=H;replace H:(some (l7,l8))=some (b4,b5):=H;have m0:=aM l9;clear l9;obtain⟨rfl,rfl⟩:=q2 H;have m4:0≤(0:Int):=(by omega)
   have m5:0 < (l1.length:Int):=oE aS
   obtain⟨m6,m7,m8⟩:=Kd.at_int d8.out 0 m4 m5;cases m7
   have m9:(0 < l1.length)=True:=eq_true (by omega)
   (try rw[show((0:Int)).toNat=0 from rfl] at m8)
   (try rw[Addr.add_zero'] at m8)
   replace m8:=hB HB m8;replace m4:=eq_true m4;replace m5:=eq_true m5;go_wp2_with (first|((with_reducible refine gc 111 rfl ?_);refine gC 111 (some 24) Try.func111 #[.slice a6 l0.length a7,.int .i64 (rd l1 0)] ?_;(with_reducible refine(Dzv.calls k _ _ l0 (rd l1 0) l7 l8 _ ?_ ?_ m0.out).mono ?_);exact cB d6;exact d7.out;rintro e n0 ⟨n7,n8,rfl,g6,n9,hb⟩;refine⟨_,rfl,?_⟩;have o0:=rL g6;have o8:=rL n9;replace HB:=bB hb;clear hb g6 n9))
   go_ret2
   exact⟨_,_,eW,rX o0.out,rX o8.out,pB⟩
  ·replace H:=bS H;obtain⟨⟨o9,p0⟩,p4,H⟩:=H;replace H:(some (o9,p0))=some (b4,b5):=H;have p7:=aM p4;clear p4;obtain⟨rfl,rfl⟩:=q2 H;go_wp2_with (first|((with_reducible refine gc 112 rfl ?_);refine gC 112 (some 29) Try.func112 #[.slice a6 l0.length a7,.slice a8 l1.length a9] ?_;(with_reducible refine(Czb.calls k _ _ l0 _ _ l1 o9 p0 _ ?_ ?_ ?_ ?_ p7.out).mono ?_);exact cB d6;exact d7.out;exact cB d8;exact d9.out;rintro e p9 ⟨r5,r6,rfl,g6,n9,hb⟩;refine⟨_,rfl,?_⟩;have r7:=rL g6;have r8:=rL n9;replace HB:=bB hb;clear hb g6 n9))
   go_ret2
   exact⟨_,_,eW,rX r7.out,rX r8.out,pB⟩

def Dzb.l0:Nat→List Int→Int→Int→Option (Int)
 | 0,_,_,_=>none
 | k+1,x0,x3,x4=>if x4≥0 then(if 0≤x4 then(if x4 < (x0.length:Int) then(Dzb.l0 k x0 (wrap64 ((wrap64 (x3 * 1000000000))+(rd x0 x4))) (wrap64 (x4 - 1))) else(none)) else(none)) else(some x3)
def Dzb.f (k:Nat) (l0:List Int):Option (Int):=Dzb.l0 k l0 0 (wrap64 ((l0.length:Int) - 1))
theorem Dzb.mono_l:∀ k,(∀ a6 a7 a8,LeO (Dzb.l0 k a6 a7 a8) (Dzb.l0 (k+1) a6 a7 a8))
 | 0=>fun _ _ _ r h=>by simp [Dzb.l0] at h
 | k+1=>by
  have ih0:=Dzb.mono_l k
  ·intro a6 a7 a8;unfold Dzb.l0;exact mM
theorem Dzb.mono:∀ a6 k,LeO (Dzb.f k a6) (Dzb.f (k+1) a6):=by
 intro a6 k;have ih0:=Dzb.mono_l k;unfold Dzb.f;exact mM
theorem Dzb.calls (k:Nat) (a6:Option Addr) (a7:Nat) (l0:List Int) (r:Int) (w:World) (a8:cI w a6 l0) (a9:l0.length≤a7) (h:Dzb.f k l0=some r) :
  Calls Try.prog 94 #[.slice a6 l0.length a7] w fun e w'=>e=.returned (.int .i64 r)∧Drawn0 w w':=by
 have b4:=aM a8;have b5:=aM a9;clear a8 a9;have H:(Dzb.l0 k l0 0 (wrap64 ((l0.length:Int) - 1)))=some r:=h;clear h;have H':=aM H;clear H;go_enter Try.func94,Try.ntmps94
 go_wp2
 go_loopg [3,4] k (fun kq b6 b7 w'=>∃ (b8:Int) (b9:Int),b6=.int .i64 b8∧b7=.int .i64 b9∧Aside0 (Dzb.l0 kq l0 b8 b9=some r)∧Aside0 (kq≤k)∧Drawn0 w w')
 case atStart=>exact⟨(0),(wrap64 ((l0.length:Int) - 1)),sD,sD,H',⟨Nat.le_refl _⟩,dR⟩
 case round =>
  clear H';obtain⟨b8,b9,rfl,rfl,HA,d6,⟨d7,rfl⟩⟩:=hrel;cases gk with
  | zero=>exact absurd HA.out (by simp [Dzb.l0])
  | succ k1 =>
   have H:=HA.out;clear HA;simp only[Dzb.l0] at H;by_cases c2:b9≥0
   ·rw[if_pos c2] at H;have d8:decide (0≤b9)=true:=dE c2;clear c2;obtain⟨d9,H⟩:=iN H;obtain⟨e6,H⟩:=iN H;have H':=aM H;clear H;obtain⟨e7,e8,e9,f3,f4⟩:=aI b4.out b9;cases e8;go_wp2
    go_roundg k1
    case measure=>have:=d6.out;omega
    case rel=>exact⟨(wrap64 ((wrap64 (b8 * 1000000000))+(rd l0 b9))),(wrap64 (b9 - 1)),sD,sD,H',⟨by have:=d6.out;omega⟩,dR⟩
   ·rw[if_neg c2] at H;have d8:decide (0≤b9)=false:=decide_eq_false c2;clear c2;obtain rfl:=Option.some.inj H;go_wp2
    go_ret
    exact⟨sD,dR⟩

def Fzv.l0:Nat→Int→List Int→Option (List Int × Int)
 | 0,_,_=>none
 | k+1,x0,x4=>if x0 > 0 then(if x4.length < 17592186044416 then(Fzv.l0 k (wrap64 (Int.tdiv x0 1000000000)) (x4 ++ [Int.tmod x0 1000000000])) else(none)) else(some (x4,0))
def Fzv.f (k:Nat) (a0:Int):Option (List Int × Int):=if a0 < 0 then(some (([]:List Int),1)) else(Fzv.l0 k a0 ([]:List Int))
theorem Fzv.mono_l:∀ k,(∀ a6 a7,LeO (Fzv.l0 k a6 a7) (Fzv.l0 (k+1) a6 a7))
 | 0=>fun _ _ r h=>by simp [Fzv.l0] at h
 | k+1=>by
  have ih0:=Fzv.mono_l k
  ·intro a6 a7;unfold Fzv.l0;exact mM
theorem Fzv.mono:∀ a6 k,LeO (Fzv.f k a6) (Fzv.f (k+1) a6):=by
 intro a6 k;have ih0:=Fzv.mono_l k;unfold Fzv.f;exact mM
theorem Fzv.calls (k:Nat) (a6:Int) (a7:List Int) (a8:Int) (w:World) (h:Fzv.f k a6=some (a7,a8)) :
  Calls Try.prog 95 #[.int .i64 a6] w fun e w'=>∃ v0_:Value,e=.returned (.tuple #[v0_,.int .i64 a8])∧rI w' w (fun _=>True) v0_ a7∧bw w w':=by
 have HB:=aM (Below.refl w.heap.size w);have H:(if a6 < 0 then(some (([]:List Int),1)) else(Fzv.l0 k a6 ([]:List Int)))=some (a7,a8):=h
 clear h;replace H:=iD H;rcases H with⟨a9,H⟩|⟨a9,H⟩
 ·obtain⟨rfl,rfl⟩:=q2 H;go_enter Try.func95,Try.ntmps95
  go_wp2
  go_ret2
  exact⟨_,eW,nK,pB⟩
 ·have H':=aM H;clear H;go_enter Try.func95,Try.ntmps95
  go_wp2
  go_loopg [0,4] k (fun kq b4 b5 w'=>∃ (b6:Int) (b7:List Int),b4=.int .i64 b6∧Aside0 (Fzv.l0 kq b6 b7=some (a7,a8))∧Aside0 (kq≤k)∧Aside0 (rI w' w (fun _=>True) b5 b7)∧Aside0 (bw w w'))
  case atStart=>exact⟨(a6),(([]:List Int)),sD,H',⟨Nat.le_refl _⟩,⟨nK⟩,⟨pB⟩⟩
  case round =>
   clear H';try clear c2
   obtain⟨b6,b7,rfl,HA,b8,b9,HB⟩:=hrel;cases gk with
   | zero=>exact absurd HA.out (by simp [Fzv.l0])
   | succ k1 =>
    have H:=HA.out;clear HA;simp only[Fzv.l0] at H;by_cases c3:b6 > 0
    ·rw[if_pos c3] at H;have d6:decide (0 < b6)=true:=dE c3;clear c3;obtain⟨c4,H⟩:=iO H;have LMc4:=aM c4;clear c4;obtain⟨d7,d8⟩:∃ y_:List Int,y_=(b7 ++ [Int.tmod b6 1000000000]):=⟨_,rfl⟩;replace H:(Fzv.l0 k1 (wrap64 (Int.tdiv b6 1000000000)) d7)=some (a7,a8):=yE d8 H
     have d9:=aM d8;clear d8;have H':=aM H;clear H;go_wp2_with (first|((with_reducible refine gate_builtin (b:=.append) (xs:=#[.tmp 11,.tmp 14]) rfl ?_);at_builtin;refine Kd.R_append (Kd.int .i64) (w0:=w) w.heap.size rfl (.tmp 11) (.tmp 14) 31 3 (.int .i64 0) 8 rfl Try.underlying31 info3 rfl (by decide) (by omega) u4 b7 (Int.tmod b6 1000000000) [.int .i64 (Int.tmod b6 1000000000)] (fun _=>True) (fun _=>False) rfl rfl ?aP (fun _ hk=>hk.elim) ?aF ?aO ?aB ?aS ?aL ?_;(case aP=>exact rfl);(case aB=>exact pB);(case aF=>exact(fun _ _=>trivial));(case aO=>exact(rX b9.out));(case aS=>exact(below_size pB));(case aL=>have:=LMc4.out;omega);intro e6 e7 ho hb hg hat;rw[← d9.out] at ho;have e8:=aM (ho);replace HB:=aM (hb);clear b9 ho hb hg hat))
     go_roundg k1
     case measure=>have:=b8.out;omega
     case rel=>exact⟨(wrap64 (Int.tdiv b6 1000000000)),(d7),sD,H',⟨by have:=b8.out;omega⟩,⟨rX e8.out⟩,⟨pB⟩⟩
    ·rw[if_neg c3] at H;have d6:decide (0 < b6)=false:=decide_eq_false c3;clear c3;obtain⟨rfl,rfl⟩:=q2 H;go_wp2
     go_ret2
     exact⟨_,eW,rX b9.out,pB⟩


mutual
def Czv.j0:Nat→List Int→List Int→Bool→Option (List Int × Int)
 | 0,_,_,_=>none
 | k+1,x0,x1,x17=>if x17=true then(some (([]:List Int),3)) else(Czv.l0 k x0 x1)
def Czv.j2:Nat→List Int→List Int→Option (List Int × Int)
 | 0,_,_=>none
 | k+1,x0,x1=>if(x1.length:Int)=0 then((Gzk.f x0 (x0.length:Int)).bind fun t198=>((Bzx.f k t198).bind fun t201=>(some (t201,0)))) else((Dzb.f k x0).bind fun t204=>((Dzb.f k x1).bind fun t205=>(Czv.l1 k t204 t205)))
def Czv.l1:Nat→Int→Int→Option (List Int × Int)
 | 0,_,_=>none
 | k+1,x8,x9=>if x9 > 0 then(if x9=0 then(none) else(Czv.l1 k x9 (Int.tmod x8 x9))) else((Fzv.f k x8).bind fun bt206=>(some (bt206.1,bt206.2)))
def Czv.l0:Nat→List Int→List Int→Option (List Int × Int)
 | 0,_,_=>none
 | k+1,x0,x1=>if(x1.length:Int) > 0 then(if(x0.length:Int) > 2 then((Ezm.f k x0 x1).bind fun bt186=>(Czv.l0 k x1 bt186.2)) else(if(x1.length:Int) > 2 then((Ezm.f k x0 x1).bind fun bt192=>(Czv.l0 k x1 bt192.2)) else(Czv.j2 k x0 x1))) else(Czv.j2 k x0 x1)
end
def Czv.f (k:Nat) (l0:List Int) (l1:List Int):Option (List Int × Int):=(Azv.f k l0).bind fun t184=>(if t184=true then((Azv.f k l1).bind fun t185=>(Czv.j0 k l0 l1 (!t185))) else(Czv.j0 k l0 l1 true))
theorem Czv.mono_l:∀ k,(∀ a6 a7 a8,LeO (Czv.j0 k a6 a7 a8) (Czv.j0 (k+1) a6 a7 a8))∧(∀ a6 a7,LeO (Czv.j2 k a6 a7) (Czv.j2 (k+1) a6 a7))∧(∀ a6 a7,LeO (Czv.l1 k a6 a7) (Czv.l1 (k+1) a6 a7))∧(∀ a6 a7,LeO (Czv.l0 k a6 a7) (Czv.l0 (k+1) a6 a7))
 | 0=>⟨fun _ _ _ r h=>by simp [Czv.j0] at h,fun _ _ r h=>by simp [Czv.j2] at h,fun _ _ r h=>by simp [Czv.l1] at h,fun _ _ r h=>by simp [Czv.l0] at h⟩
 | k+1=>by
  obtain⟨ih0,ih1,ih2,ih3⟩:=Czv.mono_l k;have i0:=@Fzv.mono;have i1:=@Azv.mono;have i2:=@Ezm.mono;have i3:=@Dzb.mono;have i4:=@Bzx.mono;refine⟨?_,?_,?_,?_⟩
  ·intro a6 a7 a8;unfold Czv.j0;exact mM
  ·intro a6 a7;unfold Czv.j2;exact mM
  ·intro a6 a7;unfold Czv.l1;exact mM
  ·intro a6 a7;unfold Czv.l0;exact mM
theorem Czv.mono:∀ a6 a7 k,LeO (Czv.f k a6 a7) (Czv.f (k+1) a6 a7):=by
 intro a6 a7 k;obtain⟨ih0,ih1,ih2,ih3⟩:=Czv.mono_l k;unfold Czv.f;have i0:=@Fzv.mono;have i1:=@Azv.mono;have i2:=@Ezm.mono;have i3:=@Dzb.mono;have i4:=@Bzx.mono;exact mM
theorem Czv.calls (k:Nat) (a6:Nat→Prop) (a7:Option Addr) (a8:Nat) (l0:List Int) (a9:Nat→Prop) (b4:Option Addr) (b5:Nat) (l1:List Int) (b6:List Int) (b7:Int) (w:World) (b8:Kd.V (Kd.int .i64) 3 w w.heap.size (fun k_=>a6 k_) (.slice a7 l0.length a8) l0) (b9:Kd.V (Kd.int .i64) 3 w w.heap.size (fun k_=>a9 k_) (.slice b4 l1.length b5) l1) (h:Czv.f k l0 l1=some (b6,b7)) :
  Calls Try.prog 66 #[.slice a7 l0.length a8,.slice b4 l1.length b5] w fun e w'=>∃ v0_:Value,e=.returned (.tuple #[v0_,.int .i64 b7])∧rI w' w (fun k_=>(w.heap.size≤k_)) v0_ b6∧bw w w':=by
 have d6:=aM (show Kd.V (Kd.int .i64) 3 w w.heap.size (fun k_=>((a6 k_∨a9 k_)∨w.heap.size≤k_)) (.slice a7 l0.length a8) l0 from Kd.V_mono b8 (fun k_ hk=>.inl (.inl hk)))
 have d7:=aM (show Kd.V (Kd.int .i64) 3 w w.heap.size (fun k_=>((a6 k_∨a9 k_)∨w.heap.size≤k_)) (.slice b4 l1.length b5) l1 from Kd.V_mono b9 (fun k_ hk=>.inl (.inr hk)))
 have HB:=aM (Below.refl w.heap.size w);have H:((Azv.f k l0).bind fun d8=>(if d8=true then((Azv.f k l1).bind fun d9=>(Czv.j0 k l0 l1 (!d9))) else(Czv.j0 k l0 l1 true)))=some (b6,b7):=h
 clear h;have e6:=aM H;clear H;go_enter Try.func66,Try.ntmps66
 go_upto_region 1 with (fail)
 repeat(go_quiet (fail);go_upto_region 1 with (fail))
 go_cut [17] (fun e7 wc=>∃ (kq:Nat) (e8:Bool),e7=.bool e8∧Aside0 (Czv.j0 kq l0 l1 e8=some (b6,b7))∧Aside0 (kq≤k)∧Aside0 (Kd.V (Kd.int .i64) 3 wc w.heap.size (fun k_=>((a6 k_∨a9 k_)∨w.heap.size≤k_)) (.slice a7 l0.length a8) l0)∧Aside0 (Kd.V (Kd.int .i64) 3 wc w.heap.size (fun k_=>((a6 k_∨a9 k_)∨w.heap.size≤k_)) (.slice b4 l1.length b5) l1)∧Aside0 (bw w wc))
 case first =>
  have H:=e6.out;clear e6;obtain⟨d8,e9,H⟩:=bT H;(try dsimp only at H);by_cases c5:d8=true
  ·subst c5;rw[if_pos rfl] at H;obtain⟨d9,f3,H⟩:=bT H;(try dsimp only at H);have H':=aM H;clear H;have fl_:True:=trivial;repeat((first|clear fl_|go_quiet (first|(go_at_call 65;(with_reducible refine(Azv.calls k _ _ l0 true _ ?_ ?_ e9.out).mono ?_);exact cV d6;exact lV d6;rintro e w' ⟨rfl,⟨nd,rfl⟩⟩;(try exact dD))|(go_at_call 65;(with_reducible refine(Azv.calls k _ _ l1 d9 _ ?_ ?_ f3.out).mono ?_);exact cV d7;exact lV d7;rintro e w' ⟨rfl,⟨nd,rfl⟩⟩;(try exact dD))));go_wp2_with (first|(go_at_call 65;(with_reducible refine(Azv.calls k _ _ l0 true _ ?_ ?_ e9.out).mono ?_);exact cV d6;exact lV d6;rintro e w' ⟨rfl,⟨nd,rfl⟩⟩;(try exact dD))|(go_at_call 65;(with_reducible refine(Azv.calls k _ _ l1 d9 _ ?_ ?_ f3.out).mono ?_);exact cV d7;exact lV d7;rintro e w' ⟨rfl,⟨nd,rfl⟩⟩;(try exact dD))))
   go_meet
   case rel=>exact⟨_,(!d9),sD,H',⟨by first|omega|exact Nat.le_refl _⟩,⟨vX d6.out⟩,⟨vX d7.out⟩,⟨pB⟩⟩
  ·obtain rfl:=bN c5;rw[if_neg nF] at H
   have H':=aM H;clear H;have fl_:True:=trivial;repeat((first|clear fl_|go_quiet (first|(go_at_call 65;(with_reducible refine(Azv.calls k _ _ l0 false _ ?_ ?_ e9.out).mono ?_);exact cV d6;exact lV d6;rintro e w' ⟨rfl,⟨nd,rfl⟩⟩;(try exact dD))));go_wp2_with (first|(go_at_call 65;(with_reducible refine(Azv.calls k _ _ l0 false _ ?_ ?_ e9.out).mono ?_);exact cV d6;exact lV d6;rintro e w' ⟨rfl,⟨nd,rfl⟩⟩;(try exact dD))))
   go_meet
   case rel=>exact⟨_,(true),sD,H',⟨by first|omega|exact Nat.le_refl _⟩,⟨vX d6.out⟩,⟨vX d7.out⟩,⟨pB⟩⟩
 case rest =>
  clear e6;try clear b5
  obtain⟨kq,e8,rfl,HA,f4,f5,f6,HB⟩:=hcut;cases kq with
  | zero=>exact absurd HA.out (by simp [Czv.j0])
  | succ f7 =>
   have H:=HA.out;clear HA;simp only[Czv.j0] at H;by_cases c7:e8=true
   ·subst c7;rw[if_pos rfl] at H;obtain⟨rfl,rfl⟩:=q2 H;go_wp2
    repeat(go_quiet (fail);try go_wp2)
    go_ret2
    exact⟨_,eW,nK,pB⟩
   ·obtain rfl:=bN c7;rw[if_neg nF] at H
    have f8:=aM H;clear H;go_upto_block 0 with (fail)
    repeat(go_quiet (fail);go_upto_block 0 with (fail))
    go_cut [0,1] (fun f9 g4 wc=>∃ (kq:Nat) (g5:List Int) (g6:List Int),Aside0 (Czv.j2 kq g5 g6=some (b6,b7))∧Aside0 (kq≤f7)∧Aside0 (Kd.V (Kd.int .i64) 3 wc w.heap.size (fun k_=>((a6 k_∨a9 k_)∨w.heap.size≤k_)) f9 g5)∧Aside0 (Kd.V (Kd.int .i64) 3 wc w.heap.size (fun k_=>((a6 k_∨a9 k_)∨w.heap.size≤k_)) g4 g6)∧Aside0 (bw w wc))
    case first =>
     have H:=f8.out;clear f8;have H':=aM H;clear H;go_wp2
     repeat(go_quiet (fail);try go_wp2)
     go_loopg [0,1] f7 (fun kq f9 g4 w'=>∃ (g7:List Int) (g8:List Int),Aside0 (Czv.l0 kq g7 g8=some (b6,b7))∧Aside0 (kq≤f7)∧Aside0 (Kd.V (Kd.int .i64) 3 w' w.heap.size (fun k_=>((a6 k_∨a9 k_)∨w.heap.size≤k_)) f9 g7)∧Aside0 (Kd.V (Kd.int .i64) 3 w' w.heap.size (fun k_=>((a6 k_∨a9 k_)∨w.heap.size≤k_)) g4 g8)∧Aside0 (bw w w'))
     case atStart=>exact⟨(l0),(l1),H',⟨Nat.le_refl _⟩,⟨vX f5.out⟩,⟨vX f6.out⟩,⟨pB⟩⟩
     case round =>
      clear H';try clear b5
      obtain⟨g7,g8,HA,g9,f5,f6,HB⟩:=hrel;cases gk with
      | zero=>exact absurd HA.out (by simp [Czv.l0])
      | succ k2 =>
       have H:=HA.out;clear HA;simp only[Czv.l0] at H;by_cases c9:(g8.length:Int) > 0
       ·rw[if_pos c9] at H;have j3:decide (0 < (g8.length:Int))=true:=dE c9;have j4:decide (0 < g8.length)=true:=dE (by omega)
        clear c9;(first|rw[j3]|(simp only[i64_w,i32_w];rw[j3])|skip)
        by_cases c10:(g7.length:Int) > 2
        ·rw[if_pos c10] at H;have j5:decide (2 < (g7.length:Int))=true:=dE c10;have j6:decide (2 < g7.length)=true:=dE (by omega)
         clear c10;obtain⟨⟨j7,j8⟩,j9,H⟩:=bT H;(try dsimp only at H);have H':=aM H;clear H;obtain⟨l5,l6,l7⟩:=Kd.V_slice f6.out;subst l7;obtain⟨l8,l9,m0⟩:=Kd.V_slice f5.out;subst m0;have fl_:True:=trivial;repeat((first|clear fl_|go_quiet (first|(go_at_call 91;(with_reducible refine(Ezm.calls k2 _ _ g7 _ _ g8 j7 j8 _ ?_ ?_ ?_ ?_ j9.out).mono ?_);exact cV f5;exact lV f5;exact cV f6;exact lV f6;rintro e m4 ⟨m5,m6,rfl,m7,m8,hb⟩;have m9:=rL (Kd.R_newM (M:=fun k_=>(w.heap.size≤k_)) m7 (below_size pB) (fun k_ h_=>h_));have n0:=rL (Kd.R_newM (M:=fun k_=>(w.heap.size≤k_)) m8 (below_size pB) (fun k_ h_=>h_));replace f5:=vO f5 hb m7 m8;replace f6:=vO f6 hb m7 m8;replace HB:=bB hb;clear hb m7 m8)));go_wp2_with (first|(go_at_call 91;(with_reducible refine(Ezm.calls k2 _ _ g7 _ _ g8 j7 j8 _ ?_ ?_ ?_ ?_ j9.out).mono ?_);exact cV f5;exact lV f5;exact cV f6;exact lV f6;rintro e m4 ⟨m5,m6,rfl,m7,m8,hb⟩;have m9:=rL (Kd.R_newM (M:=fun k_=>(w.heap.size≤k_)) m7 (below_size pB) (fun k_ h_=>h_));have n0:=rL (Kd.R_newM (M:=fun k_=>(w.heap.size≤k_)) m8 (below_size pB) (fun k_ h_=>h_));replace f5:=vO f5 hb m7 m8;replace f6:=vO f6 hb m7 m8;replace HB:=bB hb;clear hb m7 m8)))
         go_roundg k2
         case measure=>have:=f4.out;have:=g9.out;omega
         case rel=>exact⟨(g8),(j8),H',⟨by have:=f4.out;have:=g9.out;omega⟩,⟨by exact vX (Kd.V_mono f6.out (fun _ hk=>hk.1.1))⟩,⟨Kd.V_mono (Kd.R_V (rX (Kd.R_mono n0.out (fun _ hk=>hk.1)))) (fun k_ hk=>by first|exact⟨(.inr (hk.1)),hk.2⟩|exact(.inr (hk)))⟩,⟨pB⟩⟩
        ·rw[if_neg c10] at H;have j5:decide (2 < (g7.length:Int))=false:=decide_eq_false c10;have j6:decide (2 < g7.length)=false:=decide_eq_false (by omega)
         clear c10;by_cases n7:(g8.length:Int) > 2
         ·rw[if_pos n7] at H;have n8:decide (2 < (g8.length:Int))=true:=dE n7;have n9:decide (2 < g8.length)=true:=dE (by omega)
          clear n7;obtain⟨⟨o0,o8⟩,o9,H⟩:=bT H;(try dsimp only at H);have H':=aM H;clear H;obtain⟨p0,p4,p7⟩:=Kd.V_slice f6.out;subst p7;obtain⟨p9,r5,r6⟩:=Kd.V_slice f5.out;subst r6;have fl_:True:=trivial;repeat((first|clear fl_|go_quiet (first|(go_at_call 91;(with_reducible refine(Ezm.calls k2 _ _ g7 _ _ g8 o0 o8 _ ?_ ?_ ?_ ?_ o9.out).mono ?_);exact cV f5;exact lV f5;exact cV f6;exact lV f6;rintro e r7 ⟨r8,r9,rfl,m7,m8,hb⟩;have t4:=rL (Kd.R_newM (M:=fun k_=>(w.heap.size≤k_)) m7 (below_size pB) (fun k_ h_=>h_));have t5:=rL (Kd.R_newM (M:=fun k_=>(w.heap.size≤k_)) m8 (below_size pB) (fun k_ h_=>h_));replace f5:=vO f5 hb m7 m8;replace f6:=vO f6 hb m7 m8;replace HB:=bB hb;clear hb m7 m8)));go_wp2_with (first|(go_at_call 91;(with_reducible refine(Ezm.calls k2 _ _ g7 _ _ g8 o0 o8 _ ?_ ?_ ?_ ?_ o9.out).mono ?_);exact cV f5;exact lV f5;exact cV f6;exact lV f6;rintro e r7 ⟨r8,r9,rfl,m7,m8,hb⟩;have t4:=rL (Kd.R_newM (M:=fun k_=>(w.heap.size≤k_)) m7 (below_size pB) (fun k_ h_=>h_));have t5:=rL (Kd.R_newM (M:=fun k_=>(w.heap.size≤k_)) m8 (below_size pB) (fun k_ h_=>h_));replace f5:=vO f5 hb m7 m8;replace f6:=vO f6 hb m7 m8;replace HB:=bB hb;clear hb m7 m8)))
          go_roundg k2
          case measure=>have:=f4.out;have:=g9.out;omega
          case rel=>exact⟨(g8),(o8),H',⟨by have:=f4.out;have:=g9.out;omega⟩,⟨by exact vX (Kd.V_mono f6.out (fun _ hk=>hk.1.1))⟩,⟨Kd.V_mono (Kd.R_V (rX (Kd.R_mono t5.out (fun _ hk=>hk.1)))) (fun k_ hk=>by first|exact⟨(.inr (hk.1)),hk.2⟩|exact(.inr (hk)))⟩,⟨pB⟩⟩
         ·rw[if_neg n7] at H;have n8:decide (2 < (g8.length:Int))=false:=decide_eq_false n7;have n9:decide (2 < g8.length)=false:=decide_eq_false (by omega)
          clear n7;have H':=aM H;clear H;obtain⟨t6,t7,t8⟩:=Kd.V_slice f6.out;subst t8;obtain⟨t9,z3,z4⟩:=Kd.V_slice f5.out;subst z4;go_wp2
          repeat(go_quiet (fail);try go_wp2)
          go_meet
          case rel=>exact⟨_,(g7),(g8),H',⟨by have:=f4.out;have:=g9.out;first|omega|exact Nat.le_refl _⟩,⟨vX f5.out⟩,⟨vX f6.out⟩,⟨pB⟩⟩
       ·rw[if_neg c9] at H;have j3:decide (0 < (g8.length:Int))=false:=decide_eq_false c9;have j4:decide (0 < g8.length)=false:=decide_eq_false (by omega)
        clear c9;(first|rw[j3]|(simp only[i64_w,i32_w];rw[j3])|skip)
        have H':=aM H;clear H;obtain⟨z5,z6,z7⟩:=Kd.V_slice f6.out;subst z7;go_wp2
        repeat(go_quiet (fail);try go_wp2)
        go_meet
        case rel=>exact⟨_,(g7),(g8),H',⟨by have:=f4.out;have:=g9.out;first|omega|exact Nat.le_refl _⟩,⟨vX f5.out⟩,⟨vX f6.out⟩,⟨pB⟩⟩
    case rest =>
     clear f8;try clear b5
     obtain⟨kq,g5,g6,HA,z8,f5,f6,HB⟩:=hcut;cases kq with
     | zero=>exact absurd HA.out (by simp [Czv.j2])
     | succ z9 =>
      have H:=HA.out;clear HA;simp only[Czv.j2] at H;replace H:=iE H;rcases H with⟨B5,B9,H⟩|⟨B0,B5,B9,H⟩
      ·obtain⟨C0,C1,H⟩:=bT H;(try dsimp only at H);replace H:=bS H;obtain⟨C2,C3,H⟩:=H;replace H:(some (C2,0))=some (b6,b7):=H;have C4:=aM C3;clear C3;obtain⟨rfl,rfl⟩:=q2 H;obtain⟨C6,C7,C8⟩:=Kd.V_slice f6.out;subst C8;obtain⟨C9,D2,D3⟩:=Kd.V_slice f5.out;subst D3;have fl_:True:=trivial;repeat((first|clear fl_|go_quiet (first|(go_at_call 93;(with_reducible refine(Gzk.calls _ _ g5 (g5.length:Int) C0 _ ?_ ?_ C1.out).mono ?_);exact cV f5;exact lV f5;rintro e D4 ⟨D5,rfl,m7,hb⟩;have D6:=rL (Kd.R_newM (M:=fun k_=>(w.heap.size≤k_)) m7 (below_size pB) (fun k_ h_=>h_));replace f5:=vE f5 m7 hb;replace f6:=vE f6 m7 hb;replace HB:=bB hb;clear hb m7;obtain⟨D7,D8,rfl⟩:=Kd.R_slice D6.out)|(go_at_call 92;(with_reducible refine(Bzx.calls z9 (fun k_=>some k_=(.slice D7 C0.length D8:Value).ownBlock) (.slice D7 C0.length D8) C0 C2 w _ ?_ ?_ C4.out).mono ?_);exact pB;exact Kd.R_tight rfl D6.out;rintro e D9 ⟨E0,rfl,m7,hb,hkp⟩;have E1:=aM (Kd.R_mono (ok':=fun k_=>(w.heap.size≤k_)) m7 (fun k_ hk_=>Or.elim hk_ (fun hs_=>(D6.out.1 k_ (hs_).symm).1) (fun hn_=>(lP hn_))));replace f5:=aM (Kd.V_mono (ok':=fun k_=>((a6 k_∨a9 k_)∨w.heap.size≤k_)∧oV E0 k_) (Kd.V_keptB (f5.out) hkp (fun k_ hk_ hs_=>(hk_.2) hs_)) (fun k_ hk_=>⟨hk_.1.1,fun e_=>Or.elim (m7.1 k_ e_.symm) (fun hs_=>hk_.2.1 hs_) (fun hn_=>Nat.not_le.2 hk_.2.2 hn_)⟩));replace f6:=aM (Kd.V_mono (ok':=fun k_=>((a6 k_∨a9 k_)∨w.heap.size≤k_)∧oV E0 k_) (Kd.V_keptB (f6.out) hkp (fun k_ hk_ hs_=>(hk_.2) hs_)) (fun k_ hk_=>⟨hk_.1.1,fun e_=>Or.elim (m7.1 k_ e_.symm) (fun hs_=>hk_.2.1 hs_) (fun hn_=>Nat.not_le.2 hk_.2.2 hn_)⟩));replace HB:=aM (hb);clear D6 hb hkp m7)));go_wp2_with (first|(go_at_call 93;(with_reducible refine(Gzk.calls _ _ g5 (g5.length:Int) C0 _ ?_ ?_ C1.out).mono ?_);exact cV f5;exact lV f5;rintro e D4 ⟨D5,rfl,m7,hb⟩;have D6:=rL (Kd.R_newM (M:=fun k_=>(w.heap.size≤k_)) m7 (below_size pB) (fun k_ h_=>h_));replace f5:=vE f5 m7 hb;replace f6:=vE f6 m7 hb;replace HB:=bB hb;clear hb m7;obtain⟨D7,D8,rfl⟩:=Kd.R_slice D6.out)|(go_at_call 92;(with_reducible refine(Bzx.calls z9 (fun k_=>some k_=(.slice D7 C0.length D8:Value).ownBlock) (.slice D7 C0.length D8) C0 C2 w _ ?_ ?_ C4.out).mono ?_);exact pB;exact Kd.R_tight rfl D6.out;rintro e D9 ⟨E0,rfl,m7,hb,hkp⟩;have E1:=aM (Kd.R_mono (ok':=fun k_=>(w.heap.size≤k_)) m7 (fun k_ hk_=>Or.elim hk_ (fun hs_=>(D6.out.1 k_ (hs_).symm).1) (fun hn_=>(lP hn_))));replace f5:=aM (Kd.V_mono (ok':=fun k_=>((a6 k_∨a9 k_)∨w.heap.size≤k_)∧oV E0 k_) (Kd.V_keptB (f5.out) hkp (fun k_ hk_ hs_=>(hk_.2) hs_)) (fun k_ hk_=>⟨hk_.1.1,fun e_=>Or.elim (m7.1 k_ e_.symm) (fun hs_=>hk_.2.1 hs_) (fun hn_=>Nat.not_le.2 hk_.2.2 hn_)⟩));replace f6:=aM (Kd.V_mono (ok':=fun k_=>((a6 k_∨a9 k_)∨w.heap.size≤k_)∧oV E0 k_) (Kd.V_keptB (f6.out) hkp (fun k_ hk_ hs_=>(hk_.2) hs_)) (fun k_ hk_=>⟨hk_.1.1,fun e_=>Or.elim (m7.1 k_ e_.symm) (fun hs_=>hk_.2.1 hs_) (fun hn_=>Nat.not_le.2 hk_.2.2 hn_)⟩));replace HB:=aM (hb);clear D6 hb hkp m7)))
       go_ret2
       exact⟨_,eW,rX E1.out,pB⟩
      ·have E2:¬ (g6=[]):=fun h_=>B0 (by rw[h_];rfl)
       obtain⟨E3,E4,H⟩:=bT H;(try dsimp only at H);obtain⟨E5,E6,H⟩:=bT H;(try dsimp only at H);have H':=aM H;clear H;obtain⟨E7,E8,E9⟩:=Kd.V_slice f6.out;subst E9;obtain⟨F0,F2,F3⟩:=Kd.V_slice f5.out;subst F3;have fl_:True:=trivial;repeat((first|clear fl_|go_quiet (first|(go_at_call 94;(with_reducible refine(Dzb.calls z9 _ _ g5 E3 _ ?_ ?_ E4.out).mono ?_);exact cV f5;exact lV f5;rintro e w' ⟨rfl,⟨nd,rfl⟩⟩;(try exact dD))|(go_at_call 94;(with_reducible refine(Dzb.calls z9 _ _ g6 E5 _ ?_ ?_ E6.out).mono ?_);exact cV f6;exact lV f6;rintro e w' ⟨rfl,⟨nd,rfl⟩⟩;(try exact dD))));go_wp2_with (first|(go_at_call 94;(with_reducible refine(Dzb.calls z9 _ _ g5 E3 _ ?_ ?_ E4.out).mono ?_);exact cV f5;exact lV f5;rintro e w' ⟨rfl,⟨nd,rfl⟩⟩;(try exact dD))|(go_at_call 94;(with_reducible refine(Dzb.calls z9 _ _ g6 E5 _ ?_ ?_ E6.out).mono ?_);exact cV f6;exact lV f6;rintro e w' ⟨rfl,⟨nd,rfl⟩⟩;(try exact dD))))
       try simp only[Act.put,sA,sZ,sC]
       go_loopg [8,9] z9 (fun kq F4 F5 w'=>∃ (F6:Int) (F7:Int),F4=.int .i64 F6∧F5=.int .i64 F7∧Aside0 (Czv.l1 kq F6 F7=some (b6,b7))∧Aside0 (kq≤z9)∧Aside0 (bw w w'))
       case atStart=>exact⟨(E3),(E5),sD,sD,H',⟨Nat.le_refl _⟩,⟨pB⟩⟩
       case round =>
        clear H';try clear b5
        obtain⟨F6,F7,rfl,rfl,HA,F8,HB⟩:=hrel;cases gk with
        | zero=>exact absurd HA.out (by simp [Czv.l1])
        | succ k3 =>
         have H:=HA.out;clear HA;simp only[Czv.l1] at H;by_cases F9:F7 > 0
         ·rw[if_pos F9] at H;have G5:decide (0 < F7)=true:=dE F9;clear F9;obtain⟨G9,H⟩:=iM H;have H5:(F7 == 0)=false:=beq_eq_false_iff_ne.mpr G9;have H6:(F7 != 0)=true:=bne_iff_ne.mpr G9;have H':=aM H;clear H;go_wp2
          repeat(go_quiet (fail);try go_wp2)
          go_roundg k3
          case measure=>have:=f4.out;have:=z8.out;have:=F8.out;omega
          case rel=>exact⟨(F7),(Int.tmod F6 F7),sD,sD,H',⟨by have:=f4.out;have:=z8.out;have:=F8.out;omega⟩,⟨pB⟩⟩
         ·rw[if_neg F9] at H;have G5:decide (0 < F7)=false:=decide_eq_false F9;clear F9;replace H:=bS H;obtain⟨⟨H7,H8⟩,H9,H⟩:=H;replace H:(some (H7,H8))=some (b6,b7):=H;have I0:=aM H9;clear H9;obtain⟨rfl,rfl⟩:=q2 H;have fl_:True:=trivial;repeat((first|clear fl_|go_quiet (first|(go_at_call 95;(with_reducible refine(Fzv.calls k3 F6 H7 H8 _ I0.out).mono ?_);rintro e I3 ⟨I4,rfl,m7,hb⟩;have I5:=rL (Kd.R_newM (M:=fun k_=>(w.heap.size≤k_)) m7 (below_size pB) (fun k_ h_=>h_));replace HB:=bB hb;clear hb m7)));go_wp2_with (first|(go_at_call 95;(with_reducible refine(Fzv.calls k3 F6 H7 H8 _ I0.out).mono ?_);rintro e I3 ⟨I4,rfl,m7,hb⟩;have I5:=rL (Kd.R_newM (M:=fun k_=>(w.heap.size≤k_)) m7 (below_size pB) (fun k_ h_=>h_));replace HB:=bB hb;clear hb m7)))
          go_ret2
          exact⟨_,eW,by exact rX (Kd.R_mono I5.out (fun _ hk=>hk.1)),pB⟩


def Dzp.j0:Nat→List Int→List Int→Bool→Option (List Int × List Int × Int)
 | 0,_,_,_=>none
 | k+1,x0,x1,x16=>if x16=true then(some (([]:List Int),([]:List Int),3)) else(if(x1.length:Int)=0 then(some (([]:List Int),([]:List Int),16)) else((Ezm.f k x0 x1).bind fun bt212=>(some (bt212.1,bt212.2,0))))
def Dzp.f (k:Nat) (l0:List Int) (l1:List Int):Option (List Int × List Int × Int):=(Azv.f k l0).bind fun t210=>(if t210=true then((Azv.f k l1).bind fun t211=>(Dzp.j0 k l0 l1 (!t211))) else(Dzp.j0 k l0 l1 true))
theorem Dzp.mono_l:∀ k,(∀ a6 a7 a8,LeO (Dzp.j0 k a6 a7 a8) (Dzp.j0 (k+1) a6 a7 a8))
 | 0=>fun _ _ _ r h=>by simp [Dzp.j0] at h
 | k+1=>by
  have ih0:=Dzp.mono_l k
  ·intro a6 a7 a8;unfold Dzp.j0;have i0:=@Azv.mono;have i1:=@Ezm.mono;exact mM
theorem Dzp.mono:∀ a6 a7 k,LeO (Dzp.f k a6 a7) (Dzp.f (k+1) a6 a7):=by
 intro a6 a7 k;have ih0:=Dzp.mono_l k;unfold Dzp.f;have i0:=@Azv.mono;have i1:=@Ezm.mono;exact mM
theorem Dzp.calls (k:Nat) (a6:Option Addr) (a7:Nat) (l0:List Int) (a8:Option Addr) (a9:Nat) (l1:List Int) (b4:List Int) (b5:List Int) (b6:Int) (w:World) (b7:cI w a6 l0) (b8:l0.length≤a7) (b9:cI w a8 l1) (d6:l1.length≤a9) (h:Dzp.f k l0 l1=some (b4,b5,b6)) :
  Calls Try.prog 102 #[.slice a6 l0.length a7,.slice a8 l1.length a9] w fun e w'=>∃ v0_ v1_:Value,e=.returned (.tuple #[v0_,v1_,.int .i64 b6])∧rI w' w (oV v1_) v0_ b4∧rI w' w (oV v0_) v1_ b5∧bw w w':=by
 have d7:=aM b7;have d8:=aM b8;clear b7 b8;have d9:=aM b9;have e6:=aM d6;clear b9 d6;have HB:=aM (Below.refl w.heap.size w);have H:((Azv.f k l0).bind fun e7=>(if e7=true then((Azv.f k l1).bind fun e8=>(Dzp.j0 k l0 l1 (!e8))) else(Dzp.j0 k l0 l1 true)))=some (b4,b5,b6):=h
 clear h;have e9:=aM H;clear H;go_enter Try.func102,Try.ntmps102
 go_upto_region 1 with (fail)
 go_cut [16] (fun f3 wc=>∃ (kq:Nat) (f4:Bool),f3=.bool f4∧Aside0 (Dzp.j0 kq l0 l1 f4=some (b4,b5,b6))∧Aside0 (kq≤k)∧Aside0 (bw w wc))
 case first =>
  have H:=e9.out;clear e9;obtain⟨e7,f5,H⟩:=bT H;(try dsimp only at H);by_cases c5:e7=true
  ·subst c5;rw[if_pos rfl] at H;obtain⟨e8,f6,H⟩:=bT H;(try dsimp only at H);have H':=aM H;clear H;go_wp2_with (first|((with_reducible refine gc 65 rfl ?_);refine gC 65 (some 10) Try.func65 #[.slice a6 l0.length a7] ?_;(with_reducible refine(Azv.calls k _ _ l0 true _ ?_ ?_ f5.out).mono ?_);exact cB d7;exact d8.out;rintro e w' ⟨rfl,⟨nd,rfl⟩⟩;refine⟨_,rfl,?_⟩)|(go_at_call 65;(with_reducible refine(Azv.calls k _ _ l1 e8 _ ?_ ?_ f6.out).mono ?_);exact cB d9;exact e6.out;rintro e w' ⟨rfl,⟨nd,rfl⟩⟩))
   go_meet
   case rel=>exact⟨_,(!e8),sD,H',⟨by first|omega|exact Nat.le_refl _⟩,⟨pB⟩⟩
  ·obtain rfl:=bN c5;rw[if_neg nF] at H
   have H':=aM H;clear H;go_wp2_with (first|((with_reducible refine gc 65 rfl ?_);refine gC 65 (some 10) Try.func65 #[.slice a6 l0.length a7] ?_;(with_reducible refine(Azv.calls k _ _ l0 false _ ?_ ?_ f5.out).mono ?_);exact cB d7;exact d8.out;rintro e w' ⟨rfl,⟨nd,rfl⟩⟩;refine⟨_,rfl,?_⟩))
   go_meet
   case rel=>exact⟨_,(true),sD,H',⟨by first|omega|exact Nat.le_refl _⟩,⟨pB⟩⟩
 case rest =>
  clear e9;try clear a9
  obtain⟨kq,f4,rfl,HA,f7,HB⟩:=hcut;cases kq with
  | zero=>exact absurd HA.out (by simp [Dzp.j0])
  | succ f8 =>
   have H:=HA.out;clear HA;simp only[Dzp.j0] at H;by_cases c7:f4=true
   ·subst c7;rw[if_pos rfl] at H;obtain⟨rfl,rfl,rfl⟩:=q3 H;go_wp2
    go_ret3
    exact⟨_,_,eW,nK,nK,pB⟩
   ·obtain rfl:=bN c7;rw[if_neg nF] at H
    replace H:=iE H;rcases H with⟨f9,g4,H⟩|⟨c8,f9,g4,H⟩
    ·obtain⟨rfl,rfl,rfl⟩:=q3 H;go_wp2
     go_ret3
     exact⟨_,_,eW,nK,nK,pB⟩
    ·have g5:¬ (l1=[]):=fun h_=>c8 (by rw[h_];rfl)
     replace H:=bS H;obtain⟨⟨g6,g7⟩,g8,H⟩:=H;replace H:(some (g6,g7,0))=some (b4,b5,b6):=H;have g9:=aM g8;clear g8;obtain⟨rfl,rfl,rfl⟩:=q3 H;go_wp2_with (first|((with_reducible refine gc 91 rfl ?_);refine gC 91 (some 23) Try.func91 #[.slice a6 l0.length a7,.slice a8 l1.length a9] ?_;(with_reducible refine(Ezm.calls f8 _ _ l0 _ _ l1 g6 g7 _ ?_ ?_ ?_ ?_ g9.out).mono ?_);exact cB d7;exact d8.out;exact cB d9;exact e6.out;rintro e j3 ⟨j4,j5,rfl,j6,j7,hb⟩;refine⟨_,rfl,?_⟩;have j8:=rL j6;have j9:=rL j7;replace HB:=bB hb;clear hb j6 j7))
     go_ret3
     exact⟨_,_,eW,rX j8.out,rX j9.out,pB⟩

def Fzq.f (k:Nat) (a0:Bool) (l1:List Int) (l2:List Int):Option (Bool × List Int × List Int × Int):=(Czv.f k l1 l2).bind fun bt219=>(if bt219.2=0 then((Dzp.f k l1 bt219.1).bind fun bt223=>(if bt223.2.2=0 then((Dzp.f k l2 bt219.1).bind fun bt230=>(if bt230.2.2=0 then(if a0=true then(some (decide (0 < bt223.1.length),bt223.1,bt230.1,0)) else(some (false,bt223.1,bt230.1,0))) else(some (false,([]:List Int),([]:List Int),bt230.2.2)))) else(some (false,([]:List Int),([]:List Int),bt223.2.2)))) else(some (false,([]:List Int),([]:List Int),bt219.2)))
theorem Fzq.mono:∀ a6 a7 a8 k,LeO (Fzq.f k a6 a7 a8) (Fzq.f (k+1) a6 a7 a8):=by
 intro a6 a7 a8 k;unfold Fzq.f;have i0:=@Dzp.mono;have i1:=@Czv.mono;exact mM
theorem Fzq.calls (k:Nat) (a6:Bool) (a7:Option Addr) (a8:Nat) (l1:List Int) (a9:Option Addr) (c2:Nat) (l2:List Int) (b4:Bool) (b5:List Int) (b6:List Int) (b7:Int) (w:World) (b8:cI w a7 l1) (b9:l1.length≤a8) (d6:cI w a9 l2) (d7:l2.length≤c2) (h:Fzq.f k a6 l1 l2=some (b4,b5,b6,b7)) :
  Calls Try.prog 79 #[.bool a6,.slice a7 l1.length a8,.slice a9 l2.length c2] w fun e w'=>∃ v1_ v2_:Value,e=.returned (.tuple #[.agg #[.bool b4,v1_,v2_],.int .i64 b7])∧rI w' w (oV v2_) v1_ b5∧rI w' w (oV v1_) v2_ b6∧bw w w':=by
 have hu33:=Try.underlying33;have d8:=aM b8;have d9:=aM b9;clear b8 b9;have e6:=aM d6;have e7:=aM d7;clear d6 d7;have HB:=aM (Below.refl w.heap.size w);have H:((Czv.f k l1 l2).bind fun e8=>(if e8.2=0 then((Dzp.f k l1 e8.1).bind fun e9=>(if e9.2.2=0 then((Dzp.f k l2 e8.1).bind fun f3=>(if f3.2.2=0 then(if a6=true then(some (decide (0 < e9.1.length),e9.1,f3.1,0)) else(some (false,e9.1,f3.1,0))) else(some (false,([]:List Int),([]:List Int),f3.2.2)))) else(some (false,([]:List Int),([]:List Int),e9.2.2)))) else(some (false,([]:List Int),([]:List Int),e8.2))))=some (b4,b5,b6,b7):=h
 clear h;obtain⟨⟨f4,f5⟩,f6,H⟩:=bT H;(try dsimp only at H);have f7:=aM H;clear H;go_enter Try.func79,Try.ntmps79
 go_upto_if 21 with (first|((with_reducible refine gd 6 rfl ?_);refine bzg 33 ?_;intro f8 hg f9 g4 hb;have g5:=gA w hg;replace HB:=bB hb;clear hb hg)|((with_reducible refine gc 66 rfl ?_);refine gC 66 (some 17) Try.func66 #[.slice a7 l1.length a8,.slice a9 l2.length c2] ?_;(with_reducible refine(Czv.calls k (fun k_=>k_ < w.heap.size) _ _ l1 (fun k_=>k_ < w.heap.size) _ _ l2 f4 f5 _ ?_ ?_ f6.out).mono ?_);exact Kd.V_mk d9.out (Kd.F_below (Kd.C_F (Kd.heap_int .i64) d8.out) pB);exact Kd.V_mk e7.out (Kd.F_below (Kd.C_F (Kd.heap_int .i64) e6.out) pB);rintro e g7 ⟨g8,rfl,g9,hb⟩;refine⟨_,rfl,?_⟩;have j3:=rL (Kd.R_mono (ok':=fun k_=>True) g9 (fun _ hk_=>trivial));replace g4:=kb g4 hb;replace HB:=bB hb;clear hb g9))
 have H:=f7.out;clear f7;replace H:=iE H;rcases H with⟨j4,j5,H⟩|⟨c8,j4,j5,H⟩
 ·(first|rw[j4]|(simp only[i64_w,i32_w];rw[j4])|skip)
  obtain⟨⟨j6,j7,j8⟩,j9,H⟩:=bT H;(try dsimp only at H);have l5:=aM H;clear H;obtain⟨l6,l7,rfl⟩:=Kd.R_slice j3.out;go_upto_if 32 with (first|((with_reducible refine gc 102 rfl ?_);refine gC 102 (some 27) Try.func102 #[.slice a7 l1.length a8,.slice l6 f4.length l7] ?_;(with_reducible refine(Dzp.calls k _ _ l1 _ _ f4 j6 j7 j8 _ ?_ ?_ ?_ ?_ j9.out).mono ?_);exact cB d8;exact d9.out;exact cR j3;exact lR j3;rintro e l8 ⟨l9,m0,rfl,g9,m4,hb⟩;refine⟨_,rfl,?_⟩;have m5:=rL (rn g9 j3);have m6:=rL (rn m4 j3);replace j3:=rO j3 hb g9 m4;replace g4:=kb g4 hb;replace HB:=bB hb;clear hb g9 m4))
  have H:=l5.out;clear l5;replace H:=iE H;rcases H with⟨m8,m9,H⟩|⟨m7,m8,m9,H⟩
  ·(first|rw[m8]|(simp only[i64_w,i32_w];rw[m8])|skip)
   obtain⟨⟨n0,n7,n8⟩,n9,H⟩:=bT H;(try dsimp only at H);have o0:=aM H;clear H;go_upto_if 43 with (first|((with_reducible refine gc 102 rfl ?_);refine gC 102 (some 38) Try.func102 #[.slice a9 l2.length c2,.slice l6 f4.length l7] ?_;(with_reducible refine(Dzp.calls k _ _ l2 _ _ f4 n0 n7 n8 _ ?_ ?_ ?_ ?_ n9.out).mono ?_);exact cB e6;exact e7.out;exact cR j3;exact lR j3;rintro e o8 ⟨o9,p0,rfl,g9,m4,hb⟩;refine⟨_,rfl,?_⟩;have p4:=rL (rn (rn (rn g9 j3) m5) m6);have p7:=rL (rn (rn (rn m4 j3) m5) m6);replace j3:=rO j3 hb g9 m4;replace m5:=rO m5 hb g9 m4;replace m6:=rO m6 hb g9 m4;replace g4:=kb g4 hb;replace HB:=bB hb;clear hb g9 m4))
   have H:=o0.out;clear o0;replace H:=iE H;rcases H with⟨r5,r6,H⟩|⟨p9,r5,r6,H⟩
   ·(first|rw[r5]|(simp only[i64_w,i32_w];rw[r5])|skip)
    by_cases r7:a6=true
    ·subst r7;rw[if_pos rfl] at H;obtain⟨rfl,rfl,rfl,rfl⟩:=q4 H;obtain⟨r8,r9,rfl⟩:=Kd.R_slice m5.out;obtain⟨t4,t5,rfl⟩:=Kd.R_slice p4.out;obtain⟨t6,t7,t8,t9,z3,z4⟩:=bk3 g4;go_wp2
     refine rC f8 33 #[.bool (decide (0 < j6.length)),.slice r8 j6.length r9,.slice t4 n0.length t5] (kQ g4) Try.underlying33 ?_
     exact⟨_,_,eW,by exact Kd.R_mono (rT m5 g4) (fun _ hk=>hk.1.2),by exact Kd.R_mono (rT p4 g4) (fun _ hk=>hk.1.2),pB⟩
    ·obtain rfl:=bN r7;rw[if_neg nF] at H
     obtain⟨rfl,rfl,rfl,rfl⟩:=q4 H;obtain⟨z5,z6,rfl⟩:=Kd.R_slice p4.out;obtain⟨z7,z8,rfl⟩:=Kd.R_slice m5.out;obtain⟨z9,B0,B5,B9,C0,C1⟩:=bk3 g4;go_wp2
     refine rC f8 33 #[.bool false,.slice z7 j6.length z8,.slice z5 n0.length z6] (kQ g4) Try.underlying33 ?_
     exact⟨_,_,eW,by exact Kd.R_mono (rT m5 g4) (fun _ hk=>hk.1.2),by exact Kd.R_mono (rT p4 g4) (fun _ hk=>hk.1.2),pB⟩
   ·(first|rw[r5]|(simp only[i64_w,i32_w];rw[r5])|skip)
    obtain⟨rfl,rfl,rfl,rfl⟩:=q4 H;obtain⟨C2,C3,C4,C6,C7,C8⟩:=bk3 g4;go_wp2
    refine rC f8 33 #[.bool false,.slice none 0 0,.slice none 0 0] (kQ g4) Try.underlying33 ?_
    exact⟨_,_,eW,nK,nK,pB⟩
  ·(first|rw[m8]|(simp only[i64_w,i32_w];rw[m8])|skip)
   obtain⟨rfl,rfl,rfl,rfl⟩:=q4 H;obtain⟨C9,D2,D3,D4,D5,D6⟩:=bk3 g4;go_wp2
   refine rC f8 33 #[.bool false,.slice none 0 0,.slice none 0 0] (kQ g4) Try.underlying33 ?_
   exact⟨_,_,eW,nK,nK,pB⟩
 ·(first|rw[j4]|(simp only[i64_w,i32_w];rw[j4])|skip)
  obtain⟨rfl,rfl,rfl,rfl⟩:=q4 H;obtain⟨D7,D8,D9,E0,E1,E2⟩:=bk3 g4;go_wp2
  refine rC f8 33 #[.bool false,.slice none 0 0,.slice none 0 0] (kQ g4) Try.underlying33 ?_
  exact⟨_,_,eW,nK,nK,pB⟩

def Hzm.f (a0:Int):Option (Bool):=if a0≥(-1125899906842624) then(some (decide (a0≤1125899906842624))) else(some false)
theorem Hzm.calls (a6:Int) (r:Bool) (w:World) (h:Hzm.f a6=some r) :
  Calls Try.prog 108 #[.int .i64 a6] w fun e w'=>e=.returned (.bool r)∧Drawn0 w w':=by
 have H:(if a6≥(-1125899906842624) then(some (decide (a6≤1125899906842624))) else(some false))=some r:=h
 clear h;by_cases c2:a6≥(-1125899906842624)
 ·rw[if_pos c2] at H;have a7:decide ((-1125899906842624)≤a6)=true:=dE c2;clear c2;obtain rfl:=Option.some.inj H;go_enter Try.func108,Try.ntmps108
  go_wp2
  go_ret
  exact⟨sD,dR⟩
 ·rw[if_neg c2] at H;have a7:decide ((-1125899906842624)≤a6)=false:=decide_eq_false c2;clear c2;obtain rfl:=Option.some.inj H;go_enter Try.func108,Try.ntmps108
  go_wp2
  go_ret
  exact⟨sD,dR⟩

def Gzv.f (k:Nat) (a0:Int):Option (List Int):=(Fzv.f k (mx a0 (wrap64 (-a0)))).bind fun bt237=>(some bt237.1)
theorem Gzv.mono:∀ a6 k,LeO (Gzv.f k a6) (Gzv.f (k+1) a6):=by
 intro a6 k;unfold Gzv.f;have i0:=@Fzv.mono;exact mM
theorem Gzv.calls (k:Nat) (a6:Int) (r:List Int) (w:World) (h:Gzv.f k a6=some r) :
  Calls Try.prog 109 #[.int .i64 a6] w fun e w'=>∃ v0_:Value,e=.returned (v0_)∧rI w' w (fun _=>True) v0_ r∧bw w w':=by
 have HB:=aM (Below.refl w.heap.size w);have H:((Fzv.f k (mx a6 (wrap64 (-a6)))).bind fun a7=>(some a7.1))=some r:=h
 clear h;obtain⟨a8,a9⟩:∃ j_:Int,(mx a6 (wrap64 (-a6)))=j_:=⟨_,rfl⟩;replace H:((Fzv.f k (a8)).bind fun a7=>(some a7.1))=some r:=by first|(rw[a9] at H;exact H)|(simp only[a9] at H ⊢;exact H)
 have b4:(if a6 < (wrap64 (-a6)) then(wrap64 (-a6)) else a6)=a8:=a9
 replace H:=bS H;obtain⟨⟨b5,b6⟩,b7,H⟩:=H;replace H:(some b5)=some r:=H;have b8:=aM b7;clear b7;obtain rfl:=Option.some.inj H;go_enter Try.func109,Try.ntmps109
 go_wp2_with (first|((with_reducible refine gate_callee (f:=95) rfl ?_);refine goesL_ (some 10) rfl rfl Try.func95 (by kernel_rfl) rfl #[.int .i64 a8] rfl (by(try simp only[List.map_toArray,List.map_cons,List.map_nil]);first|done|(simp only[a9];rfl)|rfl|(simp only[List.length_drop,List.length_take];rfl)) ?_;(with_reducible refine(Fzv.calls k a8 b5 b6 _ b8.out).mono ?_);rintro e b9 ⟨d6,rfl,d7,hb⟩;refine⟨_,rfl,?_⟩;have d8:=rL d7;replace HB:=bB hb;clear hb d7))
 go_ret
 exact⟨_,by first|rfl|(simp [errW_none,errW_some] <;> rfl)|(simp only[← a9];first|rfl|(simp [errW_none,errW_some] <;> rfl))|(simp [*,errW_none,errW_some] <;> rfl),rX d8.out,pB⟩


def Fzy.j0:Nat→Int→Int→Bool→Option (Bool × List Int × List Int × Int)
 | 0,_,_,_=>none
 | k+1,x0,x1,x6=>if x6=true then(some (false,([]:List Int),([]:List Int),1)) else(if x1=0 then(some (false,([]:List Int),([]:List Int),16)) else((Gzv.f k x0).bind fun t244=>((Gzv.f k x1).bind fun t247=>((Fzq.f k ((decide (x0 < 0)) != (decide (x1 < 0))) t244 t247).bind fun bt250=>(some (bt250.1,bt250.2.1,bt250.2.2.1,bt250.2.2.2))))))
def Fzy.f (k:Nat) (a0:Int) (a1:Int):Option (Bool × List Int × List Int × Int):=(Hzm.f a0).bind fun t242=>(if t242=true then((Hzm.f a1).bind fun t243=>(Fzy.j0 k a0 a1 (!t243))) else(Fzy.j0 k a0 a1 true))
theorem Fzy.mono_l:∀ k,(∀ a6 a7 a8,LeO (Fzy.j0 k a6 a7 a8) (Fzy.j0 (k+1) a6 a7 a8))
 | 0=>fun _ _ _ r h=>by simp [Fzy.j0] at h
 | k+1=>by
  have ih0:=Fzy.mono_l k
  ·intro a6 a7 a8;unfold Fzy.j0;have i0:=@Gzv.mono;have i1:=@Fzq.mono;exact mM
theorem Fzy.mono:∀ a6 a7 k,LeO (Fzy.f k a6 a7) (Fzy.f (k+1) a6 a7):=by
 intro a6 a7 k;have ih0:=Fzy.mono_l k;unfold Fzy.f;have i0:=@Gzv.mono;have i1:=@Fzq.mono;exact mM
theorem Fzy.calls (k:Nat) (a6:Int) (a7:Int) (a8:Bool) (a9:List Int) (b4:List Int) (b5:Int) (w:World) (h:Fzy.f k a6 a7=some (a8,a9,b4,b5)) :
  Calls Try.prog 87 #[.int .i64 a6,.int .i64 a7] w fun e w'=>∃ v1_ v2_:Value,e=.returned (.tuple #[.agg #[.bool a8,v1_,v2_],.int .i64 b5])∧rI w' w (oV v2_) v1_ a9∧rI w' w (oV v1_) v2_ b4∧bw w w':=by
 have hu33:=Try.underlying33;have HB:=aM (Below.refl w.heap.size w);have H:((Hzm.f a6).bind fun b6=>(if b6=true then((Hzm.f a7).bind fun b7=>(Fzy.j0 k a6 a7 (!b7))) else(Fzy.j0 k a6 a7 true)))=some (a8,a9,b4,b5):=h
 clear h;have b8:=aM H;clear H;go_enter Try.func87,Try.ntmps87
 go_upto_region 1 with (first|((with_reducible refine gd 4 rfl ?_);refine bz 33 ?_;intro b9 hg d6 d7 hb;have d8:=gA w hg;replace HB:=bB hb;clear hb hg))
 (try simp only[Act.put,sA,sZ,sC])
 go_cut [6] (fun e6 wc=>∃ (kq:Nat) (e7:Bool),e6=.bool e7∧Aside0 (Fzy.j0 kq a6 a7 e7=some (a8,a9,b4,b5))∧Aside0 (kq≤k)∧Aside0 (wc.heap[b9]?=some (.cells #[.bool false,(.slice none 0 0),(.slice none 0 0)] 33 (0,0)))∧Aside0 (bw w wc))
 case first =>
  have H:=b8.out;clear b8;obtain⟨b6,e8,H⟩:=bT H;(try dsimp only at H);by_cases c6:b6=true
  ·subst c6;rw[if_pos rfl] at H;obtain⟨b7,e9,H⟩:=bT H;(try dsimp only at H);have H':=aM H;clear H;go_wp2_with (first|((with_reducible refine gc 108 rfl ?_);refine gC 108 (some 8) Try.func108 #[.int .i64 a6] ?_;(with_reducible refine(Hzm.calls a6 true _ e8.out).mono ?_);rintro e w' ⟨rfl,⟨nd,rfl⟩⟩;refine⟨_,rfl,?_⟩)|(go_at_call 108;(with_reducible refine(Hzm.calls a7 b7 _ e9.out).mono ?_);rintro e w' ⟨rfl,⟨nd,rfl⟩⟩))
   go_meet
   case rel=>exact⟨_,(!b7),sD,H',⟨by first|omega|exact Nat.le_refl _⟩,⟨by exact kW d7⟩,⟨pB⟩⟩
  ·obtain rfl:=bN c6;rw[if_neg nF] at H
   have H':=aM H;clear H;go_wp2_with (first|((with_reducible refine gc 108 rfl ?_);refine gC 108 (some 8) Try.func108 #[.int .i64 a6] ?_;(with_reducible refine(Hzm.calls a6 false _ e8.out).mono ?_);rintro e w' ⟨rfl,⟨nd,rfl⟩⟩;refine⟨_,rfl,?_⟩))
   go_meet
   case rel=>exact⟨_,(true),sD,H',⟨by first|omega|exact Nat.le_refl _⟩,⟨by exact kW d7⟩,⟨pB⟩⟩
 case rest =>
  clear b8;try clear f3
  obtain⟨kq,e7,rfl,HA,f4,d7,HB⟩:=hcut;cases kq with
  | zero=>exact absurd HA.out (by simp [Fzy.j0])
  | succ f5 =>
   have H:=HA.out;clear HA;simp only[Fzy.j0] at H;by_cases c8:e7=true
   ·subst c8;rw[if_pos rfl] at H;obtain⟨rfl,rfl,rfl,rfl⟩:=q4 H;obtain⟨f6,f7,f8,f9,g4,g5⟩:=bk3 d7;go_wp2
    refine rC b9 33 #[.bool false,.slice none 0 0,.slice none 0 0] (kQ d7) Try.underlying33 ?_
    exact⟨_,_,eW,nK,nK,pB⟩
   ·obtain rfl:=bN c8;rw[if_neg nF] at H
    replace H:=iE H;rcases H with⟨g6,g7,H⟩|⟨c10,g6,g7,H⟩
    ·obtain⟨rfl,rfl,rfl,rfl⟩:=q4 H;obtain⟨g8,g9,j3,j4,j5,j6⟩:=bk3 d7;go_wp2
     refine rC b9 33 #[.bool false,.slice none 0 0,.slice none 0 0] (kQ d7) Try.underlying33 ?_
     exact⟨_,_,eW,nK,nK,pB⟩
    ·obtain⟨j7,j8,H⟩:=bT H;(try dsimp only at H);obtain⟨j9,l5,H⟩:=bT H;(try dsimp only at H);replace H:=bS H;obtain⟨⟨l6,l7,l8,l9⟩,m0,H⟩:=H;replace H:(some (l6,l7,l8,l9))=some (a8,a9,b4,b5):=H;have m4:=aM m0;clear m0;obtain⟨rfl,rfl,rfl,rfl⟩:=q4 H;go_wp2_with (first|((with_reducible refine gc 109 rfl ?_);refine gC 109 (some 26) Try.func109 #[.int .i64 a6] ?_;(with_reducible refine(Gzv.calls f5 a6 j7 _ j8.out).mono ?_);rintro e m5 ⟨m6,rfl,m7,hb⟩;refine⟨_,rfl,?_⟩;have m8:=rL m7;replace d7:=kb d7 hb;replace HB:=bB hb;clear hb m7)|((with_reducible refine gc 109 rfl ?_);refine gC 109 (some 28) Try.func109 #[.int .i64 a7] ?_;(with_reducible refine(Gzv.calls f5 a7 j9 _ l5.out).mono ?_);rintro e m9 ⟨n0,rfl,m7,hb⟩;refine⟨_,rfl,?_⟩;have n7:=rL (rn m7 m8);replace m8:=rE m8 m7 hb;replace d7:=kb d7 hb;replace HB:=bB hb;clear hb m7;obtain⟨n8,n9,rfl⟩:=Kd.R_slice m8.out;obtain⟨o0,o8,rfl⟩:=Kd.R_slice n7.out)|((with_reducible refine gc 79 rfl ?_);refine gC 79 (some 29) Try.func79 #[.bool ((decide (a6 < 0)) != (decide (a7 < 0))),.slice n8 j7.length n9,.slice o0 j9.length o8] ?_;(with_reducible refine(Fzq.calls f5 ((decide (a6 < 0)) != (decide (a7 < 0))) _ _ j7 _ _ j9 l6 l7 l8 l9 _ ?_ ?_ ?_ ?_ m4.out).mono ?_);exact cR m8;exact lR m8;exact cR n7;exact lR n7;rintro e o9 ⟨p0,p4,rfl,m7,p7,hb⟩;refine⟨_,rfl,?_⟩;have p9:=rL (rn (rn m7 m8) n7);have r5:=rL (rn (rn p7 m8) n7);replace m8:=rO m8 hb m7 p7;replace n7:=rO n7 hb m7 p7;replace d7:=kb d7 hb;replace HB:=bB hb;clear hb m7 p7;obtain⟨r6,r7,r8,r9,t4,t5⟩:=bk3 d7;obtain⟨t6,t7,rfl⟩:=Kd.R_slice p9.out;obtain⟨t8,t9,rfl⟩:=Kd.R_slice r5.out))
     refine rC b9 33 #[.bool l6,.slice t6 l7.length t7,.slice t8 l8.length t9] (kQ d7) Try.underlying33 ?_
     exact⟨_,_,eW,by exact Kd.R_mono (rT p9 d7) (fun _ hk=>hk.1.1),by exact Kd.R_mono (rT r5 d7) (fun _ hk=>hk.1.1),pB⟩

def Hzb.f (k:Nat) (a0:Int):Option (Bool × List Int × List Int × Int):=(Fzy.f k a0 1).bind fun bt259=>(some (bt259.1,bt259.2.1,bt259.2.2.1,bt259.2.2.2))
theorem Hzb.mono:∀ a6 k,LeO (Hzb.f k a6) (Hzb.f (k+1) a6):=by
 intro a6 k;unfold Hzb.f;have i0:=@Fzy.mono;exact mM
theorem Hzb.calls (k:Nat) (a6:Int) (a7:Bool) (a8:List Int) (a9:List Int) (b4:Int) (w:World) (h:Hzb.f k a6=some (a7,a8,a9,b4)) :
  Calls Try.prog 61 #[.int .i64 a6] w fun e w'=>∃ v1_ v2_:Value,e=.returned (.tuple #[.agg #[.bool a7,v1_,v2_],.int .i64 b4])∧rI w' w (oV v2_) v1_ a8∧rI w' w (oV v1_) v2_ a9∧bw w w':=by
 have hu33:=Try.underlying33;have HB:=aM (Below.refl w.heap.size w);have H:((Fzy.f k a6 1).bind fun b5=>(some (b5.1,b5.2.1,b5.2.2.1,b5.2.2.2)))=some (a7,a8,a9,b4):=h
 clear h;replace H:=bS H;obtain⟨⟨b6,b7,b8,b9⟩,d6,H⟩:=H;replace H:(some (b6,b7,b8,b9))=some (a7,a8,a9,b4):=H;have d7:=aM d6;clear d6;obtain⟨rfl,rfl,rfl,rfl⟩:=q4 H;go_enter Try.func61,Try.ntmps61
 go_wp2_with (first|((with_reducible refine gd 2 rfl ?_);refine bz 33 ?_;intro d8 hg d9 e6 hb;have e7:=gA w hg;replace HB:=bB hb;clear hb hg)|((with_reducible refine gc 87 rfl ?_);refine gC 87 (some 5) Try.func87 #[.int .i64 a6,.int .i64 1] ?_;(with_reducible refine(Fzy.calls k a6 1 b6 b7 b8 b9 _ d7.out).mono ?_);rintro e e9 ⟨f3,f4,rfl,f5,f6,hb⟩;refine⟨_,rfl,?_⟩;have f7:=rL f5;have f8:=rL f6;replace e6:=kb e6 hb;replace HB:=bB hb;clear hb f5 f6;obtain⟨f9,g4,g5,g6,g7,g8⟩:=bk3 e6;obtain⟨g9,j3,rfl⟩:=Kd.R_slice f7.out;obtain⟨j4,j5,rfl⟩:=Kd.R_slice f8.out))
 refine rC d8 33 #[.bool b6,.slice g9 b7.length j3,.slice j4 b8.length j5] (kQ e6) Try.underlying33 ?_
 exact⟨_,_,eW,by exact Kd.R_mono (rT f7 e6) (fun _ hk=>hk),by exact Kd.R_mono (rT f8 e6) (fun _ hk=>hk),pB⟩

def Dzf.f (k:Nat) (a0:Int):Option (Bool × List Int × List Int):=(Hzb.f k a0).bind fun bt268=>(some (bt268.1,bt268.2.1,bt268.2.2.1))
theorem Dzf.mono:∀ a6 k,LeO (Dzf.f k a6) (Dzf.f (k+1) a6):=by
 intro a6 k;unfold Dzf.f;have i0:=@Hzb.mono;exact mM
theorem Dzf.calls (k:Nat) (a6:Int) (a7:Bool) (a8:List Int) (a9:List Int) (w:World) (h:Dzf.f k a6=some (a7,a8,a9)) :
  Calls Try.prog 34 #[.int .i64 a6] w fun e w'=>∃ v1_ v2_:Value,e=.returned (.agg #[.bool a7,v1_,v2_])∧rI w' w (oV v2_) v1_ a8∧rI w' w (oV v1_) v2_ a9∧bw w w':=by
 have hu33:=Try.underlying33;have HB:=aM (Below.refl w.heap.size w);have H:((Hzb.f k a6).bind fun b4=>(some (b4.1,b4.2.1,b4.2.2.1)))=some (a7,a8,a9):=h
 clear h;replace H:=bS H;obtain⟨⟨b5,b6,b7,b8⟩,b9,H⟩:=H;replace H:(some (b5,b6,b7))=some (a7,a8,a9):=H;have d6:=aM b9;clear b9;obtain⟨rfl,rfl,rfl⟩:=q3 H;go_enter Try.func34,Try.ntmps34
 go_wp2_with (first|((with_reducible refine gd 2 rfl ?_);refine bz 33 ?_;intro d7 hg d8 d9 hb;have e6:=gA w hg;replace HB:=bB hb;clear hb hg)|((with_reducible refine gc 61 rfl ?_);refine gC 61 (some 7) Try.func61 #[.int .i64 a6] ?_;(with_reducible refine(Hzb.calls k a6 b5 b6 b7 b8 _ d6.out).mono ?_);rintro e e8 ⟨e9,f3,rfl,f4,f5,hb⟩;refine⟨_,rfl,?_⟩;have f6:=rL f4;have f7:=rL f5;replace d9:=kb d9 hb;replace HB:=bB hb;clear hb f4 f5)|((with_reducible refine gd 3 rfl ?_);refine bz 33 ?_;intro f8 hg f9 g4 hb;have g5:=gA w hg;have g7:=nl hg d9;have g8:=ng hg d9;replace f6:=rB f6 hb;replace f7:=rB f7 hb;replace d9:=kb d9 hb;replace HB:=bB hb;clear hb hg;have g9:=g8.out;have j3:=g7.out;obtain⟨j4,j5,j6,j7,j8,j9⟩:=bk3 g4;obtain⟨l5,l6,rfl⟩:=Kd.R_slice f6.out;obtain⟨l7,l8,rfl⟩:=Kd.R_slice f7.out;obtain⟨l9,m0,m4,m5,m6,m7⟩:=bk3 d9))
 refine bodyPost_ret (results_cell_row rfl _ _ d7 33 #[.bool b5,.slice l5 b6.length l6,.slice l7 b7.length l8] (0,0) _ rfl (by refine bD ?_;refine blk_put (cs:=#[.bool b5,.slice l5 b6.length l6,.slice none 0 0]) ?_ 2 _ rfl;refine bD ?_;refine blk_put (cs:=#[.bool b5,.slice none 0 0,.slice none 0 0]) ?_ 1 _ rfl;refine bD ?_;refine blk_put (cs:=#[.bool false,.slice none 0 0,.slice none 0 0]) ?_ 0 _ rfl;refine bD ?_;refine blk_far ?_ g7.out _;refine bD ?_;refine blk_far ?_ g7.out _;refine bD ?_;refine blk_far ?_ g7.out _;(with_reducible repeat(first|refine blk_drewN ?_ _|refine blk_drew ?_|refine blk_alloc ?_ _));exact d9.out) Try.underlying33 rfl (by kernel_rfl)) rfl ?_
 exact⟨_,_,eW,by exact rX (Kd.R_mono (Kd.R_far (p:=⟨d7,2,none⟩) (Kd.R_far (p:=⟨d7,1,none⟩) (Kd.R_far (p:=⟨d7,0,none⟩) (Kd.R_far (p:=⟨f8,2,none⟩) (Kd.R_far (p:=⟨f8,1,none⟩) (Kd.R_far (p:=⟨f8,0,none⟩) (Kd.R_types (Kd.R_types f6.out g4.out (by decide)) d9.out (by decide)) (fun _ hk=>hk.1.2) (.bool b5)) (fun _ hk=>hk.1.2) (.slice l5 b6.length l6)) (fun _ hk=>hk.1.2) (.slice l7 b7.length l8)) (fun _ hk=>hk.2) (.bool b5)) (fun _ hk=>hk.2) (.slice l5 b6.length l6)) (fun _ hk=>hk.2) (.slice l7 b7.length l8)) (fun _ hk=>hk.1.1)),by exact rX (Kd.R_mono (Kd.R_far (p:=⟨d7,2,none⟩) (Kd.R_far (p:=⟨d7,1,none⟩) (Kd.R_far (p:=⟨d7,0,none⟩) (Kd.R_far (p:=⟨f8,2,none⟩) (Kd.R_far (p:=⟨f8,1,none⟩) (Kd.R_far (p:=⟨f8,0,none⟩) (Kd.R_types (Kd.R_types f7.out g4.out (by decide)) d9.out (by decide)) (fun _ hk=>hk.1.2) (.bool b5)) (fun _ hk=>hk.1.2) (.slice l5 b6.length l6)) (fun _ hk=>hk.1.2) (.slice l7 b7.length l8)) (fun _ hk=>hk.2) (.bool b5)) (fun _ hk=>hk.2) (.slice l5 b6.length l6)) (fun _ hk=>hk.2) (.slice l7 b7.length l8)) (fun _ hk=>hk.1.1)),pB⟩


mutual
def Dzz.j0:Nat→Int→Int→Bool→Option (Int × (List (S33)) × Int)
 | 0,_,_,_=>none
 | k+1,x0,x1,x12=>if x12=true then(some (0,([]:List (S33)),17)) else(if x1 < 1 then(Dzz.j1 k x0 x1 true) else(Dzz.j1 k x0 x1 (decide (x1 > 1099511627776))))
def Dzz.j1:Nat→Int→Int→Bool→Option (Int × (List (S33)) × Int)
 | 0,_,_,_=>none
 | k+1,x0,x1,x19=>if x19=true then(some (0,([]:List (S33)),1)) else(Dzz.l0 k x0 0 x1 ([]:List (S33)))
def Dzz.l0:Nat→Int→Int→Int→List (S33)→Option (Int × (List (S33)) × Int)
 | 0,_,_,_,_=>none
 | k+1,x23,x24,x279000,x279001=>if x24 < x23 then((Dzf.f k 0).bind fun bt279=>(if x279001.length < 2513169434916 then(Dzz.l0 k x23 (wrap64 (x24+1)) x279000 (x279001 ++ [(⟨bt279.1,bt279.2.1,bt279.2.2⟩:S33)])) else(none))) else(some (x279000,x279001,0))
end
def Dzz.f (k:Nat) (a0:Int) (a1:Int):Option (Int × (List (S33)) × Int):=if a0 < 1 then(Dzz.j0 k a0 a1 true) else(Dzz.j0 k a0 a1 (decide (a0 > 8)))
theorem Dzz.mono_l:∀ k,(∀ a6 a7 a8,LeO (Dzz.j0 k a6 a7 a8) (Dzz.j0 (k+1) a6 a7 a8))∧(∀ a6 a7 a8,LeO (Dzz.j1 k a6 a7 a8) (Dzz.j1 (k+1) a6 a7 a8))∧(∀ a6 a7 a8 a9,LeO (Dzz.l0 k a6 a7 a8 a9) (Dzz.l0 (k+1) a6 a7 a8 a9))
 | 0=>⟨fun _ _ _ r h=>by simp [Dzz.j0] at h,fun _ _ _ r h=>by simp [Dzz.j1] at h,fun _ _ _ _ r h=>by simp [Dzz.l0] at h⟩
 | k+1=>by
  obtain⟨ih0,ih1,ih2⟩:=Dzz.mono_l k;have i0:=@Dzf.mono;refine⟨?_,?_,?_⟩
  ·intro a6 a7 a8;unfold Dzz.j0;exact mM
  ·intro a6 a7 a8;unfold Dzz.j1;exact mM
  ·intro a6 a7 a8 a9;unfold Dzz.l0;exact mM
theorem Dzz.mono:∀ a6 a7 k,LeO (Dzz.f k a6 a7) (Dzz.f (k+1) a6 a7):=by
 intro a6 a7 k;obtain⟨ih0,ih1,ih2⟩:=Dzz.mono_l k;unfold Dzz.f;have i0:=@Dzf.mono;exact mM
theorem Dzz.calls (k:Nat) (a6:Int) (a7:Int) (a8:Int) (a9:List (S33)) (b4:Int) (w:World) (h:Dzz.f k a6 a7=some (a8,a9,b4)) :
  Calls Try.prog 12 #[.int .i64 a6,.int .i64 a7] w fun e w'=>∃ v1_:Value,e=.returned (.tuple #[.agg #[.int .i64 a8,v1_],.int .i64 b4])∧Kd.S k33 33 w' w.heap.size (fun _=>True) v1_ a9∧bw w w':=by
 have hu24:=Try.underlying24;have HB:=aM (Below.refl w.heap.size w);have H:(if a6 < 1 then(Dzz.j0 k a6 a7 true) else(Dzz.j0 k a6 a7 (decide (a6 > 8))))=some (a8,a9,b4):=h
 clear h;have b5:=aM H;clear H;go_enter Try.func12,Try.ntmps12
 go_upto_region 1 with (first|((with_reducible refine gd 4 rfl ?_);refine bx #[.int .i64 0,.slice none 0 0] 24 ?_;intro b6 hg b7 b8 hb;have b9:=gA w hg;replace HB:=bB hb;clear hb hg))
 (try simp only[Act.put,sA,sZ,sC])
 go_cut [12] (fun d7 wc=>∃ (kq:Nat) (d8:Bool),d7=.bool d8∧Aside0 (Dzz.j0 kq a6 a7 d8=some (a8,a9,b4))∧Aside0 (kq≤k)∧Aside0 (wc.heap[b6]?=some (.cells #[.int .i64 0,(.slice none 0 0)] 24 (0,0)))∧Aside0 (bw w wc))
 case first =>
  have H:=b5.out;clear b5;replace H:=iD H;rcases H with⟨d9,H⟩|⟨d9,H⟩
  ·(first|rw[d9]|(simp only[i64_w,i32_w];rw[d9])|skip)
   have H':=aM H;clear H;go_wp2
   go_meet
   case rel=>exact⟨_,(true),sD,H',⟨by first|omega|exact Nat.le_refl _⟩,⟨by exact kW b8⟩,⟨pB⟩⟩
  ·(first|rw[d9]|(simp only[i64_w,i32_w];rw[d9])|skip)
   have H':=aM H;clear H;go_wp2
   go_meet
   case rel=>exact⟨_,(decide (a6 > 8)),sD,H',⟨by first|omega|exact Nat.le_refl _⟩,⟨by exact kW b8⟩,⟨pB⟩⟩
 case rest =>
  clear b5;try clear e6
  obtain⟨kq,d8,rfl,HA,e7,b8,HB⟩:=hcut;cases kq with
  | zero=>exact absurd HA.out (by simp [Dzz.j0])
  | succ e8 =>
   have H:=HA.out;clear HA;simp only[Dzz.j0] at H;by_cases c6:d8=true
   ·subst c6;rw[if_pos rfl] at H;obtain⟨rfl,rfl,rfl⟩:=q3 H;obtain⟨e9,f3,f4,f5⟩:=bk2 b8;go_wp2
    refine rC b6 24 #[.int .i64 0,.slice none 0 0] (kQ b8) Try.underlying24 ?_
    exact⟨_,eW,by first|exact Kd.S_nil _ _ _ _ _|exact Kd.N_nil _ _ _ _ _|exact Kd.V_nil _ _ _ _ _|exact Kd.Q_nil _ _ _ _ _|exact Kd.R_nil _ _ _ _ _,pB⟩
   ·obtain rfl:=bN c6;rw[if_neg nF] at H
    have f6:=aM H;clear H;go_upto_region 3 with (fail)
    go_cut [19] (fun f7 wc=>∃ (kq:Nat) (f8:Bool),f7=.bool f8∧Aside0 (Dzz.j1 kq a6 a7 f8=some (a8,a9,b4))∧Aside0 (kq≤e8)∧Aside0 (wc.heap[b6]?=some (.cells #[.int .i64 0,(.slice none 0 0)] 24 (0,0)))∧Aside0 (bw w wc))
    case first =>
     have H:=f6.out;clear f6;replace H:=iD H;rcases H with⟨f9,H⟩|⟨f9,H⟩
     ·(first|rw[f9]|(simp only[i64_w,i32_w];rw[f9])|skip)
      have H':=aM H;clear H;go_wp2
      go_meet
      case rel=>exact⟨_,(true),sD,H',⟨by have:=e7.out;first|omega|exact Nat.le_refl _⟩,⟨by exact kW b8⟩,⟨pB⟩⟩
     ·(first|rw[f9]|(simp only[i64_w,i32_w];rw[f9])|skip)
      have H':=aM H;clear H;go_wp2
      go_meet
      case rel=>exact⟨_,(decide (a7 > 1099511627776)),sD,H',⟨by have:=e7.out;first|omega|exact Nat.le_refl _⟩,⟨by exact kW b8⟩,⟨pB⟩⟩
    case rest =>
     clear f6;try clear e6
     obtain⟨kq,f8,rfl,HA,g4,b8,HB⟩:=hcut;cases kq with
     | zero=>exact absurd HA.out (by simp [Dzz.j1])
     | succ g5 =>
      have H:=HA.out;clear HA;simp only[Dzz.j1] at H;by_cases c10:f8=true
      ·subst c10;rw[if_pos rfl] at H;obtain⟨rfl,rfl,rfl⟩:=q3 H;obtain⟨g6,g7,g8,g9⟩:=bk2 b8;go_wp2
       refine rC b6 24 #[.int .i64 0,.slice none 0 0] (kQ b8) Try.underlying24 ?_
       exact⟨_,eW,by first|exact Kd.S_nil _ _ _ _ _|exact Kd.N_nil _ _ _ _ _|exact Kd.V_nil _ _ _ _ _|exact Kd.Q_nil _ _ _ _ _|exact Kd.R_nil _ _ _ _ _,pB⟩
      ·obtain rfl:=bN c10;rw[if_neg nF] at H
       have H':=aM H;clear H;go_wp2_with (first|((with_reducible refine gd 6 rfl ?_);refine bx #[.int .i64 0,.slice none 0 0] 24 ?_;intro j3 hg j4 j5 hb;have j6:=gA w hg;have j8:=nl hg b8;have j9:=ng hg b8;replace b8:=kb b8 hb;replace HB:=bB hb;clear hb hg;have l5:=j9.out;have l6:=j8.out;obtain⟨l7,l8,l9,m0⟩:=bk2 j5))
       go_loopg [24] g5 (fun kq m4 w'=>∃ (m5:Int) (m6:List (S33)) (u279001:Value),m4=.int .i64 m5∧Aside0 (Dzz.l0 kq a6 m5 a7 m6=some (a8,a9,b4))∧Aside0 (kq≤g5)∧Aside0 (Kd.S k33 33 w' w.heap.size (fun _=>True) u279001 m6)∧Aside0 (w'.heap[b6]?=some (.cells #[.int .i64 0,(.slice none 0 0)] 24 (0,0)))∧Aside0 (w'.heap[j3]?=some (.cells #[.int .i64 a7,u279001] 24 (0,0)))∧Aside0 (bw w w'))
       case atStart=>exact⟨(0),(([]:List (S33))),(.slice none 0 0),sD,H',⟨Nat.le_refl _⟩,⟨by first|exact Kd.S_nil _ _ _ _ _|exact Kd.N_nil _ _ _ _ _|exact Kd.V_nil _ _ _ _ _|exact Kd.Q_nil _ _ _ _ _|exact Kd.R_nil _ _ _ _ _⟩,⟨by exact kf b8 j8⟩,⟨by exact kQ j5⟩,⟨pB⟩⟩
       case round =>
        clear H';try clear e6
        obtain⟨m5,m6,u279001,rfl,HA,m7,m8,b8,j5,HB⟩:=hrel;cases gk with
        | zero=>exact absurd HA.out (by simp [Dzz.l0])
        | succ k3 =>
         have H:=HA.out;clear HA;simp only[Dzz.l0] at H;replace H:=iD H;rcases H with⟨n0,H⟩|⟨n0,H⟩
         ·obtain⟨⟨n7,n8,n9⟩,o0,H⟩:=bT H;(try dsimp only at H);obtain⟨o8,H⟩:=iO H;have LMc17:=aM o8;clear o8;obtain⟨o9,p0⟩:∃ y_:List (S33),y_=(m6 ++ [(⟨n7,n8,n9⟩:S33)]):=⟨_,rfl⟩;replace H:(Dzz.l0 k3 a6 (wrap64 (m5+1)) a7 o9)=some (a8,a9,b4):=yE p0 H
          have p4:=aM p0;clear p0;have H':=aM H;clear H;try go_wp2
          have n0_:=aM (Kd.S_drew m8.out);have n1_:=aM (blk_drew b8.out);have n2_:=aM (blk_drew j5.out);have n3_:=aM (below_drew1 HB.out);clear m8 b8 j5 HB;have m8:=n0_;have b8:=n1_;have j5:=n2_;have HB:=n3_;clear n0_ n1_ n2_ n3_;refine start_ (n:=7) (S:=fun w'=>w'.cell? ⟨j3,0,none⟩=some (.int .i64 a7)∧w'.cell? ⟨j3,1,none⟩=some (u279001)) (ds:=[6]) (bA 7 0) (by kernel_rfl) rfl rfl ⟨(blk_cell j5.out 0).trans rfl,(blk_cell j5.out 1).trans rfl⟩ (fun hHeld=>?_)
          generalize wr.drew=p7 at m8 b8 j5 HB hHeld ⊢;refine pV 0 26 (bA 7 1) ?_;refine tV 1 27 (bA 7 3) hHeld ?_;refine one_ (i:=2) (N:=some 28) (bA 7 7) rfl rfl (by kernel_rfl) (by decide) (fun K hK=>?_)
          refine goes_ Try.func34 (by kernel_rfl) rfl #[.int .i64 0] (by rfl) rfl rfl mA ?_
          with_reducible refine(Dzf.calls k3 0 n7 n8 n9 _ o0.out).mono ?_
          rintro e r6 ⟨r7,r8,rfl,r9,t4,hb⟩;refine⟨_,rfl,?_⟩;have n0_:=sO m8 hb r9 t4
          have n1_:=rL r9;have n2_:=rL t4;have n3_:=kb b8 hb;have n4_:=kb j5 hb;have n5_:=bB hb;clear m8 b8 j5 HB;have m8:=n0_;have t5:=n1_;have t6:=n2_;have b8:=n3_;have j5:=n4_;have HB:=n5_;clear n0_ n1_ n2_ n3_ n4_ n5_;(try clear hb)
          (try clear t7)
          (try clear hk)
          (try clear hi)
          (try clear r9)
          (try clear t4)
          obtain⟨t8,t9,z3⟩:=Kd.R_slice t5.out;(first|subst z3|(injection z3 with f1_ f2_ f3_;have f4_:=f1_.symm;have f5_:=f3_.symm;clear f1_ f2_ f3_;subst f4_;subst f5_))
          obtain⟨z4,z5,z6⟩:=Kd.R_slice t6.out;(first|subst z6|(injection z6 with f1_ f2_ f3_;have f4_:=f1_.symm;have f5_:=f3_.symm;clear f1_ f2_ f3_;subst f4_;subst f5_))
          refine hK.out _ _ ⟨(blk_cell j5.out 0).trans rfl,(blk_cell j5.out 1).trans rfl⟩ (fun hHeld=>?_)
          clear hK K;refine nm 28 ?_;refine one_ (i:=3) (N:=some 29) (bA 7 15) rfl rfl (by kernel_rfl) (by decide) (fun K hK=>?_)
          refine value_ (w1:=?_) (v:=?_) (by rfl) rfl ?_ ?_
          rotate_left 2
          ·go_simp
           constructor
           ·rfl
           ·rfl
          refine hK.out _ _ ⟨(blk_cell (blk_alloc j5.out _) 0).trans rfl,(blk_cell (blk_alloc j5.out _) 1).trans rfl⟩ (fun hHeld=>?_)
          clear hK K;refine nm 29 ?_;refine one_ (i:=4) (N:=some 30) (bA 7 31) rfl rfl (by kernel_rfl) (by decide) (fun K hK=>?_)
          refine Kd.S_append_step k33 (w0:=w) w.heap.size (by rfl) (.tmp 27) (.tmp 29) 22 33 (.agg #[(.bool false),(.slice none 0 0),(.slice none 0 0)]) 56 rfl Try.underlying22 info33 rfl (by decide) (by omega) u279001 m6 (⟨n7,n8,n9⟩:S33) [.bool n7,.slice t8 n8.length t9,.slice z4 n9.length z5] (fun _=>True) (fun k_=>some k_=(.slice t8 n8.length t9:Value).ownBlock∨some k_=(.slice z4 n9.length z5:Value).ownBlock) rfl rfl ?aP (fun k_ hk_=>hk_.elim (fun h_=>((Kd.R_mono (ok':=fun k_=>((fun _=>True)) k_∧oV u279001 k_) (Kd.R_apart' (t5.out) (Kd.S_typed m8.out) (by decide)) (fun k_ hk=>⟨trivial,hk.2⟩))).1 k_ h_.symm) (fun h_=>((Kd.R_mono (ok':=fun k_=>((fun _=>True)) k_∧oV u279001 k_) (Kd.R_apart' (t6.out) (Kd.S_typed m8.out) (by decide)) (fun k_ hk=>⟨trivial,hk.2⟩))).1 k_ h_.symm)) ?aF ?aO ?aB ?aS ?aL ?_
          (case aP=>exact k33_mkM _ _ _ (⟨n7,n8,n9⟩:S33) (Kd.R_mono (Kd.R_tight rfl (Kd.R_mono (ok':=fun k_=>((fun _=>True)) k_∧oV u279001 k_) (Kd.R_apart' (t5.out) (Kd.S_typed m8.out) (by decide)) (fun k_ hk=>⟨trivial,hk.2⟩))) (fun _ h_=>Or.inl h_)) (Kd.R_mono (Kd.R_tight rfl (Kd.R_mono (ok':=fun k_=>((fun _=>True)) k_∧oV u279001 k_) (Kd.R_apart' (t6.out) (Kd.S_typed m8.out) (by decide)) (fun k_ hk=>⟨trivial,hk.2⟩))) (fun _ h_=>Or.inr (h_))))
          (case aB=>exact pB)
          (case aF=>exact(fun _ _=>trivial))
          (case aO=>exact(by exact sX (Kd.S_mono m8.out (fun k_ hk=>⟨trivial,fun e_=>e_.elim (fun h_=>hk.1.2 h_) (fun h_=>hk.2 h_)⟩))))
          (case aS=>exact(below_size pB))
          (case aL=>have:=LMc17.out;omega)
          intro z7 z8 ho hb hg hat;rw[← p4.out] at ho;have n0_:=aM (blk_grown (g:=b6) (o:=.cells #[.int .i64 0,.slice none 0 0] 24 (0,0)) (kW b8) hg (Kd.S_ne m8.out b8.out (by decide)))
          have n1_:=aM (blk_grown (g:=j3) (o:=.cells #[.int .i64 a7,u279001] 24 (0,0)) (kW j5) hg (Kd.S_ne m8.out j5.out (by decide)))
          have n2_:=aM (hb);have n3_:=aM (ho);clear b8 j5 HB m8 t5 t6;have b8:=n0_;have j5:=n1_;have HB:=n2_;have z9:=n3_;clear n0_ n1_ n2_ n3_ ho hb hg hat;obtain⟨B0,B5,B9⟩:=Kd.S_slice z9.out;(first|subst B9|(injection B9 with f1_ f2_ f3_;have f4_:=f1_.symm;have f5_:=f3_.symm;clear f1_ f2_ f3_;subst f4_;subst f5_))
          refine hK.out _ _ ⟨(blk_cell j5.out 0).trans rfl,(blk_cell j5.out 1).trans rfl⟩ (fun hHeld=>?_)
          clear hK K;refine nm 30 ?_;refine pV 5 31 (bA 7 63) ?_;refine last_ (i:=6) (N:=none) (bA 7 127) rfl rfl (by kernel_rfl) (by decide) (fun K hK=>?_)
          have C0:z8.cell? ⟨j3,1,none⟩=some (u279001):=(blk_cell j5.out 1).trans rfl;have hfs24:=blk_frozen j5.out 1;have hns24_0:=j8.out;have hms24_0:=j9.out;refine skip_ (w1:=?_) (by rfl) rfl ?_ ?_
          rotate_left
          ·go_simp
           rfl
          refine hK.out _ _ ?_;clear hK K;refine done_ (by kernel_rfl) ?_
          try go_wp2
          go_roundg k3
          case measure=>have:=e7.out;have:=g4.out;have:=m7.out;omega
          case rel=>exact⟨(wrap64 (m5+1)),(o9),(.slice B0 o9.length B5),sD,H',⟨by have:=e7.out;have:=g4.out;have:=m7.out;omega⟩,⟨by exact sX (Kd.S_mono (Kd.S_far (p:=⟨j3,1,none⟩) (Kd.S_types z9.out j5.out (by decide)) (fun _ hk=>hk.2) (.slice B0 o9.length B5)) (fun _ hk=>trivial))⟩,⟨by exact kf b8 j8⟩,⟨by exact kQ j5⟩,⟨pB⟩⟩
         ·obtain⟨rfl,rfl,rfl⟩:=q3 H;have C1:=j9.out;have C2:=j8.out;obtain⟨C3,C4,C6,C7⟩:=bk2 j5;obtain⟨C8,C9,D2,D3⟩:=bk2 b8;obtain⟨D4,D5,rfl⟩:=Kd.S_slice m8.out;go_wp2
          refine rC b6 24 #[.int .i64 a7,.slice D4 m6.length D5] (kQ b8) Try.underlying24 ?_
          exact⟨_,eW,by exact sX (Kd.S_mono (Kd.S_far (p:=⟨b6,1,none⟩) (Kd.S_far (p:=⟨b6,0,none⟩) (Kd.S_types m8.out b8.out (by decide)) (fun _ hk=>hk.2) (.int .i64 a7)) (fun _ hk=>hk.2) (.slice D4 m6.length D5)) (fun _ hk=>trivial)),pB⟩

end Go.Proofs.Ytbnpcplckcipfaa.Print
