import Derived.Test.YtbnpcplckcipfaaPrint0
import Derived.Test.YtbnpcplckcipfaaPrint4
import Derived.Test.YtbnpcplckcipfaaPrint9
namespace Go.Proofs.Ytbnpcplckcipfaa.Print
open Go.RowKit Go.Proofs.YtbnpcplckcipfaaW.PrintWords Go.Proofs.YtbnpcplckcipfaaW.PrintLast Go.Proofs.YtbnpcplckcipfaaW.PrintMore
attribute [local go_sem] max2_int min2_int max_two min_two max_three min_three max_four min_four
set_option linter.unusedVariables false
set_option maxRecDepth 100000
set_option maxHeartbeats 8000000
set_option linter.unusedSimpArgs false

def Dzp.f (k:Nat) (l0:List Int) (l1:List Int):Option (List Int × List Int):=(Czv.f k l0 l1).bind fun t160=>(if t160 < 0 then((Fzw.f l0 (l0.length:Int)).bind fun t161=>((Azb.f k t161).bind fun t164=>(some (([]:List Int),t164)))) else(if(l1.length:Int)=1 then(if 0 < (l1.length:Int) then((Czy.f k l0 (rd l1 0)).bind fun bt168=>(some (bt168.1,bt168.2))) else(none)) else((Bzm.f k l0 l1).bind fun bt174=>(some (bt174.1,bt174.2)))))
theorem Dzp.mono:∀ a6 a7 k,LeO (Dzp.f k a6 a7) (Dzp.f (k+1) a6 a7):=by
 intro a6 a7 k;unfold Dzp.f;have i0:=@Czv.mono;have i1:=@Bzm.mono;have i2:=@Czy.mono;have i3:=@Azb.mono;exact mM
theorem Dzp.calls (k:Nat) (a6:Option Addr) (a7:Nat) (l0:List Int) (a8:Option Addr) (a9:Nat) (l1:List Int) (b4:List Int) (b5:List Int) (w:World) (b6:cI w a6 l0) (b7:l0.length≤a7) (b8:cI w a8 l1) (b9:l1.length≤a9) (h:Dzp.f k l0 l1=some (b4,b5)) :
  Calls Try.prog 91 #[.slice a6 l0.length a7,.slice a8 l1.length a9] w fun e w'=>∃ v0_ v1_:Value,e=.returned (.tuple #[v0_,v1_])∧rI w' w (oV v1_) v0_ b4∧rI w' w (oV v0_) v1_ b5∧bw w w':=by
 have d6:=aM b6;have d7:=aM b7;clear b6 b7;have d8:=aM b8;have d9:=aM b9;clear b8 b9;have HB:=aM (Below.refl w.heap.size w);have H:((Czv.f k l0 l1).bind fun e6=>(if e6 < 0 then((Fzw.f l0 (l0.length:Int)).bind fun e7=>((Azb.f k e7).bind fun e8=>(some (([]:List Int),e8)))) else(if(l1.length:Int)=1 then(if 0 < (l1.length:Int) then((Czy.f k l0 (rd l1 0)).bind fun e9=>(some (e9.1,e9.2))) else(none)) else((Bzm.f k l0 l1).bind fun f3=>(some (f3.1,f3.2))))))=some (b4,b5):=h
 clear h;obtain⟨e6,f4,H⟩:=bT H;(try dsimp only at H);have f5:=aM H;clear H;go_enter Try.func91,Try.ntmps91
 go_upto_if 6 with (first|((with_reducible refine gc 98 rfl ?_);refine gC 98 (some 9) Try.func98 #[.slice a6 l0.length a7,.slice a8 l1.length a9] ?_;(with_reducible refine(Czv.calls k _ _ l0 _ _ l1 e6 _ ?_ ?_ ?_ ?_ f4.out).mono ?_);exact cX d6.out;exact d7.out;exact cX d8.out;exact d9.out;rintro e w' ⟨rfl,⟨nd,rfl⟩⟩;refine⟨_,rfl,?_⟩))
 have H:=f5.out;clear f5;replace H:=iD H;rcases H with⟨f6,H⟩|⟨f6,H⟩
 ·(first|rw[f6]|(simp only[i64_w,i32_w];rw[f6])|skip)
  obtain⟨e7,f7,H⟩:=bT H;(try dsimp only at H);replace H:=bS H;obtain⟨e8,f8,H⟩:=H;replace H:(some (([]:List Int),e8))=some (b4,b5):=H;have f9:=aM f8;clear f8;obtain⟨rfl,rfl⟩:=q2 H;go_wp2_with (first|((with_reducible refine gc 93 rfl ?_);refine gC 93 (some 14) Try.func93 #[.slice a6 l0.length a7,.int .i64 (l0.length:Int)] ?_;(with_reducible refine(Fzw.calls _ _ l0 (l0.length:Int) e7 _ ?_ ?_ f7.out).mono ?_);exact cB d6;exact d7.out;rintro e g4 ⟨g5,rfl,g6,hb⟩;refine⟨_,rfl,?_⟩;have g7:=rL g6;replace HB:=bB hb;clear hb g6;obtain⟨g8,g9,rfl⟩:=Kd.R_slice g7.out)|((with_reducible refine gc 92 rfl ?_);refine gC 92 (some 15) Try.func92 #[.slice g8 e7.length g9] ?_;(with_reducible refine(Azb.calls k (fun k_=>some k_=(.slice g8 e7.length g9:Value).ownBlock) (.slice g8 e7.length g9) e7 e8 w _ ?_ ?_ f9.out).mono ?_);exact pB;exact Kd.R_tight rfl g7.out;rintro e j3 ⟨j4,rfl,g6,hb,hkp⟩;refine⟨_,rfl,?_⟩;have j5:=aM (Kd.R_mono (ok':=fun k_=>True) g6 (fun k_ hk_=>trivial));replace HB:=aM (hb);clear g7 hb hkp g6))
  go_ret2
  exact⟨_,_,eW,nK,by exact rX (Kd.R_mono j5.out (fun _ hk=>(by simp [Value.ownBlock]))),pB⟩
 ·(first|rw[f6]|(simp only[i64_w,i32_w];rw[f6])|skip)
  replace H:=iE H;rcases H with⟨j7,j8,H⟩|⟨j6,j7,j8,H⟩
  ·obtain⟨j9,H⟩:=iO H;have l5:decide (0 < (l1.length:Int))=true:=dE j9;have l6:decide (0 < l1.length)=true:=dE (by omega)
   clear j9;replace H:=bS H;obtain⟨⟨l7,l8⟩,l9,H⟩:=H;replace H:(some (l7,l8))=some (b4,b5):=H;have m0:=aM l9;clear l9;obtain⟨rfl,rfl⟩:=q2 H;have m4:0≤(0:Int):=(by omega)
   have m5:0 < (l1.length:Int):=oE aS
   obtain⟨m6,m7,m8⟩:=Kd.at_int d8.out 0 m4 m5;cases m7
   have m9:(0 < l1.length)=True:=eq_true (by omega)
   (try rw[show((0:Int)).toNat=0 from rfl] at m8)
   (try rw[Addr.add_zero'] at m8)
   replace m8:=hB HB m8;replace m4:=eq_true m4;replace m5:=eq_true m5;go_wp2_with (first|((with_reducible refine gc 111 rfl ?_);refine gC 111 (some 24) Try.func111 #[.slice a6 l0.length a7,.int .i64 (rd l1 0)] ?_;(with_reducible refine(Czy.calls k _ _ l0 (rd l1 0) l7 l8 _ ?_ ?_ m0.out).mono ?_);exact cB d6;exact d7.out;rintro e n0 ⟨n7,n8,rfl,g6,n9,hb⟩;refine⟨_,rfl,?_⟩;have o0:=rL g6;have o8:=rL n9;replace HB:=bB hb;clear hb g6 n9))
   go_ret2
   exact⟨_,_,eW,rX o0.out,rX o8.out,pB⟩
  ·replace H:=bS H;obtain⟨⟨o9,p0⟩,p4,H⟩:=H;replace H:(some (o9,p0))=some (b4,b5):=H;have p7:=aM p4;clear p4;obtain⟨rfl,rfl⟩:=q2 H;go_wp2_with (first|((with_reducible refine gc 112 rfl ?_);refine gC 112 (some 29) Try.func112 #[.slice a6 l0.length a7,.slice a8 l1.length a9] ?_;(with_reducible refine(Bzm.calls k _ _ l0 _ _ l1 o9 p0 _ ?_ ?_ ?_ ?_ p7.out).mono ?_);exact cB d6;exact d7.out;exact cB d8;exact d9.out;rintro e p9 ⟨r5,r6,rfl,g6,n9,hb⟩;refine⟨_,rfl,?_⟩;have r7:=rL g6;have r8:=rL n9;replace HB:=bB hb;clear hb g6 n9))
   go_ret2
   exact⟨_,_,eW,rX r7.out,rX r8.out,pB⟩

def Czb.l0:Nat→List Int→Int→Int→Option (Int)
 | 0,_,_,_=>none
 | k+1,x0,x3,x4=>if x4≥0 then(if 0≤x4 then(if x4 < (x0.length:Int) then(Czb.l0 k x0 (wrap64 ((wrap64 (x3 * 1000000000))+(rd x0 x4))) (wrap64 (x4 - 1))) else(none)) else(none)) else(some x3)
def Czb.f (k:Nat) (l0:List Int):Option (Int):=Czb.l0 k l0 0 (wrap64 ((l0.length:Int) - 1))
theorem Czb.mono_l:∀ k,(∀ a6 a7 a8,LeO (Czb.l0 k a6 a7 a8) (Czb.l0 (k+1) a6 a7 a8))
 | 0=>fun _ _ _ r h=>by simp [Czb.l0] at h
 | k+1=>by
  have ih0:=Czb.mono_l k
  ·intro a6 a7 a8;unfold Czb.l0;exact mM
theorem Czb.mono:∀ a6 k,LeO (Czb.f k a6) (Czb.f (k+1) a6):=by
 intro a6 k;have ih0:=Czb.mono_l k;unfold Czb.f;exact mM
theorem Czb.calls (k:Nat) (a6:Option Addr) (a7:Nat) (l0:List Int) (r:Int) (w:World) (a8:cI w a6 l0) (a9:l0.length≤a7) (h:Czb.f k l0=some r) :
  Calls Try.prog 94 #[.slice a6 l0.length a7] w fun e w'=>e=.returned (.int .i64 r)∧Drawn0 w w':=by
 have b4:=aM a8;have b5:=aM a9;clear a8 a9;have H:(Czb.l0 k l0 0 (wrap64 ((l0.length:Int) - 1)))=some r:=h;clear h;have H':=aM H;clear H;go_enter Try.func94,Try.ntmps94
 go_wp2
 go_loopg [3,4] k (fun kq b6 b7 w'=>∃ (b8:Int) (b9:Int),b6=.int .i64 b8∧b7=.int .i64 b9∧Aside0 (Czb.l0 kq l0 b8 b9=some r)∧Aside0 (kq≤k)∧Drawn0 w w')
 case atStart=>exact⟨(0),(wrap64 ((l0.length:Int) - 1)),sD,sD,H',⟨Nat.le_refl _⟩,dR⟩
 case round =>
  clear H';obtain⟨b8,b9,rfl,rfl,HA,d6,⟨d7,rfl⟩⟩:=hrel;cases gk with
  | zero=>exact absurd HA.out (by simp [Czb.l0])
  | succ k1 =>
   have H:=HA.out;clear HA;simp only[Czb.l0] at H;by_cases c2:b9≥0
   ·rw[if_pos c2] at H;have d8:decide (0≤b9)=true:=dE c2;clear c2;obtain⟨d9,H⟩:=iN H;obtain⟨e6,H⟩:=iN H;have H':=aM H;clear H;obtain⟨e7,e8,e9,f3,f4⟩:=aI b4.out b9;cases e8;go_wp2
    go_roundg k1
    case measure=>have:=d6.out;omega
    case rel=>exact⟨(wrap64 ((wrap64 (b8 * 1000000000))+(rd l0 b9))),(wrap64 (b9 - 1)),sD,sD,H',⟨by have:=d6.out;omega⟩,dR⟩
   ·rw[if_neg c2] at H;have d8:decide (0≤b9)=false:=decide_eq_false c2;clear c2;obtain rfl:=Option.some.inj H;go_wp2
    go_ret
    exact⟨sD,dR⟩

def Ezz.l0:Nat→Int→List Int→Option (List Int × Int)
 | 0,_,_=>none
 | k+1,x0,x4=>if x0 > 0 then(if x4.length < 17592186044416 then(Ezz.l0 k (wrap64 (Int.tdiv x0 1000000000)) (x4 ++ [Int.tmod x0 1000000000])) else(none)) else(some (x4,0))
def Ezz.f (k:Nat) (a0:Int):Option (List Int × Int):=if a0 < 0 then(some (([]:List Int),1)) else(Ezz.l0 k a0 ([]:List Int))
theorem Ezz.mono_l:∀ k,(∀ a6 a7,LeO (Ezz.l0 k a6 a7) (Ezz.l0 (k+1) a6 a7))
 | 0=>fun _ _ r h=>by simp [Ezz.l0] at h
 | k+1=>by
  have ih0:=Ezz.mono_l k
  ·intro a6 a7;unfold Ezz.l0;exact mM
theorem Ezz.mono:∀ a6 k,LeO (Ezz.f k a6) (Ezz.f (k+1) a6):=by
 intro a6 k;have ih0:=Ezz.mono_l k;unfold Ezz.f;exact mM
theorem Ezz.calls (k:Nat) (a6:Int) (a7:List Int) (a8:Int) (w:World) (h:Ezz.f k a6=some (a7,a8)) :
  Calls Try.prog 95 #[.int .i64 a6] w fun e w'=>∃ v0_:Value,e=.returned (.tuple #[v0_,.int .i64 a8])∧rI w' w (fun _=>True) v0_ a7∧bw w w':=by
 have HB:=aM (Below.refl w.heap.size w);have H:(if a6 < 0 then(some (([]:List Int),1)) else(Ezz.l0 k a6 ([]:List Int)))=some (a7,a8):=h
 clear h;replace H:=iD H;rcases H with⟨a9,H⟩|⟨a9,H⟩
 ·obtain⟨rfl,rfl⟩:=q2 H;go_enter Try.func95,Try.ntmps95
  go_wp2
  go_ret2
  exact⟨_,eW,nK,pB⟩
 ·have H':=aM H;clear H;go_enter Try.func95,Try.ntmps95
  go_wp2
  go_loopg [0,4] k (fun kq b4 b5 w'=>∃ (b6:Int) (b7:List Int),b4=.int .i64 b6∧Aside0 (Ezz.l0 kq b6 b7=some (a7,a8))∧Aside0 (kq≤k)∧Aside0 (rI w' w (fun _=>True) b5 b7)∧Aside0 (bw w w'))
  case atStart=>exact⟨(a6),(([]:List Int)),sD,H',⟨Nat.le_refl _⟩,⟨nK⟩,⟨pB⟩⟩
  case round =>
   clear H';try clear c2
   obtain⟨b6,b7,rfl,HA,b8,b9,HB⟩:=hrel;cases gk with
   | zero=>exact absurd HA.out (by simp [Ezz.l0])
   | succ k1 =>
    have H:=HA.out;clear HA;simp only[Ezz.l0] at H;by_cases c3:b6 > 0
    ·rw[if_pos c3] at H;have d6:decide (0 < b6)=true:=dE c3;clear c3;obtain⟨c4,H⟩:=iO H;have LMc4:=aM c4;clear c4;obtain⟨d7,d8⟩:∃ y_:List Int,y_=(b7 ++ [Int.tmod b6 1000000000]):=⟨_,rfl⟩;replace H:(Ezz.l0 k1 (wrap64 (Int.tdiv b6 1000000000)) d7)=some (a7,a8):=yE d8 H
     have d9:=aM d8;clear d8;have H':=aM H;clear H;go_wp2_with (first|((with_reducible refine gate_builtin (b:=.append) (xs:=#[.tmp 11,.tmp 14]) rfl ?_);at_builtin;refine Kd.R_append (Kd.int .i64) (w0:=w) w.heap.size rfl (.tmp 11) (.tmp 14) 31 3 (.int .i64 0) 8 rfl Try.underlying31 info3 rfl (by decide) (by omega) u4 b7 (Int.tmod b6 1000000000) [.int .i64 (Int.tmod b6 1000000000)] (fun _=>True) (fun _=>False) rfl rfl ?aP (fun _ hk=>hk.elim) ?aF ?aO ?aB ?aS ?aL ?_;(case aP=>exact rfl);(case aB=>exact pB);(case aF=>exact(fun _ _=>trivial));(case aO=>exact(rX b9.out));(case aS=>exact(below_size pB));(case aL=>have:=LMc4.out;omega);intro e6 e7 ho hb hg hat;rw[← d9.out] at ho;have e8:=aM (ho);replace HB:=aM (hb);clear b9 ho hb hg hat))
     go_roundg k1
     case measure=>have:=b8.out;omega
     case rel=>exact⟨(wrap64 (Int.tdiv b6 1000000000)),(d7),sD,H',⟨by have:=b8.out;omega⟩,⟨rX e8.out⟩,⟨pB⟩⟩
    ·rw[if_neg c3] at H;have d6:decide (0 < b6)=false:=decide_eq_false c3;clear c3;obtain⟨rfl,rfl⟩:=q2 H;go_wp2
     go_ret2
     exact⟨_,eW,rX b9.out,pB⟩


mutual
def Bzx.j0:Nat→List Int→List Int→Bool→Option (List Int × Int)
 | 0,_,_,_=>none
 | k+1,x0,x1,x17=>if x17=true then(some (([]:List Int),3)) else(Bzx.l0 k x0 x1)
def Bzx.j2:Nat→List Int→List Int→Option (List Int × Int)
 | 0,_,_=>none
 | k+1,x0,x1=>if(x1.length:Int)=0 then((Fzw.f x0 (x0.length:Int)).bind fun t198=>((Azb.f k t198).bind fun t201=>(some (t201,0)))) else((Czb.f k x0).bind fun t204=>((Czb.f k x1).bind fun t205=>(Bzx.l1 k t204 t205)))
def Bzx.l1:Nat→Int→Int→Option (List Int × Int)
 | 0,_,_=>none
 | k+1,x8,x9=>if x9 > 0 then(if x9=0 then(none) else(Bzx.l1 k x9 (Int.tmod x8 x9))) else((Ezz.f k x8).bind fun bt206=>(some (bt206.1,bt206.2)))
def Bzx.l0:Nat→List Int→List Int→Option (List Int × Int)
 | 0,_,_=>none
 | k+1,x0,x1=>if(x1.length:Int) > 0 then(if(x0.length:Int) > 2 then((Dzp.f k x0 x1).bind fun bt186=>(Bzx.l0 k x1 bt186.2)) else(if(x1.length:Int) > 2 then((Dzp.f k x0 x1).bind fun bt192=>(Bzx.l0 k x1 bt192.2)) else(Bzx.j2 k x0 x1))) else(Bzx.j2 k x0 x1)
end
def Bzx.f (k:Nat) (l0:List Int) (l1:List Int):Option (List Int × Int):=(Azw.f k l0).bind fun t184=>(if t184=true then((Azw.f k l1).bind fun t185=>(Bzx.j0 k l0 l1 (!t185))) else(Bzx.j0 k l0 l1 true))
theorem Bzx.mono_l:∀ k,(∀ a6 a7 a8,LeO (Bzx.j0 k a6 a7 a8) (Bzx.j0 (k+1) a6 a7 a8))∧(∀ a6 a7,LeO (Bzx.j2 k a6 a7) (Bzx.j2 (k+1) a6 a7))∧(∀ a6 a7,LeO (Bzx.l1 k a6 a7) (Bzx.l1 (k+1) a6 a7))∧(∀ a6 a7,LeO (Bzx.l0 k a6 a7) (Bzx.l0 (k+1) a6 a7))
 | 0=>⟨fun _ _ _ r h=>by simp [Bzx.j0] at h,fun _ _ r h=>by simp [Bzx.j2] at h,fun _ _ r h=>by simp [Bzx.l1] at h,fun _ _ r h=>by simp [Bzx.l0] at h⟩
 | k+1=>by
  obtain⟨ih0,ih1,ih2,ih3⟩:=Bzx.mono_l k;have i0:=@Ezz.mono;have i1:=@Azw.mono;have i2:=@Dzp.mono;have i3:=@Czb.mono;have i4:=@Azb.mono;refine⟨?_,?_,?_,?_⟩
  ·intro a6 a7 a8;unfold Bzx.j0;exact mM
  ·intro a6 a7;unfold Bzx.j2;exact mM
  ·intro a6 a7;unfold Bzx.l1;exact mM
  ·intro a6 a7;unfold Bzx.l0;exact mM
theorem Bzx.mono:∀ a6 a7 k,LeO (Bzx.f k a6 a7) (Bzx.f (k+1) a6 a7):=by
 intro a6 a7 k;obtain⟨ih0,ih1,ih2,ih3⟩:=Bzx.mono_l k;unfold Bzx.f;have i0:=@Ezz.mono;have i1:=@Azw.mono;have i2:=@Dzp.mono;have i3:=@Czb.mono;have i4:=@Azb.mono;exact mM
theorem Bzx.calls (k:Nat) (a6:Nat→Prop) (a7:Option Addr) (a8:Nat) (l0:List Int) (a9:Nat→Prop) (b4:Option Addr) (b5:Nat) (l1:List Int) (b6:List Int) (b7:Int) (w:World) (b8:Kd.V (Kd.int .i64) 3 w w.heap.size (fun k_=>a6 k_) (.slice a7 l0.length a8) l0) (b9:Kd.V (Kd.int .i64) 3 w w.heap.size (fun k_=>a9 k_) (.slice b4 l1.length b5) l1) (h:Bzx.f k l0 l1=some (b6,b7)) :
  Calls Try.prog 66 #[.slice a7 l0.length a8,.slice b4 l1.length b5] w fun e w'=>∃ v0_:Value,e=.returned (.tuple #[v0_,.int .i64 b7])∧rI w' w (fun k_=>(w.heap.size≤k_)) v0_ b6∧bw w w':=by
 have d6:=aM (show Kd.V (Kd.int .i64) 3 w w.heap.size (fun k_=>((a6 k_∨a9 k_)∨w.heap.size≤k_)) (.slice a7 l0.length a8) l0 from Kd.V_mono b8 (fun k_ hk=>.inl (.inl hk)))
 have d7:=aM (show Kd.V (Kd.int .i64) 3 w w.heap.size (fun k_=>((a6 k_∨a9 k_)∨w.heap.size≤k_)) (.slice b4 l1.length b5) l1 from Kd.V_mono b9 (fun k_ hk=>.inl (.inr hk)))
 have HB:=aM (Below.refl w.heap.size w);have H:((Azw.f k l0).bind fun d8=>(if d8=true then((Azw.f k l1).bind fun d9=>(Bzx.j0 k l0 l1 (!d9))) else(Bzx.j0 k l0 l1 true)))=some (b6,b7):=h
 clear h;have e6:=aM H;clear H;go_enter Try.func66,Try.ntmps66
 go_upto_region 1 with (fail)
 repeat(go_quiet (fail);go_upto_region 1 with (fail))
 go_cut [17] (fun e7 wc=>∃ (kq:Nat) (e8:Bool),e7=.bool e8∧Aside0 (Bzx.j0 kq l0 l1 e8=some (b6,b7))∧Aside0 (kq≤k)∧Aside0 (Kd.V (Kd.int .i64) 3 wc w.heap.size (fun k_=>((a6 k_∨a9 k_)∨w.heap.size≤k_)) (.slice a7 l0.length a8) l0)∧Aside0 (Kd.V (Kd.int .i64) 3 wc w.heap.size (fun k_=>((a6 k_∨a9 k_)∨w.heap.size≤k_)) (.slice b4 l1.length b5) l1)∧Aside0 (bw w wc))
 case first =>
  have H:=e6.out;clear e6;obtain⟨d8,e9,H⟩:=bT H;(try dsimp only at H);by_cases c5:d8=true
  ·subst c5;rw[if_pos rfl] at H;obtain⟨d9,f3,H⟩:=bT H;(try dsimp only at H);have H':=aM H;clear H;have fl_:True:=trivial;repeat((first|clear fl_|go_quiet (first|(go_at_call 65;(with_reducible refine(Azw.calls k _ _ l0 true _ ?_ ?_ e9.out).mono ?_);exact cV d6;exact lV d6;rintro e w' ⟨rfl,⟨nd,rfl⟩⟩;(try exact dD))|(go_at_call 65;(with_reducible refine(Azw.calls k _ _ l1 d9 _ ?_ ?_ f3.out).mono ?_);exact cV d7;exact lV d7;rintro e w' ⟨rfl,⟨nd,rfl⟩⟩;(try exact dD))));go_wp2_with (first|(go_at_call 65;(with_reducible refine(Azw.calls k _ _ l0 true _ ?_ ?_ e9.out).mono ?_);exact cV d6;exact lV d6;rintro e w' ⟨rfl,⟨nd,rfl⟩⟩;(try exact dD))|(go_at_call 65;(with_reducible refine(Azw.calls k _ _ l1 d9 _ ?_ ?_ f3.out).mono ?_);exact cV d7;exact lV d7;rintro e w' ⟨rfl,⟨nd,rfl⟩⟩;(try exact dD))))
   go_meet
   case rel=>exact⟨_,(!d9),sD,H',⟨by first|omega|exact Nat.le_refl _⟩,⟨vX d6.out⟩,⟨vX d7.out⟩,⟨pB⟩⟩
  ·obtain rfl:=bN c5;rw[if_neg nF] at H
   have H':=aM H;clear H;have fl_:True:=trivial;repeat((first|clear fl_|go_quiet (first|(go_at_call 65;(with_reducible refine(Azw.calls k _ _ l0 false _ ?_ ?_ e9.out).mono ?_);exact cV d6;exact lV d6;rintro e w' ⟨rfl,⟨nd,rfl⟩⟩;(try exact dD))));go_wp2_with (first|(go_at_call 65;(with_reducible refine(Azw.calls k _ _ l0 false _ ?_ ?_ e9.out).mono ?_);exact cV d6;exact lV d6;rintro e w' ⟨rfl,⟨nd,rfl⟩⟩;(try exact dD))))
   go_meet
   case rel=>exact⟨_,(true),sD,H',⟨by first|omega|exact Nat.le_refl _⟩,⟨vX d6.out⟩,⟨vX d7.out⟩,⟨pB⟩⟩
 case rest =>
  clear e6;try clear b5
  obtain⟨kq,e8,rfl,HA,f4,f5,f6,HB⟩:=hcut;cases kq with
  | zero=>exact absurd HA.out (by simp [Bzx.j0])
  | succ f7 =>
   have H:=HA.out;clear HA;simp only[Bzx.j0] at H;by_cases c7:e8=true
   ·subst c7;rw[if_pos rfl] at H;obtain⟨rfl,rfl⟩:=q2 H;go_wp2
    repeat(go_quiet (fail);try go_wp2)
    go_ret2
    exact⟨_,eW,nK,pB⟩
   ·obtain rfl:=bN c7;rw[if_neg nF] at H
    have f8:=aM H;clear H;go_upto_block 0 with (fail)
    repeat(go_quiet (fail);go_upto_block 0 with (fail))
    go_cut [0,1] (fun f9 g4 wc=>∃ (kq:Nat) (g5:List Int) (g6:List Int),Aside0 (Bzx.j2 kq g5 g6=some (b6,b7))∧Aside0 (kq≤f7)∧Aside0 (Kd.V (Kd.int .i64) 3 wc w.heap.size (fun k_=>((a6 k_∨a9 k_)∨w.heap.size≤k_)) f9 g5)∧Aside0 (Kd.V (Kd.int .i64) 3 wc w.heap.size (fun k_=>((a6 k_∨a9 k_)∨w.heap.size≤k_)) g4 g6)∧Aside0 (bw w wc))
    case first =>
     have H:=f8.out;clear f8;have H':=aM H;clear H;go_wp2
     repeat(go_quiet (fail);try go_wp2)
     go_loopg [0,1] f7 (fun kq f9 g4 w'=>∃ (g7:List Int) (g8:List Int),Aside0 (Bzx.l0 kq g7 g8=some (b6,b7))∧Aside0 (kq≤f7)∧Aside0 (Kd.V (Kd.int .i64) 3 w' w.heap.size (fun k_=>((a6 k_∨a9 k_)∨w.heap.size≤k_)) f9 g7)∧Aside0 (Kd.V (Kd.int .i64) 3 w' w.heap.size (fun k_=>((a6 k_∨a9 k_)∨w.heap.size≤k_)) g4 g8)∧Aside0 (bw w w'))
     case atStart=>exact⟨(l0),(l1),H',⟨Nat.le_refl _⟩,⟨vX f5.out⟩,⟨vX f6.out⟩,⟨pB⟩⟩
     case round =>
      clear H';try clear b5
      obtain⟨g7,g8,HA,g9,f5,f6,HB⟩:=hrel;cases gk with
      | zero=>exact absurd HA.out (by simp [Bzx.l0])
      | succ k2 =>
       have H:=HA.out;clear HA;simp only[Bzx.l0] at H;by_cases c9:(g8.length:Int) > 0
       ·rw[if_pos c9] at H;have j3:decide (0 < (g8.length:Int))=true:=dE c9;have j4:decide (0 < g8.length)=true:=dE (by omega)
        clear c9;(first|rw[j3]|(simp only[i64_w,i32_w];rw[j3])|skip)
        by_cases c10:(g7.length:Int) > 2
        ·rw[if_pos c10] at H;have j5:decide (2 < (g7.length:Int))=true:=dE c10;have j6:decide (2 < g7.length)=true:=dE (by omega)
         clear c10;obtain⟨⟨j7,j8⟩,j9,H⟩:=bT H;(try dsimp only at H);have H':=aM H;clear H;obtain⟨l5,l6,l7⟩:=Kd.V_slice f6.out;subst l7;obtain⟨l8,l9,m0⟩:=Kd.V_slice f5.out;subst m0;have fl_:True:=trivial;repeat((first|clear fl_|go_quiet (first|(go_at_call 91;(with_reducible refine(Dzp.calls k2 _ _ g7 _ _ g8 j7 j8 _ ?_ ?_ ?_ ?_ j9.out).mono ?_);exact cV f5;exact lV f5;exact cV f6;exact lV f6;rintro e m4 ⟨m5,m6,rfl,m7,m8,hb⟩;have m9:=rL (Kd.R_newM (M:=fun k_=>(w.heap.size≤k_)) m7 (below_size pB) (fun k_ h_=>h_));have n0:=rL (Kd.R_newM (M:=fun k_=>(w.heap.size≤k_)) m8 (below_size pB) (fun k_ h_=>h_));replace f5:=vO f5 hb m7 m8;replace f6:=vO f6 hb m7 m8;replace HB:=bB hb;clear hb m7 m8)));go_wp2_with (first|(go_at_call 91;(with_reducible refine(Dzp.calls k2 _ _ g7 _ _ g8 j7 j8 _ ?_ ?_ ?_ ?_ j9.out).mono ?_);exact cV f5;exact lV f5;exact cV f6;exact lV f6;rintro e m4 ⟨m5,m6,rfl,m7,m8,hb⟩;have m9:=rL (Kd.R_newM (M:=fun k_=>(w.heap.size≤k_)) m7 (below_size pB) (fun k_ h_=>h_));have n0:=rL (Kd.R_newM (M:=fun k_=>(w.heap.size≤k_)) m8 (below_size pB) (fun k_ h_=>h_));replace f5:=vO f5 hb m7 m8;replace f6:=vO f6 hb m7 m8;replace HB:=bB hb;clear hb m7 m8)))
         go_roundg k2
         case measure=>have:=f4.out;have:=g9.out;omega
         case rel=>exact⟨(g8),(j8),H',⟨by have:=f4.out;have:=g9.out;omega⟩,⟨by exact vX (Kd.V_mono f6.out (fun _ hk=>hk.1.1))⟩,⟨Kd.V_mono (Kd.R_V (rX (Kd.R_mono n0.out (fun _ hk=>hk.1)))) (fun k_ hk=>by first|exact⟨(.inr (hk.1)),hk.2⟩|exact(.inr (hk)))⟩,⟨pB⟩⟩
        ·rw[if_neg c10] at H;have j5:decide (2 < (g7.length:Int))=false:=decide_eq_false c10;have j6:decide (2 < g7.length)=false:=decide_eq_false (by omega)
         clear c10;by_cases n7:(g8.length:Int) > 2
         ·rw[if_pos n7] at H;have n8:decide (2 < (g8.length:Int))=true:=dE n7;have n9:decide (2 < g8.length)=true:=dE (by omega)
          clear n7;obtain⟨⟨o0,o8⟩,o9,H⟩:=bT H;(try dsimp only at H);have H':=aM H;clear H;obtain⟨p0,p4,p7⟩:=Kd.V_slice f6.out;subst p7;obtain⟨p9,r5,r6⟩:=Kd.V_slice f5.out;subst r6;have fl_:True:=trivial;repeat((first|clear fl_|go_quiet (first|(go_at_call 91;(with_reducible refine(Dzp.calls k2 _ _ g7 _ _ g8 o0 o8 _ ?_ ?_ ?_ ?_ o9.out).mono ?_);exact cV f5;exact lV f5;exact cV f6;exact lV f6;rintro e r7 ⟨r8,r9,rfl,m7,m8,hb⟩;have t4:=rL (Kd.R_newM (M:=fun k_=>(w.heap.size≤k_)) m7 (below_size pB) (fun k_ h_=>h_));have t5:=rL (Kd.R_newM (M:=fun k_=>(w.heap.size≤k_)) m8 (below_size pB) (fun k_ h_=>h_));replace f5:=vO f5 hb m7 m8;replace f6:=vO f6 hb m7 m8;replace HB:=bB hb;clear hb m7 m8)));go_wp2_with (first|(go_at_call 91;(with_reducible refine(Dzp.calls k2 _ _ g7 _ _ g8 o0 o8 _ ?_ ?_ ?_ ?_ o9.out).mono ?_);exact cV f5;exact lV f5;exact cV f6;exact lV f6;rintro e r7 ⟨r8,r9,rfl,m7,m8,hb⟩;have t4:=rL (Kd.R_newM (M:=fun k_=>(w.heap.size≤k_)) m7 (below_size pB) (fun k_ h_=>h_));have t5:=rL (Kd.R_newM (M:=fun k_=>(w.heap.size≤k_)) m8 (below_size pB) (fun k_ h_=>h_));replace f5:=vO f5 hb m7 m8;replace f6:=vO f6 hb m7 m8;replace HB:=bB hb;clear hb m7 m8)))
          go_roundg k2
          case measure=>have:=f4.out;have:=g9.out;omega
          case rel=>exact⟨(g8),(o8),H',⟨by have:=f4.out;have:=g9.out;omega⟩,⟨by exact vX (Kd.V_mono f6.out (fun _ hk=>hk.1.1))⟩,⟨Kd.V_mono (Kd.R_V (rX (Kd.R_mono t5.out (fun _ hk=>hk.1)))) (fun k_ hk=>by first|exact⟨(.inr (hk.1)),hk.2⟩|exact(.inr (hk)))⟩,⟨pB⟩⟩
         ·rw[if_neg n7] at H;have n8:decide (2 < (g8.length:Int))=false:=decide_eq_false n7;have n9:decide (2 < g8.length)=false:=decide_eq_false (by omega)
          clear n7;have H':=aM H;clear H;obtain⟨t6,t7,t8⟩:=Kd.V_slice f6.out;subst t8;obtain⟨t9,y9,z3⟩:=Kd.V_slice f5.out;subst z3;go_wp2
          repeat(go_quiet (fail);try go_wp2)
          go_meet
          case rel=>exact⟨_,(g7),(g8),H',⟨by have:=f4.out;have:=g9.out;first|omega|exact Nat.le_refl _⟩,⟨vX f5.out⟩,⟨vX f6.out⟩,⟨pB⟩⟩
       ·rw[if_neg c9] at H;have j3:decide (0 < (g8.length:Int))=false:=decide_eq_false c9;have j4:decide (0 < g8.length)=false:=decide_eq_false (by omega)
        clear c9;(first|rw[j3]|(simp only[i64_w,i32_w];rw[j3])|skip)
        have H':=aM H;clear H;obtain⟨z4,z5,z6⟩:=Kd.V_slice f6.out;subst z6;go_wp2
        repeat(go_quiet (fail);try go_wp2)
        go_meet
        case rel=>exact⟨_,(g7),(g8),H',⟨by have:=f4.out;have:=g9.out;first|omega|exact Nat.le_refl _⟩,⟨vX f5.out⟩,⟨vX f6.out⟩,⟨pB⟩⟩
    case rest =>
     clear f8;try clear b5
     obtain⟨kq,g5,g6,HA,z7,f5,f6,HB⟩:=hcut;cases kq with
     | zero=>exact absurd HA.out (by simp [Bzx.j2])
     | succ z8 =>
      have H:=HA.out;clear HA;simp only[Bzx.j2] at H;replace H:=iE H;rcases H with⟨B0,B5,H⟩|⟨z9,B0,B5,H⟩
      ·obtain⟨B9,C0,H⟩:=bT H;(try dsimp only at H);replace H:=bS H;obtain⟨C1,C2,H⟩:=H;replace H:(some (C1,0))=some (b6,b7):=H;have C3:=aM C2;clear C2;obtain⟨rfl,rfl⟩:=q2 H;obtain⟨C4,C6,C7⟩:=Kd.V_slice f6.out;subst C7;obtain⟨C8,C9,D2⟩:=Kd.V_slice f5.out;subst D2;have fl_:True:=trivial;repeat((first|clear fl_|go_quiet (first|(go_at_call 93;(with_reducible refine(Fzw.calls _ _ g5 (g5.length:Int) B9 _ ?_ ?_ C0.out).mono ?_);exact cV f5;exact lV f5;rintro e D3 ⟨D4,rfl,m7,hb⟩;have D5:=rL (Kd.R_newM (M:=fun k_=>(w.heap.size≤k_)) m7 (below_size pB) (fun k_ h_=>h_));replace f5:=vE f5 m7 hb;replace f6:=vE f6 m7 hb;replace HB:=bB hb;clear hb m7;obtain⟨D6,D7,rfl⟩:=Kd.R_slice D5.out)|(go_at_call 92;(with_reducible refine(Azb.calls z8 (fun k_=>some k_=(.slice D6 B9.length D7:Value).ownBlock) (.slice D6 B9.length D7) B9 C1 w _ ?_ ?_ C3.out).mono ?_);exact pB;exact Kd.R_tight rfl D5.out;rintro e D8 ⟨D9,rfl,m7,hb,hkp⟩;have E0:=aM (Kd.R_mono (ok':=fun k_=>(w.heap.size≤k_)) m7 (fun k_ hk_=>Or.elim hk_ (fun hs_=>(D5.out.1 k_ (hs_).symm).1) (fun hn_=>(lP hn_))));replace f5:=aM (Kd.V_mono (ok':=fun k_=>((a6 k_∨a9 k_)∨w.heap.size≤k_)∧oV D9 k_) (Kd.V_keptB (f5.out) hkp (fun k_ hk_ hs_=>(hk_.2) hs_)) (fun k_ hk_=>⟨hk_.1.1,fun e_=>Or.elim (m7.1 k_ e_.symm) (fun hs_=>hk_.2.1 hs_) (fun hn_=>Nat.not_le.2 hk_.2.2 hn_)⟩));replace f6:=aM (Kd.V_mono (ok':=fun k_=>((a6 k_∨a9 k_)∨w.heap.size≤k_)∧oV D9 k_) (Kd.V_keptB (f6.out) hkp (fun k_ hk_ hs_=>(hk_.2) hs_)) (fun k_ hk_=>⟨hk_.1.1,fun e_=>Or.elim (m7.1 k_ e_.symm) (fun hs_=>hk_.2.1 hs_) (fun hn_=>Nat.not_le.2 hk_.2.2 hn_)⟩));replace HB:=aM (hb);clear D5 hb hkp m7)));go_wp2_with (first|(go_at_call 93;(with_reducible refine(Fzw.calls _ _ g5 (g5.length:Int) B9 _ ?_ ?_ C0.out).mono ?_);exact cV f5;exact lV f5;rintro e D3 ⟨D4,rfl,m7,hb⟩;have D5:=rL (Kd.R_newM (M:=fun k_=>(w.heap.size≤k_)) m7 (below_size pB) (fun k_ h_=>h_));replace f5:=vE f5 m7 hb;replace f6:=vE f6 m7 hb;replace HB:=bB hb;clear hb m7;obtain⟨D6,D7,rfl⟩:=Kd.R_slice D5.out)|(go_at_call 92;(with_reducible refine(Azb.calls z8 (fun k_=>some k_=(.slice D6 B9.length D7:Value).ownBlock) (.slice D6 B9.length D7) B9 C1 w _ ?_ ?_ C3.out).mono ?_);exact pB;exact Kd.R_tight rfl D5.out;rintro e D8 ⟨D9,rfl,m7,hb,hkp⟩;have E0:=aM (Kd.R_mono (ok':=fun k_=>(w.heap.size≤k_)) m7 (fun k_ hk_=>Or.elim hk_ (fun hs_=>(D5.out.1 k_ (hs_).symm).1) (fun hn_=>(lP hn_))));replace f5:=aM (Kd.V_mono (ok':=fun k_=>((a6 k_∨a9 k_)∨w.heap.size≤k_)∧oV D9 k_) (Kd.V_keptB (f5.out) hkp (fun k_ hk_ hs_=>(hk_.2) hs_)) (fun k_ hk_=>⟨hk_.1.1,fun e_=>Or.elim (m7.1 k_ e_.symm) (fun hs_=>hk_.2.1 hs_) (fun hn_=>Nat.not_le.2 hk_.2.2 hn_)⟩));replace f6:=aM (Kd.V_mono (ok':=fun k_=>((a6 k_∨a9 k_)∨w.heap.size≤k_)∧oV D9 k_) (Kd.V_keptB (f6.out) hkp (fun k_ hk_ hs_=>(hk_.2) hs_)) (fun k_ hk_=>⟨hk_.1.1,fun e_=>Or.elim (m7.1 k_ e_.symm) (fun hs_=>hk_.2.1 hs_) (fun hn_=>Nat.not_le.2 hk_.2.2 hn_)⟩));replace HB:=aM (hb);clear D5 hb hkp m7)))
       go_ret2
       exact⟨_,eW,rX E0.out,pB⟩
      ·have E1:¬ (g6=[]):=fun h_=>z9 (by rw[h_];rfl)
       obtain⟨E2,E3,H⟩:=bT H;(try dsimp only at H);obtain⟨E4,E5,H⟩:=bT H;(try dsimp only at H);have H':=aM H;clear H;obtain⟨E6,E7,E8⟩:=Kd.V_slice f6.out;subst E8;obtain⟨E9,F0,F2⟩:=Kd.V_slice f5.out;subst F2;have fl_:True:=trivial;repeat((first|clear fl_|go_quiet (first|(go_at_call 94;(with_reducible refine(Czb.calls z8 _ _ g5 E2 _ ?_ ?_ E3.out).mono ?_);exact cV f5;exact lV f5;rintro e w' ⟨rfl,⟨nd,rfl⟩⟩;(try exact dD))|(go_at_call 94;(with_reducible refine(Czb.calls z8 _ _ g6 E4 _ ?_ ?_ E5.out).mono ?_);exact cV f6;exact lV f6;rintro e w' ⟨rfl,⟨nd,rfl⟩⟩;(try exact dD))));go_wp2_with (first|(go_at_call 94;(with_reducible refine(Czb.calls z8 _ _ g5 E2 _ ?_ ?_ E3.out).mono ?_);exact cV f5;exact lV f5;rintro e w' ⟨rfl,⟨nd,rfl⟩⟩;(try exact dD))|(go_at_call 94;(with_reducible refine(Czb.calls z8 _ _ g6 E4 _ ?_ ?_ E5.out).mono ?_);exact cV f6;exact lV f6;rintro e w' ⟨rfl,⟨nd,rfl⟩⟩;(try exact dD))))
       try simp only[Act.put,sA,sZ,sC]
       go_loopg [8,9] z8 (fun kq F3 F4 w'=>∃ (F5:Int) (F6:Int),F3=.int .i64 F5∧F4=.int .i64 F6∧Aside0 (Bzx.l1 kq F5 F6=some (b6,b7))∧Aside0 (kq≤z8)∧Aside0 (bw w w'))
       case atStart=>exact⟨(E2),(E4),sD,sD,H',⟨Nat.le_refl _⟩,⟨pB⟩⟩
       case round =>
        clear H';try clear b5
        obtain⟨F5,F6,rfl,rfl,HA,F7,HB⟩:=hrel;cases gk with
        | zero=>exact absurd HA.out (by simp [Bzx.l1])
        | succ k3 =>
         have H:=HA.out;clear HA;simp only[Bzx.l1] at H;by_cases F8:F6 > 0
         ·rw[if_pos F8] at H;have F9:decide (0 < F6)=true:=dE F8;clear F8;obtain⟨G5,H⟩:=iM H;have G9:(F6 == 0)=false:=beq_eq_false_iff_ne.mpr G5;have H5:(F6 != 0)=true:=bne_iff_ne.mpr G5;have H':=aM H;clear H;go_wp2
          repeat(go_quiet (fail);try go_wp2)
          go_roundg k3
          case measure=>have:=f4.out;have:=z7.out;have:=F7.out;omega
          case rel=>exact⟨(F6),(Int.tmod F5 F6),sD,sD,H',⟨by have:=f4.out;have:=z7.out;have:=F7.out;omega⟩,⟨pB⟩⟩
         ·rw[if_neg F8] at H;have F9:decide (0 < F6)=false:=decide_eq_false F8;clear F8;replace H:=bS H;obtain⟨⟨H6,H7⟩,H8,H⟩:=H;replace H:(some (H6,H7))=some (b6,b7):=H;have H9:=aM H8;clear H8;obtain⟨rfl,rfl⟩:=q2 H;have fl_:True:=trivial;repeat((first|clear fl_|go_quiet (first|(go_at_call 95;(with_reducible refine(Ezz.calls k3 F5 H6 H7 _ H9.out).mono ?_);rintro e I0 ⟨I3,rfl,m7,hb⟩;have I4:=rL (Kd.R_newM (M:=fun k_=>(w.heap.size≤k_)) m7 (below_size pB) (fun k_ h_=>h_));replace HB:=bB hb;clear hb m7)));go_wp2_with (first|(go_at_call 95;(with_reducible refine(Ezz.calls k3 F5 H6 H7 _ H9.out).mono ?_);rintro e I0 ⟨I3,rfl,m7,hb⟩;have I4:=rL (Kd.R_newM (M:=fun k_=>(w.heap.size≤k_)) m7 (below_size pB) (fun k_ h_=>h_));replace HB:=bB hb;clear hb m7)))
          go_ret2
          exact⟨_,eW,by exact rX (Kd.R_mono I4.out (fun _ hk=>hk.1)),pB⟩

end Go.Proofs.Ytbnpcplckcipfaa.Print
