import Derived.Test.YtbnpcplckcipfaaPrint0
import Derived.Test.YtbnpcplckcipfaaPrint9
namespace Go.Proofs.Ytbnpcplckcipfaa.Print
open Go.RowKit Go.Proofs.YtbnpcplckcipfaaW.PrintWords Go.Proofs.YtbnpcplckcipfaaW.PrintLast Go.Proofs.YtbnpcplckcipfaaW.PrintMore
attribute [local go_sem] max2_int min2_int max_two min_two max_three min_three max_four min_four
set_option linter.unusedVariables false
set_option maxRecDepth 100000
set_option maxHeartbeats 8000000
set_option linter.unusedSimpArgs false

def Ezb.f (k:Nat) (l0:List Int) (l1:List Int):Option (List Int × List Int):=(Dzj.f k l0 l1).bind fun t160=>(if t160 < 0 then((Gzv.f l0 (l0.length:Int)).bind fun t161=>((Bzp.f k t161).bind fun t164=>(some (([]:List Int),t164)))) else(if(l1.length:Int)=1 then(if 0 < (l1.length:Int) then((Dzw.f k l0 (rd l1 0)).bind fun bt168=>(some (bt168.1,bt168.2))) else(none)) else((Czp.f k l0 l1).bind fun bt174=>(some (bt174.1,bt174.2)))))
theorem Ezb.mono:∀ a6 a7 k,LeO (Ezb.f k a6 a7) (Ezb.f (k+1) a6 a7):=by
 intro a6 a7 k;unfold Ezb.f;have i0:=@Dzj.mono;have i1:=@Czp.mono;have i2:=@Dzw.mono;have i3:=@Bzp.mono;exact mM
theorem Ezb.calls (k:Nat) (a6:Option Addr) (a7:Nat) (l0:List Int) (a8:Option Addr) (a9:Nat) (l1:List Int) (b4:List Int) (b5:List Int) (w:World) (b6:cI w a6 l0) (b7:l0.length≤a7) (b8:cI w a8 l1) (b9:l1.length≤a9) (h:Ezb.f k l0 l1=some (b4,b5)) :
  Calls Try.prog 91 #[.slice a6 l0.length a7,.slice a8 l1.length a9] w fun e w'=>∃ v0_ v1_:Value,e=.returned (.tuple #[v0_,v1_])∧rI w' w (oV v1_) v0_ b4∧rI w' w (oV v0_) v1_ b5∧bw w w':=by
 have d6:=aM b6;have d7:=aM b7;clear b6 b7;have d8:=aM b8;have d9:=aM b9;clear b8 b9;have HB:=aM (Below.refl w.heap.size w);have H:((Dzj.f k l0 l1).bind fun e6=>(if e6 < 0 then((Gzv.f l0 (l0.length:Int)).bind fun e7=>((Bzp.f k e7).bind fun e8=>(some (([]:List Int),e8)))) else(if(l1.length:Int)=1 then(if 0 < (l1.length:Int) then((Dzw.f k l0 (rd l1 0)).bind fun e9=>(some (e9.1,e9.2))) else(none)) else((Czp.f k l0 l1).bind fun f4=>(some (f4.1,f4.2))))))=some (b4,b5):=h
 clear h;obtain⟨e6,f5,H⟩:=bT H;(try dsimp only at H);have f6:=aM H;clear H;go_enter Try.func91,Try.ntmps91
 go_upto_if 6 with (first|((with_reducible refine gc 98 rfl ?_);refine gC 98 (some 9) Try.func98 #[.slice a6 l0.length a7,.slice a8 l1.length a9] ?_;(with_reducible refine(Dzj.calls k _ _ l0 _ _ l1 e6 _ ?_ ?_ ?_ ?_ f5.out).mono ?_);exact cX d6.out;exact d7.out;exact cX d8.out;exact d9.out;rintro e w' ⟨rfl,⟨nd,rfl⟩⟩;refine⟨_,rfl,?_⟩))
 have H:=f6.out;clear f6;replace H:=iD H;rcases H with⟨f7,H⟩|⟨f7,H⟩
 ·(first|rw[f7]|(simp only[i64_w,i32_w];rw[f7])|skip)
  obtain⟨e7,f8,H⟩:=bT H;(try dsimp only at H);replace H:=bS H;obtain⟨e8,f9,H⟩:=H;replace H:(some (([]:List Int),e8))=some (b4,b5):=H;have g4:=aM f9;clear f9;obtain⟨rfl,rfl⟩:=q2 H;go_wp2_with (first|((with_reducible refine gc 93 rfl ?_);refine gC 93 (some 14) Try.func93 #[.slice a6 l0.length a7,.int .i64 (l0.length:Int)] ?_;(with_reducible refine(Gzv.calls _ _ l0 (l0.length:Int) e7 _ ?_ ?_ f8.out).mono ?_);exact cB d6;exact d7.out;rintro e g5 ⟨g6,rfl,g7,hb⟩;refine⟨_,rfl,?_⟩;have g8:=rL g7;replace HB:=bB hb;clear hb g7;obtain⟨g9,j3,rfl⟩:=Kd.R_slice g8.out)|((with_reducible refine gc 92 rfl ?_);refine gC 92 (some 15) Try.func92 #[.slice g9 e7.length j3] ?_;(with_reducible refine(Bzp.calls k (fun k_=>some k_=(.slice g9 e7.length j3:Value).ownBlock) (.slice g9 e7.length j3) e7 e8 w _ ?_ ?_ g4.out).mono ?_);exact pB;exact Kd.R_tight rfl g8.out;rintro e j4 ⟨j5,rfl,g7,hb,hkp⟩;refine⟨_,rfl,?_⟩;have j6:=aM (Kd.R_mono (ok':=fun k_=>True) g7 (fun k_ hk_=>trivial));replace HB:=aM (hb);clear g8 hb hkp g7))
  go_ret2
  exact⟨_,_,eW,nK,by exact rX (Kd.R_mono j6.out (fun _ hk=>(by simp [Value.ownBlock]))),pB⟩
 ·(first|rw[f7]|(simp only[i64_w,i32_w];rw[f7])|skip)
  replace H:=iE H;rcases H with⟨j8,j9,H⟩|⟨j7,j8,j9,H⟩
  ·obtain⟨l5,H⟩:=iO H;have l6:decide (0 < (l1.length:Int))=true:=dE l5;have l7:decide (0 < l1.length)=true:=dE (by omega)
   clear l5;replace H:=bS H;obtain⟨⟨l8,l9⟩,m0,H⟩:=H;replace H:(some (l8,l9))=some (b4,b5):=H;have m4:=aM m0;clear m0;obtain⟨rfl,rfl⟩:=q2 H;have m5:0≤(0:Int):=(by omega)
   have m6:0 < (l1.length:Int):=oE aS
   obtain⟨m7,m8,m9⟩:=Kd.at_int d8.out 0 m5 m6;cases m8
   have n0:(0 < l1.length)=True:=eq_true (by omega)
   (try rw[show((0:Int)).toNat=0 from rfl] at m9)
   (try rw[Addr.add_zero'] at m9)
   replace m9:=hB HB m9;replace m5:=eq_true m5;replace m6:=eq_true m6;go_wp2_with (first|((with_reducible refine gc 111 rfl ?_);refine gC 111 (some 24) Try.func111 #[.slice a6 l0.length a7,.int .i64 (rd l1 0)] ?_;(with_reducible refine(Dzw.calls k _ _ l0 (rd l1 0) l8 l9 _ ?_ ?_ m4.out).mono ?_);exact cB d6;exact d7.out;rintro e n7 ⟨n8,n9,rfl,g7,o0,hb⟩;refine⟨_,rfl,?_⟩;have o8:=rL g7;have o9:=rL o0;replace HB:=bB hb;clear hb g7 o0))
   go_ret2
   exact⟨_,_,eW,rX o8.out,rX o9.out,pB⟩
  ·replace H:=bS H;obtain⟨⟨p0,p4⟩,p7,H⟩:=H;replace H:(some (p0,p4))=some (b4,b5):=H;have p9:=aM p7;clear p7;obtain⟨rfl,rfl⟩:=q2 H;go_wp2_with (first|((with_reducible refine gc 112 rfl ?_);refine gC 112 (some 29) Try.func112 #[.slice a6 l0.length a7,.slice a8 l1.length a9] ?_;(with_reducible refine(Czp.calls k _ _ l0 _ _ l1 p0 p4 _ ?_ ?_ ?_ ?_ p9.out).mono ?_);exact cB d6;exact d7.out;exact cB d8;exact d9.out;rintro e r5 ⟨r6,r7,rfl,g7,o0,hb⟩;refine⟨_,rfl,?_⟩;have r8:=rL g7;have r9:=rL o0;replace HB:=bB hb;clear hb g7 o0))
   go_ret2
   exact⟨_,_,eW,rX r8.out,rX r9.out,pB⟩

def Dzx.l0:Nat→List Int→Int→Int→Option (Int)
 | 0,_,_,_=>none
 | k+1,x0,x3,x4=>if x4≥0 then(if 0≤x4 then(if x4 < (x0.length:Int) then(Dzx.l0 k x0 (wrap64 ((wrap64 (x3 * 1000000000))+(rd x0 x4))) (wrap64 (x4 - 1))) else(none)) else(none)) else(some x3)
def Dzx.f (k:Nat) (l0:List Int):Option (Int):=Dzx.l0 k l0 0 (wrap64 ((l0.length:Int) - 1))
theorem Dzx.mono_l:∀ k,(∀ a6 a7 a8,LeO (Dzx.l0 k a6 a7 a8) (Dzx.l0 (k+1) a6 a7 a8))
 | 0=>fun _ _ _ r h=>by simp [Dzx.l0] at h
 | k+1=>by
  have ih0:=Dzx.mono_l k
  ·intro a6 a7 a8;unfold Dzx.l0;exact mM
theorem Dzx.mono:∀ a6 k,LeO (Dzx.f k a6) (Dzx.f (k+1) a6):=by
 intro a6 k;have ih0:=Dzx.mono_l k;unfold Dzx.f;exact mM
theorem Dzx.calls (k:Nat) (a6:Option Addr) (a7:Nat) (l0:List Int) (r:Int) (w:World) (a8:cI w a6 l0) (a9:l0.length≤a7) (h:Dzx.f k l0=some r) :
  Calls Try.prog 94 #[.slice a6 l0.length a7] w fun e w'=>e=.returned (.int .i64 r)∧Drawn0 w w':=by
 have b4:=aM a8;have b5:=aM a9;clear a8 a9;have H:(Dzx.l0 k l0 0 (wrap64 ((l0.length:Int) - 1)))=some r:=h;clear h;have H':=aM H;clear H;go_enter Try.func94,Try.ntmps94
 go_wp2
 go_loopg [3,4] k (fun kq b6 b7 w'=>∃ (b8:Int) (b9:Int),b6=.int .i64 b8∧b7=.int .i64 b9∧Aside0 (Dzx.l0 kq l0 b8 b9=some r)∧Aside0 (kq≤k)∧Drawn0 w w')
 case atStart=>exact⟨(0),(wrap64 ((l0.length:Int) - 1)),sD,sD,H',⟨Nat.le_refl _⟩,dR⟩
 case round =>
  clear H';obtain⟨b8,b9,rfl,rfl,HA,d6,⟨d7,rfl⟩⟩:=hrel;cases gk with
  | zero=>exact absurd HA.out (by simp [Dzx.l0])
  | succ k1 =>
   have H:=HA.out;clear HA;simp only[Dzx.l0] at H;by_cases c2:b9≥0
   ·rw[if_pos c2] at H;have d8:decide (0≤b9)=true:=dE c2;clear c2;obtain⟨d9,H⟩:=iN H;obtain⟨e6,H⟩:=iN H;have H':=aM H;clear H;obtain⟨e7,e8,e9,f4,f5⟩:=aI b4.out b9;cases e8;go_wp2
    go_roundg k1
    case measure=>have:=d6.out;omega
    case rel=>exact⟨(wrap64 ((wrap64 (b8 * 1000000000))+(rd l0 b9))),(wrap64 (b9 - 1)),sD,sD,H',⟨by have:=d6.out;omega⟩,dR⟩
   ·rw[if_neg c2] at H;have d8:decide (0≤b9)=false:=decide_eq_false c2;clear c2;obtain rfl:=Option.some.inj H;go_wp2
    go_ret
    exact⟨sD,dR⟩

def Fzw.l0:Nat→Int→List Int→Option (List Int × Int)
 | 0,_,_=>none
 | k+1,x0,x4=>if x0 > 0 then(if x4.length < 17592186044416 then(Fzw.l0 k (wrap64 (Int.tdiv x0 1000000000)) (x4 ++ [Int.tmod x0 1000000000])) else(none)) else(some (x4,0))
def Fzw.f (k:Nat) (a0:Int):Option (List Int × Int):=if a0 < 0 then(some (([]:List Int),1)) else(Fzw.l0 k a0 ([]:List Int))
theorem Fzw.mono_l:∀ k,(∀ a6 a7,LeO (Fzw.l0 k a6 a7) (Fzw.l0 (k+1) a6 a7))
 | 0=>fun _ _ r h=>by simp [Fzw.l0] at h
 | k+1=>by
  have ih0:=Fzw.mono_l k
  ·intro a6 a7;unfold Fzw.l0;exact mM
theorem Fzw.mono:∀ a6 k,LeO (Fzw.f k a6) (Fzw.f (k+1) a6):=by
 intro a6 k;have ih0:=Fzw.mono_l k;unfold Fzw.f;exact mM
theorem Fzw.calls (k:Nat) (a6:Int) (a7:List Int) (a8:Int) (w:World) (h:Fzw.f k a6=some (a7,a8)) :
  Calls Try.prog 95 #[.int .i64 a6] w fun e w'=>∃ v0_:Value,e=.returned (.tuple #[v0_,.int .i64 a8])∧rI w' w (fun _=>True) v0_ a7∧bw w w':=by
 have HB:=aM (Below.refl w.heap.size w);have H:(if a6 < 0 then(some (([]:List Int),1)) else(Fzw.l0 k a6 ([]:List Int)))=some (a7,a8):=h
 clear h;replace H:=iD H;rcases H with⟨a9,H⟩|⟨a9,H⟩
 ·obtain⟨rfl,rfl⟩:=q2 H;go_enter Try.func95,Try.ntmps95
  go_wp2
  go_ret2
  exact⟨_,eW,nK,pB⟩
 ·have H':=aM H;clear H;go_enter Try.func95,Try.ntmps95
  go_wp2
  go_loopg [0,4] k (fun kq b4 b5 w'=>∃ (b6:Int) (b7:List Int),b4=.int .i64 b6∧Aside0 (Fzw.l0 kq b6 b7=some (a7,a8))∧Aside0 (kq≤k)∧Aside0 (rI w' w (fun _=>True) b5 b7)∧Aside0 (bw w w'))
  case atStart=>exact⟨(a6),(([]:List Int)),sD,H',⟨Nat.le_refl _⟩,⟨nK⟩,⟨pB⟩⟩
  case round =>
   clear H';try clear c2
   obtain⟨b6,b7,rfl,HA,b8,b9,HB⟩:=hrel;cases gk with
   | zero=>exact absurd HA.out (by simp [Fzw.l0])
   | succ k1 =>
    have H:=HA.out;clear HA;simp only[Fzw.l0] at H;by_cases c3:b6 > 0
    ·rw[if_pos c3] at H;have d6:decide (0 < b6)=true:=dE c3;clear c3;obtain⟨c4,H⟩:=iO H;have LMc4:=aM c4;clear c4;obtain⟨d7,d8⟩:∃ y_:List Int,y_=(b7 ++ [Int.tmod b6 1000000000]):=⟨_,rfl⟩;replace H:(Fzw.l0 k1 (wrap64 (Int.tdiv b6 1000000000)) d7)=some (a7,a8):=yE d8 H
     have d9:=aM d8;clear d8;have H':=aM H;clear H;go_wp2_with (first|((with_reducible refine gate_builtin (b:=.append) (xs:=#[.tmp 11,.tmp 14]) rfl ?_);at_builtin;refine Kd.R_append (Kd.int .i64) (w0:=w) w.heap.size rfl (.tmp 11) (.tmp 14) 31 3 (.int .i64 0) 8 rfl Try.underlying31 info3 rfl (by decide) (by omega) u4 b7 (Int.tmod b6 1000000000) [.int .i64 (Int.tmod b6 1000000000)] (fun _=>True) (fun _=>False) rfl rfl ?aP (fun _ hk=>hk.elim) ?aF ?aO ?aB ?aS ?aL ?_;(case aP=>exact rfl);(case aB=>exact pB);(case aF=>exact(fun _ _=>trivial));(case aO=>exact(rX b9.out));(case aS=>exact(below_size pB));(case aL=>have:=LMc4.out;omega);intro e6 e7 ho hb hg hat;rw[← d9.out] at ho;have e8:=aM (ho);replace HB:=aM (hb);clear b9 ho hb hg hat))
     go_roundg k1
     case measure=>have:=b8.out;omega
     case rel=>exact⟨(wrap64 (Int.tdiv b6 1000000000)),(d7),sD,H',⟨by have:=b8.out;omega⟩,⟨rX e8.out⟩,⟨pB⟩⟩
    ·rw[if_neg c3] at H;have d6:decide (0 < b6)=false:=decide_eq_false c3;clear c3;obtain⟨rfl,rfl⟩:=q2 H;go_wp2
     go_ret2
     exact⟨_,eW,rX b9.out,pB⟩


mutual
def Czv.j0:Nat→List Int→List Int→Bool→Option (List Int × Int)
 | 0,_,_,_=>none
 | k+1,x0,x1,x17=>if x17=true then(some (([]:List Int),3)) else(Czv.l0 k x0 x1)
def Czv.j2:Nat→List Int→List Int→Option (List Int × Int)
 | 0,_,_=>none
 | k+1,x0,x1=>if(x1.length:Int)=0 then((Gzv.f x0 (x0.length:Int)).bind fun t198=>((Bzp.f k t198).bind fun t201=>(some (t201,0)))) else((Dzx.f k x0).bind fun t204=>((Dzx.f k x1).bind fun t205=>(Czv.l1 k t204 t205)))
def Czv.l1:Nat→Int→Int→Option (List Int × Int)
 | 0,_,_=>none
 | k+1,x8,x9=>if x9 > 0 then(if x9=0 then(none) else(Czv.l1 k x9 (Int.tmod x8 x9))) else((Fzw.f k x8).bind fun bt206=>(some (bt206.1,bt206.2)))
def Czv.l0:Nat→List Int→List Int→Option (List Int × Int)
 | 0,_,_=>none
 | k+1,x0,x1=>if(x1.length:Int) > 0 then(if(x0.length:Int) > 2 then((Ezb.f k x0 x1).bind fun bt186=>(Czv.l0 k x1 bt186.2)) else(if(x1.length:Int) > 2 then((Ezb.f k x0 x1).bind fun bt192=>(Czv.l0 k x1 bt192.2)) else(Czv.j2 k x0 x1))) else(Czv.j2 k x0 x1)
end
def Czv.f (k:Nat) (l0:List Int) (l1:List Int):Option (List Int × Int):=(Azy.f k l0).bind fun t184=>(if t184=true then((Azy.f k l1).bind fun t185=>(Czv.j0 k l0 l1 (!t185))) else(Czv.j0 k l0 l1 true))
theorem Czv.mono_l:∀ k,(∀ a6 a7 a8,LeO (Czv.j0 k a6 a7 a8) (Czv.j0 (k+1) a6 a7 a8))∧(∀ a6 a7,LeO (Czv.j2 k a6 a7) (Czv.j2 (k+1) a6 a7))∧(∀ a6 a7,LeO (Czv.l1 k a6 a7) (Czv.l1 (k+1) a6 a7))∧(∀ a6 a7,LeO (Czv.l0 k a6 a7) (Czv.l0 (k+1) a6 a7))
 | 0=>⟨fun _ _ _ r h=>by simp [Czv.j0] at h,fun _ _ r h=>by simp [Czv.j2] at h,fun _ _ r h=>by simp [Czv.l1] at h,fun _ _ r h=>by simp [Czv.l0] at h⟩
 | k+1=>by
  obtain⟨ih0,ih1,ih2,ih3⟩:=Czv.mono_l k;have i0:=@Fzw.mono;have i1:=@Azy.mono;have i2:=@Ezb.mono;have i3:=@Dzx.mono;have i4:=@Bzp.mono;refine⟨?_,?_,?_,?_⟩
  ·intro a6 a7 a8;unfold Czv.j0;exact mM
  ·intro a6 a7;unfold Czv.j2;exact mM
  ·intro a6 a7;unfold Czv.l1;exact mM
  ·intro a6 a7;unfold Czv.l0;exact mM
theorem Czv.mono:∀ a6 a7 k,LeO (Czv.f k a6 a7) (Czv.f (k+1) a6 a7):=by
 intro a6 a7 k;obtain⟨ih0,ih1,ih2,ih3⟩:=Czv.mono_l k;unfold Czv.f;have i0:=@Fzw.mono;have i1:=@Azy.mono;have i2:=@Ezb.mono;have i3:=@Dzx.mono;have i4:=@Bzp.mono;exact mM
theorem Czv.calls (k:Nat) (a6:Nat→Prop) (a7:Option Addr) (a8:Nat) (l0:List Int) (a9:Nat→Prop) (b4:Option Addr) (b5:Nat) (l1:List Int) (b6:List Int) (b7:Int) (w:World) (b8:Kd.V (Kd.int .i64) 3 w w.heap.size (fun k_=>a6 k_) (.slice a7 l0.length a8) l0) (b9:Kd.V (Kd.int .i64) 3 w w.heap.size (fun k_=>a9 k_) (.slice b4 l1.length b5) l1) (h:Czv.f k l0 l1=some (b6,b7)) :
  Calls Try.prog 66 #[.slice a7 l0.length a8,.slice b4 l1.length b5] w fun e w'=>∃ v0_:Value,e=.returned (.tuple #[v0_,.int .i64 b7])∧rI w' w (fun k_=>(w.heap.size≤k_)) v0_ b6∧bw w w':=by
 have d6:=aM (show Kd.V (Kd.int .i64) 3 w w.heap.size (fun k_=>((a6 k_∨a9 k_)∨w.heap.size≤k_)) (.slice a7 l0.length a8) l0 from Kd.V_mono b8 (fun k_ hk=>.inl (.inl hk)))
 have d7:=aM (show Kd.V (Kd.int .i64) 3 w w.heap.size (fun k_=>((a6 k_∨a9 k_)∨w.heap.size≤k_)) (.slice b4 l1.length b5) l1 from Kd.V_mono b9 (fun k_ hk=>.inl (.inr hk)))
 have HB:=aM (Below.refl w.heap.size w);have H:((Azy.f k l0).bind fun d8=>(if d8=true then((Azy.f k l1).bind fun d9=>(Czv.j0 k l0 l1 (!d9))) else(Czv.j0 k l0 l1 true)))=some (b6,b7):=h
 clear h;have e6:=aM H;clear H;go_enter Try.func66,Try.ntmps66
 go_upto_region 1 with (fail)
 repeat(go_quiet (fail);go_upto_region 1 with (fail))
 go_cut [17] (fun e7 wc=>∃ (kq:Nat) (e8:Bool),e7=.bool e8∧Aside0 (Czv.j0 kq l0 l1 e8=some (b6,b7))∧Aside0 (kq≤k)∧Aside0 (Kd.V (Kd.int .i64) 3 wc w.heap.size (fun k_=>((a6 k_∨a9 k_)∨w.heap.size≤k_)) (.slice a7 l0.length a8) l0)∧Aside0 (Kd.V (Kd.int .i64) 3 wc w.heap.size (fun k_=>((a6 k_∨a9 k_)∨w.heap.size≤k_)) (.slice b4 l1.length b5) l1)∧Aside0 (bw w wc))
 case first =>
  have H:=e6.out;clear e6;obtain⟨d8,e9,H⟩:=bT H;(try dsimp only at H);by_cases c5:d8=true
  ·subst c5;rw[if_pos rfl] at H;obtain⟨d9,f4,H⟩:=bT H;(try dsimp only at H);have H':=aM H;clear H;have fl_:True:=trivial;repeat((first|clear fl_|go_quiet (first|(go_at_call 65;(with_reducible refine(Azy.calls k _ _ l0 true _ ?_ ?_ e9.out).mono ?_);exact cV d6;exact lV d6;rintro e w' ⟨rfl,⟨nd,rfl⟩⟩;(try exact dD))|(go_at_call 65;(with_reducible refine(Azy.calls k _ _ l1 d9 _ ?_ ?_ f4.out).mono ?_);exact cV d7;exact lV d7;rintro e w' ⟨rfl,⟨nd,rfl⟩⟩;(try exact dD))));go_wp2_with (first|(go_at_call 65;(with_reducible refine(Azy.calls k _ _ l0 true _ ?_ ?_ e9.out).mono ?_);exact cV d6;exact lV d6;rintro e w' ⟨rfl,⟨nd,rfl⟩⟩;(try exact dD))|(go_at_call 65;(with_reducible refine(Azy.calls k _ _ l1 d9 _ ?_ ?_ f4.out).mono ?_);exact cV d7;exact lV d7;rintro e w' ⟨rfl,⟨nd,rfl⟩⟩;(try exact dD))))
   go_meet
   case rel=>exact⟨_,(!d9),sD,H',⟨by first|omega|exact Nat.le_refl _⟩,⟨vX d6.out⟩,⟨vX d7.out⟩,⟨pB⟩⟩
  ·obtain rfl:=bN c5;rw[if_neg nF] at H
   have H':=aM H;clear H;have fl_:True:=trivial;repeat((first|clear fl_|go_quiet (first|(go_at_call 65;(with_reducible refine(Azy.calls k _ _ l0 false _ ?_ ?_ e9.out).mono ?_);exact cV d6;exact lV d6;rintro e w' ⟨rfl,⟨nd,rfl⟩⟩;(try exact dD))));go_wp2_with (first|(go_at_call 65;(with_reducible refine(Azy.calls k _ _ l0 false _ ?_ ?_ e9.out).mono ?_);exact cV d6;exact lV d6;rintro e w' ⟨rfl,⟨nd,rfl⟩⟩;(try exact dD))))
   go_meet
   case rel=>exact⟨_,(true),sD,H',⟨by first|omega|exact Nat.le_refl _⟩,⟨vX d6.out⟩,⟨vX d7.out⟩,⟨pB⟩⟩
 case rest =>
  clear e6;try clear b5
  obtain⟨kq,e8,rfl,HA,f5,f6,f7,HB⟩:=hcut;cases kq with
  | zero=>exact absurd HA.out (by simp [Czv.j0])
  | succ f8 =>
   have H:=HA.out;clear HA;simp only[Czv.j0] at H;by_cases c7:e8=true
   ·subst c7;rw[if_pos rfl] at H;obtain⟨rfl,rfl⟩:=q2 H;go_wp2
    repeat(go_quiet (fail);try go_wp2)
    go_ret2
    exact⟨_,eW,nK,pB⟩
   ·obtain rfl:=bN c7;rw[if_neg nF] at H
    have f9:=aM H;clear H;go_upto_block 0 with (fail)
    repeat(go_quiet (fail);go_upto_block 0 with (fail))
    go_cut [0,1] (fun g4 g5 wc=>∃ (kq:Nat) (g6:List Int) (g7:List Int),Aside0 (Czv.j2 kq g6 g7=some (b6,b7))∧Aside0 (kq≤f8)∧Aside0 (Kd.V (Kd.int .i64) 3 wc w.heap.size (fun k_=>((a6 k_∨a9 k_)∨w.heap.size≤k_)) g4 g6)∧Aside0 (Kd.V (Kd.int .i64) 3 wc w.heap.size (fun k_=>((a6 k_∨a9 k_)∨w.heap.size≤k_)) g5 g7)∧Aside0 (bw w wc))
    case first =>
     have H:=f9.out;clear f9;have H':=aM H;clear H;go_wp2
     repeat(go_quiet (fail);try go_wp2)
     go_loopg [0,1] f8 (fun kq g4 g5 w'=>∃ (g8:List Int) (g9:List Int),Aside0 (Czv.l0 kq g8 g9=some (b6,b7))∧Aside0 (kq≤f8)∧Aside0 (Kd.V (Kd.int .i64) 3 w' w.heap.size (fun k_=>((a6 k_∨a9 k_)∨w.heap.size≤k_)) g4 g8)∧Aside0 (Kd.V (Kd.int .i64) 3 w' w.heap.size (fun k_=>((a6 k_∨a9 k_)∨w.heap.size≤k_)) g5 g9)∧Aside0 (bw w w'))
     case atStart=>exact⟨(l0),(l1),H',⟨Nat.le_refl _⟩,⟨vX f6.out⟩,⟨vX f7.out⟩,⟨pB⟩⟩
     case round =>
      clear H';try clear b5
      obtain⟨g8,g9,HA,j3,f6,f7,HB⟩:=hrel;cases gk with
      | zero=>exact absurd HA.out (by simp [Czv.l0])
      | succ k2 =>
       have H:=HA.out;clear HA;simp only[Czv.l0] at H;by_cases c9:(g9.length:Int) > 0
       ·rw[if_pos c9] at H;have j4:decide (0 < (g9.length:Int))=true:=dE c9;have j5:decide (0 < g9.length)=true:=dE (by omega)
        clear c9;(first|rw[j4]|(simp only[i64_w,i32_w];rw[j4])|skip)
        by_cases c10:(g8.length:Int) > 2
        ·rw[if_pos c10] at H;have j6:decide (2 < (g8.length:Int))=true:=dE c10;have j7:decide (2 < g8.length)=true:=dE (by omega)
         clear c10;obtain⟨⟨j8,j9⟩,l5,H⟩:=bT H;(try dsimp only at H);have H':=aM H;clear H;obtain⟨l6,l7,l8⟩:=Kd.V_slice f7.out;subst l8;obtain⟨l9,m0,m4⟩:=Kd.V_slice f6.out;subst m4;have fl_:True:=trivial;repeat((first|clear fl_|go_quiet (first|(go_at_call 91;(with_reducible refine(Ezb.calls k2 _ _ g8 _ _ g9 j8 j9 _ ?_ ?_ ?_ ?_ l5.out).mono ?_);exact cV f6;exact lV f6;exact cV f7;exact lV f7;rintro e m5 ⟨m6,m7,rfl,m8,m9,hb⟩;have n0:=rL (Kd.R_newM (M:=fun k_=>(w.heap.size≤k_)) m8 (below_size pB) (fun k_ h_=>h_));have n7:=rL (Kd.R_newM (M:=fun k_=>(w.heap.size≤k_)) m9 (below_size pB) (fun k_ h_=>h_));replace f6:=vO f6 hb m8 m9;replace f7:=vO f7 hb m8 m9;replace HB:=bB hb;clear hb m8 m9)));go_wp2_with (first|(go_at_call 91;(with_reducible refine(Ezb.calls k2 _ _ g8 _ _ g9 j8 j9 _ ?_ ?_ ?_ ?_ l5.out).mono ?_);exact cV f6;exact lV f6;exact cV f7;exact lV f7;rintro e m5 ⟨m6,m7,rfl,m8,m9,hb⟩;have n0:=rL (Kd.R_newM (M:=fun k_=>(w.heap.size≤k_)) m8 (below_size pB) (fun k_ h_=>h_));have n7:=rL (Kd.R_newM (M:=fun k_=>(w.heap.size≤k_)) m9 (below_size pB) (fun k_ h_=>h_));replace f6:=vO f6 hb m8 m9;replace f7:=vO f7 hb m8 m9;replace HB:=bB hb;clear hb m8 m9)))
         go_roundg k2
         case measure=>have:=f5.out;have:=j3.out;omega
         case rel=>exact⟨(g9),(j9),H',⟨by have:=f5.out;have:=j3.out;omega⟩,⟨by exact vX (Kd.V_mono f7.out (fun _ hk=>hk.1.1))⟩,⟨Kd.V_mono (Kd.R_V (rX (Kd.R_mono n7.out (fun _ hk=>hk.1)))) (fun k_ hk=>by first|exact⟨(.inr (hk.1)),hk.2⟩|exact(.inr (hk)))⟩,⟨pB⟩⟩
        ·rw[if_neg c10] at H;have j6:decide (2 < (g8.length:Int))=false:=decide_eq_false c10;have j7:decide (2 < g8.length)=false:=decide_eq_false (by omega)
         clear c10;by_cases n8:(g9.length:Int) > 2
         ·rw[if_pos n8] at H;have n9:decide (2 < (g9.length:Int))=true:=dE n8;have o0:decide (2 < g9.length)=true:=dE (by omega)
          clear n8;obtain⟨⟨o8,o9⟩,p0,H⟩:=bT H;(try dsimp only at H);have H':=aM H;clear H;obtain⟨p4,p7,p9⟩:=Kd.V_slice f7.out;subst p9;obtain⟨r5,r6,r7⟩:=Kd.V_slice f6.out;subst r7;have fl_:True:=trivial;repeat((first|clear fl_|go_quiet (first|(go_at_call 91;(with_reducible refine(Ezb.calls k2 _ _ g8 _ _ g9 o8 o9 _ ?_ ?_ ?_ ?_ p0.out).mono ?_);exact cV f6;exact lV f6;exact cV f7;exact lV f7;rintro e r8 ⟨r9,t4,rfl,m8,m9,hb⟩;have t5:=rL (Kd.R_newM (M:=fun k_=>(w.heap.size≤k_)) m8 (below_size pB) (fun k_ h_=>h_));have t6:=rL (Kd.R_newM (M:=fun k_=>(w.heap.size≤k_)) m9 (below_size pB) (fun k_ h_=>h_));replace f6:=vO f6 hb m8 m9;replace f7:=vO f7 hb m8 m9;replace HB:=bB hb;clear hb m8 m9)));go_wp2_with (first|(go_at_call 91;(with_reducible refine(Ezb.calls k2 _ _ g8 _ _ g9 o8 o9 _ ?_ ?_ ?_ ?_ p0.out).mono ?_);exact cV f6;exact lV f6;exact cV f7;exact lV f7;rintro e r8 ⟨r9,t4,rfl,m8,m9,hb⟩;have t5:=rL (Kd.R_newM (M:=fun k_=>(w.heap.size≤k_)) m8 (below_size pB) (fun k_ h_=>h_));have t6:=rL (Kd.R_newM (M:=fun k_=>(w.heap.size≤k_)) m9 (below_size pB) (fun k_ h_=>h_));replace f6:=vO f6 hb m8 m9;replace f7:=vO f7 hb m8 m9;replace HB:=bB hb;clear hb m8 m9)))
          go_roundg k2
          case measure=>have:=f5.out;have:=j3.out;omega
          case rel=>exact⟨(g9),(o9),H',⟨by have:=f5.out;have:=j3.out;omega⟩,⟨by exact vX (Kd.V_mono f7.out (fun _ hk=>hk.1.1))⟩,⟨Kd.V_mono (Kd.R_V (rX (Kd.R_mono t6.out (fun _ hk=>hk.1)))) (fun k_ hk=>by first|exact⟨(.inr (hk.1)),hk.2⟩|exact(.inr (hk)))⟩,⟨pB⟩⟩
         ·rw[if_neg n8] at H;have n9:decide (2 < (g9.length:Int))=false:=decide_eq_false n8;have o0:decide (2 < g9.length)=false:=decide_eq_false (by omega)
          clear n8;have H':=aM H;clear H;obtain⟨t7,t8,t9⟩:=Kd.V_slice f7.out;subst t9;obtain⟨z3,z4,z5⟩:=Kd.V_slice f6.out;subst z5;go_wp2
          repeat(go_quiet (fail);try go_wp2)
          go_meet
          case rel=>exact⟨_,(g8),(g9),H',⟨by have:=f5.out;have:=j3.out;first|omega|exact Nat.le_refl _⟩,⟨vX f6.out⟩,⟨vX f7.out⟩,⟨pB⟩⟩
       ·rw[if_neg c9] at H;have j4:decide (0 < (g9.length:Int))=false:=decide_eq_false c9;have j5:decide (0 < g9.length)=false:=decide_eq_false (by omega)
        clear c9;(first|rw[j4]|(simp only[i64_w,i32_w];rw[j4])|skip)
        have H':=aM H;clear H;obtain⟨z6,z7,z8⟩:=Kd.V_slice f7.out;subst z8;go_wp2
        repeat(go_quiet (fail);try go_wp2)
        go_meet
        case rel=>exact⟨_,(g8),(g9),H',⟨by have:=f5.out;have:=j3.out;first|omega|exact Nat.le_refl _⟩,⟨vX f6.out⟩,⟨vX f7.out⟩,⟨pB⟩⟩
    case rest =>
     clear f9;try clear b5
     obtain⟨kq,g6,g7,HA,z9,f6,f7,HB⟩:=hcut;cases kq with
     | zero=>exact absurd HA.out (by simp [Czv.j2])
     | succ B0 =>
      have H:=HA.out;clear HA;simp only[Czv.j2] at H;replace H:=iE H;rcases H with⟨B9,C0,H⟩|⟨B5,B9,C0,H⟩
      ·obtain⟨C1,C2,H⟩:=bT H;(try dsimp only at H);replace H:=bS H;obtain⟨C3,C4,H⟩:=H;replace H:(some (C3,0))=some (b6,b7):=H;have C6:=aM C4;clear C4;obtain⟨rfl,rfl⟩:=q2 H;obtain⟨C7,C8,C9⟩:=Kd.V_slice f7.out;subst C9;obtain⟨D2,D3,D4⟩:=Kd.V_slice f6.out;subst D4;have fl_:True:=trivial;repeat((first|clear fl_|go_quiet (first|(go_at_call 93;(with_reducible refine(Gzv.calls _ _ g6 (g6.length:Int) C1 _ ?_ ?_ C2.out).mono ?_);exact cV f6;exact lV f6;rintro e D5 ⟨D6,rfl,m8,hb⟩;have D7:=rL (Kd.R_newM (M:=fun k_=>(w.heap.size≤k_)) m8 (below_size pB) (fun k_ h_=>h_));replace f6:=vE f6 m8 hb;replace f7:=vE f7 m8 hb;replace HB:=bB hb;clear hb m8;obtain⟨D8,D9,rfl⟩:=Kd.R_slice D7.out)|(go_at_call 92;(with_reducible refine(Bzp.calls B0 (fun k_=>some k_=(.slice D8 C1.length D9:Value).ownBlock) (.slice D8 C1.length D9) C1 C3 w _ ?_ ?_ C6.out).mono ?_);exact pB;exact Kd.R_tight rfl D7.out;rintro e E0 ⟨E1,rfl,m8,hb,hkp⟩;have E2:=aM (Kd.R_mono (ok':=fun k_=>(w.heap.size≤k_)) m8 (fun k_ hk_=>Or.elim hk_ (fun hs_=>(D7.out.1 k_ (hs_).symm).1) (fun hn_=>(lP hn_))));replace f6:=aM (Kd.V_mono (ok':=fun k_=>((a6 k_∨a9 k_)∨w.heap.size≤k_)∧oV E1 k_) (Kd.V_keptB (f6.out) hkp (fun k_ hk_ hs_=>(hk_.2) hs_)) (fun k_ hk_=>⟨hk_.1.1,fun e_=>Or.elim (m8.1 k_ e_.symm) (fun hs_=>hk_.2.1 hs_) (fun hn_=>Nat.not_le.2 hk_.2.2 hn_)⟩));replace f7:=aM (Kd.V_mono (ok':=fun k_=>((a6 k_∨a9 k_)∨w.heap.size≤k_)∧oV E1 k_) (Kd.V_keptB (f7.out) hkp (fun k_ hk_ hs_=>(hk_.2) hs_)) (fun k_ hk_=>⟨hk_.1.1,fun e_=>Or.elim (m8.1 k_ e_.symm) (fun hs_=>hk_.2.1 hs_) (fun hn_=>Nat.not_le.2 hk_.2.2 hn_)⟩));replace HB:=aM (hb);clear D7 hb hkp m8)));go_wp2_with (first|(go_at_call 93;(with_reducible refine(Gzv.calls _ _ g6 (g6.length:Int) C1 _ ?_ ?_ C2.out).mono ?_);exact cV f6;exact lV f6;rintro e D5 ⟨D6,rfl,m8,hb⟩;have D7:=rL (Kd.R_newM (M:=fun k_=>(w.heap.size≤k_)) m8 (below_size pB) (fun k_ h_=>h_));replace f6:=vE f6 m8 hb;replace f7:=vE f7 m8 hb;replace HB:=bB hb;clear hb m8;obtain⟨D8,D9,rfl⟩:=Kd.R_slice D7.out)|(go_at_call 92;(with_reducible refine(Bzp.calls B0 (fun k_=>some k_=(.slice D8 C1.length D9:Value).ownBlock) (.slice D8 C1.length D9) C1 C3 w _ ?_ ?_ C6.out).mono ?_);exact pB;exact Kd.R_tight rfl D7.out;rintro e E0 ⟨E1,rfl,m8,hb,hkp⟩;have E2:=aM (Kd.R_mono (ok':=fun k_=>(w.heap.size≤k_)) m8 (fun k_ hk_=>Or.elim hk_ (fun hs_=>(D7.out.1 k_ (hs_).symm).1) (fun hn_=>(lP hn_))));replace f6:=aM (Kd.V_mono (ok':=fun k_=>((a6 k_∨a9 k_)∨w.heap.size≤k_)∧oV E1 k_) (Kd.V_keptB (f6.out) hkp (fun k_ hk_ hs_=>(hk_.2) hs_)) (fun k_ hk_=>⟨hk_.1.1,fun e_=>Or.elim (m8.1 k_ e_.symm) (fun hs_=>hk_.2.1 hs_) (fun hn_=>Nat.not_le.2 hk_.2.2 hn_)⟩));replace f7:=aM (Kd.V_mono (ok':=fun k_=>((a6 k_∨a9 k_)∨w.heap.size≤k_)∧oV E1 k_) (Kd.V_keptB (f7.out) hkp (fun k_ hk_ hs_=>(hk_.2) hs_)) (fun k_ hk_=>⟨hk_.1.1,fun e_=>Or.elim (m8.1 k_ e_.symm) (fun hs_=>hk_.2.1 hs_) (fun hn_=>Nat.not_le.2 hk_.2.2 hn_)⟩));replace HB:=aM (hb);clear D7 hb hkp m8)))
       go_ret2
       exact⟨_,eW,rX E2.out,pB⟩
      ·have E3:¬ (g7=[]):=fun h_=>B5 (by rw[h_];rfl)
       obtain⟨E4,E5,H⟩:=bT H;(try dsimp only at H);obtain⟨E6,E7,H⟩:=bT H;(try dsimp only at H);have H':=aM H;clear H;obtain⟨E8,E9,F0⟩:=Kd.V_slice f7.out;subst F0;obtain⟨F2,F3,F4⟩:=Kd.V_slice f6.out;subst F4;have fl_:True:=trivial;repeat((first|clear fl_|go_quiet (first|(go_at_call 94;(with_reducible refine(Dzx.calls B0 _ _ g6 E4 _ ?_ ?_ E5.out).mono ?_);exact cV f6;exact lV f6;rintro e w' ⟨rfl,⟨nd,rfl⟩⟩;(try exact dD))|(go_at_call 94;(with_reducible refine(Dzx.calls B0 _ _ g7 E6 _ ?_ ?_ E7.out).mono ?_);exact cV f7;exact lV f7;rintro e w' ⟨rfl,⟨nd,rfl⟩⟩;(try exact dD))));go_wp2_with (first|(go_at_call 94;(with_reducible refine(Dzx.calls B0 _ _ g6 E4 _ ?_ ?_ E5.out).mono ?_);exact cV f6;exact lV f6;rintro e w' ⟨rfl,⟨nd,rfl⟩⟩;(try exact dD))|(go_at_call 94;(with_reducible refine(Dzx.calls B0 _ _ g7 E6 _ ?_ ?_ E7.out).mono ?_);exact cV f7;exact lV f7;rintro e w' ⟨rfl,⟨nd,rfl⟩⟩;(try exact dD))))
       try simp only[Act.put,sA,sZ,sC]
       go_loopg [8,9] B0 (fun kq F5 F6 w'=>∃ (F7:Int) (F8:Int),F5=.int .i64 F7∧F6=.int .i64 F8∧Aside0 (Czv.l1 kq F7 F8=some (b6,b7))∧Aside0 (kq≤B0)∧Aside0 (bw w w'))
       case atStart=>exact⟨(E4),(E6),sD,sD,H',⟨Nat.le_refl _⟩,⟨pB⟩⟩
       case round =>
        clear H';try clear b5
        obtain⟨F7,F8,rfl,rfl,HA,F9,HB⟩:=hrel;cases gk with
        | zero=>exact absurd HA.out (by simp [Czv.l1])
        | succ k3 =>
         have H:=HA.out;clear HA;simp only[Czv.l1] at H;by_cases G5:F8 > 0
         ·rw[if_pos G5] at H;have G9:decide (0 < F8)=true:=dE G5;clear G5;obtain⟨H5,H⟩:=iM H;have H6:(F8 == 0)=false:=beq_eq_false_iff_ne.mpr H5;have H7:(F8 != 0)=true:=bne_iff_ne.mpr H5;have H':=aM H;clear H;go_wp2
          repeat(go_quiet (fail);try go_wp2)
          go_roundg k3
          case measure=>have:=f5.out;have:=z9.out;have:=F9.out;omega
          case rel=>exact⟨(F8),(Int.tmod F7 F8),sD,sD,H',⟨by have:=f5.out;have:=z9.out;have:=F9.out;omega⟩,⟨pB⟩⟩
         ·rw[if_neg G5] at H;have G9:decide (0 < F8)=false:=decide_eq_false G5;clear G5;replace H:=bS H;obtain⟨⟨H8,H9⟩,I0,H⟩:=H;replace H:(some (H8,H9))=some (b6,b7):=H;have I3:=aM I0;clear I0;obtain⟨rfl,rfl⟩:=q2 H;have fl_:True:=trivial;repeat((first|clear fl_|go_quiet (first|(go_at_call 95;(with_reducible refine(Fzw.calls k3 F7 H8 H9 _ I3.out).mono ?_);rintro e I4 ⟨I5,rfl,m8,hb⟩;have I6:=rL (Kd.R_newM (M:=fun k_=>(w.heap.size≤k_)) m8 (below_size pB) (fun k_ h_=>h_));replace HB:=bB hb;clear hb m8)));go_wp2_with (first|(go_at_call 95;(with_reducible refine(Fzw.calls k3 F7 H8 H9 _ I3.out).mono ?_);rintro e I4 ⟨I5,rfl,m8,hb⟩;have I6:=rL (Kd.R_newM (M:=fun k_=>(w.heap.size≤k_)) m8 (below_size pB) (fun k_ h_=>h_));replace HB:=bB hb;clear hb m8)))
          go_ret2
          exact⟨_,eW,by exact rX (Kd.R_mono I6.out (fun _ hk=>hk.1)),pB⟩


def Dzk.j0:Nat→List Int→List Int→Bool→Option (List Int × List Int × Int)
 | 0,_,_,_=>none
 | k+1,x0,x1,x16=>if x16=true then(some (([]:List Int),([]:List Int),3)) else(if(x1.length:Int)=0 then(some (([]:List Int),([]:List Int),16)) else((Ezb.f k x0 x1).bind fun bt212=>(some (bt212.1,bt212.2,0))))
def Dzk.f (k:Nat) (l0:List Int) (l1:List Int):Option (List Int × List Int × Int):=(Azy.f k l0).bind fun t210=>(if t210=true then((Azy.f k l1).bind fun t211=>(Dzk.j0 k l0 l1 (!t211))) else(Dzk.j0 k l0 l1 true))
theorem Dzk.mono_l:∀ k,(∀ a6 a7 a8,LeO (Dzk.j0 k a6 a7 a8) (Dzk.j0 (k+1) a6 a7 a8))
 | 0=>fun _ _ _ r h=>by simp [Dzk.j0] at h
 | k+1=>by
  have ih0:=Dzk.mono_l k
  ·intro a6 a7 a8;unfold Dzk.j0;have i0:=@Azy.mono;have i1:=@Ezb.mono;exact mM
theorem Dzk.mono:∀ a6 a7 k,LeO (Dzk.f k a6 a7) (Dzk.f (k+1) a6 a7):=by
 intro a6 a7 k;have ih0:=Dzk.mono_l k;unfold Dzk.f;have i0:=@Azy.mono;have i1:=@Ezb.mono;exact mM
theorem Dzk.calls (k:Nat) (a6:Option Addr) (a7:Nat) (l0:List Int) (a8:Option Addr) (a9:Nat) (l1:List Int) (b4:List Int) (b5:List Int) (b6:Int) (w:World) (b7:cI w a6 l0) (b8:l0.length≤a7) (b9:cI w a8 l1) (d6:l1.length≤a9) (h:Dzk.f k l0 l1=some (b4,b5,b6)) :
  Calls Try.prog 102 #[.slice a6 l0.length a7,.slice a8 l1.length a9] w fun e w'=>∃ v0_ v1_:Value,e=.returned (.tuple #[v0_,v1_,.int .i64 b6])∧rI w' w (oV v1_) v0_ b4∧rI w' w (oV v0_) v1_ b5∧bw w w':=by
 have d7:=aM b7;have d8:=aM b8;clear b7 b8;have d9:=aM b9;have e6:=aM d6;clear b9 d6;have HB:=aM (Below.refl w.heap.size w);have H:((Azy.f k l0).bind fun e7=>(if e7=true then((Azy.f k l1).bind fun e8=>(Dzk.j0 k l0 l1 (!e8))) else(Dzk.j0 k l0 l1 true)))=some (b4,b5,b6):=h
 clear h;have e9:=aM H;clear H;go_enter Try.func102,Try.ntmps102
 go_upto_region 1 with (fail)
 go_cut [16] (fun f4 wc=>∃ (kq:Nat) (f5:Bool),f4=.bool f5∧Aside0 (Dzk.j0 kq l0 l1 f5=some (b4,b5,b6))∧Aside0 (kq≤k)∧Aside0 (bw w wc))
 case first =>
  have H:=e9.out;clear e9;obtain⟨e7,f6,H⟩:=bT H;(try dsimp only at H);by_cases c5:e7=true
  ·subst c5;rw[if_pos rfl] at H;obtain⟨e8,f7,H⟩:=bT H;(try dsimp only at H);have H':=aM H;clear H;go_wp2_with (first|((with_reducible refine gc 65 rfl ?_);refine gC 65 (some 10) Try.func65 #[.slice a6 l0.length a7] ?_;(with_reducible refine(Azy.calls k _ _ l0 true _ ?_ ?_ f6.out).mono ?_);exact cB d7;exact d8.out;rintro e w' ⟨rfl,⟨nd,rfl⟩⟩;refine⟨_,rfl,?_⟩)|(go_at_call 65;(with_reducible refine(Azy.calls k _ _ l1 e8 _ ?_ ?_ f7.out).mono ?_);exact cB d9;exact e6.out;rintro e w' ⟨rfl,⟨nd,rfl⟩⟩))
   go_meet
   case rel=>exact⟨_,(!e8),sD,H',⟨by first|omega|exact Nat.le_refl _⟩,⟨pB⟩⟩
  ·obtain rfl:=bN c5;rw[if_neg nF] at H
   have H':=aM H;clear H;go_wp2_with (first|((with_reducible refine gc 65 rfl ?_);refine gC 65 (some 10) Try.func65 #[.slice a6 l0.length a7] ?_;(with_reducible refine(Azy.calls k _ _ l0 false _ ?_ ?_ f6.out).mono ?_);exact cB d7;exact d8.out;rintro e w' ⟨rfl,⟨nd,rfl⟩⟩;refine⟨_,rfl,?_⟩))
   go_meet
   case rel=>exact⟨_,(true),sD,H',⟨by first|omega|exact Nat.le_refl _⟩,⟨pB⟩⟩
 case rest =>
  clear e9;try clear a9
  obtain⟨kq,f5,rfl,HA,f8,HB⟩:=hcut;cases kq with
  | zero=>exact absurd HA.out (by simp [Dzk.j0])
  | succ f9 =>
   have H:=HA.out;clear HA;simp only[Dzk.j0] at H;by_cases c7:f5=true
   ·subst c7;rw[if_pos rfl] at H;obtain⟨rfl,rfl,rfl⟩:=q3 H;go_wp2
    go_ret3
    exact⟨_,_,eW,nK,nK,pB⟩
   ·obtain rfl:=bN c7;rw[if_neg nF] at H
    replace H:=iE H;rcases H with⟨g4,g5,H⟩|⟨c8,g4,g5,H⟩
    ·obtain⟨rfl,rfl,rfl⟩:=q3 H;go_wp2
     go_ret3
     exact⟨_,_,eW,nK,nK,pB⟩
    ·have g6:¬ (l1=[]):=fun h_=>c8 (by rw[h_];rfl)
     replace H:=bS H;obtain⟨⟨g7,g8⟩,g9,H⟩:=H;replace H:(some (g7,g8,0))=some (b4,b5,b6):=H;have j3:=aM g9;clear g9;obtain⟨rfl,rfl,rfl⟩:=q3 H;go_wp2_with (first|((with_reducible refine gc 91 rfl ?_);refine gC 91 (some 23) Try.func91 #[.slice a6 l0.length a7,.slice a8 l1.length a9] ?_;(with_reducible refine(Ezb.calls f9 _ _ l0 _ _ l1 g7 g8 _ ?_ ?_ ?_ ?_ j3.out).mono ?_);exact cB d7;exact d8.out;exact cB d9;exact e6.out;rintro e j4 ⟨j5,j6,rfl,j7,j8,hb⟩;refine⟨_,rfl,?_⟩;have j9:=rL j7;have l5:=rL j8;replace HB:=bB hb;clear hb j7 j8))
     go_ret3
     exact⟨_,_,eW,rX j9.out,rX l5.out,pB⟩

def Fzz.f (k:Nat) (a0:Bool) (l1:List Int) (l2:List Int):Option (Bool × List Int × List Int × Int):=(Czv.f k l1 l2).bind fun bt219=>(if bt219.2=0 then((Dzk.f k l1 bt219.1).bind fun bt223=>(if bt223.2.2=0 then((Dzk.f k l2 bt219.1).bind fun bt230=>(if bt230.2.2=0 then(if a0=true then(some (decide (0 < bt223.1.length),bt223.1,bt230.1,0)) else(some (false,bt223.1,bt230.1,0))) else(some (false,([]:List Int),([]:List Int),bt230.2.2)))) else(some (false,([]:List Int),([]:List Int),bt223.2.2)))) else(some (false,([]:List Int),([]:List Int),bt219.2)))
theorem Fzz.mono:∀ a6 a7 a8 k,LeO (Fzz.f k a6 a7 a8) (Fzz.f (k+1) a6 a7 a8):=by
 intro a6 a7 a8 k;unfold Fzz.f;have i0:=@Dzk.mono;have i1:=@Czv.mono;exact mM
theorem Fzz.calls (k:Nat) (a6:Bool) (a7:Option Addr) (a8:Nat) (l1:List Int) (a9:Option Addr) (c2:Nat) (l2:List Int) (b4:Bool) (b5:List Int) (b6:List Int) (b7:Int) (w:World) (b8:cI w a7 l1) (b9:l1.length≤a8) (d6:cI w a9 l2) (d7:l2.length≤c2) (h:Fzz.f k a6 l1 l2=some (b4,b5,b6,b7)) :
  Calls Try.prog 79 #[.bool a6,.slice a7 l1.length a8,.slice a9 l2.length c2] w fun e w'=>∃ v1_ v2_:Value,e=.returned (.tuple #[.agg #[.bool b4,v1_,v2_],.int .i64 b7])∧rI w' w (oV v2_) v1_ b5∧rI w' w (oV v1_) v2_ b6∧bw w w':=by
 have hu33:=Try.underlying33;have d8:=aM b8;have d9:=aM b9;clear b8 b9;have e6:=aM d6;have e7:=aM d7;clear d6 d7;have HB:=aM (Below.refl w.heap.size w);have H:((Czv.f k l1 l2).bind fun e8=>(if e8.2=0 then((Dzk.f k l1 e8.1).bind fun e9=>(if e9.2.2=0 then((Dzk.f k l2 e8.1).bind fun f4=>(if f4.2.2=0 then(if a6=true then(some (decide (0 < e9.1.length),e9.1,f4.1,0)) else(some (false,e9.1,f4.1,0))) else(some (false,([]:List Int),([]:List Int),f4.2.2)))) else(some (false,([]:List Int),([]:List Int),e9.2.2)))) else(some (false,([]:List Int),([]:List Int),e8.2))))=some (b4,b5,b6,b7):=h
 clear h;obtain⟨⟨f5,f6⟩,f7,H⟩:=bT H;(try dsimp only at H);have f8:=aM H;clear H;go_enter Try.func79,Try.ntmps79
 go_upto_if 21 with (first|((with_reducible refine gd 6 rfl ?_);refine bzg 33 ?_;intro f9 hg g4 g5 hb;have g6:=gA w hg;replace HB:=bB hb;clear hb hg)|((with_reducible refine gc 66 rfl ?_);refine gC 66 (some 17) Try.func66 #[.slice a7 l1.length a8,.slice a9 l2.length c2] ?_;(with_reducible refine(Czv.calls k (fun k_=>k_ < w.heap.size) _ _ l1 (fun k_=>k_ < w.heap.size) _ _ l2 f5 f6 _ ?_ ?_ f7.out).mono ?_);exact Kd.V_mk d9.out (Kd.F_below (Kd.C_F (Kd.heap_int .i64) d8.out) pB);exact Kd.V_mk e7.out (Kd.F_below (Kd.C_F (Kd.heap_int .i64) e6.out) pB);rintro e g8 ⟨g9,rfl,j3,hb⟩;refine⟨_,rfl,?_⟩;have j4:=rL (Kd.R_mono (ok':=fun k_=>True) j3 (fun _ hk_=>trivial));replace g5:=kb g5 hb;replace HB:=bB hb;clear hb j3))
 have H:=f8.out;clear f8;replace H:=iE H;rcases H with⟨j5,j6,H⟩|⟨c8,j5,j6,H⟩
 ·(first|rw[j5]|(simp only[i64_w,i32_w];rw[j5])|skip)
  obtain⟨⟨j7,j8,j9⟩,l5,H⟩:=bT H;(try dsimp only at H);have l6:=aM H;clear H;obtain⟨l7,l8,rfl⟩:=Kd.R_slice j4.out;go_upto_if 32 with (first|((with_reducible refine gc 102 rfl ?_);refine gC 102 (some 27) Try.func102 #[.slice a7 l1.length a8,.slice l7 f5.length l8] ?_;(with_reducible refine(Dzk.calls k _ _ l1 _ _ f5 j7 j8 j9 _ ?_ ?_ ?_ ?_ l5.out).mono ?_);exact cB d8;exact d9.out;exact cR j4;exact lR j4;rintro e l9 ⟨m0,m4,rfl,j3,m5,hb⟩;refine⟨_,rfl,?_⟩;have m6:=rL (rn j3 j4);have m7:=rL (rn m5 j4);replace j4:=rO j4 hb j3 m5;replace g5:=kb g5 hb;replace HB:=bB hb;clear hb j3 m5))
  have H:=l6.out;clear l6;replace H:=iE H;rcases H with⟨m9,n0,H⟩|⟨m8,m9,n0,H⟩
  ·(first|rw[m9]|(simp only[i64_w,i32_w];rw[m9])|skip)
   obtain⟨⟨n7,n8,n9⟩,o0,H⟩:=bT H;(try dsimp only at H);have o8:=aM H;clear H;go_upto_if 43 with (first|((with_reducible refine gc 102 rfl ?_);refine gC 102 (some 38) Try.func102 #[.slice a9 l2.length c2,.slice l7 f5.length l8] ?_;(with_reducible refine(Dzk.calls k _ _ l2 _ _ f5 n7 n8 n9 _ ?_ ?_ ?_ ?_ o0.out).mono ?_);exact cB e6;exact e7.out;exact cR j4;exact lR j4;rintro e o9 ⟨p0,p4,rfl,j3,m5,hb⟩;refine⟨_,rfl,?_⟩;have p7:=rL (rn (rn (rn j3 j4) m6) m7);have p9:=rL (rn (rn (rn m5 j4) m6) m7);replace j4:=rO j4 hb j3 m5;replace m6:=rO m6 hb j3 m5;replace m7:=rO m7 hb j3 m5;replace g5:=kb g5 hb;replace HB:=bB hb;clear hb j3 m5))
   have H:=o8.out;clear o8;replace H:=iE H;rcases H with⟨r6,r7,H⟩|⟨r5,r6,r7,H⟩
   ·(first|rw[r6]|(simp only[i64_w,i32_w];rw[r6])|skip)
    by_cases r8:a6=true
    ·subst r8;rw[if_pos rfl] at H;obtain⟨rfl,rfl,rfl,rfl⟩:=q4 H;obtain⟨r9,t4,rfl⟩:=Kd.R_slice m6.out;obtain⟨t5,t6,rfl⟩:=Kd.R_slice p7.out;obtain⟨t7,t8,t9,z3,z4,z5⟩:=bk3 g5;go_wp2
     refine rC f9 33 #[.bool (decide (0 < j7.length)),.slice r9 j7.length t4,.slice t5 n7.length t6] (kQ g5) Try.underlying33 ?_
     exact⟨_,_,eW,by exact Kd.R_mono (rT m6 g5) (fun _ hk=>hk.1.2),by exact Kd.R_mono (rT p7 g5) (fun _ hk=>hk.1.2),pB⟩
    ·obtain rfl:=bN r8;rw[if_neg nF] at H
     obtain⟨rfl,rfl,rfl,rfl⟩:=q4 H;obtain⟨z6,z7,rfl⟩:=Kd.R_slice p7.out;obtain⟨z8,z9,rfl⟩:=Kd.R_slice m6.out;obtain⟨B0,B5,B9,C0,C1,C2⟩:=bk3 g5;go_wp2
     refine rC f9 33 #[.bool false,.slice z8 j7.length z9,.slice z6 n7.length z7] (kQ g5) Try.underlying33 ?_
     exact⟨_,_,eW,by exact Kd.R_mono (rT m6 g5) (fun _ hk=>hk.1.2),by exact Kd.R_mono (rT p7 g5) (fun _ hk=>hk.1.2),pB⟩
   ·(first|rw[r6]|(simp only[i64_w,i32_w];rw[r6])|skip)
    obtain⟨rfl,rfl,rfl,rfl⟩:=q4 H;obtain⟨C3,C4,C6,C7,C8,C9⟩:=bk3 g5;go_wp2
    refine rC f9 33 #[.bool false,.slice none 0 0,.slice none 0 0] (kQ g5) Try.underlying33 ?_
    exact⟨_,_,eW,nK,nK,pB⟩
  ·(first|rw[m9]|(simp only[i64_w,i32_w];rw[m9])|skip)
   obtain⟨rfl,rfl,rfl,rfl⟩:=q4 H;obtain⟨D2,D3,D4,D5,D6,D7⟩:=bk3 g5;go_wp2
   refine rC f9 33 #[.bool false,.slice none 0 0,.slice none 0 0] (kQ g5) Try.underlying33 ?_
   exact⟨_,_,eW,nK,nK,pB⟩
 ·(first|rw[j5]|(simp only[i64_w,i32_w];rw[j5])|skip)
  obtain⟨rfl,rfl,rfl,rfl⟩:=q4 H;obtain⟨D8,D9,E0,E1,E2,E3⟩:=bk3 g5;go_wp2
  refine rC f9 33 #[.bool false,.slice none 0 0,.slice none 0 0] (kQ g5) Try.underlying33 ?_
  exact⟨_,_,eW,nK,nK,pB⟩

def Hzb.f (a0:Int):Option (Bool):=if a0≥(-1125899906842624) then(some (decide (a0≤1125899906842624))) else(some false)
theorem Hzb.calls (a6:Int) (r:Bool) (w:World) (h:Hzb.f a6=some r) :
  Calls Try.prog 108 #[.int .i64 a6] w fun e w'=>e=.returned (.bool r)∧Drawn0 w w':=by
 have H:(if a6≥(-1125899906842624) then(some (decide (a6≤1125899906842624))) else(some false))=some r:=h
 clear h;by_cases c2:a6≥(-1125899906842624)
 ·rw[if_pos c2] at H;have a7:decide ((-1125899906842624)≤a6)=true:=dE c2;clear c2;obtain rfl:=Option.some.inj H;go_enter Try.func108,Try.ntmps108
  go_wp2
  go_ret
  exact⟨sD,dR⟩
 ·rw[if_neg c2] at H;have a7:decide ((-1125899906842624)≤a6)=false:=decide_eq_false c2;clear c2;obtain rfl:=Option.some.inj H;go_enter Try.func108,Try.ntmps108
  go_wp2
  go_ret
  exact⟨sD,dR⟩

def Gzw.f (k:Nat) (a0:Int):Option (List Int):=(Fzw.f k (mx a0 (wrap64 (-a0)))).bind fun bt237=>(some bt237.1)
theorem Gzw.mono:∀ a6 k,LeO (Gzw.f k a6) (Gzw.f (k+1) a6):=by
 intro a6 k;unfold Gzw.f;have i0:=@Fzw.mono;exact mM
theorem Gzw.calls (k:Nat) (a6:Int) (r:List Int) (w:World) (h:Gzw.f k a6=some r) :
  Calls Try.prog 109 #[.int .i64 a6] w fun e w'=>∃ v0_:Value,e=.returned (v0_)∧rI w' w (fun _=>True) v0_ r∧bw w w':=by
 have HB:=aM (Below.refl w.heap.size w);have H:((Fzw.f k (mx a6 (wrap64 (-a6)))).bind fun a7=>(some a7.1))=some r:=h
 clear h;obtain⟨a8,a9⟩:∃ j_:Int,(mx a6 (wrap64 (-a6)))=j_:=⟨_,rfl⟩;replace H:((Fzw.f k (a8)).bind fun a7=>(some a7.1))=some r:=by first|(rw[a9] at H;exact H)|(simp only[a9] at H ⊢;exact H)
 have b4:(if a6 < (wrap64 (-a6)) then(wrap64 (-a6)) else a6)=a8:=a9
 replace H:=bS H;obtain⟨⟨b5,b6⟩,b7,H⟩:=H;replace H:(some b5)=some r:=H;have b8:=aM b7;clear b7;obtain rfl:=Option.some.inj H;go_enter Try.func109,Try.ntmps109
 go_wp2_with (first|((with_reducible refine gate_callee (f:=95) rfl ?_);refine goesL_ (some 10) rfl rfl Try.func95 (by kernel_rfl) rfl #[.int .i64 a8] rfl (by(try simp only[List.map_toArray,List.map_cons,List.map_nil]);first|done|(simp only[a9];rfl)|rfl|(simp only[List.length_drop,List.length_take];rfl)) ?_;(with_reducible refine(Fzw.calls k a8 b5 b6 _ b8.out).mono ?_);rintro e b9 ⟨d6,rfl,d7,hb⟩;refine⟨_,rfl,?_⟩;have d8:=rL d7;replace HB:=bB hb;clear hb d7))
 go_ret
 exact⟨_,by first|rfl|(simp [errW_none,errW_some] <;> rfl)|(simp only[← a9];first|rfl|(simp [errW_none,errW_some] <;> rfl))|(simp [*,errW_none,errW_some] <;> rfl),rX d8.out,pB⟩


def Fzv.j0:Nat→Int→Int→Bool→Option (Bool × List Int × List Int × Int)
 | 0,_,_,_=>none
 | k+1,x0,x1,x6=>if x6=true then(some (false,([]:List Int),([]:List Int),1)) else(if x1=0 then(some (false,([]:List Int),([]:List Int),16)) else((Gzw.f k x0).bind fun t244=>((Gzw.f k x1).bind fun t247=>((Fzz.f k ((decide (x0 < 0)) != (decide (x1 < 0))) t244 t247).bind fun bt250=>(some (bt250.1,bt250.2.1,bt250.2.2.1,bt250.2.2.2))))))
def Fzv.f (k:Nat) (a0:Int) (a1:Int):Option (Bool × List Int × List Int × Int):=(Hzb.f a0).bind fun t242=>(if t242=true then((Hzb.f a1).bind fun t243=>(Fzv.j0 k a0 a1 (!t243))) else(Fzv.j0 k a0 a1 true))
theorem Fzv.mono_l:∀ k,(∀ a6 a7 a8,LeO (Fzv.j0 k a6 a7 a8) (Fzv.j0 (k+1) a6 a7 a8))
 | 0=>fun _ _ _ r h=>by simp [Fzv.j0] at h
 | k+1=>by
  have ih0:=Fzv.mono_l k
  ·intro a6 a7 a8;unfold Fzv.j0;have i0:=@Gzw.mono;have i1:=@Fzz.mono;exact mM
theorem Fzv.mono:∀ a6 a7 k,LeO (Fzv.f k a6 a7) (Fzv.f (k+1) a6 a7):=by
 intro a6 a7 k;have ih0:=Fzv.mono_l k;unfold Fzv.f;have i0:=@Gzw.mono;have i1:=@Fzz.mono;exact mM
theorem Fzv.calls (k:Nat) (a6:Int) (a7:Int) (a8:Bool) (a9:List Int) (b4:List Int) (b5:Int) (w:World) (h:Fzv.f k a6 a7=some (a8,a9,b4,b5)) :
  Calls Try.prog 87 #[.int .i64 a6,.int .i64 a7] w fun e w'=>∃ v1_ v2_:Value,e=.returned (.tuple #[.agg #[.bool a8,v1_,v2_],.int .i64 b5])∧rI w' w (oV v2_) v1_ a9∧rI w' w (oV v1_) v2_ b4∧bw w w':=by
 have hu33:=Try.underlying33;have HB:=aM (Below.refl w.heap.size w);have H:((Hzb.f a6).bind fun b6=>(if b6=true then((Hzb.f a7).bind fun b7=>(Fzv.j0 k a6 a7 (!b7))) else(Fzv.j0 k a6 a7 true)))=some (a8,a9,b4,b5):=h
 clear h;have b8:=aM H;clear H;go_enter Try.func87,Try.ntmps87
 go_upto_region 1 with (first|((with_reducible refine gd 4 rfl ?_);refine bz 33 ?_;intro b9 hg d6 d7 hb;have d8:=gA w hg;replace HB:=bB hb;clear hb hg))
 (try simp only[Act.put,sA,sZ,sC])
 go_cut [6] (fun e6 wc=>∃ (kq:Nat) (e7:Bool),e6=.bool e7∧Aside0 (Fzv.j0 kq a6 a7 e7=some (a8,a9,b4,b5))∧Aside0 (kq≤k)∧Aside0 (wc.heap[b9]?=some (.cells #[.bool false,(.slice none 0 0),(.slice none 0 0)] 33 (0,0)))∧Aside0 (bw w wc))
 case first =>
  have H:=b8.out;clear b8;obtain⟨b6,e8,H⟩:=bT H;(try dsimp only at H);by_cases c6:b6=true
  ·subst c6;rw[if_pos rfl] at H;obtain⟨b7,e9,H⟩:=bT H;(try dsimp only at H);have H':=aM H;clear H;go_wp2_with (first|((with_reducible refine gc 108 rfl ?_);refine gC 108 (some 8) Try.func108 #[.int .i64 a6] ?_;(with_reducible refine(Hzb.calls a6 true _ e8.out).mono ?_);rintro e w' ⟨rfl,⟨nd,rfl⟩⟩;refine⟨_,rfl,?_⟩)|(go_at_call 108;(with_reducible refine(Hzb.calls a7 b7 _ e9.out).mono ?_);rintro e w' ⟨rfl,⟨nd,rfl⟩⟩))
   go_meet
   case rel=>exact⟨_,(!b7),sD,H',⟨by first|omega|exact Nat.le_refl _⟩,⟨by exact kW d7⟩,⟨pB⟩⟩
  ·obtain rfl:=bN c6;rw[if_neg nF] at H
   have H':=aM H;clear H;go_wp2_with (first|((with_reducible refine gc 108 rfl ?_);refine gC 108 (some 8) Try.func108 #[.int .i64 a6] ?_;(with_reducible refine(Hzb.calls a6 false _ e8.out).mono ?_);rintro e w' ⟨rfl,⟨nd,rfl⟩⟩;refine⟨_,rfl,?_⟩))
   go_meet
   case rel=>exact⟨_,(true),sD,H',⟨by first|omega|exact Nat.le_refl _⟩,⟨by exact kW d7⟩,⟨pB⟩⟩
 case rest =>
  clear b8;try clear f4
  obtain⟨kq,e7,rfl,HA,f5,d7,HB⟩:=hcut;cases kq with
  | zero=>exact absurd HA.out (by simp [Fzv.j0])
  | succ f6 =>
   have H:=HA.out;clear HA;simp only[Fzv.j0] at H;by_cases c8:e7=true
   ·subst c8;rw[if_pos rfl] at H;obtain⟨rfl,rfl,rfl,rfl⟩:=q4 H;obtain⟨f7,f8,f9,g4,g5,g6⟩:=bk3 d7;go_wp2
    refine rC b9 33 #[.bool false,.slice none 0 0,.slice none 0 0] (kQ d7) Try.underlying33 ?_
    exact⟨_,_,eW,nK,nK,pB⟩
   ·obtain rfl:=bN c8;rw[if_neg nF] at H
    replace H:=iE H;rcases H with⟨g7,g8,H⟩|⟨c10,g7,g8,H⟩
    ·obtain⟨rfl,rfl,rfl,rfl⟩:=q4 H;obtain⟨g9,j3,j4,j5,j6,j7⟩:=bk3 d7;go_wp2
     refine rC b9 33 #[.bool false,.slice none 0 0,.slice none 0 0] (kQ d7) Try.underlying33 ?_
     exact⟨_,_,eW,nK,nK,pB⟩
    ·obtain⟨j8,j9,H⟩:=bT H;(try dsimp only at H);obtain⟨l5,l6,H⟩:=bT H;(try dsimp only at H);replace H:=bS H;obtain⟨⟨l7,l8,l9,m0⟩,m4,H⟩:=H;replace H:(some (l7,l8,l9,m0))=some (a8,a9,b4,b5):=H;have m5:=aM m4;clear m4;obtain⟨rfl,rfl,rfl,rfl⟩:=q4 H;go_wp2_with (first|((with_reducible refine gc 109 rfl ?_);refine gC 109 (some 26) Try.func109 #[.int .i64 a6] ?_;(with_reducible refine(Gzw.calls f6 a6 j8 _ j9.out).mono ?_);rintro e m6 ⟨m7,rfl,m8,hb⟩;refine⟨_,rfl,?_⟩;have m9:=rL m8;replace d7:=kb d7 hb;replace HB:=bB hb;clear hb m8)|((with_reducible refine gc 109 rfl ?_);refine gC 109 (some 28) Try.func109 #[.int .i64 a7] ?_;(with_reducible refine(Gzw.calls f6 a7 l5 _ l6.out).mono ?_);rintro e n0 ⟨n7,rfl,m8,hb⟩;refine⟨_,rfl,?_⟩;have n8:=rL (rn m8 m9);replace m9:=rE m9 m8 hb;replace d7:=kb d7 hb;replace HB:=bB hb;clear hb m8;obtain⟨n9,o0,rfl⟩:=Kd.R_slice m9.out;obtain⟨o8,o9,rfl⟩:=Kd.R_slice n8.out)|((with_reducible refine gc 79 rfl ?_);refine gC 79 (some 29) Try.func79 #[.bool ((decide (a6 < 0)) != (decide (a7 < 0))),.slice n9 j8.length o0,.slice o8 l5.length o9] ?_;(with_reducible refine(Fzz.calls f6 ((decide (a6 < 0)) != (decide (a7 < 0))) _ _ j8 _ _ l5 l7 l8 l9 m0 _ ?_ ?_ ?_ ?_ m5.out).mono ?_);exact cR m9;exact lR m9;exact cR n8;exact lR n8;rintro e p0 ⟨p4,p7,rfl,m8,p9,hb⟩;refine⟨_,rfl,?_⟩;have r5:=rL (rn (rn m8 m9) n8);have r6:=rL (rn (rn p9 m9) n8);replace m9:=rO m9 hb m8 p9;replace n8:=rO n8 hb m8 p9;replace d7:=kb d7 hb;replace HB:=bB hb;clear hb m8 p9;obtain⟨r7,r8,r9,t4,t5,t6⟩:=bk3 d7;obtain⟨t7,t8,rfl⟩:=Kd.R_slice r5.out;obtain⟨t9,z3,rfl⟩:=Kd.R_slice r6.out))
     refine rC b9 33 #[.bool l7,.slice t7 l8.length t8,.slice t9 l9.length z3] (kQ d7) Try.underlying33 ?_
     exact⟨_,_,eW,by exact Kd.R_mono (rT r5 d7) (fun _ hk=>hk.1.1),by exact Kd.R_mono (rT r6 d7) (fun _ hk=>hk.1.1),pB⟩

def Hzp.f (k:Nat) (a0:Int):Option (Bool × List Int × List Int × Int):=(Fzv.f k a0 1).bind fun bt259=>(some (bt259.1,bt259.2.1,bt259.2.2.1,bt259.2.2.2))
theorem Hzp.mono:∀ a6 k,LeO (Hzp.f k a6) (Hzp.f (k+1) a6):=by
 intro a6 k;unfold Hzp.f;have i0:=@Fzv.mono;exact mM
theorem Hzp.calls (k:Nat) (a6:Int) (a7:Bool) (a8:List Int) (a9:List Int) (b4:Int) (w:World) (h:Hzp.f k a6=some (a7,a8,a9,b4)) :
  Calls Try.prog 61 #[.int .i64 a6] w fun e w'=>∃ v1_ v2_:Value,e=.returned (.tuple #[.agg #[.bool a7,v1_,v2_],.int .i64 b4])∧rI w' w (oV v2_) v1_ a8∧rI w' w (oV v1_) v2_ a9∧bw w w':=by
 have hu33:=Try.underlying33;have HB:=aM (Below.refl w.heap.size w);have H:((Fzv.f k a6 1).bind fun b5=>(some (b5.1,b5.2.1,b5.2.2.1,b5.2.2.2)))=some (a7,a8,a9,b4):=h
 clear h;replace H:=bS H;obtain⟨⟨b6,b7,b8,b9⟩,d6,H⟩:=H;replace H:(some (b6,b7,b8,b9))=some (a7,a8,a9,b4):=H;have d7:=aM d6;clear d6;obtain⟨rfl,rfl,rfl,rfl⟩:=q4 H;go_enter Try.func61,Try.ntmps61
 go_wp2_with (first|((with_reducible refine gd 2 rfl ?_);refine bz 33 ?_;intro d8 hg d9 e6 hb;have e7:=gA w hg;replace HB:=bB hb;clear hb hg)|((with_reducible refine gc 87 rfl ?_);refine gC 87 (some 5) Try.func87 #[.int .i64 a6,.int .i64 1] ?_;(with_reducible refine(Fzv.calls k a6 1 b6 b7 b8 b9 _ d7.out).mono ?_);rintro e e9 ⟨f4,f5,rfl,f6,f7,hb⟩;refine⟨_,rfl,?_⟩;have f8:=rL f6;have f9:=rL f7;replace e6:=kb e6 hb;replace HB:=bB hb;clear hb f6 f7;obtain⟨g4,g5,g6,g7,g8,g9⟩:=bk3 e6;obtain⟨j3,j4,rfl⟩:=Kd.R_slice f8.out;obtain⟨j5,j6,rfl⟩:=Kd.R_slice f9.out))
 refine rC d8 33 #[.bool b6,.slice j3 b7.length j4,.slice j5 b8.length j6] (kQ e6) Try.underlying33 ?_
 exact⟨_,_,eW,by exact Kd.R_mono (rT f8 e6) (fun _ hk=>hk),by exact Kd.R_mono (rT f9 e6) (fun _ hk=>hk),pB⟩

def Dzm.f (k:Nat) (a0:Int):Option (Bool × List Int × List Int):=(Hzp.f k a0).bind fun bt268=>(some (bt268.1,bt268.2.1,bt268.2.2.1))
theorem Dzm.mono:∀ a6 k,LeO (Dzm.f k a6) (Dzm.f (k+1) a6):=by
 intro a6 k;unfold Dzm.f;have i0:=@Hzp.mono;exact mM
theorem Dzm.calls (k:Nat) (a6:Int) (a7:Bool) (a8:List Int) (a9:List Int) (w:World) (h:Dzm.f k a6=some (a7,a8,a9)) :
  Calls Try.prog 34 #[.int .i64 a6] w fun e w'=>∃ v1_ v2_:Value,e=.returned (.agg #[.bool a7,v1_,v2_])∧rI w' w (oV v2_) v1_ a8∧rI w' w (oV v1_) v2_ a9∧bw w w':=by
 have hu33:=Try.underlying33;have HB:=aM (Below.refl w.heap.size w);have H:((Hzp.f k a6).bind fun b4=>(some (b4.1,b4.2.1,b4.2.2.1)))=some (a7,a8,a9):=h
 clear h;replace H:=bS H;obtain⟨⟨b5,b6,b7,b8⟩,b9,H⟩:=H;replace H:(some (b5,b6,b7))=some (a7,a8,a9):=H;have d6:=aM b9;clear b9;obtain⟨rfl,rfl,rfl⟩:=q3 H;go_enter Try.func34,Try.ntmps34
 go_wp2_with (first|((with_reducible refine gd 2 rfl ?_);refine bz 33 ?_;intro d7 hg d8 d9 hb;have e6:=gA w hg;replace HB:=bB hb;clear hb hg)|((with_reducible refine gc 61 rfl ?_);refine gC 61 (some 7) Try.func61 #[.int .i64 a6] ?_;(with_reducible refine(Hzp.calls k a6 b5 b6 b7 b8 _ d6.out).mono ?_);rintro e e8 ⟨e9,f4,rfl,f5,f6,hb⟩;refine⟨_,rfl,?_⟩;have f7:=rL f5;have f8:=rL f6;replace d9:=kb d9 hb;replace HB:=bB hb;clear hb f5 f6)|((with_reducible refine gd 3 rfl ?_);refine bz 33 ?_;intro f9 hg g4 g5 hb;have g6:=gA w hg;have g8:=nl hg d9;have g9:=ng hg d9;replace f7:=rB f7 hb;replace f8:=rB f8 hb;replace d9:=kb d9 hb;replace HB:=bB hb;clear hb hg;have j3:=g9.out;have j4:=g8.out;obtain⟨j5,j6,j7,j8,j9,l5⟩:=bk3 g5;obtain⟨l6,l7,rfl⟩:=Kd.R_slice f7.out;obtain⟨l8,l9,rfl⟩:=Kd.R_slice f8.out;obtain⟨m0,m4,m5,m6,m7,m8⟩:=bk3 d9))
 refine bodyPost_ret (results_cell_row rfl _ _ d7 33 #[.bool b5,.slice l6 b6.length l7,.slice l8 b7.length l9] (0,0) _ rfl (by refine bD ?_;refine blk_put (cs:=#[.bool b5,.slice l6 b6.length l7,.slice none 0 0]) ?_ 2 _ rfl;refine bD ?_;refine blk_put (cs:=#[.bool b5,.slice none 0 0,.slice none 0 0]) ?_ 1 _ rfl;refine bD ?_;refine blk_put (cs:=#[.bool false,.slice none 0 0,.slice none 0 0]) ?_ 0 _ rfl;refine bD ?_;refine blk_far ?_ g8.out _;refine bD ?_;refine blk_far ?_ g8.out _;refine bD ?_;refine blk_far ?_ g8.out _;(with_reducible repeat(first|refine blk_drewN ?_ _|refine blk_drew ?_|refine blk_alloc ?_ _));exact d9.out) Try.underlying33 rfl (by kernel_rfl)) rfl ?_
 exact⟨_,_,eW,by exact rX (Kd.R_mono (Kd.R_far (p:=⟨d7,2,none⟩) (Kd.R_far (p:=⟨d7,1,none⟩) (Kd.R_far (p:=⟨d7,0,none⟩) (Kd.R_far (p:=⟨f9,2,none⟩) (Kd.R_far (p:=⟨f9,1,none⟩) (Kd.R_far (p:=⟨f9,0,none⟩) (Kd.R_types (Kd.R_types f7.out g5.out (by decide)) d9.out (by decide)) (fun _ hk=>hk.1.2) (.bool b5)) (fun _ hk=>hk.1.2) (.slice l6 b6.length l7)) (fun _ hk=>hk.1.2) (.slice l8 b7.length l9)) (fun _ hk=>hk.2) (.bool b5)) (fun _ hk=>hk.2) (.slice l6 b6.length l7)) (fun _ hk=>hk.2) (.slice l8 b7.length l9)) (fun _ hk=>hk.1.1)),by exact rX (Kd.R_mono (Kd.R_far (p:=⟨d7,2,none⟩) (Kd.R_far (p:=⟨d7,1,none⟩) (Kd.R_far (p:=⟨d7,0,none⟩) (Kd.R_far (p:=⟨f9,2,none⟩) (Kd.R_far (p:=⟨f9,1,none⟩) (Kd.R_far (p:=⟨f9,0,none⟩) (Kd.R_types (Kd.R_types f8.out g5.out (by decide)) d9.out (by decide)) (fun _ hk=>hk.1.2) (.bool b5)) (fun _ hk=>hk.1.2) (.slice l6 b6.length l7)) (fun _ hk=>hk.1.2) (.slice l8 b7.length l9)) (fun _ hk=>hk.2) (.bool b5)) (fun _ hk=>hk.2) (.slice l6 b6.length l7)) (fun _ hk=>hk.2) (.slice l8 b7.length l9)) (fun _ hk=>hk.1.1)),pB⟩


mutual
def Czm.j0:Nat→Int→Int→Bool→Option (Int × (List (S33)) × Int)
 | 0,_,_,_=>none
 | k+1,x0,x1,x12=>if x12=true then(some (0,([]:List (S33)),17)) else(if x1 < 1 then(Czm.j1 k x0 x1 true) else(Czm.j1 k x0 x1 (decide (x1 > 1099511627776))))
def Czm.j1:Nat→Int→Int→Bool→Option (Int × (List (S33)) × Int)
 | 0,_,_,_=>none
 | k+1,x0,x1,x19=>if x19=true then(some (0,([]:List (S33)),1)) else(Czm.l0 k x0 0 x1 ([]:List (S33)))
def Czm.l0:Nat→Int→Int→Int→List (S33)→Option (Int × (List (S33)) × Int)
 | 0,_,_,_,_=>none
 | k+1,x23,x24,x279000,x279001=>if x24 < x23 then((Dzm.f k 0).bind fun bt279=>(if x279001.length < 2513169434916 then(Czm.l0 k x23 (wrap64 (x24+1)) x279000 (x279001 ++ [(⟨bt279.1,bt279.2.1,bt279.2.2⟩:S33)])) else(none))) else(some (x279000,x279001,0))
end
def Czm.f (k:Nat) (a0:Int) (a1:Int):Option (Int × (List (S33)) × Int):=if a0 < 1 then(Czm.j0 k a0 a1 true) else(Czm.j0 k a0 a1 (decide (a0 > 8)))
theorem Czm.mono_l:∀ k,(∀ a6 a7 a8,LeO (Czm.j0 k a6 a7 a8) (Czm.j0 (k+1) a6 a7 a8))∧(∀ a6 a7 a8,LeO (Czm.j1 k a6 a7 a8) (Czm.j1 (k+1) a6 a7 a8))∧(∀ a6 a7 a8 a9,LeO (Czm.l0 k a6 a7 a8 a9) (Czm.l0 (k+1) a6 a7 a8 a9))
 | 0=>⟨fun _ _ _ r h=>by simp [Czm.j0] at h,fun _ _ _ r h=>by simp [Czm.j1] at h,fun _ _ _ _ r h=>by simp [Czm.l0] at h⟩
 | k+1=>by
  obtain⟨ih0,ih1,ih2⟩:=Czm.mono_l k;have i0:=@Dzm.mono;refine⟨?_,?_,?_⟩
  ·intro a6 a7 a8;unfold Czm.j0;exact mM
  ·intro a6 a7 a8;unfold Czm.j1;exact mM
  ·intro a6 a7 a8 a9;unfold Czm.l0;exact mM
theorem Czm.mono:∀ a6 a7 k,LeO (Czm.f k a6 a7) (Czm.f (k+1) a6 a7):=by
 intro a6 a7 k;obtain⟨ih0,ih1,ih2⟩:=Czm.mono_l k;unfold Czm.f;have i0:=@Dzm.mono;exact mM
theorem Czm.calls (k:Nat) (a6:Int) (a7:Int) (a8:Int) (a9:List (S33)) (b4:Int) (w:World) (h:Czm.f k a6 a7=some (a8,a9,b4)) :
  Calls Try.prog 12 #[.int .i64 a6,.int .i64 a7] w fun e w'=>∃ v1_:Value,e=.returned (.tuple #[.agg #[.int .i64 a8,v1_],.int .i64 b4])∧Kd.S k33 33 w' w.heap.size (fun _=>True) v1_ a9∧bw w w':=by
 have hu24:=Try.underlying24;have HB:=aM (Below.refl w.heap.size w);have H:(if a6 < 1 then(Czm.j0 k a6 a7 true) else(Czm.j0 k a6 a7 (decide (a6 > 8))))=some (a8,a9,b4):=h
 clear h;have b5:=aM H;clear H;go_enter Try.func12,Try.ntmps12
 go_upto_region 1 with (first|((with_reducible refine gd 4 rfl ?_);refine bx #[.int .i64 0,.slice none 0 0] 24 ?_;intro b6 hg b7 b8 hb;have b9:=gA w hg;replace HB:=bB hb;clear hb hg))
 (try simp only[Act.put,sA,sZ,sC])
 go_cut [12] (fun d7 wc=>∃ (kq:Nat) (d8:Bool),d7=.bool d8∧Aside0 (Czm.j0 kq a6 a7 d8=some (a8,a9,b4))∧Aside0 (kq≤k)∧Aside0 (wc.heap[b6]?=some (.cells #[.int .i64 0,(.slice none 0 0)] 24 (0,0)))∧Aside0 (bw w wc))
 case first =>
  have H:=b5.out;clear b5;replace H:=iD H;rcases H with⟨d9,H⟩|⟨d9,H⟩
  ·(first|rw[d9]|(simp only[i64_w,i32_w];rw[d9])|skip)
   have H':=aM H;clear H;go_wp2
   go_meet
   case rel=>exact⟨_,(true),sD,H',⟨by first|omega|exact Nat.le_refl _⟩,⟨by exact kW b8⟩,⟨pB⟩⟩
  ·(first|rw[d9]|(simp only[i64_w,i32_w];rw[d9])|skip)
   have H':=aM H;clear H;go_wp2
   go_meet
   case rel=>exact⟨_,(decide (a6 > 8)),sD,H',⟨by first|omega|exact Nat.le_refl _⟩,⟨by exact kW b8⟩,⟨pB⟩⟩
 case rest =>
  clear b5;try clear e6
  obtain⟨kq,d8,rfl,HA,e7,b8,HB⟩:=hcut;cases kq with
  | zero=>exact absurd HA.out (by simp [Czm.j0])
  | succ e8 =>
   have H:=HA.out;clear HA;simp only[Czm.j0] at H;by_cases c6:d8=true
   ·subst c6;rw[if_pos rfl] at H;obtain⟨rfl,rfl,rfl⟩:=q3 H;obtain⟨e9,f4,f5,f6⟩:=bk2 b8;go_wp2
    refine rC b6 24 #[.int .i64 0,.slice none 0 0] (kQ b8) Try.underlying24 ?_
    exact⟨_,eW,by first|exact Kd.S_nil _ _ _ _ _|exact Kd.N_nil _ _ _ _ _|exact Kd.V_nil _ _ _ _ _|exact Kd.Q_nil _ _ _ _ _|exact Kd.R_nil _ _ _ _ _,pB⟩
   ·obtain rfl:=bN c6;rw[if_neg nF] at H
    have f7:=aM H;clear H;go_upto_region 3 with (fail)
    go_cut [19] (fun f8 wc=>∃ (kq:Nat) (f9:Bool),f8=.bool f9∧Aside0 (Czm.j1 kq a6 a7 f9=some (a8,a9,b4))∧Aside0 (kq≤e8)∧Aside0 (wc.heap[b6]?=some (.cells #[.int .i64 0,(.slice none 0 0)] 24 (0,0)))∧Aside0 (bw w wc))
    case first =>
     have H:=f7.out;clear f7;replace H:=iD H;rcases H with⟨g4,H⟩|⟨g4,H⟩
     ·(first|rw[g4]|(simp only[i64_w,i32_w];rw[g4])|skip)
      have H':=aM H;clear H;go_wp2
      go_meet
      case rel=>exact⟨_,(true),sD,H',⟨by have:=e7.out;first|omega|exact Nat.le_refl _⟩,⟨by exact kW b8⟩,⟨pB⟩⟩
     ·(first|rw[g4]|(simp only[i64_w,i32_w];rw[g4])|skip)
      have H':=aM H;clear H;go_wp2
      go_meet
      case rel=>exact⟨_,(decide (a7 > 1099511627776)),sD,H',⟨by have:=e7.out;first|omega|exact Nat.le_refl _⟩,⟨by exact kW b8⟩,⟨pB⟩⟩
    case rest =>
     clear f7;try clear e6
     obtain⟨kq,f9,rfl,HA,g5,b8,HB⟩:=hcut;cases kq with
     | zero=>exact absurd HA.out (by simp [Czm.j1])
     | succ g6 =>
      have H:=HA.out;clear HA;simp only[Czm.j1] at H;by_cases c10:f9=true
      ·subst c10;rw[if_pos rfl] at H;obtain⟨rfl,rfl,rfl⟩:=q3 H;obtain⟨g7,g8,g9,j3⟩:=bk2 b8;go_wp2
       refine rC b6 24 #[.int .i64 0,.slice none 0 0] (kQ b8) Try.underlying24 ?_
       exact⟨_,eW,by first|exact Kd.S_nil _ _ _ _ _|exact Kd.N_nil _ _ _ _ _|exact Kd.V_nil _ _ _ _ _|exact Kd.Q_nil _ _ _ _ _|exact Kd.R_nil _ _ _ _ _,pB⟩
      ·obtain rfl:=bN c10;rw[if_neg nF] at H
       have H':=aM H;clear H;go_wp2_with (first|((with_reducible refine gd 6 rfl ?_);refine bx #[.int .i64 0,.slice none 0 0] 24 ?_;intro j4 hg j5 j6 hb;have j7:=gA w hg;have j9:=nl hg b8;have l5:=ng hg b8;replace b8:=kb b8 hb;replace HB:=bB hb;clear hb hg;have l6:=l5.out;have l7:=j9.out;obtain⟨l8,l9,m0,m4⟩:=bk2 j6))
       go_loopg [24] g6 (fun kq m5 w'=>∃ (m6:Int) (m7:List (S33)) (u279001:Value),m5=.int .i64 m6∧Aside0 (Czm.l0 kq a6 m6 a7 m7=some (a8,a9,b4))∧Aside0 (kq≤g6)∧Aside0 (Kd.S k33 33 w' w.heap.size (fun _=>True) u279001 m7)∧Aside0 (w'.heap[b6]?=some (.cells #[.int .i64 0,(.slice none 0 0)] 24 (0,0)))∧Aside0 (w'.heap[j4]?=some (.cells #[.int .i64 a7,u279001] 24 (0,0)))∧Aside0 (bw w w'))
       case atStart=>exact⟨(0),(([]:List (S33))),(.slice none 0 0),sD,H',⟨Nat.le_refl _⟩,⟨by first|exact Kd.S_nil _ _ _ _ _|exact Kd.N_nil _ _ _ _ _|exact Kd.V_nil _ _ _ _ _|exact Kd.Q_nil _ _ _ _ _|exact Kd.R_nil _ _ _ _ _⟩,⟨by exact kf b8 j9⟩,⟨by exact kQ j6⟩,⟨pB⟩⟩
       case round =>
        clear H';try clear e6
        obtain⟨m6,m7,u279001,rfl,HA,m8,m9,b8,j6,HB⟩:=hrel;cases gk with
        | zero=>exact absurd HA.out (by simp [Czm.l0])
        | succ k3 =>
         have H:=HA.out;clear HA;simp only[Czm.l0] at H;replace H:=iD H;rcases H with⟨n7,H⟩|⟨n7,H⟩
         ·obtain⟨⟨n8,n9,o0⟩,o8,H⟩:=bT H;(try dsimp only at H);obtain⟨o9,H⟩:=iO H;have LMc17:=aM o9;clear o9;obtain⟨p0,p4⟩:∃ y_:List (S33),y_=(m7 ++ [(⟨n8,n9,o0⟩:S33)]):=⟨_,rfl⟩;replace H:(Czm.l0 k3 a6 (wrap64 (m6+1)) a7 p0)=some (a8,a9,b4):=yE p4 H
          have p7:=aM p4;clear p4;have H':=aM H;clear H;try go_wp2
          have n0_:=aM (Kd.S_drew m9.out);have n1_:=aM (blk_drew b8.out);have n2_:=aM (blk_drew j6.out);have n3_:=aM (below_drew1 HB.out);clear m9 b8 j6 HB;have m9:=n0_;have b8:=n1_;have j6:=n2_;have HB:=n3_;clear n0_ n1_ n2_ n3_;refine start_ (n:=7) (S:=fun w'=>w'.cell? ⟨j4,0,none⟩=some (.int .i64 a7)∧w'.cell? ⟨j4,1,none⟩=some (u279001)) (ds:=[6]) (bA 7 0) (by kernel_rfl) rfl rfl ⟨(blk_cell j6.out 0).trans rfl,(blk_cell j6.out 1).trans rfl⟩ (fun hHeld=>?_)
          generalize wr.drew=p9 at m9 b8 j6 HB hHeld ⊢;refine pV 0 26 (bA 7 1) ?_;refine tV 1 27 (bA 7 3) hHeld ?_;refine one_ (i:=2) (N:=some 28) (bA 7 7) rfl rfl (by kernel_rfl) (by decide) (fun K hK=>?_)
          refine goes_ Try.func34 (by kernel_rfl) rfl #[.int .i64 0] (by rfl) rfl rfl mA ?_
          with_reducible refine(Dzm.calls k3 0 n8 n9 o0 _ o8.out).mono ?_
          rintro e r7 ⟨r8,r9,rfl,t4,t5,hb⟩;refine⟨_,rfl,?_⟩;have n0_:=sO m9 hb t4 t5
          have n1_:=rL t4;have n2_:=rL t5;have n3_:=kb b8 hb;have n4_:=kb j6 hb;have n5_:=bB hb;clear m9 b8 j6 HB;have m9:=n0_;have t6:=n1_;have t7:=n2_;have b8:=n3_;have j6:=n4_;have HB:=n5_;clear n0_ n1_ n2_ n3_ n4_ n5_;(try clear hb)
          (try clear t8)
          (try clear hk)
          (try clear hi)
          (try clear t4)
          (try clear t5)
          obtain⟨t9,z3,z4⟩:=Kd.R_slice t6.out;(first|subst z4|(injection z4 with f1_ f2_ f3_;have f4_:=f1_.symm;have f5_:=f3_.symm;clear f1_ f2_ f3_;subst f4_;subst f5_))
          obtain⟨z5,z6,z7⟩:=Kd.R_slice t7.out;(first|subst z7|(injection z7 with f1_ f2_ f3_;have f4_:=f1_.symm;have f5_:=f3_.symm;clear f1_ f2_ f3_;subst f4_;subst f5_))
          refine hK.out _ _ ⟨(blk_cell j6.out 0).trans rfl,(blk_cell j6.out 1).trans rfl⟩ (fun hHeld=>?_)
          clear hK K;refine nm 28 ?_;refine one_ (i:=3) (N:=some 29) (bA 7 15) rfl rfl (by kernel_rfl) (by decide) (fun K hK=>?_)
          refine value_ (w1:=?_) (v:=?_) (by rfl) rfl ?_ ?_
          rotate_left 2
          ·go_simp
           constructor
           ·rfl
           ·rfl
          refine hK.out _ _ ⟨(blk_cell (blk_alloc j6.out _) 0).trans rfl,(blk_cell (blk_alloc j6.out _) 1).trans rfl⟩ (fun hHeld=>?_)
          clear hK K;refine nm 29 ?_;refine one_ (i:=4) (N:=some 30) (bA 7 31) rfl rfl (by kernel_rfl) (by decide) (fun K hK=>?_)
          refine Kd.S_append_step k33 (w0:=w) w.heap.size (by rfl) (.tmp 27) (.tmp 29) 22 33 (.agg #[(.bool false),(.slice none 0 0),(.slice none 0 0)]) 56 rfl Try.underlying22 info33 rfl (by decide) (by omega) u279001 m7 (⟨n8,n9,o0⟩:S33) [.bool n8,.slice t9 n9.length z3,.slice z5 o0.length z6] (fun _=>True) (fun k_=>some k_=(.slice t9 n9.length z3:Value).ownBlock∨some k_=(.slice z5 o0.length z6:Value).ownBlock) rfl rfl ?aP (fun k_ hk_=>hk_.elim (fun h_=>((Kd.R_mono (ok':=fun k_=>((fun _=>True)) k_∧oV u279001 k_) (Kd.R_apart' (t6.out) (Kd.S_typed m9.out) (by decide)) (fun k_ hk=>⟨trivial,hk.2⟩))).1 k_ h_.symm) (fun h_=>((Kd.R_mono (ok':=fun k_=>((fun _=>True)) k_∧oV u279001 k_) (Kd.R_apart' (t7.out) (Kd.S_typed m9.out) (by decide)) (fun k_ hk=>⟨trivial,hk.2⟩))).1 k_ h_.symm)) ?aF ?aO ?aB ?aS ?aL ?_
          (case aP=>exact k33_mkM _ _ _ (⟨n8,n9,o0⟩:S33) (Kd.R_mono (Kd.R_tight rfl (Kd.R_mono (ok':=fun k_=>((fun _=>True)) k_∧oV u279001 k_) (Kd.R_apart' (t6.out) (Kd.S_typed m9.out) (by decide)) (fun k_ hk=>⟨trivial,hk.2⟩))) (fun _ h_=>Or.inl h_)) (Kd.R_mono (Kd.R_tight rfl (Kd.R_mono (ok':=fun k_=>((fun _=>True)) k_∧oV u279001 k_) (Kd.R_apart' (t7.out) (Kd.S_typed m9.out) (by decide)) (fun k_ hk=>⟨trivial,hk.2⟩))) (fun _ h_=>Or.inr (h_))))
          (case aB=>exact pB)
          (case aF=>exact(fun _ _=>trivial))
          (case aO=>exact(by exact sX (Kd.S_mono m9.out (fun k_ hk=>⟨trivial,fun e_=>e_.elim (fun h_=>hk.1.2 h_) (fun h_=>hk.2 h_)⟩))))
          (case aS=>exact(below_size pB))
          (case aL=>have:=LMc17.out;omega)
          intro z8 z9 ho hb hg hat;rw[← p7.out] at ho;have n0_:=aM (blk_grown (g:=b6) (o:=.cells #[.int .i64 0,.slice none 0 0] 24 (0,0)) (kW b8) hg (Kd.S_ne m9.out b8.out (by decide)))
          have n1_:=aM (blk_grown (g:=j4) (o:=.cells #[.int .i64 a7,u279001] 24 (0,0)) (kW j6) hg (Kd.S_ne m9.out j6.out (by decide)))
          have n2_:=aM (hb);have n3_:=aM (ho);clear b8 j6 HB m9 t6 t7;have b8:=n0_;have j6:=n1_;have HB:=n2_;have B0:=n3_;clear n0_ n1_ n2_ n3_ ho hb hg hat;obtain⟨B5,B9,C0⟩:=Kd.S_slice B0.out;(first|subst C0|(injection C0 with f1_ f2_ f3_;have f4_:=f1_.symm;have f5_:=f3_.symm;clear f1_ f2_ f3_;subst f4_;subst f5_))
          refine hK.out _ _ ⟨(blk_cell j6.out 0).trans rfl,(blk_cell j6.out 1).trans rfl⟩ (fun hHeld=>?_)
          clear hK K;refine nm 30 ?_;refine pV 5 31 (bA 7 63) ?_;refine last_ (i:=6) (N:=none) (bA 7 127) rfl rfl (by kernel_rfl) (by decide) (fun K hK=>?_)
          have C1:z9.cell? ⟨j4,1,none⟩=some (u279001):=(blk_cell j6.out 1).trans rfl;have hfs24:=blk_frozen j6.out 1;have hns24_0:=j9.out;have hms24_0:=l5.out;refine skip_ (w1:=?_) (by rfl) rfl ?_ ?_
          rotate_left
          ·go_simp
           rfl
          refine hK.out _ _ ?_;clear hK K;refine done_ (by kernel_rfl) ?_
          try go_wp2
          go_roundg k3
          case measure=>have:=e7.out;have:=g5.out;have:=m8.out;omega
          case rel=>exact⟨(wrap64 (m6+1)),(p0),(.slice B5 p0.length B9),sD,H',⟨by have:=e7.out;have:=g5.out;have:=m8.out;omega⟩,⟨by exact sX (Kd.S_mono (Kd.S_far (p:=⟨j4,1,none⟩) (Kd.S_types B0.out j6.out (by decide)) (fun _ hk=>hk.2) (.slice B5 p0.length B9)) (fun _ hk=>trivial))⟩,⟨by exact kf b8 j9⟩,⟨by exact kQ j6⟩,⟨pB⟩⟩
         ·obtain⟨rfl,rfl,rfl⟩:=q3 H;have C2:=l5.out;have C3:=j9.out;obtain⟨C4,C6,C7,C8⟩:=bk2 j6;obtain⟨C9,D2,D3,D4⟩:=bk2 b8;obtain⟨D5,D6,rfl⟩:=Kd.S_slice m9.out;go_wp2
          refine rC b6 24 #[.int .i64 a7,.slice D5 m7.length D6] (kQ b8) Try.underlying24 ?_
          exact⟨_,eW,by exact sX (Kd.S_mono (Kd.S_far (p:=⟨b6,1,none⟩) (Kd.S_far (p:=⟨b6,0,none⟩) (Kd.S_types m9.out b8.out (by decide)) (fun _ hk=>hk.2) (.int .i64 a7)) (fun _ hk=>hk.2) (.slice D5 m7.length D6)) (fun _ hk=>trivial)),pB⟩

end Go.Proofs.Ytbnpcplckcipfaa.Print
