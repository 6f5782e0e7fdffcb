import Derived.Test.YtbnpcplckcipfaaPrint0
import Derived.Test.YtbnpcplckcipfaaPrint4
import Derived.Test.YtbnpcplckcipfaaPrint9
namespace Go.Proofs.Ytbnpcplckcipfaa.Print
open Go.RowKit Go.Proofs.YtbnpcplckcipfaaW.PrintWords Go.Proofs.YtbnpcplckcipfaaW.PrintLast Go.Proofs.YtbnpcplckcipfaaW.PrintMore
attribute [local go_sem] dF dG eB eD dm dn dH dI
set_option linter.unusedVariables false
set_option maxRecDepth 100000
set_option maxHeartbeats 8000000
set_option linter.unusedSimpArgs false

def Ezw.f (k:Nat) (l0:List Int) (l1:List Int):Option (List Int × List Int):=(Czf.f k l0 l1).bind fun t160=>(if t160 < 0 then((Gzz.f l0 (l0.length:Int)).bind fun t161=>((Bzy.f k t161).bind fun t164=>(some (([]:List Int),t164)))) else(if(l1.length:Int)=1 then(if 0 < (l1.length:Int) then((Dzz.f k l0 (rd l1 0)).bind fun bt168=>(some (bt168.1,bt168.2))) else(none)) else((Czy.f k l0 l1).bind fun bt174=>(some (bt174.1,bt174.2)))))
theorem Ezw.mono:∀ a6 a7 k,LeO (Ezw.f k a6 a7) (Ezw.f (k+1) a6 a7):=by
 intro a6 a7 k;unfold Ezw.f;have i0:=@Czf.mono;have i1:=@Czy.mono;have i2:=@Dzz.mono;have i3:=@Bzy.mono;exact mM
theorem Ezw.calls (k:Nat) (a6:Option Addr) (a7:Nat) (l0:List Int) (a8:Option Addr) (a9:Nat) (l1:List Int) (b4:List Int) (b5:List Int) (w:World) (b6:cI w a6 l0) (b7:l0.length≤a7) (b8:cI w a8 l1) (b9:l1.length≤a9) (h:Ezw.f k l0 l1=some (b4,b5)) :
  Calls Try.prog 91 #[.slice a6 l0.length a7,.slice a8 l1.length a9] w fun e w'=>∃ v0_ v1_:Value,e=.returned (.tuple #[v0_,v1_])∧rI w' w (oV v1_) v0_ b4∧rI w' w (oV v0_) v1_ b5∧bw w w':=by
 have d6:=aM b6;have d7:=aM b7;clear b6 b7;have d8:=aM b8;have d9:=aM b9;clear b8 b9;have HB:=aM (Below.refl w.heap.size w);have H:((Czf.f k l0 l1).bind fun e6=>(if e6 < 0 then((Gzz.f l0 (l0.length:Int)).bind fun e7=>((Bzy.f k e7).bind fun f6=>(some (([]:List Int),f6)))) else(if(l1.length:Int)=1 then(if 0 < (l1.length:Int) then((Dzz.f k l0 (rd l1 0)).bind fun f7=>(some (f7.1,f7.2))) else(none)) else((Czy.f k l0 l1).bind fun f8=>(some (f8.1,f8.2))))))=some (b4,b5):=h
 clear h;obtain⟨e6,g5,H⟩:=bT H;(try dsimp only at H);have g8:=aM H;clear H;go_enter Try.func91,Try.ntmps91
 go_upto_if 6 with (first|((with_reducible refine gc 98 rfl ?_);refine gC 98 (some 9) Try.func98 #[.slice a6 l0.length a7,.slice a8 l1.length a9] ?_;(with_reducible refine(Czf.calls k _ _ l0 _ _ l1 e6 _ ?_ ?_ ?_ ?_ g5.out).mono ?_);exact cX d6.out;exact d7.out;exact cX d8.out;exact d9.out;rintro e w' ⟨rfl,⟨nd,rfl⟩⟩;refine⟨_,rfl,?_⟩))
 have H:=g8.out;clear g8;replace H:=iD H;rcases H with⟨g9,H⟩|⟨g9,H⟩
 ·(first|rw[g9]|(simp only[aH,bg];rw[g9])|skip)
  obtain⟨e7,j3,H⟩:=bT H;(try dsimp only at H);replace H:=bS H;obtain⟨f6,j4,H⟩:=H;replace H:(some (([]:List Int),f6))=some (b4,b5):=H;have j5:=aM j4;clear j4;obtain⟨rfl,rfl⟩:=q2 H;go_wp2_with (first|((with_reducible refine gc 93 rfl ?_);refine gC 93 (some 14) Try.func93 #[.slice a6 l0.length a7,.int .i64 (l0.length:Int)] ?_;(with_reducible refine(Gzz.calls _ _ l0 (l0.length:Int) e7 _ ?_ ?_ j3.out).mono ?_);exact cB d6;exact d7.out;rintro e j6 ⟨j7,rfl,j8,hb⟩;refine⟨_,rfl,?_⟩;have j9:=rL j8;replace HB:=bB hb;clear hb j8;obtain⟨l5,l6,rfl⟩:=Kd.aj j9.out)|((with_reducible refine gc 92 rfl ?_);refine gC 92 (some 15) Try.func92 #[.slice l5 e7.length l6] ?_;(with_reducible refine(Bzy.calls k (fun k_=>some k_=(.slice l5 e7.length l6:Value).ownBlock) (.slice l5 e7.length l6) e7 f6 w _ ?_ ?_ j5.out).mono ?_);exact pB;exact Kd.dJ rfl j9.out;rintro e l7 ⟨l8,rfl,j8,hb,hkp⟩;refine⟨_,rfl,?_⟩;have l9:=aM (Kd.ah (ok':=fun k_=>True) j8 (fun k_ hk_=>trivial));replace HB:=aM (hb);clear j9 hb hkp j8))
  go_ret2
  exact⟨_,_,eW,nK,by exact rX (Kd.ah l9.out (fun _ hk=>(by simp [Value.ownBlock]))),pB⟩
 ·(first|rw[g9]|(simp only[aH,bg];rw[g9])|skip)
  replace H:=iE H;rcases H with⟨m4,m5,H⟩|⟨m0,m4,m5,H⟩
  ·obtain⟨m6,H⟩:=iO H;have m7:decide (0 < (l1.length:Int))=true:=dE m6;have m8:decide (0 < l1.length)=true:=dE (by omega)
   clear m6;replace H:=bS H;obtain⟨⟨m9,n0⟩,n7,H⟩:=H;replace H:(some (m9,n0))=some (b4,b5):=H;have n8:=aM n7;clear n7;obtain⟨rfl,rfl⟩:=q2 H;have n9:0≤(0:Int):=(by omega)
   have o0:0 < (l1.length:Int):=oE aS
   obtain⟨o8,o9,p9⟩:=Kd.pJ d8.out 0 n9 o0;cases o9
   have r6:(0 < l1.length)=True:=eq_true (by omega)
   (try rw[show((0:Int)).toNat=0 from rfl] at p9)
   (try rw[Addr.add_zero'] at p9)
   replace p9:=hB HB p9;replace n9:=eq_true n9;replace o0:=eq_true o0;go_wp2_with (first|((with_reducible refine gc 111 rfl ?_);refine gC 111 (some 24) Try.func111 #[.slice a6 l0.length a7,.int .i64 (rd l1 0)] ?_;(with_reducible refine(Dzz.calls k _ _ l0 (rd l1 0) m9 n0 _ ?_ ?_ n8.out).mono ?_);exact cB d6;exact d7.out;rintro e r7 ⟨r8,r9,rfl,j8,t4,hb⟩;refine⟨_,rfl,?_⟩;have t5:=rL j8;have t6:=rL t4;replace HB:=bB hb;clear hb j8 t4))
   go_ret2
   exact⟨_,_,eW,rX t5.out,rX t6.out,pB⟩
  ·replace H:=bS H;obtain⟨⟨t7,t8⟩,t9,H⟩:=H;replace H:(some (t7,t8))=some (b4,b5):=H;have z3:=aM t9;clear t9;obtain⟨rfl,rfl⟩:=q2 H;go_wp2_with (first|((with_reducible refine gc 112 rfl ?_);refine gC 112 (some 29) Try.func112 #[.slice a6 l0.length a7,.slice a8 l1.length a9] ?_;(with_reducible refine(Czy.calls k _ _ l0 _ _ l1 t7 t8 _ ?_ ?_ ?_ ?_ z3.out).mono ?_);exact cB d6;exact d7.out;exact cB d8;exact d9.out;rintro e z4 ⟨z5,z6,rfl,j8,t4,hb⟩;refine⟨_,rfl,?_⟩;have z7:=rL j8;have z8:=rL t4;replace HB:=bB hb;clear hb j8 t4))
   go_ret2
   exact⟨_,_,eW,rX z7.out,rX z8.out,pB⟩

def Dzv.l0:Nat→List Int→Int→Int→Option (Int)
 | 0,_,_,_=>none
 | k+1,x0,x3,x4=>if x4≥0 then(if 0≤x4 then(if x4 < (x0.length:Int) then(Dzv.l0 k x0 (wrap64 ((wrap64 (x3 * 1000000000))+(rd x0 x4))) (wrap64 (x4 - 1))) else(none)) else(none)) else(some x3)
def Dzv.f (k:Nat) (l0:List Int):Option (Int):=Dzv.l0 k l0 0 (wrap64 ((l0.length:Int) - 1))
theorem Dzv.mono_l:∀ k,(∀ a6 a7 a8,LeO (Dzv.l0 k a6 a7 a8) (Dzv.l0 (k+1) a6 a7 a8))
 | 0=>fun _ _ _ r h=>by simp [Dzv.l0] at h
 | k+1=>by
  have ih0:=Dzv.mono_l k
  ·intro a6 a7 a8;unfold Dzv.l0;exact mM
theorem Dzv.mono:∀ a6 k,LeO (Dzv.f k a6) (Dzv.f (k+1) a6):=by
 intro a6 k;have ih0:=Dzv.mono_l k;unfold Dzv.f;exact mM
theorem Dzv.calls (k:Nat) (a6:Option Addr) (a7:Nat) (l0:List Int) (r:Int) (w:World) (a8:cI w a6 l0) (a9:l0.length≤a7) (h:Dzv.f k l0=some r) :
  Calls Try.prog 94 #[.slice a6 l0.length a7] w fun e w'=>e=.returned (.int .i64 r)∧dC w w':=by
 have b4:=aM a8;have b5:=aM a9;clear a8 a9;have H:(Dzv.l0 k l0 0 (wrap64 ((l0.length:Int) - 1)))=some r:=h;clear h;have H':=aM H;clear H;go_enter Try.func94,Try.ntmps94
 go_wp2
 go_loopg [3,4] k (fun kq b6 b7 w'=>∃ (b8:Int) (b9:Int),b6=.int .i64 b8∧b7=.int .i64 b9∧ae (Dzv.l0 kq l0 b8 b9=some r)∧ae (kq≤k)∧dC w w')
 case atStart=>exact⟨(0),(wrap64 ((l0.length:Int) - 1)),sD,sD,H',⟨Nat.le_refl _⟩,dR⟩
 case round =>
  clear H';obtain⟨b8,b9,rfl,rfl,HA,d6,⟨d7,rfl⟩⟩:=hrel;cases gk with
  | zero=>exact absurd HA.out (by simp [Dzv.l0])
  | succ k1 =>
   have H:=HA.out;clear HA;simp only[Dzv.l0] at H;by_cases c2:b9≥0
   ·rw[if_pos c2] at H;have d8:decide (0≤b9)=true:=dE c2;clear c2;obtain⟨d9,H⟩:=iN H;obtain⟨e6,H⟩:=iN H;have H':=aM H;clear H;obtain⟨e7,f6,f7,f8,g5⟩:=aI b4.out b9;cases f6;go_wp2
    go_roundg k1
    case measure=>have:=d6.out;omega
    case rel=>exact⟨(wrap64 ((wrap64 (b8 * 1000000000))+(rd l0 b9))),(wrap64 (b9 - 1)),sD,sD,H',⟨by have:=d6.out;omega⟩,dR⟩
   ·rw[if_neg c2] at H;have d8:decide (0≤b9)=false:=decide_eq_false c2;clear c2;obtain rfl:=Option.some.inj H;go_wp2
    go_ret
    exact⟨sD,dR⟩

def Ezp.l0:Nat→Int→List Int→Option (List Int × Int)
 | 0,_,_=>none
 | k+1,x0,x4=>if x0 > 0 then(if x4.length < 17592186044416 then(Ezp.l0 k (wrap64 (Int.tdiv x0 1000000000)) (x4 ++ [Int.tmod x0 1000000000])) else(none)) else(some (x4,0))
def Ezp.f (k:Nat) (a0:Int):Option (List Int × Int):=if a0 < 0 then(some (([]:List Int),1)) else(Ezp.l0 k a0 ([]:List Int))
theorem Ezp.mono_l:∀ k,(∀ a6 a7,LeO (Ezp.l0 k a6 a7) (Ezp.l0 (k+1) a6 a7))
 | 0=>fun _ _ r h=>by simp [Ezp.l0] at h
 | k+1=>by
  have ih0:=Ezp.mono_l k
  ·intro a6 a7;unfold Ezp.l0;exact mM
theorem Ezp.mono:∀ a6 k,LeO (Ezp.f k a6) (Ezp.f (k+1) a6):=by
 intro a6 k;have ih0:=Ezp.mono_l k;unfold Ezp.f;exact mM
theorem Ezp.calls (k:Nat) (a6:Int) (a7:List Int) (a8:Int) (w:World) (h:Ezp.f k a6=some (a7,a8)) :
  Calls Try.prog 95 #[.int .i64 a6] w fun e w'=>∃ v0_:Value,e=.returned (.tuple #[v0_,.int .i64 a8])∧rI w' w (fun _=>True) v0_ a7∧bw w w':=by
 have HB:=aM (Below.refl w.heap.size w);have H:(if a6 < 0 then(some (([]:List Int),1)) else(Ezp.l0 k a6 ([]:List Int)))=some (a7,a8):=h
 clear h;replace H:=iD H;rcases H with⟨a9,H⟩|⟨a9,H⟩
 ·obtain⟨rfl,rfl⟩:=q2 H;go_enter Try.func95,Try.ntmps95
  go_wp2
  go_ret2
  exact⟨_,eW,nK,pB⟩
 ·have H':=aM H;clear H;go_enter Try.func95,Try.ntmps95
  go_wp2
  go_loopg [0,4] k (fun kq b4 b5 w'=>∃ (b6:Int) (b7:List Int),b4=.int .i64 b6∧ae (Ezp.l0 kq b6 b7=some (a7,a8))∧ae (kq≤k)∧ae (rI w' w (fun _=>True) b5 b7)∧ae (bw w w'))
  case atStart=>exact⟨(a6),(([]:List Int)),sD,H',⟨Nat.le_refl _⟩,⟨nK⟩,⟨pB⟩⟩
  case round =>
   clear H';try clear c2
   obtain⟨b6,b7,rfl,HA,b8,b9,HB⟩:=hrel;cases gk with
   | zero=>exact absurd HA.out (by simp [Ezp.l0])
   | succ k1 =>
    have H:=HA.out;clear HA;simp only[Ezp.l0] at H;by_cases c3:b6 > 0
    ·rw[if_pos c3] at H;have d6:decide (0 < b6)=true:=dE c3;clear c3;obtain⟨c4,H⟩:=iO H;have LMc4:=aM c4;clear c4;obtain⟨d7,d8⟩:∃ y_:List Int,y_=(b7 ++ [Int.tmod b6 1000000000]):=⟨_,rfl⟩;replace H:(Ezp.l0 k1 (wrap64 (Int.tdiv b6 1000000000)) d7)=some (a7,a8):=yE d8 H
     have d9:=aM d8;clear d8;have H':=aM H;clear H;go_wp2_with (first|((with_reducible refine dw (b:=.append) (xs:=#[.tmp 11,.tmp 14]) rfl ?_);at_builtin;refine Kd.jy (Kd.int .i64) (w0:=w) w.heap.size rfl (.tmp 11) (.tmp 14) 31 3 (.int .i64 0) 8 rfl Try.underlying31 info3 rfl (by decide) (by omega) u4 b7 (Int.tmod b6 1000000000) [.int .i64 (Int.tmod b6 1000000000)] (fun _=>True) (fun _=>False) rfl rfl ?aP (fun _ hk=>hk.elim) ?aF ?aO ?aB ?aS ?aL ?_;(case aP=>exact rfl);(case aB=>exact pB);(case aF=>exact(fun _ _=>trivial));(case aO=>exact(rX b9.out));(case aS=>exact(ay pB));(case aL=>have:=LMc4.out;omega);intro e6 e7 ho hb hg hat;rw[← d9.out] at ho;have f6:=aM (ho);replace HB:=aM (hb);clear b9 ho hb hg hat))
     go_roundg k1
     case measure=>have:=b8.out;omega
     case rel=>exact⟨(wrap64 (Int.tdiv b6 1000000000)),(d7),sD,H',⟨by have:=b8.out;omega⟩,⟨rX f6.out⟩,⟨pB⟩⟩
    ·rw[if_neg c3] at H;have d6:decide (0 < b6)=false:=decide_eq_false c3;clear c3;obtain⟨rfl,rfl⟩:=q2 H;go_wp2
     go_ret2
     exact⟨_,eW,rX b9.out,pB⟩


mutual
def Czv.j0:Nat→List Int→List Int→Bool→Option (List Int × Int)
 | 0,_,_,_=>none
 | k+1,x0,x1,x17=>if x17=true then(some (([]:List Int),3)) else(Czv.l0 k x0 x1)
def Czv.j2:Nat→List Int→List Int→Option (List Int × Int)
 | 0,_,_=>none
 | k+1,x0,x1=>if(x1.length:Int)=0 then((Gzz.f x0 (x0.length:Int)).bind fun t198=>((Bzy.f k t198).bind fun t201=>(some (t201,0)))) else((Dzv.f k x0).bind fun t204=>((Dzv.f k x1).bind fun t205=>(Czv.l1 k t204 t205)))
def Czv.l1:Nat→Int→Int→Option (List Int × Int)
 | 0,_,_=>none
 | k+1,x8,x9=>if x9 > 0 then(if x9=0 then(none) else(Czv.l1 k x9 (Int.tmod x8 x9))) else((Ezp.f k x8).bind fun bt206=>(some (bt206.1,bt206.2)))
def Czv.l0:Nat→List Int→List Int→Option (List Int × Int)
 | 0,_,_=>none
 | k+1,x0,x1=>if(x1.length:Int) > 0 then(if(x0.length:Int) > 2 then((Ezw.f k x0 x1).bind fun bt186=>(Czv.l0 k x1 bt186.2)) else(if(x1.length:Int) > 2 then((Ezw.f k x0 x1).bind fun bt192=>(Czv.l0 k x1 bt192.2)) else(Czv.j2 k x0 x1))) else(Czv.j2 k x0 x1)
end
def Czv.f (k:Nat) (l0:List Int) (l1:List Int):Option (List Int × Int):=(Azv.f k l0).bind fun t184=>(if t184=true then((Azv.f k l1).bind fun t185=>(Czv.j0 k l0 l1 (!t185))) else(Czv.j0 k l0 l1 true))
theorem Czv.mono_l:∀ k,(∀ a6 a7 a8,LeO (Czv.j0 k a6 a7 a8) (Czv.j0 (k+1) a6 a7 a8))∧(∀ a6 a7,LeO (Czv.j2 k a6 a7) (Czv.j2 (k+1) a6 a7))∧(∀ a6 a7,LeO (Czv.l1 k a6 a7) (Czv.l1 (k+1) a6 a7))∧(∀ a6 a7,LeO (Czv.l0 k a6 a7) (Czv.l0 (k+1) a6 a7))
 | 0=>⟨fun _ _ _ r h=>by simp [Czv.j0] at h,fun _ _ r h=>by simp [Czv.j2] at h,fun _ _ r h=>by simp [Czv.l1] at h,fun _ _ r h=>by simp [Czv.l0] at h⟩
 | k+1=>by
  obtain⟨ih0,ih1,ih2,ih3⟩:=Czv.mono_l k;have i0:=@Ezp.mono;have i1:=@Azv.mono;have i2:=@Ezw.mono;have i3:=@Dzv.mono;have i4:=@Bzy.mono;refine⟨?_,?_,?_,?_⟩
  ·intro a6 a7 a8;unfold Czv.j0;exact mM
  ·intro a6 a7;unfold Czv.j2;exact mM
  ·intro a6 a7;unfold Czv.l1;exact mM
  ·intro a6 a7;unfold Czv.l0;exact mM
theorem Czv.mono:∀ a6 a7 k,LeO (Czv.f k a6 a7) (Czv.f (k+1) a6 a7):=by
 intro a6 a7 k;obtain⟨ih0,ih1,ih2,ih3⟩:=Czv.mono_l k;unfold Czv.f;have i0:=@Ezp.mono;have i1:=@Azv.mono;have i2:=@Ezw.mono;have i3:=@Dzv.mono;have i4:=@Bzy.mono;exact mM
theorem Czv.calls (k:Nat) (a6:Nat→Prop) (a7:Option Addr) (a8:Nat) (l0:List Int) (a9:Nat→Prop) (b4:Option Addr) (b5:Nat) (l1:List Int) (b6:List Int) (b7:Int) (w:World) (b8:Kd.V (Kd.int .i64) 3 w w.heap.size (fun k_=>a6 k_) (.slice a7 l0.length a8) l0) (b9:Kd.V (Kd.int .i64) 3 w w.heap.size (fun k_=>a9 k_) (.slice b4 l1.length b5) l1) (h:Czv.f k l0 l1=some (b6,b7)) :
  Calls Try.prog 66 #[.slice a7 l0.length a8,.slice b4 l1.length b5] w fun e w'=>∃ v0_:Value,e=.returned (.tuple #[v0_,.int .i64 b7])∧rI w' w (fun k_=>(w.heap.size≤k_)) v0_ b6∧bw w w':=by
 have d6:=aM (show Kd.V (Kd.int .i64) 3 w w.heap.size (fun k_=>((a6 k_∨a9 k_)∨w.heap.size≤k_)) (.slice a7 l0.length a8) l0 from Kd.aC b8 (fun k_ hk=>.inl (.inl hk)))
 have d7:=aM (show Kd.V (Kd.int .i64) 3 w w.heap.size (fun k_=>((a6 k_∨a9 k_)∨w.heap.size≤k_)) (.slice b4 l1.length b5) l1 from Kd.aC b9 (fun k_ hk=>.inl (.inr hk)))
 have HB:=aM (Below.refl w.heap.size w);have H:((Azv.f k l0).bind fun d8=>(if d8=true then((Azv.f k l1).bind fun d9=>(Czv.j0 k l0 l1 (!d9))) else(Czv.j0 k l0 l1 true)))=some (b6,b7):=h
 clear h;have e6:=aM H;clear H;go_enter Try.func66,Try.ntmps66
 go_upto_region 1 with (fail)
 repeat(go_quiet (fail);go_upto_region 1 with (fail))
 go_cut [17] (fun e7 wc=>∃ (kq:Nat) (f6:Bool),e7=.bool f6∧ae (Czv.j0 kq l0 l1 f6=some (b6,b7))∧ae (kq≤k)∧ae (Kd.V (Kd.int .i64) 3 wc w.heap.size (fun k_=>((a6 k_∨a9 k_)∨w.heap.size≤k_)) (.slice a7 l0.length a8) l0)∧ae (Kd.V (Kd.int .i64) 3 wc w.heap.size (fun k_=>((a6 k_∨a9 k_)∨w.heap.size≤k_)) (.slice b4 l1.length b5) l1)∧ae (bw w wc))
 case first =>
  have H:=e6.out;clear e6;obtain⟨d8,f7,H⟩:=bT H;(try dsimp only at H);by_cases c5:d8=true
  ·subst c5;rw[if_pos rfl] at H;obtain⟨d9,f8,H⟩:=bT H;(try dsimp only at H);have H':=aM H;clear H;have fl_:True:=trivial;repeat((first|clear fl_|go_quiet (first|(go_at_call 65;(with_reducible refine(Azv.calls k _ _ l0 true _ ?_ ?_ f7.out).mono ?_);exact cV d6;exact lV d6;rintro e w' ⟨rfl,⟨nd,rfl⟩⟩;(try exact dD))|(go_at_call 65;(with_reducible refine(Azv.calls k _ _ l1 d9 _ ?_ ?_ f8.out).mono ?_);exact cV d7;exact lV d7;rintro e w' ⟨rfl,⟨nd,rfl⟩⟩;(try exact dD))));go_wp2_with (first|(go_at_call 65;(with_reducible refine(Azv.calls k _ _ l0 true _ ?_ ?_ f7.out).mono ?_);exact cV d6;exact lV d6;rintro e w' ⟨rfl,⟨nd,rfl⟩⟩;(try exact dD))|(go_at_call 65;(with_reducible refine(Azv.calls k _ _ l1 d9 _ ?_ ?_ f8.out).mono ?_);exact cV d7;exact lV d7;rintro e w' ⟨rfl,⟨nd,rfl⟩⟩;(try exact dD))))
   go_meet
   case rel=>exact⟨_,(!d9),sD,H',⟨by first|omega|exact Nat.le_refl _⟩,⟨vX d6.out⟩,⟨vX d7.out⟩,⟨pB⟩⟩
  ·obtain rfl:=bN c5;rw[if_neg nF] at H
   have H':=aM H;clear H;have fl_:True:=trivial;repeat((first|clear fl_|go_quiet (first|(go_at_call 65;(with_reducible refine(Azv.calls k _ _ l0 false _ ?_ ?_ f7.out).mono ?_);exact cV d6;exact lV d6;rintro e w' ⟨rfl,⟨nd,rfl⟩⟩;(try exact dD))));go_wp2_with (first|(go_at_call 65;(with_reducible refine(Azv.calls k _ _ l0 false _ ?_ ?_ f7.out).mono ?_);exact cV d6;exact lV d6;rintro e w' ⟨rfl,⟨nd,rfl⟩⟩;(try exact dD))))
   go_meet
   case rel=>exact⟨_,(true),sD,H',⟨by first|omega|exact Nat.le_refl _⟩,⟨vX d6.out⟩,⟨vX d7.out⟩,⟨pB⟩⟩
 case rest =>
  clear e6;try clear b5
  obtain⟨kq,f6,rfl,HA,g5,g8,g9,HB⟩:=hcut;cases kq with
  | zero=>exact absurd HA.out (by simp [Czv.j0])
  | succ j3 =>
   have H:=HA.out;clear HA;simp only[Czv.j0] at H;by_cases c7:f6=true
   ·subst c7;rw[if_pos rfl] at H;obtain⟨rfl,rfl⟩:=q2 H;go_wp2
    repeat(go_quiet (fail);try go_wp2)
    go_ret2
    exact⟨_,eW,nK,pB⟩
   ·obtain rfl:=bN c7;rw[if_neg nF] at H
    have j4:=aM H;clear H;go_upto_block 0 with (fail)
    repeat(go_quiet (fail);go_upto_block 0 with (fail))
    go_cut [0,1] (fun j5 j6 wc=>∃ (kq:Nat) (j7:List Int) (j8:List Int),ae (Czv.j2 kq j7 j8=some (b6,b7))∧ae (kq≤j3)∧ae (Kd.V (Kd.int .i64) 3 wc w.heap.size (fun k_=>((a6 k_∨a9 k_)∨w.heap.size≤k_)) j5 j7)∧ae (Kd.V (Kd.int .i64) 3 wc w.heap.size (fun k_=>((a6 k_∨a9 k_)∨w.heap.size≤k_)) j6 j8)∧ae (bw w wc))
    case first =>
     have H:=j4.out;clear j4;have H':=aM H;clear H;go_wp2
     repeat(go_quiet (fail);try go_wp2)
     go_loopg [0,1] j3 (fun kq j5 j6 w'=>∃ (j9:List Int) (l5:List Int),ae (Czv.l0 kq j9 l5=some (b6,b7))∧ae (kq≤j3)∧ae (Kd.V (Kd.int .i64) 3 w' w.heap.size (fun k_=>((a6 k_∨a9 k_)∨w.heap.size≤k_)) j5 j9)∧ae (Kd.V (Kd.int .i64) 3 w' w.heap.size (fun k_=>((a6 k_∨a9 k_)∨w.heap.size≤k_)) j6 l5)∧ae (bw w w'))
     case atStart=>exact⟨(l0),(l1),H',⟨Nat.le_refl _⟩,⟨vX g8.out⟩,⟨vX g9.out⟩,⟨pB⟩⟩
     case round =>
      clear H';try clear b5
      obtain⟨j9,l5,HA,l6,g8,g9,HB⟩:=hrel;cases gk with
      | zero=>exact absurd HA.out (by simp [Czv.l0])
      | succ k2 =>
       have H:=HA.out;clear HA;simp only[Czv.l0] at H;by_cases c9:(l5.length:Int) > 0
       ·rw[if_pos c9] at H;have l7:decide (0 < (l5.length:Int))=true:=dE c9;have l8:decide (0 < l5.length)=true:=dE (by omega)
        clear c9;(first|rw[l7]|(simp only[aH,bg];rw[l7])|skip)
        by_cases c10:(j9.length:Int) > 2
        ·rw[if_pos c10] at H;have l9:decide (2 < (j9.length:Int))=true:=dE c10;have m0:decide (2 < j9.length)=true:=dE (by omega)
         clear c10;obtain⟨⟨m4,m5⟩,m6,H⟩:=bT H;(try dsimp only at H);have H':=aM H;clear H;obtain⟨m7,m8,m9⟩:=Kd.iF g9.out;subst m9;obtain⟨n0,n7,n8⟩:=Kd.iF g8.out;subst n8;have fl_:True:=trivial;repeat((first|clear fl_|go_quiet (first|(go_at_call 91;(with_reducible refine(Ezw.calls k2 _ _ j9 _ _ l5 m4 m5 _ ?_ ?_ ?_ ?_ m6.out).mono ?_);exact cV g8;exact lV g8;exact cV g9;exact lV g9;rintro e n9 ⟨o0,o8,rfl,o9,p9,hb⟩;have r6:=rL (Kd.gB (M:=fun k_=>(w.heap.size≤k_)) o9 (ay pB) (fun k_ h_=>h_));have r7:=rL (Kd.gB (M:=fun k_=>(w.heap.size≤k_)) p9 (ay pB) (fun k_ h_=>h_));replace g8:=vO g8 hb o9 p9;replace g9:=vO g9 hb o9 p9;replace HB:=bB hb;clear hb o9 p9)));go_wp2_with (first|(go_at_call 91;(with_reducible refine(Ezw.calls k2 _ _ j9 _ _ l5 m4 m5 _ ?_ ?_ ?_ ?_ m6.out).mono ?_);exact cV g8;exact lV g8;exact cV g9;exact lV g9;rintro e n9 ⟨o0,o8,rfl,o9,p9,hb⟩;have r6:=rL (Kd.gB (M:=fun k_=>(w.heap.size≤k_)) o9 (ay pB) (fun k_ h_=>h_));have r7:=rL (Kd.gB (M:=fun k_=>(w.heap.size≤k_)) p9 (ay pB) (fun k_ h_=>h_));replace g8:=vO g8 hb o9 p9;replace g9:=vO g9 hb o9 p9;replace HB:=bB hb;clear hb o9 p9)))
         go_roundg k2
         case measure=>have:=g5.out;have:=l6.out;omega
         case rel=>exact⟨(l5),(m5),H',⟨by have:=g5.out;have:=l6.out;omega⟩,⟨by exact vX (Kd.aC g9.out (fun _ hk=>hk.1.1))⟩,⟨Kd.aC (Kd.R_V (rX (Kd.ah r7.out (fun _ hk=>hk.1)))) (fun k_ hk=>by first|exact⟨(.inr (hk.1)),hk.2⟩|exact(.inr (hk)))⟩,⟨pB⟩⟩
        ·rw[if_neg c10] at H;have l9:decide (2 < (j9.length:Int))=false:=decide_eq_false c10;have m0:decide (2 < j9.length)=false:=decide_eq_false (by omega)
         clear c10;by_cases r8:(l5.length:Int) > 2
         ·rw[if_pos r8] at H;have r9:decide (2 < (l5.length:Int))=true:=dE r8;have t4:decide (2 < l5.length)=true:=dE (by omega)
          clear r8;obtain⟨⟨t5,t6⟩,t7,H⟩:=bT H;(try dsimp only at H);have H':=aM H;clear H;obtain⟨t8,t9,z3⟩:=Kd.iF g9.out;subst z3;obtain⟨z4,z5,z6⟩:=Kd.iF g8.out;subst z6;have fl_:True:=trivial;repeat((first|clear fl_|go_quiet (first|(go_at_call 91;(with_reducible refine(Ezw.calls k2 _ _ j9 _ _ l5 t5 t6 _ ?_ ?_ ?_ ?_ t7.out).mono ?_);exact cV g8;exact lV g8;exact cV g9;exact lV g9;rintro e z7 ⟨z8,z9,rfl,o9,p9,hb⟩;have B0:=rL (Kd.gB (M:=fun k_=>(w.heap.size≤k_)) o9 (ay pB) (fun k_ h_=>h_));have B5:=rL (Kd.gB (M:=fun k_=>(w.heap.size≤k_)) p9 (ay pB) (fun k_ h_=>h_));replace g8:=vO g8 hb o9 p9;replace g9:=vO g9 hb o9 p9;replace HB:=bB hb;clear hb o9 p9)));go_wp2_with (first|(go_at_call 91;(with_reducible refine(Ezw.calls k2 _ _ j9 _ _ l5 t5 t6 _ ?_ ?_ ?_ ?_ t7.out).mono ?_);exact cV g8;exact lV g8;exact cV g9;exact lV g9;rintro e z7 ⟨z8,z9,rfl,o9,p9,hb⟩;have B0:=rL (Kd.gB (M:=fun k_=>(w.heap.size≤k_)) o9 (ay pB) (fun k_ h_=>h_));have B5:=rL (Kd.gB (M:=fun k_=>(w.heap.size≤k_)) p9 (ay pB) (fun k_ h_=>h_));replace g8:=vO g8 hb o9 p9;replace g9:=vO g9 hb o9 p9;replace HB:=bB hb;clear hb o9 p9)))
          go_roundg k2
          case measure=>have:=g5.out;have:=l6.out;omega
          case rel=>exact⟨(l5),(t6),H',⟨by have:=g5.out;have:=l6.out;omega⟩,⟨by exact vX (Kd.aC g9.out (fun _ hk=>hk.1.1))⟩,⟨Kd.aC (Kd.R_V (rX (Kd.ah B5.out (fun _ hk=>hk.1)))) (fun k_ hk=>by first|exact⟨(.inr (hk.1)),hk.2⟩|exact(.inr (hk)))⟩,⟨pB⟩⟩
         ·rw[if_neg r8] at H;have r9:decide (2 < (l5.length:Int))=false:=decide_eq_false r8;have t4:decide (2 < l5.length)=false:=decide_eq_false (by omega)
          clear r8;have H':=aM H;clear H;obtain⟨B9,C0,C1⟩:=Kd.iF g9.out;subst C1;obtain⟨C2,C3,C4⟩:=Kd.iF g8.out;subst C4;go_wp2
          repeat(go_quiet (fail);try go_wp2)
          go_meet
          case rel=>exact⟨_,(j9),(l5),H',⟨by have:=g5.out;have:=l6.out;first|omega|exact Nat.le_refl _⟩,⟨vX g8.out⟩,⟨vX g9.out⟩,⟨pB⟩⟩
       ·rw[if_neg c9] at H;have l7:decide (0 < (l5.length:Int))=false:=decide_eq_false c9;have l8:decide (0 < l5.length)=false:=decide_eq_false (by omega)
        clear c9;(first|rw[l7]|(simp only[aH,bg];rw[l7])|skip)
        have H':=aM H;clear H;obtain⟨C6,C7,C8⟩:=Kd.iF g9.out;subst C8;go_wp2
        repeat(go_quiet (fail);try go_wp2)
        go_meet
        case rel=>exact⟨_,(j9),(l5),H',⟨by have:=g5.out;have:=l6.out;first|omega|exact Nat.le_refl _⟩,⟨vX g8.out⟩,⟨vX g9.out⟩,⟨pB⟩⟩
    case rest =>
     clear j4;try clear b5
     obtain⟨kq,j7,j8,HA,C9,g8,g9,HB⟩:=hcut;cases kq with
     | zero=>exact absurd HA.out (by simp [Czv.j2])
     | succ D4 =>
      have H:=HA.out;clear HA;simp only[Czv.j2] at H;replace H:=iE H;rcases H with⟨D6,D7,H⟩|⟨D5,D6,D7,H⟩
      ·obtain⟨D8,D9,H⟩:=bT H;(try dsimp only at H);replace H:=bS H;obtain⟨E0,E1,H⟩:=H;replace H:(some (E0,0))=some (b6,b7):=H;have E2:=aM E1;clear E1;obtain⟨rfl,rfl⟩:=q2 H;obtain⟨E3,E4,E5⟩:=Kd.iF g9.out;subst E5;obtain⟨E6,E7,E8⟩:=Kd.iF g8.out;subst E8;have fl_:True:=trivial;repeat((first|clear fl_|go_quiet (first|(go_at_call 93;(with_reducible refine(Gzz.calls _ _ j7 (j7.length:Int) D8 _ ?_ ?_ D9.out).mono ?_);exact cV g8;exact lV g8;rintro e E9 ⟨F0,rfl,o9,hb⟩;have F2:=rL (Kd.gB (M:=fun k_=>(w.heap.size≤k_)) o9 (ay pB) (fun k_ h_=>h_));replace g8:=vE g8 o9 hb;replace g9:=vE g9 o9 hb;replace HB:=bB hb;clear hb o9;obtain⟨F3,F4,rfl⟩:=Kd.aj F2.out)|(go_at_call 92;(with_reducible refine(Bzy.calls D4 (fun k_=>some k_=(.slice F3 D8.length F4:Value).ownBlock) (.slice F3 D8.length F4) D8 E0 w _ ?_ ?_ E2.out).mono ?_);exact pB;exact Kd.dJ rfl F2.out;rintro e F5 ⟨F6,rfl,o9,hb,hkp⟩;have F7:=aM (Kd.ah (ok':=fun k_=>(w.heap.size≤k_)) o9 (fun k_ hk_=>Or.elim hk_ (fun hs_=>(F2.out.1 k_ (hs_).symm).1) (fun hn_=>(lP hn_))));replace g8:=aM (Kd.aC (ok':=fun k_=>((a6 k_∨a9 k_)∨w.heap.size≤k_)∧oV F6 k_) (Kd.oQ (g8.out) hkp (fun k_ hk_ hs_=>(hk_.2) hs_)) (fun k_ hk_=>⟨hk_.1.1,fun e_=>Or.elim (o9.1 k_ e_.symm) (fun hs_=>hk_.2.1 hs_) (fun hn_=>Nat.not_le.2 hk_.2.2 hn_)⟩));replace g9:=aM (Kd.aC (ok':=fun k_=>((a6 k_∨a9 k_)∨w.heap.size≤k_)∧oV F6 k_) (Kd.oQ (g9.out) hkp (fun k_ hk_ hs_=>(hk_.2) hs_)) (fun k_ hk_=>⟨hk_.1.1,fun e_=>Or.elim (o9.1 k_ e_.symm) (fun hs_=>hk_.2.1 hs_) (fun hn_=>Nat.not_le.2 hk_.2.2 hn_)⟩));replace HB:=aM (hb);clear F2 hb hkp o9)));go_wp2_with (first|(go_at_call 93;(with_reducible refine(Gzz.calls _ _ j7 (j7.length:Int) D8 _ ?_ ?_ D9.out).mono ?_);exact cV g8;exact lV g8;rintro e E9 ⟨F0,rfl,o9,hb⟩;have F2:=rL (Kd.gB (M:=fun k_=>(w.heap.size≤k_)) o9 (ay pB) (fun k_ h_=>h_));replace g8:=vE g8 o9 hb;replace g9:=vE g9 o9 hb;replace HB:=bB hb;clear hb o9;obtain⟨F3,F4,rfl⟩:=Kd.aj F2.out)|(go_at_call 92;(with_reducible refine(Bzy.calls D4 (fun k_=>some k_=(.slice F3 D8.length F4:Value).ownBlock) (.slice F3 D8.length F4) D8 E0 w _ ?_ ?_ E2.out).mono ?_);exact pB;exact Kd.dJ rfl F2.out;rintro e F5 ⟨F6,rfl,o9,hb,hkp⟩;have F7:=aM (Kd.ah (ok':=fun k_=>(w.heap.size≤k_)) o9 (fun k_ hk_=>Or.elim hk_ (fun hs_=>(F2.out.1 k_ (hs_).symm).1) (fun hn_=>(lP hn_))));replace g8:=aM (Kd.aC (ok':=fun k_=>((a6 k_∨a9 k_)∨w.heap.size≤k_)∧oV F6 k_) (Kd.oQ (g8.out) hkp (fun k_ hk_ hs_=>(hk_.2) hs_)) (fun k_ hk_=>⟨hk_.1.1,fun e_=>Or.elim (o9.1 k_ e_.symm) (fun hs_=>hk_.2.1 hs_) (fun hn_=>Nat.not_le.2 hk_.2.2 hn_)⟩));replace g9:=aM (Kd.aC (ok':=fun k_=>((a6 k_∨a9 k_)∨w.heap.size≤k_)∧oV F6 k_) (Kd.oQ (g9.out) hkp (fun k_ hk_ hs_=>(hk_.2) hs_)) (fun k_ hk_=>⟨hk_.1.1,fun e_=>Or.elim (o9.1 k_ e_.symm) (fun hs_=>hk_.2.1 hs_) (fun hn_=>Nat.not_le.2 hk_.2.2 hn_)⟩));replace HB:=aM (hb);clear F2 hb hkp o9)))
       go_ret2
       exact⟨_,eW,rX F7.out,pB⟩
      ·have F8:¬ (j8=[]):=fun h_=>D5 (by rw[h_];rfl)
       obtain⟨F9,G5,H⟩:=bT H;(try dsimp only at H);obtain⟨G9,H5,H⟩:=bT H;(try dsimp only at H);have H':=aM H;clear H;obtain⟨H6,H7,H8⟩:=Kd.iF g9.out;subst H8;obtain⟨H9,I0,I3⟩:=Kd.iF g8.out;subst I3;have fl_:True:=trivial;repeat((first|clear fl_|go_quiet (first|(go_at_call 94;(with_reducible refine(Dzv.calls D4 _ _ j7 F9 _ ?_ ?_ G5.out).mono ?_);exact cV g8;exact lV g8;rintro e w' ⟨rfl,⟨nd,rfl⟩⟩;(try exact dD))|(go_at_call 94;(with_reducible refine(Dzv.calls D4 _ _ j8 G9 _ ?_ ?_ H5.out).mono ?_);exact cV g9;exact lV g9;rintro e w' ⟨rfl,⟨nd,rfl⟩⟩;(try exact dD))));go_wp2_with (first|(go_at_call 94;(with_reducible refine(Dzv.calls D4 _ _ j7 F9 _ ?_ ?_ G5.out).mono ?_);exact cV g8;exact lV g8;rintro e w' ⟨rfl,⟨nd,rfl⟩⟩;(try exact dD))|(go_at_call 94;(with_reducible refine(Dzv.calls D4 _ _ j8 G9 _ ?_ ?_ H5.out).mono ?_);exact cV g9;exact lV g9;rintro e w' ⟨rfl,⟨nd,rfl⟩⟩;(try exact dD))))
       try simp only[Act.put,sA,sZ,sC]
       go_loopg [8,9] D4 (fun kq I4 I5 w'=>∃ (I6:Int) (I7:Int),I4=.int .i64 I6∧I5=.int .i64 I7∧ae (Czv.l1 kq I6 I7=some (b6,b7))∧ae (kq≤D4)∧ae (bw w w'))
       case atStart=>exact⟨(F9),(G9),sD,sD,H',⟨Nat.le_refl _⟩,⟨pB⟩⟩
       case round =>
        clear H';try clear b5
        obtain⟨I6,I7,rfl,rfl,HA,I8,HB⟩:=hrel;cases gk with
        | zero=>exact absurd HA.out (by simp [Czv.l1])
        | succ k3 =>
         have H:=HA.out;clear HA;simp only[Czv.l1] at H;by_cases I9:I7 > 0
         ·rw[if_pos I9] at H;have J0:decide (0 < I7)=true:=dE I9;clear I9;obtain⟨J1,H⟩:=iM H;have J2:(I7 == 0)=false:=beq_eq_false_iff_ne.mpr J1;have J3:(I7 != 0)=true:=bne_iff_ne.mpr J1;have H':=aM H;clear H;go_wp2
          repeat(go_quiet (fail);try go_wp2)
          go_roundg k3
          case measure=>have:=g5.out;have:=C9.out;have:=I8.out;omega
          case rel=>exact⟨(I7),(Int.tmod I6 I7),sD,sD,H',⟨by have:=g5.out;have:=C9.out;have:=I8.out;omega⟩,⟨pB⟩⟩
         ·rw[if_neg I9] at H;have J0:decide (0 < I7)=false:=decide_eq_false I9;clear I9;replace H:=bS H;obtain⟨⟨J4,J5⟩,J6,H⟩:=H;replace H:(some (J4,J5))=some (b6,b7):=H;have J7:=aM J6;clear J6;obtain⟨rfl,rfl⟩:=q2 H;have fl_:True:=trivial;repeat((first|clear fl_|go_quiet (first|(go_at_call 95;(with_reducible refine(Ezp.calls k3 I6 J4 J5 _ J7.out).mono ?_);rintro e J8 ⟨J9,rfl,o9,hb⟩;have K0:=rL (Kd.gB (M:=fun k_=>(w.heap.size≤k_)) o9 (ay pB) (fun k_ h_=>h_));replace HB:=bB hb;clear hb o9)));go_wp2_with (first|(go_at_call 95;(with_reducible refine(Ezp.calls k3 I6 J4 J5 _ J7.out).mono ?_);rintro e J8 ⟨J9,rfl,o9,hb⟩;have K0:=rL (Kd.gB (M:=fun k_=>(w.heap.size≤k_)) o9 (ay pB) (fun k_ h_=>h_));replace HB:=bB hb;clear hb o9)))
          go_ret2
          exact⟨_,eW,by exact rX (Kd.ah K0.out (fun _ hk=>hk.1)),pB⟩

end Go.Proofs.Ytbnpcplckcipfaa.Print
