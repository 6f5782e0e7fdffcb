import Derived.Test.YtnklckihalhlmaaPrint0
import Derived.Test.YtnklckihalhlmaaPrint16
import Derived.Test.YtnklckihalhlmaaPrint19
import Derived.Test.YtnklckihalhlmaaPrint24
namespace Go.Proofs.Ytnklckihalhlmaa.Print
open Go.RowKit Go.Proofs.YtnklckihalhlmaaW.PrintWords Go.Proofs.YtnklckihalhlmaaW.PrintLast Go.Proofs.YtnklckihalhlmaaW.PrintMore
attribute [local go_sem] max2_int min2_int max_two min_two max_three min_three max_four min_four
set_option linter.unusedVariables false
set_option maxRecDepth 100000
set_option maxHeartbeats 8000000
set_option linter.unusedSimpArgs false

def Fzz.f (k:Nat) (l0:List Int) (l1:List Int):Option (List Int × List Int):=(Ezj.f k l0 l1).bind fun t311=>(if t311 < 0 then((Gzx.f l0 (l0.length:Int)).bind fun t312=>((Czj.f k t312).bind fun t315=>(some (([]:List Int),t315)))) else(if(l1.length:Int)=1 then(if 0 < (l1.length:Int) then((Dzk.f k l0 (rd l1 0)).bind fun bt319=>(some (bt319.1,bt319.2))) else(none)) else((Dzj.f k l0 l1).bind fun bt325=>(some (bt325.1,bt325.2)))))
theorem Fzz.mono:∀ a6 a7 k,LeO (Fzz.f k a6 a7) (Fzz.f (k+1) a6 a7):=by
 intro a6 a7 k;unfold Fzz.f;have i0:=@Ezj.mono;have i1:=@Dzj.mono;have i2:=@Dzk.mono;have i3:=@Czj.mono;exact mM
theorem Fzz.calls (k:Nat) (a6:Option Addr) (a7:Nat) (l0:List Int) (a8:Option Addr) (a9:Nat) (l1:List Int) (b3:List Int) (b4:List Int) (w:World) (b5:Kd.C (Kd.int .i64) w a6 l0.length l0) (b6:l0.length≤a7) (b7:Kd.C (Kd.int .i64) w a8 l1.length l1) (b8:l1.length≤a9) (h:Fzz.f k l0 l1=some (b3,b4)) :
  Calls Try.prog 91 #[.slice a6 l0.length a7,.slice a8 l1.length a9] w fun e w'=>∃ v0_ v1_:Value,e=.returned (.tuple #[v0_,v1_])∧Kd.R (Kd.int .i64) 3 w' w.heap.size (fun k_=>some k_≠(v1_:Value).ownBlock) v0_ b3∧Kd.R (Kd.int .i64) 3 w' w.heap.size (fun k_=>some k_≠(v0_:Value).ownBlock) v1_ b4∧Below w.heap.size w w':=by
 have b9:=aM b5;have d0:=aM b6;clear b5 b6;have d1:=aM b7;have d3:=aM b8;clear b7 b8;have HB:=aM (Below.refl w.heap.size w);have H:((Ezj.f k l0 l1).bind fun d4=>(if d4 < 0 then((Gzx.f l0 (l0.length:Int)).bind fun d5=>((Czj.f k d5).bind fun d6=>(some (([]:List Int),d6)))) else(if(l1.length:Int)=1 then(if 0 < (l1.length:Int) then((Dzk.f k l0 (rd l1 0)).bind fun d7=>(some (d7.1,d7.2))) else(none)) else((Dzj.f k l0 l1).bind fun d8=>(some (d8.1,d8.2))))))=some (b3,b4):=h
 clear h;obtain⟨d4,d9,H⟩:=bT H;(try dsimp only at H);by_cases c4:d4 < 0
 ·rw[if_pos c4] at H;have e6:=dE c4;clear c4;obtain⟨d5,e7,H⟩:=bT H;(try dsimp only at H);replace H:=bS H;obtain⟨d6,e8,H⟩:=H;replace H:(some (([]:List Int),d6))=some (b3,b4):=H;have f3:=aM e8;clear e8;obtain⟨rfl,rfl⟩:=q2 H;go_enter Try.func91,Try.ntmps91
  go_wp2_with (first|((with_reducible refine gc 98 rfl ?_);refine gC 98 (some 9) Try.func98 #[.slice a6 l0.length a7,.slice a8 l1.length a9] ?_;(with_reducible refine(Ezj.calls k _ _ l0 _ _ l1 d4 _ ?_ ?_ ?_ ?_ d9.out).mono ?_);exact cX b9.out;exact d0.out;exact cX d1.out;exact d3.out;rintro e w' ⟨rfl,⟨nd,rfl⟩⟩;refine⟨_,rfl,?_⟩)|((with_reducible refine gc 93 rfl ?_);refine gC 93 (some 14) Try.func93 #[.slice a6 l0.length a7,.int .i64 (l0.length:Int)] ?_;(with_reducible refine(Gzx.calls _ _ l0 (l0.length:Int) d5 _ ?_ ?_ e7.out).mono ?_);exact cX b9.out;exact d0.out;rintro e f4 ⟨f5,rfl,f6,hb⟩;refine⟨_,rfl,?_⟩;have f7:=rL f6;replace HB:=bB hb;clear hb f6;obtain⟨f8,f9,rfl⟩:=Kd.R_slice f7.out)|((with_reducible refine gc 92 rfl ?_);refine gC 92 (some 15) Try.func92 #[.slice f8 d5.length f9] ?_;(with_reducible refine(Czj.calls k (fun k_=>some k_=(.slice f8 d5.length f9:Value).ownBlock) (.slice f8 d5.length f9) d5 d6 w _ ?_ ?_ f3.out).mono ?_);exact pB;exact Kd.R_tight rfl f7.out;rintro e g6 ⟨g7,rfl,f6,hb,hkp⟩;refine⟨_,rfl,?_⟩;have g8:=aM (Kd.R_mono (ok':=fun k_=>True) f6 (fun k_ hk_=>trivial));replace HB:=aM (hb);clear f7 hb hkp f6))
  go_ret2
  exact⟨_,_,eW,nK,by exact rX (Kd.R_mono g8.out (fun _ hk=>(by simp [Value.ownBlock]))),pB⟩
 ·rw[if_neg c4] at H;have e6:decide (d4 < 0)=false:=decide_eq_false c4;clear c4;by_cases c10:(l1.length:Int)=1
  ·rw[if_pos c10] at H;obtain⟨g9,j5⟩:=bE c10;clear c10;obtain⟨j9,H⟩:=iO H;have l5:decide (0 < (l1.length:Int))=true:=dE j9;have l6:decide (0 < l1.length)=true:=dE (by omega)
   clear j9;replace H:=bS H;obtain⟨⟨l7,l8⟩,l9,H⟩:=H;replace H:(some (l7,l8))=some (b3,b4):=H;have m4:=aM l9;clear l9;obtain⟨rfl,rfl⟩:=q2 H;go_enter Try.func91,Try.ntmps91
   go_wp2_with (first|((with_reducible refine gc 98 rfl ?_);refine gC 98 (some 9) Try.func98 #[.slice a6 l0.length a7,.slice a8 l1.length a9] ?_;(with_reducible refine(Ezj.calls k _ _ l0 _ _ l1 d4 _ ?_ ?_ ?_ ?_ d9.out).mono ?_);exact cX b9.out;exact d0.out;exact cX d1.out;exact d3.out;rintro e w' ⟨rfl,⟨nd,rfl⟩⟩;refine⟨_,rfl,?_⟩;have m5:0≤(0:Int):=(by omega);have m6:0 < (l1.length:Int):=oE aS;obtain⟨m7,m8,m9⟩:=Kd.at_int d1.out 0 m5 m6;cases m8;have n0:(0 < l1.length)=True:=eq_true (by omega);(try rw[show((0:Int)).toNat=0 from rfl] at m9);(try rw[Addr.add_zero'] at m9);replace m5:=eq_true m5;replace m6:=eq_true m6)|((with_reducible refine gc 99 rfl ?_);refine gC 99 (some 24) Try.func99 #[.slice a6 l0.length a7,.int .i64 (rd l1 0)] ?_;(with_reducible refine(Dzk.calls k _ _ l0 (rd l1 0) l7 l8 _ ?_ ?_ m4.out).mono ?_);exact cX b9.out;exact d0.out;rintro e n1 ⟨n2,n3,rfl,f6,n4,hb⟩;refine⟨_,rfl,?_⟩;have n5:=rL f6;have n6:=rL n4;replace HB:=bB hb;clear hb f6 n4))
   go_ret2
   exact⟨_,_,eW,rX n5.out,rX n6.out,pB⟩
  ·rw[if_neg c10] at H;obtain⟨g9,j5⟩:=bI c10;replace H:=bS H;obtain⟨⟨n7,n8⟩,n9,H⟩:=H;replace H:(some (n7,n8))=some (b3,b4):=H;have o0:=aM n9;clear n9;obtain⟨rfl,rfl⟩:=q2 H;go_enter Try.func91,Try.ntmps91
   go_wp2_with (first|((with_reducible refine gc 98 rfl ?_);refine gC 98 (some 9) Try.func98 #[.slice a6 l0.length a7,.slice a8 l1.length a9] ?_;(with_reducible refine(Ezj.calls k _ _ l0 _ _ l1 d4 _ ?_ ?_ ?_ ?_ d9.out).mono ?_);exact cX b9.out;exact d0.out;exact cX d1.out;exact d3.out;rintro e w' ⟨rfl,⟨nd,rfl⟩⟩;refine⟨_,rfl,?_⟩)|((with_reducible refine gc 100 rfl ?_);refine gC 100 (some 29) Try.func100 #[.slice a6 l0.length a7,.slice a8 l1.length a9] ?_;(with_reducible refine(Dzj.calls k _ _ l0 _ _ l1 n7 n8 _ ?_ ?_ ?_ ?_ o0.out).mono ?_);exact cX b9.out;exact d0.out;exact cX d1.out;exact d3.out;rintro e o1 ⟨o2,o3,rfl,f6,n4,hb⟩;refine⟨_,rfl,?_⟩;have o4:=rL f6;have o5:=rL n4;replace HB:=bB hb;clear hb f6 n4))
   go_ret2
   exact⟨_,_,eW,rX o4.out,rX o5.out,pB⟩

def Ezw.l0:Nat→List Int→Int→Int→Option (Int)
 | 0,_,_,_=>none
 | k+1,x0,x3,x4=>if x4≥0 then(if 0≤x4 then(if x4 < (x0.length:Int) then(Ezw.l0 k x0 (wrap64 ((wrap64 (x3 * 1000000000))+(rd x0 x4))) (wrap64 (x4 - 1))) else(none)) else(none)) else(some x3)
def Ezw.f (k:Nat) (l0:List Int):Option (Int):=Ezw.l0 k l0 0 (wrap64 ((l0.length:Int) - 1))
theorem Ezw.mono_l:∀ k,(∀ a6 a7 a8,LeO (Ezw.l0 k a6 a7 a8) (Ezw.l0 (k+1) a6 a7 a8))
 | 0=>fun _ _ _ r h=>by simp [Ezw.l0] at h
 | k+1=>by
  have ih0:=Ezw.mono_l k
  ·intro a6 a7 a8;unfold Ezw.l0;exact mM
theorem Ezw.mono:∀ a6 k,LeO (Ezw.f k a6) (Ezw.f (k+1) a6):=by
 intro a6 k;have ih0:=Ezw.mono_l k;unfold Ezw.f;exact mM
theorem Ezw.calls (k:Nat) (a6:Option Addr) (a7:Nat) (l0:List Int) (r:Int) (w:World) (a8:Kd.C (Kd.int .i64) w a6 l0.length l0) (a9:l0.length≤a7) (h:Ezw.f k l0=some r) :
  Calls Try.prog 94 #[.slice a6 l0.length a7] w fun e w'=>e=.returned (.int .i64 r)∧Drawn0 w w':=by
 have b3:=aM a8;have b4:=aM a9;clear a8 a9;have H:(Ezw.l0 k l0 0 (wrap64 ((l0.length:Int) - 1)))=some r:=h;clear h;have H':=aM H;clear H;go_enter Try.func94,Try.ntmps94
 go_wp2
 go_loopg [3,4] k (fun kq b5 b6 w'=>∃ (b7:Int) (b8:Int),b5=.int .i64 b7∧b6=.int .i64 b8∧Aside0 (Ezw.l0 kq l0 b7 b8=some r)∧Aside0 (kq≤k)∧Drawn0 w w')
 case atStart=>exact⟨(0),(wrap64 ((l0.length:Int) - 1)),sD,sD,H',⟨Nat.le_refl _⟩,dR⟩
 case round =>
  clear H';obtain⟨b7,b8,rfl,rfl,HA,b9,⟨d0,rfl⟩⟩:=hrel;cases gk with
  | zero=>exact absurd HA.out (by simp [Ezw.l0])
  | succ k1 =>
   have H:=HA.out;clear HA;simp only[Ezw.l0] at H;by_cases c2:b8≥0
   ·rw[if_pos c2] at H;have d1:decide (0≤b8)=true:=dE c2;clear c2;obtain⟨d3,H⟩:=iN H;obtain⟨d4,H⟩:=iN H;have H':=aM H;clear H;obtain⟨d5,d6,d7,d8,d9⟩:=aI b3.out b8;cases d6;go_wp2
    go_roundg k1
    case measure=>have:=b9.out;omega
    case rel=>exact⟨(wrap64 ((wrap64 (b7 * 1000000000))+(rd l0 b8))),(wrap64 (b8 - 1)),sD,sD,H',⟨by have:=b9.out;omega⟩,dR⟩
   ·rw[if_neg c2] at H;have d1:decide (0≤b8)=false:=decide_eq_false c2;clear c2;obtain rfl:=Option.some.inj H;go_wp2
    go_ret
    exact⟨sD,dR⟩


mutual
def Czf.j0:Nat→List Int→List Int→Bool→Option (List Int × Int)
 | 0,_,_,_=>none
 | k+1,x0,x1,x17=>if x17=true then(some (([]:List Int),3)) else(Czf.l0 k x0 x1)
def Czf.j2:Nat→List Int→List Int→Option (List Int × Int)
 | 0,_,_=>none
 | k+1,x0,x1=>if(x1.length:Int)=0 then((Gzx.f x0 (x0.length:Int)).bind fun t346=>((Czj.f k t346).bind fun t349=>(some (t349,0)))) else((Ezw.f k x0).bind fun t352=>((Ezw.f k x1).bind fun t353=>(Czf.l1 k t352 t353)))
def Czf.l1:Nat→Int→Int→Option (List Int × Int)
 | 0,_,_=>none
 | k+1,x8,x9=>if x9 > 0 then(if x9=0 then(none) else(Czf.l1 k x9 (Int.tmod x8 x9))) else((Fzw.f k x8).bind fun bt354=>(some (bt354.1,bt354.2)))
def Czf.l0:Nat→List Int→List Int→Option (List Int × Int)
 | 0,_,_=>none
 | k+1,x0,x1=>if(x1.length:Int) > 0 then(if(x0.length:Int) > 2 then((Fzz.f k x0 x1).bind fun bt334=>(Czf.l0 k x1 bt334.2)) else(if(x1.length:Int) > 2 then((Fzz.f k x0 x1).bind fun bt340=>(Czf.l0 k x1 bt340.2)) else(Czf.j2 k x0 x1))) else(Czf.j2 k x0 x1)
end
def Czf.f (k:Nat) (l0:List Int) (l1:List Int):Option (List Int × Int):=(Bzv.f k l0).bind fun t332=>(if t332=true then((Bzv.f k l1).bind fun t333=>(Czf.j0 k l0 l1 (!t333))) else(Czf.j0 k l0 l1 true))
theorem Czf.mono_l:∀ k,(∀ a6 a7 a8,LeO (Czf.j0 k a6 a7 a8) (Czf.j0 (k+1) a6 a7 a8))∧(∀ a6 a7,LeO (Czf.j2 k a6 a7) (Czf.j2 (k+1) a6 a7))∧(∀ a6 a7,LeO (Czf.l1 k a6 a7) (Czf.l1 (k+1) a6 a7))∧(∀ a6 a7,LeO (Czf.l0 k a6 a7) (Czf.l0 (k+1) a6 a7))
 | 0=>⟨fun _ _ _ r h=>by simp [Czf.j0] at h,fun _ _ r h=>by simp [Czf.j2] at h,fun _ _ r h=>by simp [Czf.l1] at h,fun _ _ r h=>by simp [Czf.l0] at h⟩
 | k+1=>by
  obtain⟨ih0,ih1,ih2,ih3⟩:=Czf.mono_l k;have i0:=@Fzw.mono;have i1:=@Bzv.mono;have i2:=@Fzz.mono;have i3:=@Ezw.mono;have i4:=@Czj.mono;refine⟨?_,?_,?_,?_⟩
  ·intro a6 a7 a8;unfold Czf.j0;exact mM
  ·intro a6 a7;unfold Czf.j2;exact mM
  ·intro a6 a7;unfold Czf.l1;exact mM
  ·intro a6 a7;unfold Czf.l0;exact mM
theorem Czf.mono:∀ a6 a7 k,LeO (Czf.f k a6 a7) (Czf.f (k+1) a6 a7):=by
 intro a6 a7 k;obtain⟨ih0,ih1,ih2,ih3⟩:=Czf.mono_l k;unfold Czf.f;have i0:=@Fzw.mono;have i1:=@Bzv.mono;have i2:=@Fzz.mono;have i3:=@Ezw.mono;have i4:=@Czj.mono;exact mM
theorem Czf.calls (k:Nat) (a6:Nat→Prop) (a7:Option Addr) (a8:Nat) (l0:List Int) (a9:Nat→Prop) (b3:Option Addr) (b4:Nat) (l1:List Int) (b5:List Int) (b6:Int) (w:World) (b7:Kd.V (Kd.int .i64) 3 w w.heap.size (fun k_=>a6 k_) (.slice a7 l0.length a8) l0) (b8:Kd.V (Kd.int .i64) 3 w w.heap.size (fun k_=>a9 k_) (.slice b3 l1.length b4) l1) (h:Czf.f k l0 l1=some (b5,b6)) :
  Calls Try.prog 77 #[.slice a7 l0.length a8,.slice b3 l1.length b4] w fun e w'=>∃ v0_:Value,e=.returned (.tuple #[v0_,.int .i64 b6])∧Kd.R (Kd.int .i64) 3 w' w.heap.size (fun k_=>(w.heap.size≤k_)) v0_ b5∧Below w.heap.size w w':=by
 have b9:=aM (show Kd.V (Kd.int .i64) 3 w w.heap.size (fun k_=>((a6 k_∨a9 k_)∨w.heap.size≤k_)) (.slice a7 l0.length a8) l0 from Kd.V_mono b7 (fun k_ hk=>.inl (.inl hk)))
 have d0:=aM (show Kd.V (Kd.int .i64) 3 w w.heap.size (fun k_=>((a6 k_∨a9 k_)∨w.heap.size≤k_)) (.slice b3 l1.length b4) l1 from Kd.V_mono b8 (fun k_ hk=>.inl (.inr hk)))
 have HB:=aM (Below.refl w.heap.size w);have H:((Bzv.f k l0).bind fun d1=>(if d1=true then((Bzv.f k l1).bind fun d3=>(Czf.j0 k l0 l1 (!d3))) else(Czf.j0 k l0 l1 true)))=some (b5,b6):=h
 clear h;have d4:=aM H;clear H;go_enter Try.func77,Try.ntmps77
 go_upto_region 1 with (fail)
 repeat(go_quiet (fail);go_upto_region 1 with (fail))
 go_cut [17] (fun d5 wc=>∃ (kq:Nat) (d6:Bool),d5=.bool d6∧Aside0 (Czf.j0 kq l0 l1 d6=some (b5,b6))∧Aside0 (kq≤k)∧Aside0 (Kd.V (Kd.int .i64) 3 wc w.heap.size (fun k_=>((a6 k_∨a9 k_)∨w.heap.size≤k_)) (.slice a7 l0.length a8) l0)∧Aside0 (Kd.V (Kd.int .i64) 3 wc w.heap.size (fun k_=>((a6 k_∨a9 k_)∨w.heap.size≤k_)) (.slice b3 l1.length b4) l1)∧Aside0 (Below w.heap.size w wc))
 case first =>
  have H:=d4.out;clear d4;obtain⟨d1,d7,H⟩:=bT H;(try dsimp only at H);by_cases c5:d1=true
  ·subst c5;rw[if_pos rfl] at H;obtain⟨d3,d8,H⟩:=bT H;(try dsimp only at H);have H':=aM H;clear H;have fl_:True:=trivial;repeat((first|clear fl_|go_quiet (first|(go_at_call 90;(with_reducible refine(Bzv.calls k _ _ l0 true _ ?_ ?_ d7.out).mono ?_);exact cV b9;exact lV b9;rintro e w' ⟨rfl,⟨nd,rfl⟩⟩;(try exact dD))|(go_at_call 90;(with_reducible refine(Bzv.calls k _ _ l1 d3 _ ?_ ?_ d8.out).mono ?_);exact cV d0;exact lV d0;rintro e w' ⟨rfl,⟨nd,rfl⟩⟩;(try exact dD))));go_wp2_with (first|(go_at_call 90;(with_reducible refine(Bzv.calls k _ _ l0 true _ ?_ ?_ d7.out).mono ?_);exact cV b9;exact lV b9;rintro e w' ⟨rfl,⟨nd,rfl⟩⟩;(try exact dD))|(go_at_call 90;(with_reducible refine(Bzv.calls k _ _ l1 d3 _ ?_ ?_ d8.out).mono ?_);exact cV d0;exact lV d0;rintro e w' ⟨rfl,⟨nd,rfl⟩⟩;(try exact dD))))
   go_meet
   case rel=>exact⟨_,(!d3),sD,H',⟨by first|omega|exact Nat.le_refl _⟩,⟨vX b9.out⟩,⟨vX d0.out⟩,⟨pB⟩⟩
  ·obtain rfl:=bN c5;rw[if_neg nF] at H
   have H':=aM H;clear H;have fl_:True:=trivial;repeat((first|clear fl_|go_quiet (first|(go_at_call 90;(with_reducible refine(Bzv.calls k _ _ l0 false _ ?_ ?_ d7.out).mono ?_);exact cV b9;exact lV b9;rintro e w' ⟨rfl,⟨nd,rfl⟩⟩;(try exact dD))));go_wp2_with (first|(go_at_call 90;(with_reducible refine(Bzv.calls k _ _ l0 false _ ?_ ?_ d7.out).mono ?_);exact cV b9;exact lV b9;rintro e w' ⟨rfl,⟨nd,rfl⟩⟩;(try exact dD))))
   go_meet
   case rel=>exact⟨_,(true),sD,H',⟨by first|omega|exact Nat.le_refl _⟩,⟨vX b9.out⟩,⟨vX d0.out⟩,⟨pB⟩⟩
 case rest =>
  clear d4;try clear b4
  obtain⟨kq,d6,rfl,HA,d9,e6,e7,HB⟩:=hcut;cases kq with
  | zero=>exact absurd HA.out (by simp [Czf.j0])
  | succ e8 =>
   have H:=HA.out;clear HA;simp only[Czf.j0] at H;by_cases c7:d6=true
   ·subst c7;rw[if_pos rfl] at H;obtain⟨rfl,rfl⟩:=q2 H;go_wp2
    repeat(go_quiet (fail);try go_wp2)
    go_ret2
    exact⟨_,eW,nK,pB⟩
   ·obtain rfl:=bN c7;rw[if_neg nF] at H
    have f3:=aM H;clear H;go_upto_block 0 with (fail)
    repeat(go_quiet (fail);go_upto_block 0 with (fail))
    go_cut [0,1] (fun f4 f5 wc=>∃ (kq:Nat) (f6:List Int) (f7:List Int),Aside0 (Czf.j2 kq f6 f7=some (b5,b6))∧Aside0 (kq≤e8)∧Aside0 (Kd.V (Kd.int .i64) 3 wc w.heap.size (fun k_=>((a6 k_∨a9 k_)∨w.heap.size≤k_)) f4 f6)∧Aside0 (Kd.V (Kd.int .i64) 3 wc w.heap.size (fun k_=>((a6 k_∨a9 k_)∨w.heap.size≤k_)) f5 f7)∧Aside0 (Below w.heap.size w wc))
    case first =>
     have H:=f3.out;clear f3;have H':=aM H;clear H;go_wp2
     repeat(go_quiet (fail);try go_wp2)
     go_loopg [0,1] e8 (fun kq f4 f5 w'=>∃ (f8:List Int) (f9:List Int),Aside0 (Czf.l0 kq f8 f9=some (b5,b6))∧Aside0 (kq≤e8)∧Aside0 (Kd.V (Kd.int .i64) 3 w' w.heap.size (fun k_=>((a6 k_∨a9 k_)∨w.heap.size≤k_)) f4 f8)∧Aside0 (Kd.V (Kd.int .i64) 3 w' w.heap.size (fun k_=>((a6 k_∨a9 k_)∨w.heap.size≤k_)) f5 f9)∧Aside0 (Below w.heap.size w w'))
     case atStart=>exact⟨(l0),(l1),H',⟨Nat.le_refl _⟩,⟨vX e6.out⟩,⟨vX e7.out⟩,⟨pB⟩⟩
     case round =>
      clear H';try clear b4
      obtain⟨f8,f9,HA,g6,e6,e7,HB⟩:=hrel;cases gk with
      | zero=>exact absurd HA.out (by simp [Czf.l0])
      | succ k2 =>
       have H:=HA.out;clear HA;simp only[Czf.l0] at H;by_cases c9:(f9.length:Int) > 0
       ·rw[if_pos c9] at H;have g7:decide (0 < (f9.length:Int))=true:=dE c9;have g8:decide (0 < f9.length)=true:=dE (by omega)
        clear c9;(first|rw[g7]|(simp only[i64_w,i32_w];rw[g7])|skip)
        by_cases c10:(f8.length:Int) > 2
        ·rw[if_pos c10] at H;have g9:decide (2 < (f8.length:Int))=true:=dE c10;have j5:decide (2 < f8.length)=true:=dE (by omega)
         clear c10;obtain⟨⟨j9,l5⟩,l6,H⟩:=bT H;(try dsimp only at H);have H':=aM H;clear H;obtain⟨l7,l8,l9⟩:=Kd.V_slice e7.out;subst l9;obtain⟨m4,m5,m6⟩:=Kd.V_slice e6.out;subst m6;have fl_:True:=trivial;repeat((first|clear fl_|go_quiet (first|(go_at_call 91;(with_reducible refine(Fzz.calls k2 _ _ f8 _ _ f9 j9 l5 _ ?_ ?_ ?_ ?_ l6.out).mono ?_);exact cV e6;exact lV e6;exact cV e7;exact lV e7;rintro e m7 ⟨m8,m9,rfl,n0,n1,hb⟩;have n2:=rL (Kd.R_newM (M:=fun k_=>(w.heap.size≤k_)) n0 (below_size pB) (fun k_ h_=>h_));have n3:=rL (Kd.R_newM (M:=fun k_=>(w.heap.size≤k_)) n1 (below_size pB) (fun k_ h_=>h_));replace e6:=vO e6 hb n0 n1;replace e7:=vO e7 hb n0 n1;replace HB:=bB hb;clear hb n0 n1)));go_wp2_with (first|(go_at_call 91;(with_reducible refine(Fzz.calls k2 _ _ f8 _ _ f9 j9 l5 _ ?_ ?_ ?_ ?_ l6.out).mono ?_);exact cV e6;exact lV e6;exact cV e7;exact lV e7;rintro e m7 ⟨m8,m9,rfl,n0,n1,hb⟩;have n2:=rL (Kd.R_newM (M:=fun k_=>(w.heap.size≤k_)) n0 (below_size pB) (fun k_ h_=>h_));have n3:=rL (Kd.R_newM (M:=fun k_=>(w.heap.size≤k_)) n1 (below_size pB) (fun k_ h_=>h_));replace e6:=vO e6 hb n0 n1;replace e7:=vO e7 hb n0 n1;replace HB:=bB hb;clear hb n0 n1)))
         go_roundg k2
         case measure=>have:=d9.out;have:=g6.out;omega
         case rel=>exact⟨(f9),(l5),H',⟨by have:=d9.out;have:=g6.out;omega⟩,⟨by exact vX (Kd.V_mono e7.out (fun _ hk=>hk.1.1))⟩,⟨Kd.V_mono (Kd.R_V (rX (Kd.R_mono n3.out (fun _ hk=>hk.1)))) (fun k_ hk=>by first|exact⟨(.inr (hk.1)),hk.2⟩|exact(.inr (hk)))⟩,⟨pB⟩⟩
        ·rw[if_neg c10] at H;have g9:decide (2 < (f8.length:Int))=false:=decide_eq_false c10;have j5:decide (2 < f8.length)=false:=decide_eq_false (by omega)
         clear c10;by_cases n4:(f9.length:Int) > 2
         ·rw[if_pos n4] at H;have n5:decide (2 < (f9.length:Int))=true:=dE n4;have n6:decide (2 < f9.length)=true:=dE (by omega)
          clear n4;obtain⟨⟨n7,n8⟩,n9,H⟩:=bT H;(try dsimp only at H);have H':=aM H;clear H;obtain⟨o0,o1,o2⟩:=Kd.V_slice e7.out;subst o2;obtain⟨o3,o4,o5⟩:=Kd.V_slice e6.out;subst o5;have fl_:True:=trivial;repeat((first|clear fl_|go_quiet (first|(go_at_call 91;(with_reducible refine(Fzz.calls k2 _ _ f8 _ _ f9 n7 n8 _ ?_ ?_ ?_ ?_ n9.out).mono ?_);exact cV e6;exact lV e6;exact cV e7;exact lV e7;rintro e o6 ⟨o7,o8,rfl,n0,n1,hb⟩;have o9:=rL (Kd.R_newM (M:=fun k_=>(w.heap.size≤k_)) n0 (below_size pB) (fun k_ h_=>h_));have p3:=rL (Kd.R_newM (M:=fun k_=>(w.heap.size≤k_)) n1 (below_size pB) (fun k_ h_=>h_));replace e6:=vO e6 hb n0 n1;replace e7:=vO e7 hb n0 n1;replace HB:=bB hb;clear hb n0 n1)));go_wp2_with (first|(go_at_call 91;(with_reducible refine(Fzz.calls k2 _ _ f8 _ _ f9 n7 n8 _ ?_ ?_ ?_ ?_ n9.out).mono ?_);exact cV e6;exact lV e6;exact cV e7;exact lV e7;rintro e o6 ⟨o7,o8,rfl,n0,n1,hb⟩;have o9:=rL (Kd.R_newM (M:=fun k_=>(w.heap.size≤k_)) n0 (below_size pB) (fun k_ h_=>h_));have p3:=rL (Kd.R_newM (M:=fun k_=>(w.heap.size≤k_)) n1 (below_size pB) (fun k_ h_=>h_));replace e6:=vO e6 hb n0 n1;replace e7:=vO e7 hb n0 n1;replace HB:=bB hb;clear hb n0 n1)))
          go_roundg k2
          case measure=>have:=d9.out;have:=g6.out;omega
          case rel=>exact⟨(f9),(n8),H',⟨by have:=d9.out;have:=g6.out;omega⟩,⟨by exact vX (Kd.V_mono e7.out (fun _ hk=>hk.1.1))⟩,⟨Kd.V_mono (Kd.R_V (rX (Kd.R_mono p3.out (fun _ hk=>hk.1)))) (fun k_ hk=>by first|exact⟨(.inr (hk.1)),hk.2⟩|exact(.inr (hk)))⟩,⟨pB⟩⟩
         ·rw[if_neg n4] at H;have n5:decide (2 < (f9.length:Int))=false:=decide_eq_false n4;have n6:decide (2 < f9.length)=false:=decide_eq_false (by omega)
          clear n4;have H':=aM H;clear H;obtain⟨p7,p9,r5⟩:=Kd.V_slice e7.out;subst r5;obtain⟨r6,r7,r8⟩:=Kd.V_slice e6.out;subst r8;go_wp2
          repeat(go_quiet (fail);try go_wp2)
          go_meet
          case rel=>exact⟨_,(f8),(f9),H',⟨by have:=d9.out;have:=g6.out;first|omega|exact Nat.le_refl _⟩,⟨vX e6.out⟩,⟨vX e7.out⟩,⟨pB⟩⟩
       ·rw[if_neg c9] at H;have g7:decide (0 < (f9.length:Int))=false:=decide_eq_false c9;have g8:decide (0 < f9.length)=false:=decide_eq_false (by omega)
        clear c9;(first|rw[g7]|(simp only[i64_w,i32_w];rw[g7])|skip)
        have H':=aM H;clear H;obtain⟨r9,t0,t1⟩:=Kd.V_slice e7.out;subst t1;go_wp2
        repeat(go_quiet (fail);try go_wp2)
        go_meet
        case rel=>exact⟨_,(f8),(f9),H',⟨by have:=d9.out;have:=g6.out;first|omega|exact Nat.le_refl _⟩,⟨vX e6.out⟩,⟨vX e7.out⟩,⟨pB⟩⟩
    case rest =>
     clear f3;try clear b4
     obtain⟨kq,f6,f7,HA,t2,e6,e7,HB⟩:=hcut;cases kq with
     | zero=>exact absurd HA.out (by simp [Czf.j2])
     | succ t3 =>
      have H:=HA.out;clear HA;simp only[Czf.j2] at H;by_cases t4:(f7.length:Int)=0
      ·rw[if_pos t4] at H;obtain⟨t5,t6⟩:=bE t4;clear t4;obtain⟨t7,t8,H⟩:=bT H;(try dsimp only at H);replace H:=bS H;obtain⟨t9,z3,H⟩:=H;replace H:(some (t9,0))=some (b5,b6):=H;have z4:=aM z3;clear z3;obtain⟨rfl,rfl⟩:=q2 H;obtain⟨z5,z6,z7⟩:=Kd.V_slice e7.out;subst z7;obtain⟨z8,z9,B0⟩:=Kd.V_slice e6.out;subst B0;have fl_:True:=trivial;repeat((first|clear fl_|go_quiet (first|(go_at_call 93;(with_reducible refine(Gzx.calls _ _ f6 (f6.length:Int) t7 _ ?_ ?_ t8.out).mono ?_);exact cV e6;exact lV e6;rintro e B1 ⟨B8,rfl,n0,hb⟩;have C0:=rL (Kd.R_newM (M:=fun k_=>(w.heap.size≤k_)) n0 (below_size pB) (fun k_ h_=>h_));replace e6:=vE e6 n0 hb;replace e7:=vE e7 n0 hb;replace HB:=bB hb;clear hb n0;obtain⟨C1,C2,rfl⟩:=Kd.R_slice C0.out)|(go_at_call 92;(with_reducible refine(Czj.calls t3 (fun k_=>some k_=(.slice C1 t7.length C2:Value).ownBlock) (.slice C1 t7.length C2) t7 t9 w _ ?_ ?_ z4.out).mono ?_);exact pB;exact Kd.R_tight rfl C0.out;rintro e C3 ⟨C4,rfl,n0,hb,hkp⟩;have C6:=aM (Kd.R_mono (ok':=fun k_=>(w.heap.size≤k_)) n0 (fun k_ hk_=>Or.elim hk_ (fun hs_=>(C0.out.1 k_ (hs_).symm).1) (fun hn_=>(lP hn_))));replace e6:=aM (Kd.V_mono (ok':=fun k_=>((a6 k_∨a9 k_)∨w.heap.size≤k_)∧some k_≠(C4:Value).ownBlock) (Kd.V_keptB (e6.out) hkp (fun k_ hk_ hs_=>(hk_.2) hs_)) (fun k_ hk_=>⟨hk_.1.1,fun e_=>Or.elim (n0.1 k_ e_.symm) (fun hs_=>hk_.2.1 hs_) (fun hn_=>Nat.not_le.2 hk_.2.2 hn_)⟩));replace e7:=aM (Kd.V_mono (ok':=fun k_=>((a6 k_∨a9 k_)∨w.heap.size≤k_)∧some k_≠(C4:Value).ownBlock) (Kd.V_keptB (e7.out) hkp (fun k_ hk_ hs_=>(hk_.2) hs_)) (fun k_ hk_=>⟨hk_.1.1,fun e_=>Or.elim (n0.1 k_ e_.symm) (fun hs_=>hk_.2.1 hs_) (fun hn_=>Nat.not_le.2 hk_.2.2 hn_)⟩));replace HB:=aM (hb);clear C0 hb hkp n0)));go_wp2_with (first|(go_at_call 93;(with_reducible refine(Gzx.calls _ _ f6 (f6.length:Int) t7 _ ?_ ?_ t8.out).mono ?_);exact cV e6;exact lV e6;rintro e B1 ⟨B8,rfl,n0,hb⟩;have C0:=rL (Kd.R_newM (M:=fun k_=>(w.heap.size≤k_)) n0 (below_size pB) (fun k_ h_=>h_));replace e6:=vE e6 n0 hb;replace e7:=vE e7 n0 hb;replace HB:=bB hb;clear hb n0;obtain⟨C1,C2,rfl⟩:=Kd.R_slice C0.out)|(go_at_call 92;(with_reducible refine(Czj.calls t3 (fun k_=>some k_=(.slice C1 t7.length C2:Value).ownBlock) (.slice C1 t7.length C2) t7 t9 w _ ?_ ?_ z4.out).mono ?_);exact pB;exact Kd.R_tight rfl C0.out;rintro e C3 ⟨C4,rfl,n0,hb,hkp⟩;have C6:=aM (Kd.R_mono (ok':=fun k_=>(w.heap.size≤k_)) n0 (fun k_ hk_=>Or.elim hk_ (fun hs_=>(C0.out.1 k_ (hs_).symm).1) (fun hn_=>(lP hn_))));replace e6:=aM (Kd.V_mono (ok':=fun k_=>((a6 k_∨a9 k_)∨w.heap.size≤k_)∧some k_≠(C4:Value).ownBlock) (Kd.V_keptB (e6.out) hkp (fun k_ hk_ hs_=>(hk_.2) hs_)) (fun k_ hk_=>⟨hk_.1.1,fun e_=>Or.elim (n0.1 k_ e_.symm) (fun hs_=>hk_.2.1 hs_) (fun hn_=>Nat.not_le.2 hk_.2.2 hn_)⟩));replace e7:=aM (Kd.V_mono (ok':=fun k_=>((a6 k_∨a9 k_)∨w.heap.size≤k_)∧some k_≠(C4:Value).ownBlock) (Kd.V_keptB (e7.out) hkp (fun k_ hk_ hs_=>(hk_.2) hs_)) (fun k_ hk_=>⟨hk_.1.1,fun e_=>Or.elim (n0.1 k_ e_.symm) (fun hs_=>hk_.2.1 hs_) (fun hn_=>Nat.not_le.2 hk_.2.2 hn_)⟩));replace HB:=aM (hb);clear C0 hb hkp n0)))
       go_ret2
       exact⟨_,eW,rX C6.out,pB⟩
      ·rw[if_neg t4] at H;obtain⟨t5,t6⟩:=bI t4;have C7:¬ (f7=[]):=fun h_=>t4 (by rw[h_];rfl)
       obtain⟨C8,C9,H⟩:=bT H;(try dsimp only at H);obtain⟨D0,D1,H⟩:=bT H;(try dsimp only at H);have H':=aM H;clear H;obtain⟨D2,D3,D4⟩:=Kd.V_slice e7.out;subst D4;obtain⟨D5,D6,D7⟩:=Kd.V_slice e6.out;subst D7;have fl_:True:=trivial;repeat((first|clear fl_|go_quiet (first|(go_at_call 94;(with_reducible refine(Ezw.calls t3 _ _ f6 C8 _ ?_ ?_ C9.out).mono ?_);exact cV e6;exact lV e6;rintro e w' ⟨rfl,⟨nd,rfl⟩⟩;(try exact dD))|(go_at_call 94;(with_reducible refine(Ezw.calls t3 _ _ f7 D0 _ ?_ ?_ D1.out).mono ?_);exact cV e7;exact lV e7;rintro e w' ⟨rfl,⟨nd,rfl⟩⟩;(try exact dD))));go_wp2_with (first|(go_at_call 94;(with_reducible refine(Ezw.calls t3 _ _ f6 C8 _ ?_ ?_ C9.out).mono ?_);exact cV e6;exact lV e6;rintro e w' ⟨rfl,⟨nd,rfl⟩⟩;(try exact dD))|(go_at_call 94;(with_reducible refine(Ezw.calls t3 _ _ f7 D0 _ ?_ ?_ D1.out).mono ?_);exact cV e7;exact lV e7;rintro e w' ⟨rfl,⟨nd,rfl⟩⟩;(try exact dD))))
       try simp only[Act.put,sA,sZ,sC]
       go_loopg [8,9] t3 (fun kq D8 D9 w'=>∃ (E3:Int) (E4:Int),D8=.int .i64 E3∧D9=.int .i64 E4∧Aside0 (Czf.l1 kq E3 E4=some (b5,b6))∧Aside0 (kq≤t3)∧Aside0 (Below w.heap.size w w'))
       case atStart=>exact⟨(C8),(D0),sD,sD,H',⟨Nat.le_refl _⟩,⟨pB⟩⟩
       case round =>
        clear H';try clear b4
        obtain⟨E3,E4,rfl,rfl,HA,E5,HB⟩:=hrel;cases gk with
        | zero=>exact absurd HA.out (by simp [Czf.l1])
        | succ k3 =>
         have H:=HA.out;clear HA;simp only[Czf.l1] at H;by_cases E6:E4 > 0
         ·rw[if_pos E6] at H;have E7:decide (0 < E4)=true:=dE E6;clear E6;obtain⟨E8,H⟩:=iM H;have E9:(E4 == 0)=false:=beq_eq_false_iff_ne.mpr E8;have F0:(E4 != 0)=true:=bne_iff_ne.mpr E8;have H':=aM H;clear H;go_wp2
          repeat(go_quiet (fail);try go_wp2)
          go_roundg k3
          case measure=>have:=d9.out;have:=t2.out;have:=E5.out;omega
          case rel=>exact⟨(E4),(Int.tmod E3 E4),sD,sD,H',⟨by have:=d9.out;have:=t2.out;have:=E5.out;omega⟩,⟨pB⟩⟩
         ·rw[if_neg E6] at H;have E7:decide (0 < E4)=false:=decide_eq_false E6;clear E6;replace H:=bS H;obtain⟨⟨F1,F2⟩,F3,H⟩:=H;replace H:(some (F1,F2))=some (b5,b6):=H;have F4:=aM F3;clear F3;obtain⟨rfl,rfl⟩:=q2 H;have fl_:True:=trivial;repeat((first|clear fl_|go_quiet (first|(go_at_call 79;(with_reducible refine(Fzw.calls k3 E3 F1 F2 _ F4.out).mono ?_);rintro e F5 ⟨F6,rfl,n0,hb⟩;have F7:=rL (Kd.R_newM (M:=fun k_=>(w.heap.size≤k_)) n0 (below_size pB) (fun k_ h_=>h_));replace HB:=bB hb;clear hb n0)));go_wp2_with (first|(go_at_call 79;(with_reducible refine(Fzw.calls k3 E3 F1 F2 _ F4.out).mono ?_);rintro e F5 ⟨F6,rfl,n0,hb⟩;have F7:=rL (Kd.R_newM (M:=fun k_=>(w.heap.size≤k_)) n0 (below_size pB) (fun k_ h_=>h_));replace HB:=bB hb;clear hb n0)))
          go_ret2
          exact⟨_,eW,by exact rX (Kd.R_mono F7.out (fun _ hk=>hk.1)),pB⟩

end Go.Proofs.Ytnklckihalhlmaa.Print
