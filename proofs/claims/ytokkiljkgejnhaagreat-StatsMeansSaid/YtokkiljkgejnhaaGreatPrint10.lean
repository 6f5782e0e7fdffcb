import Derived.Test.YtokkiljkgejnhaaGreatPrint0
import Derived.Test.YtokkiljkgejnhaaGreatPrint4
import Derived.Test.YtokkiljkgejnhaaGreatPrint9
namespace Go.Proofs.YtokkiljkgejnhaaGreat.Print
open Go.RowKit Go.Proofs.YtokkiljkgejnhaaGreatW.PrintWords Go.Proofs.YtokkiljkgejnhaaGreatW.PrintLast Go.Proofs.YtokkiljkgejnhaaGreatW.PrintMore
attribute [local go_sem] max2_int min2_int max_two min_two max_three min_three max_four min_four
set_option linter.unusedVariables false
set_option maxRecDepth 100000
set_option maxHeartbeats 8000000
set_option linter.unusedSimpArgs false

def Ezf.f (k:Nat) (l0:List Int) (l1:List Int):Option (List Int × List Int):=(Dzy.f k l0 l1).bind fun t164=>(if t164 < 0 then((Gzv.f l0 (l0.length:Int)).bind fun t165=>((Bzf.f k t165).bind fun t168=>(some (([]:List Int),t168)))) else(if(l1.length:Int)=1 then(if 0 < (l1.length:Int) then((Dzp.f k l0 (rd l1 0)).bind fun bt172=>(some (bt172.1,bt172.2))) else(none)) else((Dzv.f k l0 l1).bind fun bt178=>(some (bt178.1,bt178.2)))))
theorem Ezf.mono:∀ a6 a7 k,LeO (Ezf.f k a6 a7) (Ezf.f (k+1) a6 a7):=by
 intro a6 a7 k;unfold Ezf.f;have i0:=@Dzy.mono;have i1:=@Dzv.mono;have i2:=@Dzp.mono;have i3:=@Bzf.mono;exact mM
theorem Ezf.calls (k:Nat) (a6:Option Addr) (a7:Nat) (l0:List Int) (a8:Option Addr) (b4:Nat) (l1:List Int) (b5:List Int) (b6:List Int) (w:World) (b7:Kd.C (Kd.int .i64) w a6 l0.length l0) (b8:l0.length≤a7) (b9:Kd.C (Kd.int .i64) w a8 l1.length l1) (d0:l1.length≤b4) (h:Ezf.f k l0 l1=some (b5,b6)) :
  Calls Tryz.prog 79 #[.slice a6 l0.length a7,.slice a8 l1.length b4] w fun e w'=>∃ v0_ v1_:Value,e=.returned (.tuple #[v0_,v1_])∧Kd.R (Kd.int .i64) 3 w' w.heap.size (fun k_=>some k_≠(v1_:Value).ownBlock) v0_ b5∧Kd.R (Kd.int .i64) 3 w' w.heap.size (fun k_=>some k_≠(v0_:Value).ownBlock) v1_ b6∧Below w.heap.size w w':=by
 have d6:=aM b7;have d7:=aM b8;clear b7 b8;have d8:=aM b9;have d9:=aM d0;clear b9 d0;have HB:=aM (Below.refl w.heap.size w);have H:((Dzy.f k l0 l1).bind fun e6=>(if e6 < 0 then((Gzv.f l0 (l0.length:Int)).bind fun e7=>((Bzf.f k e7).bind fun e8=>(some (([]:List Int),e8)))) else(if(l1.length:Int)=1 then(if 0 < (l1.length:Int) then((Dzp.f k l0 (rd l1 0)).bind fun e9=>(some (e9.1,e9.2))) else(none)) else((Dzv.f k l0 l1).bind fun f3=>(some (f3.1,f3.2))))))=some (b5,b6):=h
 clear h;obtain⟨e6,f4,H⟩:=bT H;(try dsimp only at H);by_cases c4:e6 < 0
 ·rw[if_pos c4] at H;have f6:=dE c4;clear c4;obtain⟨e7,f9,H⟩:=bT H;(try dsimp only at H);replace H:=bS H;obtain⟨e8,g4,H⟩:=H;replace H:(some (([]:List Int),e8))=some (b5,b6):=H;have g5:=aM g4;clear g4;obtain⟨rfl,rfl⟩:=q2 H;go_enter Tryz.func79,Tryz.ntmps79
  go_wp2_with (first|((with_reducible refine gc 85 rfl ?_);refine gC 85 (some 9) Tryz.func85 #[.slice a6 l0.length a7,.slice a8 l1.length b4] ?_;(with_reducible refine(Dzy.calls k _ _ l0 _ _ l1 e6 _ ?_ ?_ ?_ ?_ f4.out).mono ?_);exact cX d6.out;exact d7.out;exact cX d8.out;exact d9.out;rintro e w' ⟨rfl,⟨nd,rfl⟩⟩;refine⟨_,rfl,?_⟩)|((with_reducible refine gc 81 rfl ?_);refine gC 81 (some 14) Tryz.func81 #[.slice a6 l0.length a7,.int .i64 (l0.length:Int)] ?_;(with_reducible refine(Gzv.calls _ _ l0 (l0.length:Int) e7 _ ?_ ?_ f9.out).mono ?_);exact cX d6.out;exact d7.out;rintro e g6 ⟨g7,rfl,g8,hb⟩;refine⟨_,rfl,?_⟩;have g9:=rL g8;replace HB:=bB hb;clear hb g8;obtain⟨j3,j4,rfl⟩:=Kd.R_slice g9.out)|((with_reducible refine gc 80 rfl ?_);refine gC 80 (some 15) Tryz.func80 #[.slice j3 e7.length j4] ?_;(with_reducible refine(Bzf.calls k (fun k_=>some k_=(.slice j3 e7.length j4:Value).ownBlock) (.slice j3 e7.length j4) e7 e8 w _ ?_ ?_ g5.out).mono ?_);exact pB;exact Kd.R_tight rfl g9.out;rintro e j5 ⟨j6,rfl,g8,hb,hkp⟩;refine⟨_,rfl,?_⟩;have j7:=aM (Kd.R_mono (ok':=fun k_=>True) g8 (fun k_ hk_=>trivial));replace HB:=aM (hb);clear g9 hb hkp g8))
  go_ret2
  exact⟨_,_,eW,nK,by exact rX (Kd.R_mono j7.out (fun _ hk=>(by simp [Value.ownBlock]))),pB⟩
 ·rw[if_neg c4] at H;have f6:decide (e6 < 0)=false:=decide_eq_false c4;clear c4;by_cases c10:(l1.length:Int)=1
  ·rw[if_pos c10] at H;obtain⟨j8,j9⟩:=bE c10;clear c10;obtain⟨l5,H⟩:=iO H;have l6:decide (0 < (l1.length:Int))=true:=dE l5;have l7:decide (0 < l1.length)=true:=dE (by omega)
   clear l5;replace H:=bS H;obtain⟨⟨l8,l9⟩,m0,H⟩:=H;replace H:(some (l8,l9))=some (b5,b6):=H;have m3:=aM m0;clear m0;obtain⟨rfl,rfl⟩:=q2 H;go_enter Tryz.func79,Tryz.ntmps79
   go_wp2_with (first|((with_reducible refine gc 85 rfl ?_);refine gC 85 (some 9) Tryz.func85 #[.slice a6 l0.length a7,.slice a8 l1.length b4] ?_;(with_reducible refine(Dzy.calls k _ _ l0 _ _ l1 e6 _ ?_ ?_ ?_ ?_ f4.out).mono ?_);exact cX d6.out;exact d7.out;exact cX d8.out;exact d9.out;rintro e w' ⟨rfl,⟨nd,rfl⟩⟩;refine⟨_,rfl,?_⟩;have m4:0≤(0:Int):=(by omega);have m5:0 < (l1.length:Int):=oE aS;obtain⟨m6,m7,m8⟩:=Kd.at_int d8.out 0 m4 m5;cases m7;have m9:(0 < l1.length)=True:=eq_true (by omega);(try rw[show((0:Int)).toNat=0 from rfl] at m8);(try rw[Addr.add_zero'] at m8);replace m4:=eq_true m4;replace m5:=eq_true m5)|((with_reducible refine gc 103 rfl ?_);refine gC 103 (some 24) Tryz.func103 #[.slice a6 l0.length a7,.int .i64 (rd l1 0)] ?_;(with_reducible refine(Dzp.calls k _ _ l0 (rd l1 0) l8 l9 _ ?_ ?_ m3.out).mono ?_);exact cX d6.out;exact d7.out;rintro e n0 ⟨n6,n7,rfl,g8,n8,hb⟩;refine⟨_,rfl,?_⟩;have n9:=rL g8;have o0:=rL n8;replace HB:=bB hb;clear hb g8 n8))
   go_ret2
   exact⟨_,_,eW,rX n9.out,rX o0.out,pB⟩
  ·rw[if_neg c10] at H;obtain⟨j8,j9⟩:=bI c10;replace H:=bS H;obtain⟨⟨o8,o9⟩,p0,H⟩:=H;replace H:(some (o8,o9))=some (b5,b6):=H;have p3:=aM p0;clear p0;obtain⟨rfl,rfl⟩:=q2 H;go_enter Tryz.func79,Tryz.ntmps79
   go_wp2_with (first|((with_reducible refine gc 85 rfl ?_);refine gC 85 (some 9) Tryz.func85 #[.slice a6 l0.length a7,.slice a8 l1.length b4] ?_;(with_reducible refine(Dzy.calls k _ _ l0 _ _ l1 e6 _ ?_ ?_ ?_ ?_ f4.out).mono ?_);exact cX d6.out;exact d7.out;exact cX d8.out;exact d9.out;rintro e w' ⟨rfl,⟨nd,rfl⟩⟩;refine⟨_,rfl,?_⟩)|((with_reducible refine gc 104 rfl ?_);refine gC 104 (some 29) Tryz.func104 #[.slice a6 l0.length a7,.slice a8 l1.length b4] ?_;(with_reducible refine(Dzv.calls k _ _ l0 _ _ l1 o8 o9 _ ?_ ?_ ?_ ?_ p3.out).mono ?_);exact cX d6.out;exact d7.out;exact cX d8.out;exact d9.out;rintro e p4 ⟨p5,r5,rfl,g8,n8,hb⟩;refine⟨_,rfl,?_⟩;have r6:=rL g8;have r7:=rL n8;replace HB:=bB hb;clear hb g8 n8))
   go_ret2
   exact⟨_,_,eW,rX r6.out,rX r7.out,pB⟩

def Ezy.l0:Nat→List Int→Int→Int→Option (Int)
 | 0,_,_,_=>none
 | k+1,x0,x3,x4=>if x4≥0 then(if 0≤x4 then(if x4 < (x0.length:Int) then(Ezy.l0 k x0 (wrap64 ((wrap64 (x3 * 1000000000))+(rd x0 x4))) (wrap64 (x4 - 1))) else(none)) else(none)) else(some x3)
def Ezy.f (k:Nat) (l0:List Int):Option (Int):=Ezy.l0 k l0 0 (wrap64 ((l0.length:Int) - 1))
theorem Ezy.mono_l:∀ k,(∀ a6 a7 a8,LeO (Ezy.l0 k a6 a7 a8) (Ezy.l0 (k+1) a6 a7 a8))
 | 0=>fun _ _ _ r h=>by simp [Ezy.l0] at h
 | k+1=>by
  have ih0:=Ezy.mono_l k
  ·intro a6 a7 a8;unfold Ezy.l0;exact mM
theorem Ezy.mono:∀ a6 k,LeO (Ezy.f k a6) (Ezy.f (k+1) a6):=by
 intro a6 k;have ih0:=Ezy.mono_l k;unfold Ezy.f;exact mM
theorem Ezy.calls (k:Nat) (a6:Option Addr) (a7:Nat) (l0:List Int) (r:Int) (w:World) (a8:Kd.C (Kd.int .i64) w a6 l0.length l0) (b4:l0.length≤a7) (h:Ezy.f k l0=some r) :
  Calls Tryz.prog 82 #[.slice a6 l0.length a7] w fun e w'=>e=.returned (.int .i64 r)∧Drawn0 w w':=by
 have b5:=aM a8;have b6:=aM b4;clear a8 b4;have H:(Ezy.l0 k l0 0 (wrap64 ((l0.length:Int) - 1)))=some r:=h;clear h;have H':=aM H;clear H;go_enter Tryz.func82,Tryz.ntmps82
 go_wp2
 go_loopg [3,4] k (fun kq b7 b8 w'=>∃ (b9:Int) (d0:Int),b7=.int .i64 b9∧b8=.int .i64 d0∧Aside0 (Ezy.l0 kq l0 b9 d0=some r)∧Aside0 (kq≤k)∧Drawn0 w w')
 case atStart=>exact⟨(0),(wrap64 ((l0.length:Int) - 1)),sD,sD,H',⟨Nat.le_refl _⟩,dR⟩
 case round =>
  clear H';obtain⟨b9,d0,rfl,rfl,HA,d6,⟨d7,rfl⟩⟩:=hrel;cases gk with
  | zero=>exact absurd HA.out (by simp [Ezy.l0])
  | succ k1 =>
   have H:=HA.out;clear HA;simp only[Ezy.l0] at H;by_cases c2:d0≥0
   ·rw[if_pos c2] at H;have d8:decide (0≤d0)=true:=dE c2;clear c2;obtain⟨d9,H⟩:=iN H;obtain⟨e6,H⟩:=iN H;have H':=aM H;clear H;obtain⟨e7,e8,e9,f3,f4⟩:=aI b5.out d0;cases e8;go_wp2
    go_roundg k1
    case measure=>have:=d6.out;omega
    case rel=>exact⟨(wrap64 ((wrap64 (b9 * 1000000000))+(rd l0 d0))),(wrap64 (d0 - 1)),sD,sD,H',⟨by have:=d6.out;omega⟩,dR⟩
   ·rw[if_neg c2] at H;have d8:decide (0≤d0)=false:=decide_eq_false c2;clear c2;obtain rfl:=Option.some.inj H;go_wp2
    go_ret
    exact⟨sD,dR⟩


mutual
def Czp.j0:Nat→List Int→List Int→Bool→Option (List Int × Int)
 | 0,_,_,_=>none
 | k+1,x0,x1,x17=>if x17=true then(some (([]:List Int),3)) else(Czp.l0 k x0 x1)
def Czp.j2:Nat→List Int→List Int→Option (List Int × Int)
 | 0,_,_=>none
 | k+1,x0,x1=>if(x1.length:Int)=0 then((Gzv.f x0 (x0.length:Int)).bind fun t199=>((Bzf.f k t199).bind fun t202=>(some (t202,0)))) else((Ezy.f k x0).bind fun t205=>((Ezy.f k x1).bind fun t206=>(Czp.l1 k t205 t206)))
def Czp.l1:Nat→Int→Int→Option (List Int × Int)
 | 0,_,_=>none
 | k+1,x8,x9=>if x9 > 0 then(if x9=0 then(none) else(Czp.l1 k x9 (Int.tmod x8 x9))) else((Fzy.f k x8).bind fun bt207=>(some (bt207.1,bt207.2)))
def Czp.l0:Nat→List Int→List Int→Option (List Int × Int)
 | 0,_,_=>none
 | k+1,x0,x1=>if(x1.length:Int) > 0 then(if(x0.length:Int) > 2 then((Ezf.f k x0 x1).bind fun bt187=>(Czp.l0 k x1 bt187.2)) else(if(x1.length:Int) > 2 then((Ezf.f k x0 x1).bind fun bt193=>(Czp.l0 k x1 bt193.2)) else(Czp.j2 k x0 x1))) else(Czp.j2 k x0 x1)
end
def Czp.f (k:Nat) (l0:List Int) (l1:List Int):Option (List Int × Int):=(Azy.f k l0).bind fun t185=>(if t185=true then((Azy.f k l1).bind fun t186=>(Czp.j0 k l0 l1 (!t186))) else(Czp.j0 k l0 l1 true))
theorem Czp.mono_l:∀ k,(∀ a6 a7 a8,LeO (Czp.j0 k a6 a7 a8) (Czp.j0 (k+1) a6 a7 a8))∧(∀ a6 a7,LeO (Czp.j2 k a6 a7) (Czp.j2 (k+1) a6 a7))∧(∀ a6 a7,LeO (Czp.l1 k a6 a7) (Czp.l1 (k+1) a6 a7))∧(∀ a6 a7,LeO (Czp.l0 k a6 a7) (Czp.l0 (k+1) a6 a7))
 | 0=>⟨fun _ _ _ r h=>by simp [Czp.j0] at h,fun _ _ r h=>by simp [Czp.j2] at h,fun _ _ r h=>by simp [Czp.l1] at h,fun _ _ r h=>by simp [Czp.l0] at h⟩
 | k+1=>by
  obtain⟨ih0,ih1,ih2,ih3⟩:=Czp.mono_l k;have i0:=@Fzy.mono;have i1:=@Azy.mono;have i2:=@Ezf.mono;have i3:=@Ezy.mono;have i4:=@Bzf.mono;refine⟨?_,?_,?_,?_⟩
  ·intro a6 a7 a8;unfold Czp.j0;exact mM
  ·intro a6 a7;unfold Czp.j2;exact mM
  ·intro a6 a7;unfold Czp.l1;exact mM
  ·intro a6 a7;unfold Czp.l0;exact mM
theorem Czp.mono:∀ a6 a7 k,LeO (Czp.f k a6 a7) (Czp.f (k+1) a6 a7):=by
 intro a6 a7 k;obtain⟨ih0,ih1,ih2,ih3⟩:=Czp.mono_l k;unfold Czp.f;have i0:=@Fzy.mono;have i1:=@Azy.mono;have i2:=@Ezf.mono;have i3:=@Ezy.mono;have i4:=@Bzf.mono;exact mM
theorem Czp.calls (k:Nat) (a6:Nat→Prop) (a7:Option Addr) (a8:Nat) (l0:List Int) (b4:Nat→Prop) (b5:Option Addr) (b6:Nat) (l1:List Int) (b7:List Int) (b8:Int) (w:World) (b9:Kd.V (Kd.int .i64) 3 w w.heap.size (fun k_=>a6 k_) (.slice a7 l0.length a8) l0) (d0:Kd.V (Kd.int .i64) 3 w w.heap.size (fun k_=>b4 k_) (.slice b5 l1.length b6) l1) (h:Czp.f k l0 l1=some (b7,b8)) :
  Calls Tryz.prog 58 #[.slice a7 l0.length a8,.slice b5 l1.length b6] w fun e w'=>∃ v0_:Value,e=.returned (.tuple #[v0_,.int .i64 b8])∧Kd.R (Kd.int .i64) 3 w' w.heap.size (fun k_=>(w.heap.size≤k_)) v0_ b7∧Below w.heap.size w w':=by
 have d6:=aM (show Kd.V (Kd.int .i64) 3 w w.heap.size (fun k_=>((a6 k_∨b4 k_)∨w.heap.size≤k_)) (.slice a7 l0.length a8) l0 from Kd.V_mono b9 (fun k_ hk=>.inl (.inl hk)))
 have d7:=aM (show Kd.V (Kd.int .i64) 3 w w.heap.size (fun k_=>((a6 k_∨b4 k_)∨w.heap.size≤k_)) (.slice b5 l1.length b6) l1 from Kd.V_mono d0 (fun k_ hk=>.inl (.inr hk)))
 have HB:=aM (Below.refl w.heap.size w);have H:((Azy.f k l0).bind fun d8=>(if d8=true then((Azy.f k l1).bind fun d9=>(Czp.j0 k l0 l1 (!d9))) else(Czp.j0 k l0 l1 true)))=some (b7,b8):=h
 clear h;have e6:=aM H;clear H;go_enter Tryz.func58,Tryz.ntmps58
 go_upto_region 1 with (fail)
 repeat(go_quiet (fail);go_upto_region 1 with (fail))
 go_cut [17] (fun e7 wc=>∃ (kq:Nat) (e8:Bool),e7=.bool e8∧Aside0 (Czp.j0 kq l0 l1 e8=some (b7,b8))∧Aside0 (kq≤k)∧Aside0 (Kd.V (Kd.int .i64) 3 wc w.heap.size (fun k_=>((a6 k_∨b4 k_)∨w.heap.size≤k_)) (.slice a7 l0.length a8) l0)∧Aside0 (Kd.V (Kd.int .i64) 3 wc w.heap.size (fun k_=>((a6 k_∨b4 k_)∨w.heap.size≤k_)) (.slice b5 l1.length b6) l1)∧Aside0 (Below w.heap.size w wc))
 case first =>
  have H:=e6.out;clear e6;obtain⟨d8,e9,H⟩:=bT H;(try dsimp only at H);by_cases c5:d8=true
  ·subst c5;rw[if_pos rfl] at H;obtain⟨d9,f3,H⟩:=bT H;(try dsimp only at H);have H':=aM H;clear H;have fl_:True:=trivial;repeat((first|clear fl_|go_quiet (first|(go_at_call 78;(with_reducible refine(Azy.calls k _ _ l0 true _ ?_ ?_ e9.out).mono ?_);exact cV d6;exact lV d6;rintro e w' ⟨rfl,⟨nd,rfl⟩⟩;(try exact dD))|(go_at_call 78;(with_reducible refine(Azy.calls k _ _ l1 d9 _ ?_ ?_ f3.out).mono ?_);exact cV d7;exact lV d7;rintro e w' ⟨rfl,⟨nd,rfl⟩⟩;(try exact dD))));go_wp2_with (first|(go_at_call 78;(with_reducible refine(Azy.calls k _ _ l0 true _ ?_ ?_ e9.out).mono ?_);exact cV d6;exact lV d6;rintro e w' ⟨rfl,⟨nd,rfl⟩⟩;(try exact dD))|(go_at_call 78;(with_reducible refine(Azy.calls k _ _ l1 d9 _ ?_ ?_ f3.out).mono ?_);exact cV d7;exact lV d7;rintro e w' ⟨rfl,⟨nd,rfl⟩⟩;(try exact dD))))
   go_meet
   case rel=>exact⟨_,(!d9),sD,H',⟨by first|omega|exact Nat.le_refl _⟩,⟨vX d6.out⟩,⟨vX d7.out⟩,⟨pB⟩⟩
  ·obtain rfl:=bN c5;rw[if_neg nF] at H
   have H':=aM H;clear H;have fl_:True:=trivial;repeat((first|clear fl_|go_quiet (first|(go_at_call 78;(with_reducible refine(Azy.calls k _ _ l0 false _ ?_ ?_ e9.out).mono ?_);exact cV d6;exact lV d6;rintro e w' ⟨rfl,⟨nd,rfl⟩⟩;(try exact dD))));go_wp2_with (first|(go_at_call 78;(with_reducible refine(Azy.calls k _ _ l0 false _ ?_ ?_ e9.out).mono ?_);exact cV d6;exact lV d6;rintro e w' ⟨rfl,⟨nd,rfl⟩⟩;(try exact dD))))
   go_meet
   case rel=>exact⟨_,(true),sD,H',⟨by first|omega|exact Nat.le_refl _⟩,⟨vX d6.out⟩,⟨vX d7.out⟩,⟨pB⟩⟩
 case rest =>
  clear e6;try clear b6
  obtain⟨kq,e8,rfl,HA,f4,f6,f9,HB⟩:=hcut;cases kq with
  | zero=>exact absurd HA.out (by simp [Czp.j0])
  | succ g4 =>
   have H:=HA.out;clear HA;simp only[Czp.j0] at H;by_cases c7:e8=true
   ·subst c7;rw[if_pos rfl] at H;obtain⟨rfl,rfl⟩:=q2 H;go_wp2
    repeat(go_quiet (fail);try go_wp2)
    go_ret2
    exact⟨_,eW,nK,pB⟩
   ·obtain rfl:=bN c7;rw[if_neg nF] at H
    have g5:=aM H;clear H;go_upto_block 0 with (fail)
    repeat(go_quiet (fail);go_upto_block 0 with (fail))
    go_cut [0,1] (fun g6 g7 wc=>∃ (kq:Nat) (g8:List Int) (g9:List Int),Aside0 (Czp.j2 kq g8 g9=some (b7,b8))∧Aside0 (kq≤g4)∧Aside0 (Kd.V (Kd.int .i64) 3 wc w.heap.size (fun k_=>((a6 k_∨b4 k_)∨w.heap.size≤k_)) g6 g8)∧Aside0 (Kd.V (Kd.int .i64) 3 wc w.heap.size (fun k_=>((a6 k_∨b4 k_)∨w.heap.size≤k_)) g7 g9)∧Aside0 (Below w.heap.size w wc))
    case first =>
     have H:=g5.out;clear g5;have H':=aM H;clear H;go_wp2
     repeat(go_quiet (fail);try go_wp2)
     go_loopg [0,1] g4 (fun kq g6 g7 w'=>∃ (j3:List Int) (j4:List Int),Aside0 (Czp.l0 kq j3 j4=some (b7,b8))∧Aside0 (kq≤g4)∧Aside0 (Kd.V (Kd.int .i64) 3 w' w.heap.size (fun k_=>((a6 k_∨b4 k_)∨w.heap.size≤k_)) g6 j3)∧Aside0 (Kd.V (Kd.int .i64) 3 w' w.heap.size (fun k_=>((a6 k_∨b4 k_)∨w.heap.size≤k_)) g7 j4)∧Aside0 (Below w.heap.size w w'))
     case atStart=>exact⟨(l0),(l1),H',⟨Nat.le_refl _⟩,⟨vX f6.out⟩,⟨vX f9.out⟩,⟨pB⟩⟩
     case round =>
      clear H';try clear b6
      obtain⟨j3,j4,HA,j5,f6,f9,HB⟩:=hrel;cases gk with
      | zero=>exact absurd HA.out (by simp [Czp.l0])
      | succ k2 =>
       have H:=HA.out;clear HA;simp only[Czp.l0] at H;by_cases c9:(j4.length:Int) > 0
       ·rw[if_pos c9] at H;have j6:decide (0 < (j4.length:Int))=true:=dE c9;have j7:decide (0 < j4.length)=true:=dE (by omega)
        clear c9;(first|rw[j6]|(simp only[i64_w,i32_w];rw[j6])|skip)
        by_cases c10:(j3.length:Int) > 2
        ·rw[if_pos c10] at H;have j8:decide (2 < (j3.length:Int))=true:=dE c10;have j9:decide (2 < j3.length)=true:=dE (by omega)
         clear c10;obtain⟨⟨l5,l6⟩,l7,H⟩:=bT H;(try dsimp only at H);have H':=aM H;clear H;obtain⟨l8,l9,m0⟩:=Kd.V_slice f9.out;subst m0;obtain⟨m3,m4,m5⟩:=Kd.V_slice f6.out;subst m5;have fl_:True:=trivial;repeat((first|clear fl_|go_quiet (first|(go_at_call 79;(with_reducible refine(Ezf.calls k2 _ _ j3 _ _ j4 l5 l6 _ ?_ ?_ ?_ ?_ l7.out).mono ?_);exact cV f6;exact lV f6;exact cV f9;exact lV f9;rintro e m6 ⟨m7,m8,rfl,m9,n0,hb⟩;have n6:=rL (Kd.R_newM (M:=fun k_=>(w.heap.size≤k_)) m9 (below_size pB) (fun k_ h_=>h_));have n7:=rL (Kd.R_newM (M:=fun k_=>(w.heap.size≤k_)) n0 (below_size pB) (fun k_ h_=>h_));replace f6:=vO f6 hb m9 n0;replace f9:=vO f9 hb m9 n0;replace HB:=bB hb;clear hb m9 n0)));go_wp2_with (first|(go_at_call 79;(with_reducible refine(Ezf.calls k2 _ _ j3 _ _ j4 l5 l6 _ ?_ ?_ ?_ ?_ l7.out).mono ?_);exact cV f6;exact lV f6;exact cV f9;exact lV f9;rintro e m6 ⟨m7,m8,rfl,m9,n0,hb⟩;have n6:=rL (Kd.R_newM (M:=fun k_=>(w.heap.size≤k_)) m9 (below_size pB) (fun k_ h_=>h_));have n7:=rL (Kd.R_newM (M:=fun k_=>(w.heap.size≤k_)) n0 (below_size pB) (fun k_ h_=>h_));replace f6:=vO f6 hb m9 n0;replace f9:=vO f9 hb m9 n0;replace HB:=bB hb;clear hb m9 n0)))
         go_roundg k2
         case measure=>have:=f4.out;have:=j5.out;omega
         case rel=>exact⟨(j4),(l6),H',⟨by have:=f4.out;have:=j5.out;omega⟩,⟨by exact vX (Kd.V_mono f9.out (fun _ hk=>hk.1.1))⟩,⟨Kd.V_mono (Kd.R_V (rX (Kd.R_mono n7.out (fun _ hk=>hk.1)))) (fun k_ hk=>by first|exact⟨(.inr (hk.1)),hk.2⟩|exact(.inr (hk)))⟩,⟨pB⟩⟩
        ·rw[if_neg c10] at H;have j8:decide (2 < (j3.length:Int))=false:=decide_eq_false c10;have j9:decide (2 < j3.length)=false:=decide_eq_false (by omega)
         clear c10;by_cases n8:(j4.length:Int) > 2
         ·rw[if_pos n8] at H;have n9:decide (2 < (j4.length:Int))=true:=dE n8;have o0:decide (2 < j4.length)=true:=dE (by omega)
          clear n8;obtain⟨⟨o8,o9⟩,p0,H⟩:=bT H;(try dsimp only at H);have H':=aM H;clear H;obtain⟨p3,p4,p5⟩:=Kd.V_slice f9.out;subst p5;obtain⟨r5,r6,r7⟩:=Kd.V_slice f6.out;subst r7;have fl_:True:=trivial;repeat((first|clear fl_|go_quiet (first|(go_at_call 79;(with_reducible refine(Ezf.calls k2 _ _ j3 _ _ j4 o8 o9 _ ?_ ?_ ?_ ?_ p0.out).mono ?_);exact cV f6;exact lV f6;exact cV f9;exact lV f9;rintro e r8 ⟨r9,t6,rfl,m9,n0,hb⟩;have t7:=rL (Kd.R_newM (M:=fun k_=>(w.heap.size≤k_)) m9 (below_size pB) (fun k_ h_=>h_));have t8:=rL (Kd.R_newM (M:=fun k_=>(w.heap.size≤k_)) n0 (below_size pB) (fun k_ h_=>h_));replace f6:=vO f6 hb m9 n0;replace f9:=vO f9 hb m9 n0;replace HB:=bB hb;clear hb m9 n0)));go_wp2_with (first|(go_at_call 79;(with_reducible refine(Ezf.calls k2 _ _ j3 _ _ j4 o8 o9 _ ?_ ?_ ?_ ?_ p0.out).mono ?_);exact cV f6;exact lV f6;exact cV f9;exact lV f9;rintro e r8 ⟨r9,t6,rfl,m9,n0,hb⟩;have t7:=rL (Kd.R_newM (M:=fun k_=>(w.heap.size≤k_)) m9 (below_size pB) (fun k_ h_=>h_));have t8:=rL (Kd.R_newM (M:=fun k_=>(w.heap.size≤k_)) n0 (below_size pB) (fun k_ h_=>h_));replace f6:=vO f6 hb m9 n0;replace f9:=vO f9 hb m9 n0;replace HB:=bB hb;clear hb m9 n0)))
          go_roundg k2
          case measure=>have:=f4.out;have:=j5.out;omega
          case rel=>exact⟨(j4),(o9),H',⟨by have:=f4.out;have:=j5.out;omega⟩,⟨by exact vX (Kd.V_mono f9.out (fun _ hk=>hk.1.1))⟩,⟨Kd.V_mono (Kd.R_V (rX (Kd.R_mono t8.out (fun _ hk=>hk.1)))) (fun k_ hk=>by first|exact⟨(.inr (hk.1)),hk.2⟩|exact(.inr (hk)))⟩,⟨pB⟩⟩
         ·rw[if_neg n8] at H;have n9:decide (2 < (j4.length:Int))=false:=decide_eq_false n8;have o0:decide (2 < j4.length)=false:=decide_eq_false (by omega)
          clear n8;have H':=aM H;clear H;obtain⟨z1,z2,z6⟩:=Kd.V_slice f9.out;subst z6;obtain⟨z7,z8,B0⟩:=Kd.V_slice f6.out;subst B0;go_wp2
          repeat(go_quiet (fail);try go_wp2)
          go_meet
          case rel=>exact⟨_,(j3),(j4),H',⟨by have:=f4.out;have:=j5.out;first|omega|exact Nat.le_refl _⟩,⟨vX f6.out⟩,⟨vX f9.out⟩,⟨pB⟩⟩
       ·rw[if_neg c9] at H;have j6:decide (0 < (j4.length:Int))=false:=decide_eq_false c9;have j7:decide (0 < j4.length)=false:=decide_eq_false (by omega)
        clear c9;(first|rw[j6]|(simp only[i64_w,i32_w];rw[j6])|skip)
        have H':=aM H;clear H;obtain⟨B5,B6,B8⟩:=Kd.V_slice f9.out;subst B8;go_wp2
        repeat(go_quiet (fail);try go_wp2)
        go_meet
        case rel=>exact⟨_,(j3),(j4),H',⟨by have:=f4.out;have:=j5.out;first|omega|exact Nat.le_refl _⟩,⟨vX f6.out⟩,⟨vX f9.out⟩,⟨pB⟩⟩
    case rest =>
     clear g5;try clear b6
     obtain⟨kq,g8,g9,HA,B9,f6,f9,HB⟩:=hcut;cases kq with
     | zero=>exact absurd HA.out (by simp [Czp.j2])
     | succ C0 =>
      have H:=HA.out;clear HA;simp only[Czp.j2] at H;by_cases C1:(g9.length:Int)=0
      ·rw[if_pos C1] at H;obtain⟨C2,C3⟩:=bE C1;clear C1;obtain⟨C4,C6,H⟩:=bT H;(try dsimp only at H);replace H:=bS H;obtain⟨C7,C8,H⟩:=H;replace H:(some (C7,0))=some (b7,b8):=H;have C9:=aM C8;clear C8;obtain⟨rfl,rfl⟩:=q2 H;obtain⟨D0,D1,D2⟩:=Kd.V_slice f9.out;subst D2;obtain⟨D3,D4,D5⟩:=Kd.V_slice f6.out;subst D5;have fl_:True:=trivial;repeat((first|clear fl_|go_quiet (first|(go_at_call 81;(with_reducible refine(Gzv.calls _ _ g8 (g8.length:Int) C4 _ ?_ ?_ C6.out).mono ?_);exact cV f6;exact lV f6;rintro e D6 ⟨D7,rfl,m9,hb⟩;have D8:=rL (Kd.R_newM (M:=fun k_=>(w.heap.size≤k_)) m9 (below_size pB) (fun k_ h_=>h_));replace f6:=vE f6 m9 hb;replace f9:=vE f9 m9 hb;replace HB:=bB hb;clear hb m9;obtain⟨D9,E0,rfl⟩:=Kd.R_slice D8.out)|(go_at_call 80;(with_reducible refine(Bzf.calls C0 (fun k_=>some k_=(.slice D9 C4.length E0:Value).ownBlock) (.slice D9 C4.length E0) C4 C7 w _ ?_ ?_ C9.out).mono ?_);exact pB;exact Kd.R_tight rfl D8.out;rintro e E1 ⟨E2,rfl,m9,hb,hkp⟩;have E3:=aM (Kd.R_mono (ok':=fun k_=>(w.heap.size≤k_)) m9 (fun k_ hk_=>Or.elim hk_ (fun hs_=>(D8.out.1 k_ (hs_).symm).1) (fun hn_=>(lP hn_))));replace f6:=aM (Kd.V_mono (ok':=fun k_=>((a6 k_∨b4 k_)∨w.heap.size≤k_)∧some k_≠(E2:Value).ownBlock) (Kd.V_keptB (f6.out) hkp (fun k_ hk_ hs_=>(hk_.2) hs_)) (fun k_ hk_=>⟨hk_.1.1,fun e_=>Or.elim (m9.1 k_ e_.symm) (fun hs_=>hk_.2.1 hs_) (fun hn_=>Nat.not_le.2 hk_.2.2 hn_)⟩));replace f9:=aM (Kd.V_mono (ok':=fun k_=>((a6 k_∨b4 k_)∨w.heap.size≤k_)∧some k_≠(E2:Value).ownBlock) (Kd.V_keptB (f9.out) hkp (fun k_ hk_ hs_=>(hk_.2) hs_)) (fun k_ hk_=>⟨hk_.1.1,fun e_=>Or.elim (m9.1 k_ e_.symm) (fun hs_=>hk_.2.1 hs_) (fun hn_=>Nat.not_le.2 hk_.2.2 hn_)⟩));replace HB:=aM (hb);clear D8 hb hkp m9)));go_wp2_with (first|(go_at_call 81;(with_reducible refine(Gzv.calls _ _ g8 (g8.length:Int) C4 _ ?_ ?_ C6.out).mono ?_);exact cV f6;exact lV f6;rintro e D6 ⟨D7,rfl,m9,hb⟩;have D8:=rL (Kd.R_newM (M:=fun k_=>(w.heap.size≤k_)) m9 (below_size pB) (fun k_ h_=>h_));replace f6:=vE f6 m9 hb;replace f9:=vE f9 m9 hb;replace HB:=bB hb;clear hb m9;obtain⟨D9,E0,rfl⟩:=Kd.R_slice D8.out)|(go_at_call 80;(with_reducible refine(Bzf.calls C0 (fun k_=>some k_=(.slice D9 C4.length E0:Value).ownBlock) (.slice D9 C4.length E0) C4 C7 w _ ?_ ?_ C9.out).mono ?_);exact pB;exact Kd.R_tight rfl D8.out;rintro e E1 ⟨E2,rfl,m9,hb,hkp⟩;have E3:=aM (Kd.R_mono (ok':=fun k_=>(w.heap.size≤k_)) m9 (fun k_ hk_=>Or.elim hk_ (fun hs_=>(D8.out.1 k_ (hs_).symm).1) (fun hn_=>(lP hn_))));replace f6:=aM (Kd.V_mono (ok':=fun k_=>((a6 k_∨b4 k_)∨w.heap.size≤k_)∧some k_≠(E2:Value).ownBlock) (Kd.V_keptB (f6.out) hkp (fun k_ hk_ hs_=>(hk_.2) hs_)) (fun k_ hk_=>⟨hk_.1.1,fun e_=>Or.elim (m9.1 k_ e_.symm) (fun hs_=>hk_.2.1 hs_) (fun hn_=>Nat.not_le.2 hk_.2.2 hn_)⟩));replace f9:=aM (Kd.V_mono (ok':=fun k_=>((a6 k_∨b4 k_)∨w.heap.size≤k_)∧some k_≠(E2:Value).ownBlock) (Kd.V_keptB (f9.out) hkp (fun k_ hk_ hs_=>(hk_.2) hs_)) (fun k_ hk_=>⟨hk_.1.1,fun e_=>Or.elim (m9.1 k_ e_.symm) (fun hs_=>hk_.2.1 hs_) (fun hn_=>Nat.not_le.2 hk_.2.2 hn_)⟩));replace HB:=aM (hb);clear D8 hb hkp m9)))
       go_ret2
       exact⟨_,eW,rX E3.out,pB⟩
      ·rw[if_neg C1] at H;obtain⟨C2,C3⟩:=bI C1;have E4:¬ (g9=[]):=fun h_=>C1 (by rw[h_];rfl)
       obtain⟨E5,E6,H⟩:=bT H;(try dsimp only at H);obtain⟨E7,E8,H⟩:=bT H;(try dsimp only at H);have H':=aM H;clear H;obtain⟨E9,F0,F1⟩:=Kd.V_slice f9.out;subst F1;obtain⟨F2,F3,F4⟩:=Kd.V_slice f6.out;subst F4;have fl_:True:=trivial;repeat((first|clear fl_|go_quiet (first|(go_at_call 82;(with_reducible refine(Ezy.calls C0 _ _ g8 E5 _ ?_ ?_ E6.out).mono ?_);exact cV f6;exact lV f6;rintro e w' ⟨rfl,⟨nd,rfl⟩⟩;(try exact dD))|(go_at_call 82;(with_reducible refine(Ezy.calls C0 _ _ g9 E7 _ ?_ ?_ E8.out).mono ?_);exact cV f9;exact lV f9;rintro e w' ⟨rfl,⟨nd,rfl⟩⟩;(try exact dD))));go_wp2_with (first|(go_at_call 82;(with_reducible refine(Ezy.calls C0 _ _ g8 E5 _ ?_ ?_ E6.out).mono ?_);exact cV f6;exact lV f6;rintro e w' ⟨rfl,⟨nd,rfl⟩⟩;(try exact dD))|(go_at_call 82;(with_reducible refine(Ezy.calls C0 _ _ g9 E7 _ ?_ ?_ E8.out).mono ?_);exact cV f9;exact lV f9;rintro e w' ⟨rfl,⟨nd,rfl⟩⟩;(try exact dD))))
       try simp only[Act.put,sA,sZ,sC]
       go_loopg [8,9] C0 (fun kq F5 F6 w'=>∃ (F7:Int) (F8:Int),F5=.int .i64 F7∧F6=.int .i64 F8∧Aside0 (Czp.l1 kq F7 F8=some (b7,b8))∧Aside0 (kq≤C0)∧Aside0 (Below w.heap.size w w'))
       case atStart=>exact⟨(E5),(E7),sD,sD,H',⟨Nat.le_refl _⟩,⟨pB⟩⟩
       case round =>
        clear H';try clear b6
        obtain⟨F7,F8,rfl,rfl,HA,F9,HB⟩:=hrel;cases gk with
        | zero=>exact absurd HA.out (by simp [Czp.l1])
        | succ k3 =>
         have H:=HA.out;clear HA;simp only[Czp.l1] at H;by_cases G0:F8 > 0
         ·rw[if_pos G0] at H;have G4:decide (0 < F8)=true:=dE G0;clear G0;obtain⟨G5,H⟩:=iM H;have G6:(F8 == 0)=false:=beq_eq_false_iff_ne.mpr G5;have G7:(F8 != 0)=true:=bne_iff_ne.mpr G5;have H':=aM H;clear H;go_wp2
          repeat(go_quiet (fail);try go_wp2)
          go_roundg k3
          case measure=>have:=f4.out;have:=B9.out;have:=F9.out;omega
          case rel=>exact⟨(F8),(Int.tmod F7 F8),sD,sD,H',⟨by have:=f4.out;have:=B9.out;have:=F9.out;omega⟩,⟨pB⟩⟩
         ·rw[if_neg G0] at H;have G4:decide (0 < F8)=false:=decide_eq_false G0;clear G0;replace H:=bS H;obtain⟨⟨G8,G9⟩,H5,H⟩:=H;replace H:(some (G8,G9))=some (b7,b8):=H;have H6:=aM H5;clear H5;obtain⟨rfl,rfl⟩:=q2 H;have fl_:True:=trivial;repeat((first|clear fl_|go_quiet (first|(go_at_call 60;(with_reducible refine(Fzy.calls k3 F7 G8 G9 _ H6.out).mono ?_);rintro e H7 ⟨H8,rfl,m9,hb⟩;have H9:=rL (Kd.R_newM (M:=fun k_=>(w.heap.size≤k_)) m9 (below_size pB) (fun k_ h_=>h_));replace HB:=bB hb;clear hb m9)));go_wp2_with (first|(go_at_call 60;(with_reducible refine(Fzy.calls k3 F7 G8 G9 _ H6.out).mono ?_);rintro e H7 ⟨H8,rfl,m9,hb⟩;have H9:=rL (Kd.R_newM (M:=fun k_=>(w.heap.size≤k_)) m9 (below_size pB) (fun k_ h_=>h_));replace HB:=bB hb;clear hb m9)))
          go_ret2
          exact⟨_,eW,by exact rX (Kd.R_mono H9.out (fun _ hk=>hk.1)),pB⟩


def Ezw.j0:Nat→List Int→List Int→Bool→Option (List Int × List Int × Int)
 | 0,_,_,_=>none
 | k+1,x0,x1,x16=>if x16=true then(some (([]:List Int),([]:List Int),3)) else(if(x1.length:Int)=0 then(some (([]:List Int),([]:List Int),16)) else((Ezf.f k x0 x1).bind fun bt213=>(some (bt213.1,bt213.2,0))))
def Ezw.f (k:Nat) (l0:List Int) (l1:List Int):Option (List Int × List Int × Int):=(Azy.f k l0).bind fun t211=>(if t211=true then((Azy.f k l1).bind fun t212=>(Ezw.j0 k l0 l1 (!t212))) else(Ezw.j0 k l0 l1 true))
theorem Ezw.mono_l:∀ k,(∀ a6 a7 a8,LeO (Ezw.j0 k a6 a7 a8) (Ezw.j0 (k+1) a6 a7 a8))
 | 0=>fun _ _ _ r h=>by simp [Ezw.j0] at h
 | k+1=>by
  have ih0:=Ezw.mono_l k
  ·intro a6 a7 a8;unfold Ezw.j0;have i0:=@Azy.mono;have i1:=@Ezf.mono;exact mM
theorem Ezw.mono:∀ a6 a7 k,LeO (Ezw.f k a6 a7) (Ezw.f (k+1) a6 a7):=by
 intro a6 a7 k;have ih0:=Ezw.mono_l k;unfold Ezw.f;have i0:=@Azy.mono;have i1:=@Ezf.mono;exact mM
theorem Ezw.calls (k:Nat) (a6:Option Addr) (a7:Nat) (l0:List Int) (a8:Option Addr) (b4:Nat) (l1:List Int) (b5:List Int) (b6:List Int) (b7:Int) (w:World) (b8:Kd.C (Kd.int .i64) w a6 l0.length l0) (b9:l0.length≤a7) (d0:Kd.C (Kd.int .i64) w a8 l1.length l1) (d6:l1.length≤b4) (h:Ezw.f k l0 l1=some (b5,b6,b7)) :
  Calls Tryz.prog 59 #[.slice a6 l0.length a7,.slice a8 l1.length b4] w fun e w'=>∃ v0_ v1_:Value,e=.returned (.tuple #[v0_,v1_,.int .i64 b7])∧Kd.R (Kd.int .i64) 3 w' w.heap.size (fun k_=>some k_≠(v1_:Value).ownBlock) v0_ b5∧Kd.R (Kd.int .i64) 3 w' w.heap.size (fun k_=>some k_≠(v0_:Value).ownBlock) v1_ b6∧Below w.heap.size w w':=by
 have d7:=aM b8;have d8:=aM b9;clear b8 b9;have d9:=aM d0;have e6:=aM d6;clear d0 d6;have HB:=aM (Below.refl w.heap.size w);have H:((Azy.f k l0).bind fun e7=>(if e7=true then((Azy.f k l1).bind fun e8=>(Ezw.j0 k l0 l1 (!e8))) else(Ezw.j0 k l0 l1 true)))=some (b5,b6,b7):=h
 clear h;have e9:=aM H;clear H;go_enter Tryz.func59,Tryz.ntmps59
 go_upto_region 1 with (fail)
 go_cut [16] (fun f3 wc=>∃ (kq:Nat) (f4:Bool),f3=.bool f4∧Aside0 (Ezw.j0 kq l0 l1 f4=some (b5,b6,b7))∧Aside0 (kq≤k)∧Aside0 (Below w.heap.size w wc))
 case first =>
  have H:=e9.out;clear e9;obtain⟨e7,f6,H⟩:=bT H;(try dsimp only at H);by_cases c5:e7=true
  ·subst c5;rw[if_pos rfl] at H;obtain⟨e8,f9,H⟩:=bT H;(try dsimp only at H);have H':=aM H;clear H;go_wp2_with (first|((with_reducible refine gc 78 rfl ?_);refine gC 78 (some 10) Tryz.func78 #[.slice a6 l0.length a7] ?_;(with_reducible refine(Azy.calls k _ _ l0 true _ ?_ ?_ f6.out).mono ?_);exact cB d7;exact d8.out;rintro e w' ⟨rfl,⟨nd,rfl⟩⟩;refine⟨_,rfl,?_⟩)|(go_at_call 78;(with_reducible refine(Azy.calls k _ _ l1 e8 _ ?_ ?_ f9.out).mono ?_);exact cB d9;exact e6.out;rintro e w' ⟨rfl,⟨nd,rfl⟩⟩))
   go_meet
   case rel=>exact⟨_,(!e8),sD,H',⟨by first|omega|exact Nat.le_refl _⟩,⟨pB⟩⟩
  ·obtain rfl:=bN c5;rw[if_neg nF] at H
   have H':=aM H;clear H;go_wp2_with (first|((with_reducible refine gc 78 rfl ?_);refine gC 78 (some 10) Tryz.func78 #[.slice a6 l0.length a7] ?_;(with_reducible refine(Azy.calls k _ _ l0 false _ ?_ ?_ f6.out).mono ?_);exact cB d7;exact d8.out;rintro e w' ⟨rfl,⟨nd,rfl⟩⟩;refine⟨_,rfl,?_⟩))
   go_meet
   case rel=>exact⟨_,(true),sD,H',⟨by first|omega|exact Nat.le_refl _⟩,⟨pB⟩⟩
 case rest =>
  clear e9;try clear b4
  obtain⟨kq,f4,rfl,HA,g4,HB⟩:=hcut;cases kq with
  | zero=>exact absurd HA.out (by simp [Ezw.j0])
  | succ g5 =>
   have H:=HA.out;clear HA;simp only[Ezw.j0] at H;by_cases c7:f4=true
   ·subst c7;rw[if_pos rfl] at H;obtain⟨rfl,rfl,rfl⟩:=q3 H;go_wp2
    go_ret3
    exact⟨_,_,eW,nK,nK,pB⟩
   ·obtain rfl:=bN c7;rw[if_neg nF] at H
    by_cases c8:(l1.length:Int)=0
    ·rw[if_pos c8] at H;obtain⟨g6,g7⟩:=bE c8;clear c8;obtain⟨rfl,rfl,rfl⟩:=q3 H;go_wp2
     go_ret3
     exact⟨_,_,eW,nK,nK,pB⟩
    ·rw[if_neg c8] at H;obtain⟨g6,g7⟩:=bI c8;have g8:¬ (l1=[]):=fun h_=>c8 (by rw[h_];rfl)
     replace H:=bS H;obtain⟨⟨g9,j3⟩,j4,H⟩:=H;replace H:(some (g9,j3,0))=some (b5,b6,b7):=H;have j5:=aM j4;clear j4;obtain⟨rfl,rfl,rfl⟩:=q3 H;go_wp2_with (first|((with_reducible refine gc 79 rfl ?_);refine gC 79 (some 23) Tryz.func79 #[.slice a6 l0.length a7,.slice a8 l1.length b4] ?_;(with_reducible refine(Ezf.calls g5 _ _ l0 _ _ l1 g9 j3 _ ?_ ?_ ?_ ?_ j5.out).mono ?_);exact cB d7;exact d8.out;exact cB d9;exact e6.out;rintro e j6 ⟨j7,j8,rfl,j9,l5,hb⟩;refine⟨_,rfl,?_⟩;have l6:=rL j9;have l7:=rL l5;replace HB:=bB hb;clear hb j9 l5))
     go_ret3
     exact⟨_,_,eW,rX l6.out,rX l7.out,pB⟩

def Fzw.f (k:Nat) (a0:Bool) (l1:List Int) (l2:List Int):Option (Bool × List Int × List Int × Int):=(Czp.f k l1 l2).bind fun bt220=>(if bt220.2=0 then((Ezw.f k l1 bt220.1).bind fun bt224=>(if bt224.2.2=0 then((Ezw.f k l2 bt220.1).bind fun bt231=>(if bt231.2.2=0 then(if a0=true then(some (decide (0 < bt224.1.length),bt224.1,bt231.1,0)) else(some (false,bt224.1,bt231.1,0))) else(some (false,([]:List Int),([]:List Int),bt231.2.2)))) else(some (false,([]:List Int),([]:List Int),bt224.2.2)))) else(some (false,([]:List Int),([]:List Int),bt220.2)))
theorem Fzw.mono:∀ a6 a7 a8 k,LeO (Fzw.f k a6 a7 a8) (Fzw.f (k+1) a6 a7 a8):=by
 intro a6 a7 a8 k;unfold Fzw.f;have i0:=@Ezw.mono;have i1:=@Czp.mono;exact mM
theorem Fzw.calls (k:Nat) (a6:Bool) (a7:Option Addr) (a8:Nat) (l1:List Int) (b4:Option Addr) (c2:Nat) (l2:List Int) (b5:Bool) (b6:List Int) (b7:List Int) (b8:Int) (w:World) (b9:Kd.C (Kd.int .i64) w a7 l1.length l1) (d0:l1.length≤a8) (d6:Kd.C (Kd.int .i64) w b4 l2.length l2) (d7:l2.length≤c2) (h:Fzw.f k a6 l1 l2=some (b5,b6,b7,b8)) :
  Calls Tryz.prog 38 #[.bool a6,.slice a7 l1.length a8,.slice b4 l2.length c2] w fun e w'=>∃ v1_ v2_:Value,e=.returned (.tuple #[.agg #[.bool b5,v1_,v2_],.int .i64 b8])∧Kd.R (Kd.int .i64) 3 w' w.heap.size (fun k_=>some k_≠(v2_:Value).ownBlock) v1_ b6∧Kd.R (Kd.int .i64) 3 w' w.heap.size (fun k_=>some k_≠(v1_:Value).ownBlock) v2_ b7∧Below w.heap.size w w':=by
 have hu26:=Tryz.underlying26;have d8:=aM b9;have d9:=aM d0;clear b9 d0;have e6:=aM d6;have e7:=aM d7;clear d6 d7;have HB:=aM (Below.refl w.heap.size w);have H:((Czp.f k l1 l2).bind fun e8=>(if e8.2=0 then((Ezw.f k l1 e8.1).bind fun e9=>(if e9.2.2=0 then((Ezw.f k l2 e8.1).bind fun f3=>(if f3.2.2=0 then(if a6=true then(some (decide (0 < e9.1.length),e9.1,f3.1,0)) else(some (false,e9.1,f3.1,0))) else(some (false,([]:List Int),([]:List Int),f3.2.2)))) else(some (false,([]:List Int),([]:List Int),e9.2.2)))) else(some (false,([]:List Int),([]:List Int),e8.2))))=some (b5,b6,b7,b8):=h
 clear h;obtain⟨⟨f4,f6⟩,f9,H⟩:=bT H;(try dsimp only at H);by_cases c5:f6=0
 ·rw[if_pos c5] at H;obtain⟨g4,g5⟩:=bE c5;clear c5;obtain⟨⟨g6,g7,g8⟩,g9,H⟩:=bT H;(try dsimp only at H);by_cases c7:g8=0
  ·rw[if_pos c7] at H;obtain⟨j3,j4⟩:=bE c7;clear c7;obtain⟨⟨j5,j6,j7⟩,j8,H⟩:=bT H;(try dsimp only at H);by_cases c9:j7=0
   ·rw[if_pos c9] at H;obtain⟨j9,l5⟩:=bE c9;clear c9;by_cases c10:a6=true
    ·subst c10;rw[if_pos rfl] at H;obtain⟨rfl,rfl,rfl,rfl⟩:=q4 H;go_enter Tryz.func38,Tryz.ntmps38
     go_wp2_with (first|((with_reducible refine gd 6 rfl ?_);refine bxg #[.bool false,.slice none 0 0,.slice none 0 0] 26 ?_;intro l6 hg l7 l8 hb;have l9:=gA w hg;have m0:=gA w hg;replace HB:=bB hb;clear hb hg)|((with_reducible refine gc 58 rfl ?_);refine gC 58 (some 17) Tryz.func58 #[.slice a7 l1.length a8,.slice b4 l2.length c2] ?_;(with_reducible refine(Czp.calls k (fun k_=>k_ < w.heap.size) _ _ l1 (fun k_=>k_ < w.heap.size) _ _ l2 f4 f6 _ ?_ ?_ f9.out).mono ?_);exact Kd.V_mk d9.out (Kd.F_below (Kd.C_F (Kd.heap_int .i64) d8.out) pB);exact Kd.V_mk e7.out (Kd.F_below (Kd.C_F (Kd.heap_int .i64) e6.out) pB);rintro e m3 ⟨m4,rfl,m5,hb⟩;refine⟨_,rfl,?_⟩;have m6:=rL (Kd.R_mono (ok':=fun k_=>True) m5 (fun _ hk_=>trivial));replace l8:=kb l8 hb;replace HB:=bB hb;clear hb m5;obtain⟨m7,m8,rfl⟩:=Kd.R_slice m6.out)|((with_reducible refine gc 59 rfl ?_);refine gC 59 (some 27) Tryz.func59 #[.slice a7 l1.length a8,.slice m7 f4.length m8] ?_;(with_reducible refine(Ezw.calls k _ _ l1 _ _ f4 g6 g7 g8 _ ?_ ?_ ?_ ?_ g9.out).mono ?_);exact cB d8;exact d9.out;exact cR m6;exact lR m6;rintro e m9 ⟨n0,n6,rfl,m5,n7,hb⟩;refine⟨_,rfl,?_⟩;have n8:=rL (rn m5 m6);have n9:=rL (rn n7 m6);replace m6:=rO m6 hb m5 n7;replace l8:=kb l8 hb;replace HB:=bB hb;clear hb m5 n7)|((with_reducible refine gc 59 rfl ?_);refine gC 59 (some 38) Tryz.func59 #[.slice b4 l2.length c2,.slice m7 f4.length m8] ?_;(with_reducible refine(Ezw.calls k _ _ l2 _ _ f4 j5 j6 j7 _ ?_ ?_ ?_ ?_ j8.out).mono ?_);exact cB e6;exact e7.out;exact cR m6;exact lR m6;rintro e o0 ⟨o8,o9,rfl,m5,n7,hb⟩;refine⟨_,rfl,?_⟩;have p0:=rL (rn (rn (rn m5 m6) n8) n9);have p3:=rL (rn (rn (rn n7 m6) n8) n9);replace m6:=rO m6 hb m5 n7;replace n8:=rO n8 hb m5 n7;replace n9:=rO n9 hb m5 n7;replace l8:=kb l8 hb;replace HB:=bB hb;clear hb m5 n7;obtain⟨p4,p5,rfl⟩:=Kd.R_slice n8.out;obtain⟨r5,r6,rfl⟩:=Kd.R_slice p0.out;obtain⟨r7,r8,r9,t6,t7,t8⟩:=bk3 l8))
     refine bodyPost_ret (results_ct rfl _ _ l6 26 #[.bool (decide (0 < g6.length)),.slice p4 g6.length p5,.slice r5 j5.length r6] (0,0) _ rfl (kQ l8) Tryz.underlying26 rfl (by kernel_rfl)) rfl ?_
     exact⟨_,_,eW,by exact Kd.R_mono (rT n8 l8) (fun _ hk=>hk.1.2),by exact Kd.R_mono (rT p0 l8) (fun _ hk=>hk.1.2),pB⟩
    ·obtain rfl:=bN c10;rw[if_neg nF] at H
     obtain⟨rfl,rfl,rfl,rfl⟩:=q4 H;go_enter Tryz.func38,Tryz.ntmps38
     go_wp2_with (first|((with_reducible refine gd 6 rfl ?_);refine bxg #[.bool false,.slice none 0 0,.slice none 0 0] 26 ?_;intro l6 hg z1 l8 hb;have l9:=gA w hg;have m0:=gA w hg;replace HB:=bB hb;clear hb hg)|((with_reducible refine gc 58 rfl ?_);refine gC 58 (some 17) Tryz.func58 #[.slice a7 l1.length a8,.slice b4 l2.length c2] ?_;(with_reducible refine(Czp.calls k (fun k_=>k_ < w.heap.size) _ _ l1 (fun k_=>k_ < w.heap.size) _ _ l2 f4 f6 _ ?_ ?_ f9.out).mono ?_);exact Kd.V_mk d9.out (Kd.F_below (Kd.C_F (Kd.heap_int .i64) d8.out) pB);exact Kd.V_mk e7.out (Kd.F_below (Kd.C_F (Kd.heap_int .i64) e6.out) pB);rintro e z2 ⟨m4,rfl,m5,hb⟩;refine⟨_,rfl,?_⟩;have m6:=rL (Kd.R_mono (ok':=fun k_=>True) m5 (fun _ hk_=>trivial));replace l8:=kb l8 hb;replace HB:=bB hb;clear hb m5;obtain⟨z6,z7,rfl⟩:=Kd.R_slice m6.out)|((with_reducible refine gc 59 rfl ?_);refine gC 59 (some 27) Tryz.func59 #[.slice a7 l1.length a8,.slice z6 f4.length z7] ?_;(with_reducible refine(Ezw.calls k _ _ l1 _ _ f4 g6 g7 g8 _ ?_ ?_ ?_ ?_ g9.out).mono ?_);exact cB d8;exact d9.out;exact cR m6;exact lR m6;rintro e z8 ⟨n0,n6,rfl,m5,n7,hb⟩;refine⟨_,rfl,?_⟩;have n8:=rL (rn m5 m6);have n9:=rL (rn n7 m6);replace m6:=rO m6 hb m5 n7;replace l8:=kb l8 hb;replace HB:=bB hb;clear hb m5 n7)|((with_reducible refine gc 59 rfl ?_);refine gC 59 (some 38) Tryz.func59 #[.slice b4 l2.length c2,.slice z6 f4.length z7] ?_;(with_reducible refine(Ezw.calls k _ _ l2 _ _ f4 j5 j6 j7 _ ?_ ?_ ?_ ?_ j8.out).mono ?_);exact cB e6;exact e7.out;exact cR m6;exact lR m6;rintro e B0 ⟨o8,o9,rfl,m5,n7,hb⟩;refine⟨_,rfl,?_⟩;have p0:=rL (rn (rn (rn m5 m6) n8) n9);have p3:=rL (rn (rn (rn n7 m6) n8) n9);replace m6:=rO m6 hb m5 n7;replace n8:=rO n8 hb m5 n7;replace n9:=rO n9 hb m5 n7;replace l8:=kb l8 hb;replace HB:=bB hb;clear hb m5 n7;obtain⟨B5,B6,rfl⟩:=Kd.R_slice p0.out;obtain⟨B8,B9,rfl⟩:=Kd.R_slice n8.out;obtain⟨C0,C1,C2,C3,C4,C6⟩:=bk3 l8))
     refine bodyPost_ret (results_ct rfl _ _ l6 26 #[.bool false,.slice B8 g6.length B9,.slice B5 j5.length B6] (0,0) _ rfl (kQ l8) Tryz.underlying26 rfl (by kernel_rfl)) rfl ?_
     exact⟨_,_,eW,by exact Kd.R_mono (rT n8 l8) (fun _ hk=>hk.1.2),by exact Kd.R_mono (rT p0 l8) (fun _ hk=>hk.1.2),pB⟩
   ·rw[if_neg c9] at H;obtain⟨j9,l5⟩:=bI c9;obtain⟨rfl,rfl,rfl,rfl⟩:=q4 H;go_enter Tryz.func38,Tryz.ntmps38
    go_wp2_with (first|((with_reducible refine gd 6 rfl ?_);refine bxg #[.bool false,.slice none 0 0,.slice none 0 0] 26 ?_;intro l6 hg C7 l8 hb;have l9:=gA w hg;have m0:=gA w hg;replace HB:=bB hb;clear hb hg)|((with_reducible refine gc 58 rfl ?_);refine gC 58 (some 17) Tryz.func58 #[.slice a7 l1.length a8,.slice b4 l2.length c2] ?_;(with_reducible refine(Czp.calls k (fun k_=>k_ < w.heap.size) _ _ l1 (fun k_=>k_ < w.heap.size) _ _ l2 f4 f6 _ ?_ ?_ f9.out).mono ?_);exact Kd.V_mk d9.out (Kd.F_below (Kd.C_F (Kd.heap_int .i64) d8.out) pB);exact Kd.V_mk e7.out (Kd.F_below (Kd.C_F (Kd.heap_int .i64) e6.out) pB);rintro e C8 ⟨m4,rfl,m5,hb⟩;refine⟨_,rfl,?_⟩;have m6:=rL (Kd.R_mono (ok':=fun k_=>True) m5 (fun _ hk_=>trivial));replace l8:=kb l8 hb;replace HB:=bB hb;clear hb m5;obtain⟨C9,D0,rfl⟩:=Kd.R_slice m6.out)|((with_reducible refine gc 59 rfl ?_);refine gC 59 (some 27) Tryz.func59 #[.slice a7 l1.length a8,.slice C9 f4.length D0] ?_;(with_reducible refine(Ezw.calls k _ _ l1 _ _ f4 g6 g7 g8 _ ?_ ?_ ?_ ?_ g9.out).mono ?_);exact cB d8;exact d9.out;exact cR m6;exact lR m6;rintro e D1 ⟨n0,n6,rfl,m5,n7,hb⟩;refine⟨_,rfl,?_⟩;have n8:=rL (rn m5 m6);have n9:=rL (rn n7 m6);replace m6:=rO m6 hb m5 n7;replace l8:=kb l8 hb;replace HB:=bB hb;clear hb m5 n7)|((with_reducible refine gc 59 rfl ?_);refine gC 59 (some 38) Tryz.func59 #[.slice b4 l2.length c2,.slice C9 f4.length D0] ?_;(with_reducible refine(Ezw.calls k _ _ l2 _ _ f4 j5 j6 j7 _ ?_ ?_ ?_ ?_ j8.out).mono ?_);exact cB e6;exact e7.out;exact cR m6;exact lR m6;rintro e D2 ⟨o8,o9,rfl,m5,n7,hb⟩;refine⟨_,rfl,?_⟩;have p0:=rL (rn (rn (rn m5 m6) n8) n9);have p3:=rL (rn (rn (rn n7 m6) n8) n9);replace m6:=rO m6 hb m5 n7;replace n8:=rO n8 hb m5 n7;replace n9:=rO n9 hb m5 n7;replace l8:=kb l8 hb;replace HB:=bB hb;clear hb m5 n7;obtain⟨D3,D4,D5,D6,D7,D8⟩:=bk3 l8))
    refine bodyPost_ret (results_ct rfl _ _ l6 26 #[.bool false,.slice none 0 0,.slice none 0 0] (0,0) _ rfl (kQ l8) Tryz.underlying26 rfl (by kernel_rfl)) rfl ?_
    exact⟨_,_,eW,nK,nK,pB⟩
  ·rw[if_neg c7] at H;obtain⟨j3,j4⟩:=bI c7;obtain⟨rfl,rfl,rfl,rfl⟩:=q4 H;go_enter Tryz.func38,Tryz.ntmps38
   go_wp2_with (first|((with_reducible refine gd 6 rfl ?_);refine bxg #[.bool false,.slice none 0 0,.slice none 0 0] 26 ?_;intro l6 hg D9 l8 hb;have l9:=gA w hg;have m0:=gA w hg;replace HB:=bB hb;clear hb hg)|((with_reducible refine gc 58 rfl ?_);refine gC 58 (some 17) Tryz.func58 #[.slice a7 l1.length a8,.slice b4 l2.length c2] ?_;(with_reducible refine(Czp.calls k (fun k_=>k_ < w.heap.size) _ _ l1 (fun k_=>k_ < w.heap.size) _ _ l2 f4 f6 _ ?_ ?_ f9.out).mono ?_);exact Kd.V_mk d9.out (Kd.F_below (Kd.C_F (Kd.heap_int .i64) d8.out) pB);exact Kd.V_mk e7.out (Kd.F_below (Kd.C_F (Kd.heap_int .i64) e6.out) pB);rintro e E0 ⟨m4,rfl,m5,hb⟩;refine⟨_,rfl,?_⟩;have m6:=rL (Kd.R_mono (ok':=fun k_=>True) m5 (fun _ hk_=>trivial));replace l8:=kb l8 hb;replace HB:=bB hb;clear hb m5;obtain⟨E1,E2,rfl⟩:=Kd.R_slice m6.out)|((with_reducible refine gc 59 rfl ?_);refine gC 59 (some 27) Tryz.func59 #[.slice a7 l1.length a8,.slice E1 f4.length E2] ?_;(with_reducible refine(Ezw.calls k _ _ l1 _ _ f4 g6 g7 g8 _ ?_ ?_ ?_ ?_ g9.out).mono ?_);exact cB d8;exact d9.out;exact cR m6;exact lR m6;rintro e E3 ⟨n0,n6,rfl,m5,n7,hb⟩;refine⟨_,rfl,?_⟩;have n8:=rL (rn m5 m6);have n9:=rL (rn n7 m6);replace m6:=rO m6 hb m5 n7;replace l8:=kb l8 hb;replace HB:=bB hb;clear hb m5 n7;obtain⟨E4,E5,E6,E7,E8,E9⟩:=bk3 l8))
   refine bodyPost_ret (results_ct rfl _ _ l6 26 #[.bool false,.slice none 0 0,.slice none 0 0] (0,0) _ rfl (kQ l8) Tryz.underlying26 rfl (by kernel_rfl)) rfl ?_
   exact⟨_,_,eW,nK,nK,pB⟩
 ·rw[if_neg c5] at H;obtain⟨g4,g5⟩:=bI c5;obtain⟨rfl,rfl,rfl,rfl⟩:=q4 H;go_enter Tryz.func38,Tryz.ntmps38
  go_wp2_with (first|((with_reducible refine gd 6 rfl ?_);refine bxg #[.bool false,.slice none 0 0,.slice none 0 0] 26 ?_;intro l6 hg F0 l8 hb;have l9:=gA w hg;have m0:=gA w hg;replace HB:=bB hb;clear hb hg)|((with_reducible refine gc 58 rfl ?_);refine gC 58 (some 17) Tryz.func58 #[.slice a7 l1.length a8,.slice b4 l2.length c2] ?_;(with_reducible refine(Czp.calls k (fun k_=>k_ < w.heap.size) _ _ l1 (fun k_=>k_ < w.heap.size) _ _ l2 f4 f6 _ ?_ ?_ f9.out).mono ?_);exact Kd.V_mk d9.out (Kd.F_below (Kd.C_F (Kd.heap_int .i64) d8.out) pB);exact Kd.V_mk e7.out (Kd.F_below (Kd.C_F (Kd.heap_int .i64) e6.out) pB);rintro e F1 ⟨m4,rfl,m5,hb⟩;refine⟨_,rfl,?_⟩;have m6:=rL (Kd.R_mono (ok':=fun k_=>True) m5 (fun _ hk_=>trivial));replace l8:=kb l8 hb;replace HB:=bB hb;clear hb m5;obtain⟨F2,F3,F4,F5,F6,F7⟩:=bk3 l8))
  refine bodyPost_ret (results_ct rfl _ _ l6 26 #[.bool false,.slice none 0 0,.slice none 0 0] (0,0) _ rfl (kQ l8) Tryz.underlying26 rfl (by kernel_rfl)) rfl ?_
  exact⟨_,_,eW,nK,nK,pB⟩

def Gzj.f (k:Nat) (a0:Int):Option (List Int):=(Fzy.f k (mx a0 (wrap64 (-a0)))).bind fun bt238=>(some bt238.1)
theorem Gzj.mono:∀ a6 k,LeO (Gzj.f k a6) (Gzj.f (k+1) a6):=by
 intro a6 k;unfold Gzj.f;have i0:=@Fzy.mono;exact mM
theorem Gzj.calls (k:Nat) (a6:Int) (r:List Int) (w:World) (h:Gzj.f k a6=some r) :
  Calls Tryz.prog 39 #[.int .i64 a6] w fun e w'=>∃ v0_:Value,e=.returned (v0_)∧Kd.R (Kd.int .i64) 3 w' w.heap.size (fun _=>True) v0_ r∧Below w.heap.size w w':=by
 have HB:=aM (Below.refl w.heap.size w);have H:((Fzy.f k (mx a6 (wrap64 (-a6)))).bind fun a7=>(some a7.1))=some r:=h
 clear h;obtain⟨a8,b4⟩:∃ j_:Int,(mx a6 (wrap64 (-a6)))=j_:=⟨_,rfl⟩;replace H:((Fzy.f k (a8)).bind fun a7=>(some a7.1))=some r:=by first|(rw[b4] at H;exact H)|(simp only[b4] at H ⊢;exact H)
 have b5:(if a6 < (wrap64 (-a6)) then(wrap64 (-a6)) else a6)=a8:=b4
 replace H:=bS H;obtain⟨⟨b6,b7⟩,b8,H⟩:=H;replace H:(some b6)=some r:=H;have b9:=aM b8;clear b8;obtain rfl:=Option.some.inj H;go_enter Tryz.func39,Tryz.ntmps39
 go_wp2_with (first|((with_reducible refine gate_callee (f:=60) rfl ?_);refine goesL_ (some 10) rfl rfl Tryz.func60 (by kernel_rfl) rfl #[.int .i64 a8] rfl (by(try simp only[List.map_toArray,List.map_cons,List.map_nil]);first|done|(simp only[b4];rfl)|rfl|(simp only[List.length_drop,List.length_take];rfl)) ?_;(with_reducible refine(Fzy.calls k a8 b6 b7 _ b9.out).mono ?_);rintro e d0 ⟨d6,rfl,d7,hb⟩;refine⟨_,rfl,?_⟩;have d8:=rL d7;replace HB:=bB hb;clear hb d7))
 go_ret
 exact⟨_,by first|rfl|(simp [errW_none,errW_some] <;> rfl)|(simp only[← b4];first|rfl|(simp [errW_none,errW_some] <;> rfl))|(simp [*,errW_none,errW_some] <;> rfl),rX d8.out,pB⟩


def Ezk.j0:Nat→Int→Int→Bool→Option (Bool × List Int × List Int × Int)
 | 0,_,_,_=>none
 | k+1,x0,x1,x6=>if x6=true then(some (false,([]:List Int),([]:List Int),1)) else(if x1=0 then(some (false,([]:List Int),([]:List Int),16)) else((Gzj.f k x0).bind fun t245=>((Gzj.f k x1).bind fun t248=>((Fzw.f k ((decide (x0 < 0)) != (decide (x1 < 0))) t245 t248).bind fun bt251=>(some (bt251.1,bt251.2.1,bt251.2.2.1,bt251.2.2.2))))))
def Ezk.f (k:Nat) (a0:Int) (a1:Int):Option (Bool × List Int × List Int × Int):=(Hzk.f a0).bind fun t243=>(if t243=true then((Hzk.f a1).bind fun t244=>(Ezk.j0 k a0 a1 (!t244))) else(Ezk.j0 k a0 a1 true))
theorem Ezk.mono_l:∀ k,(∀ a6 a7 a8,LeO (Ezk.j0 k a6 a7 a8) (Ezk.j0 (k+1) a6 a7 a8))
 | 0=>fun _ _ _ r h=>by simp [Ezk.j0] at h
 | k+1=>by
  have ih0:=Ezk.mono_l k
  ·intro a6 a7 a8;unfold Ezk.j0;have i0:=@Gzj.mono;have i1:=@Fzw.mono;exact mM
theorem Ezk.mono:∀ a6 a7 k,LeO (Ezk.f k a6 a7) (Ezk.f (k+1) a6 a7):=by
 intro a6 a7 k;have ih0:=Ezk.mono_l k;unfold Ezk.f;have i0:=@Gzj.mono;have i1:=@Fzw.mono;exact mM
theorem Ezk.calls (k:Nat) (a6:Int) (a7:Int) (a8:Bool) (b4:List Int) (b5:List Int) (b6:Int) (w:World) (h:Ezk.f k a6 a7=some (a8,b4,b5,b6)) :
  Calls Tryz.prog 18 #[.int .i64 a6,.int .i64 a7] w fun e w'=>∃ v1_ v2_:Value,e=.returned (.tuple #[.agg #[.bool a8,v1_,v2_],.int .i64 b6])∧Kd.R (Kd.int .i64) 3 w' w.heap.size (fun k_=>some k_≠(v2_:Value).ownBlock) v1_ b4∧Kd.R (Kd.int .i64) 3 w' w.heap.size (fun k_=>some k_≠(v1_:Value).ownBlock) v2_ b5∧Below w.heap.size w w':=by
 have hu26:=Tryz.underlying26;have HB:=aM (Below.refl w.heap.size w);have H:((Hzk.f a6).bind fun b7=>(if b7=true then((Hzk.f a7).bind fun b8=>(Ezk.j0 k a6 a7 (!b8))) else(Ezk.j0 k a6 a7 true)))=some (a8,b4,b5,b6):=h
 clear h;have b9:=aM H;clear H;go_enter Tryz.func18,Tryz.ntmps18
 go_upto_region 1 with (first|((with_reducible refine gd 4 rfl ?_);refine bx #[.bool false,.slice none 0 0,.slice none 0 0] 26 ?_;intro d0 hg d6 d7 hb;have d8:=gA w hg;have d9:=gA w hg;replace HB:=bB hb;clear hb hg))
 (try simp only[Act.put,sA,sZ,sC])
 go_cut [6] (fun e6 wc=>∃ (kq:Nat) (e7:Bool),e6=.bool e7∧Aside0 (Ezk.j0 kq a6 a7 e7=some (a8,b4,b5,b6))∧Aside0 (kq≤k)∧Aside0 (wc.heap[d0]?=some (.cells #[.bool false,(.slice none 0 0),(.slice none 0 0)] 26 (0,0)))∧Aside0 (Below w.heap.size w wc))
 case first =>
  have H:=b9.out;clear b9;obtain⟨b7,e8,H⟩:=bT H;(try dsimp only at H);by_cases c6:b7=true
  ·subst c6;rw[if_pos rfl] at H;obtain⟨b8,e9,H⟩:=bT H;(try dsimp only at H);have H':=aM H;clear H;go_wp2_with (first|((with_reducible refine gc 37 rfl ?_);refine gC 37 (some 8) Tryz.func37 #[.int .i64 a6] ?_;(with_reducible refine(Hzk.calls a6 true _ e8.out).mono ?_);rintro e w' ⟨rfl,⟨nd,rfl⟩⟩;refine⟨_,rfl,?_⟩)|(go_at_call 37;(with_reducible refine(Hzk.calls a7 b8 _ e9.out).mono ?_);rintro e w' ⟨rfl,⟨nd,rfl⟩⟩))
   go_meet
   case rel=>exact⟨_,(!b8),sD,H',⟨by first|omega|exact Nat.le_refl _⟩,⟨by exact kW d7⟩,⟨pB⟩⟩
  ·obtain rfl:=bN c6;rw[if_neg nF] at H
   have H':=aM H;clear H;go_wp2_with (first|((with_reducible refine gc 37 rfl ?_);refine gC 37 (some 8) Tryz.func37 #[.int .i64 a6] ?_;(with_reducible refine(Hzk.calls a6 false _ e8.out).mono ?_);rintro e w' ⟨rfl,⟨nd,rfl⟩⟩;refine⟨_,rfl,?_⟩))
   go_meet
   case rel=>exact⟨_,(true),sD,H',⟨by first|omega|exact Nat.le_refl _⟩,⟨by exact kW d7⟩,⟨pB⟩⟩
 case rest =>
  clear b9;try clear f3
  obtain⟨kq,e7,rfl,HA,f4,d7,HB⟩:=hcut;cases kq with
  | zero=>exact absurd HA.out (by simp [Ezk.j0])
  | succ f6 =>
   have H:=HA.out;clear HA;simp only[Ezk.j0] at H;by_cases c8:e7=true
   ·subst c8;rw[if_pos rfl] at H;obtain⟨rfl,rfl,rfl,rfl⟩:=q4 H;obtain⟨f9,g4,g5,g6,g7,g8⟩:=bk3 d7;go_wp2
    refine bodyPost_ret (results_ct rfl _ _ d0 26 #[.bool false,.slice none 0 0,.slice none 0 0] (0,0) _ rfl (kQ d7) Tryz.underlying26 rfl (by kernel_rfl)) rfl ?_
    exact⟨_,_,eW,nK,nK,pB⟩
   ·obtain rfl:=bN c8;rw[if_neg nF] at H
    by_cases c10:a7=0
    ·rw[if_pos c10] at H;obtain⟨g9,j3⟩:=bE c10;clear c10;obtain⟨rfl,rfl,rfl,rfl⟩:=q4 H;obtain⟨j4,j5,j6,j7,j8,j9⟩:=bk3 d7;go_wp2
     refine bodyPost_ret (results_ct rfl _ _ d0 26 #[.bool false,.slice none 0 0,.slice none 0 0] (0,0) _ rfl (kQ d7) Tryz.underlying26 rfl (by kernel_rfl)) rfl ?_
     exact⟨_,_,eW,nK,nK,pB⟩
    ·rw[if_neg c10] at H;obtain⟨g9,j3⟩:=bI c10;obtain⟨l5,l6,H⟩:=bT H;(try dsimp only at H);obtain⟨l7,l8,H⟩:=bT H;(try dsimp only at H);replace H:=bS H;obtain⟨⟨l9,m0,m3,m4⟩,m5,H⟩:=H;replace H:(some (l9,m0,m3,m4))=some (a8,b4,b5,b6):=H;have m6:=aM m5;clear m5;obtain⟨rfl,rfl,rfl,rfl⟩:=q4 H;go_wp2_with (first|((with_reducible refine gc 39 rfl ?_);refine gC 39 (some 26) Tryz.func39 #[.int .i64 a6] ?_;(with_reducible refine(Gzj.calls f6 a6 l5 _ l6.out).mono ?_);rintro e m7 ⟨m8,rfl,m9,hb⟩;refine⟨_,rfl,?_⟩;have n0:=rL m9;replace d7:=kb d7 hb;replace HB:=bB hb;clear hb m9)|((with_reducible refine gc 39 rfl ?_);refine gC 39 (some 28) Tryz.func39 #[.int .i64 a7] ?_;(with_reducible refine(Gzj.calls f6 a7 l7 _ l8.out).mono ?_);rintro e n6 ⟨n7,rfl,m9,hb⟩;refine⟨_,rfl,?_⟩;have n8:=rL (rn m9 n0);replace n0:=rE n0 m9 hb;replace d7:=kb d7 hb;replace HB:=bB hb;clear hb m9;obtain⟨n9,o0,rfl⟩:=Kd.R_slice n0.out;obtain⟨o8,o9,rfl⟩:=Kd.R_slice n8.out)|((with_reducible refine gc 38 rfl ?_);refine gC 38 (some 29) Tryz.func38 #[.bool ((decide (a6 < 0)) != (decide (a7 < 0))),.slice n9 l5.length o0,.slice o8 l7.length o9] ?_;(with_reducible refine(Fzw.calls f6 ((decide (a6 < 0)) != (decide (a7 < 0))) _ _ l5 _ _ l7 l9 m0 m3 m4 _ ?_ ?_ ?_ ?_ m6.out).mono ?_);exact cR n0;exact lR n0;exact cR n8;exact lR n8;rintro e p0 ⟨p3,p4,rfl,m9,p5,hb⟩;refine⟨_,rfl,?_⟩;have r5:=rL (rn (rn m9 n0) n8);have r6:=rL (rn (rn p5 n0) n8);replace n0:=rO n0 hb m9 p5;replace n8:=rO n8 hb m9 p5;replace d7:=kb d7 hb;replace HB:=bB hb;clear hb m9 p5;obtain⟨r7,r8,r9,t6,t7,t8⟩:=bk3 d7;obtain⟨z1,z2,rfl⟩:=Kd.R_slice r5.out;obtain⟨z6,z7,rfl⟩:=Kd.R_slice r6.out))
     refine bodyPost_ret (results_ct rfl _ _ d0 26 #[.bool l9,.slice z1 m0.length z2,.slice z6 m3.length z7] (0,0) _ rfl (kQ d7) Tryz.underlying26 rfl (by kernel_rfl)) rfl ?_
     exact⟨_,_,eW,by exact Kd.R_mono (rT r5 d7) (fun _ hk=>hk.1.1),by exact Kd.R_mono (rT r6 d7) (fun _ hk=>hk.1.1),pB⟩

def Ezb.l0:Nat→Int→List Int→Int→Int→Option (Int)
 | 0,_,_,_,_=>none
 | k+1,x3,x6,x7,x8=>if x8 < x7 then(if 0≤x8 then(if x8 < (x6.length:Int) then(Ezb.l0 k (wrap64 (x3+(rd x6 x8))) x6 x7 (wrap64 (x8+1))) else(none)) else(none)) else(some x3)
def Ezb.f (k:Nat) (l0:List Int):Option (Int):=Ezb.l0 k 0 l0 (l0.length:Int) 0
theorem Ezb.mono_l:∀ k,(∀ a6 a7 a8 b4,LeO (Ezb.l0 k a6 a7 a8 b4) (Ezb.l0 (k+1) a6 a7 a8 b4))
 | 0=>fun _ _ _ _ r h=>by simp [Ezb.l0] at h
 | k+1=>by
  have ih0:=Ezb.mono_l k
  ·intro a6 a7 a8 b4;unfold Ezb.l0;exact mM
theorem Ezb.mono:∀ a6 k,LeO (Ezb.f k a6) (Ezb.f (k+1) a6):=by
 intro a6 k;have ih0:=Ezb.mono_l k;unfold Ezb.f;exact mM
theorem Ezb.calls (k:Nat) (a6:Option Addr) (a7:Nat) (l0:List Int) (r:Int) (w:World) (a8:Kd.C (Kd.int .i64) w a6 l0.length l0) (b4:l0.length≤a7) (h:Ezb.f k l0=some r) :
  Calls Tryz.prog 19 #[.slice a6 l0.length a7] w fun e w'=>e=.returned (.int .i64 r)∧Drawn0 w w':=by
 have b5:=aM a8;have b6:=aM b4;clear a8 b4;have H:(Ezb.l0 k 0 l0 (l0.length:Int) 0)=some r:=h;clear h;have H':=aM H;clear H;go_enter Tryz.func19,Tryz.ntmps19
 go_wp2
 go_loopg [3,8] k (fun kq b7 b8 w'=>∃ (b9:Int) (d0:Int),b7=.int .i64 b9∧b8=.int .i64 d0∧Aside0 (Ezb.l0 kq b9 l0 (l0.length:Int) d0=some r)∧Aside0 (kq≤k)∧Drawn0 w w')
 case atStart=>exact⟨(0),(0),sD,sD,H',⟨Nat.le_refl _⟩,dR⟩
 case round =>
  clear H';try clear d6
  obtain⟨b9,d0,rfl,rfl,HA,d7,⟨d8,rfl⟩⟩:=hrel;cases gk with
  | zero=>exact absurd HA.out (by simp [Ezb.l0])
  | succ k1 =>
   have H:=HA.out;clear HA;simp only[Ezb.l0] at H;by_cases c2:d0 < (l0.length:Int)
   ·rw[if_pos c2] at H;have d9:=dE c2;clear c2;obtain⟨e6,H⟩:=iN H;obtain⟨e7,H⟩:=iN H;have H':=aM H;clear H;obtain⟨e8,e9,f3,f4,f6⟩:=aI b5.out d0;cases e9;go_wp2
    go_roundg k1
    case measure=>have:=d7.out;omega
    case rel=>exact⟨(wrap64 (b9+(rd l0 d0))),(wrap64 (d0+1)),sD,sD,H',⟨by have:=d7.out;omega⟩,dR⟩
   ·rw[if_neg c2] at H;have d9:decide (d0 < (l0.length:Int))=false:=decide_eq_false c2;clear c2;obtain rfl:=Option.some.inj H;go_wp2
    go_ret
    exact⟨sD,dR⟩

def Fzq.f (k:Nat) (l0:List Int):Option (Bool × List Int × List Int × Int):=(Czy.f k l0).bind fun t261=>(if t261=0 then((Ezb.f k l0).bind fun t262=>((Ezk.f k t262 (l0.length:Int)).bind fun bt263=>(some (bt263.1,bt263.2.1,bt263.2.2.1,bt263.2.2.2)))) else(some (false,([]:List Int),([]:List Int),t261)))
theorem Fzq.mono:∀ a6 k,LeO (Fzq.f k a6) (Fzq.f (k+1) a6):=by
 intro a6 k;unfold Fzq.f;have i0:=@Ezk.mono;have i1:=@Czy.mono;have i2:=@Ezb.mono;exact mM
theorem Fzq.calls (k:Nat) (a6:Option Addr) (a7:Nat) (l0:List Int) (a8:Bool) (b4:List Int) (b5:List Int) (b6:Int) (w:World) (b7:Kd.C (Kd.int .i64) w a6 l0.length l0) (b8:l0.length≤a7) (h:Fzq.f k l0=some (a8,b4,b5,b6)) :
  Calls Tryz.prog 5 #[.slice a6 l0.length a7] w fun e w'=>∃ v1_ v2_:Value,e=.returned (.tuple #[.agg #[.bool a8,v1_,v2_],.int .i64 b6])∧Kd.R (Kd.int .i64) 3 w' w.heap.size (fun k_=>some k_≠(v2_:Value).ownBlock) v1_ b4∧Kd.R (Kd.int .i64) 3 w' w.heap.size (fun k_=>some k_≠(v1_:Value).ownBlock) v2_ b5∧Below w.heap.size w w':=by
 have hu26:=Tryz.underlying26;have b9:=aM b7;have d0:=aM b8;clear b7 b8;have HB:=aM (Below.refl w.heap.size w);have H:((Czy.f k l0).bind fun d6=>(if d6=0 then((Ezb.f k l0).bind fun d7=>((Ezk.f k d7 (l0.length:Int)).bind fun d8=>(some (d8.1,d8.2.1,d8.2.2.1,d8.2.2.2)))) else(some (false,([]:List Int),([]:List Int),d6))))=some (a8,b4,b5,b6):=h
 clear h;obtain⟨d6,d9,H⟩:=bT H;(try dsimp only at H);by_cases c3:d6=0
 ·rw[if_pos c3] at H;obtain⟨e6,e7⟩:=bE c3;clear c3;obtain⟨d7,e8,H⟩:=bT H;(try dsimp only at H);replace H:=bS H;obtain⟨⟨e9,f3,f4,f6⟩,f9,H⟩:=H;replace H:(some (e9,f3,f4,f6))=some (a8,b4,b5,b6):=H;have g4:=aM f9;clear f9;obtain⟨rfl,rfl,rfl,rfl⟩:=q4 H;go_enter Tryz.func5,Tryz.ntmps5
  go_wp2_with (first|((with_reducible refine gd 2 rfl ?_);refine bx #[.bool false,.slice none 0 0,.slice none 0 0] 26 ?_;intro g5 hg g6 g7 hb;have g8:=gA w hg;have g9:=gA w hg;replace HB:=bB hb;clear hb hg)|((with_reducible refine gc 9 rfl ?_);refine gC 9 (some 6) Tryz.func9 #[.slice a6 l0.length a7] ?_;(with_reducible refine(Czy.calls k _ _ l0 d6 _ ?_ ?_ d9.out).mono ?_);exact cB b9;exact d0.out;rintro e w' ⟨rfl,⟨nd,rfl⟩⟩;refine⟨_,rfl,?_⟩;(try(rw[drewN_self g6];generalize hq_:World.drewN g6 _=g6;have n0_:Aside0 (g6.heap[g5]?=some (.cells #[.bool false,.slice none 0 0,.slice none 0 0] 26 (0,0))):=⟨by rw[← hq_];exact(kW g7)⟩;have n1_:Aside0 (Below w.heap.size w g6):=⟨by rw[← hq_];exact pB⟩;clear g7 HB hq_;have g7:=n0_;have HB:=n1_;clear n0_ n1_;have hcqgb260_0:g6.cell? ⟨g5,0,none⟩=some (.bool false):=(blk_cell g7.out 0).trans rfl;have hfqgb260_0:=blk_frozen g7.out 0;have hcqgb260_1:g6.cell? ⟨g5,1,none⟩=some (.slice none 0 0):=(blk_cell g7.out 1).trans rfl;have hfqgb260_1:=blk_frozen g7.out 1;have hcqgb260_2:g6.cell? ⟨g5,2,none⟩=some (.slice none 0 0):=(blk_cell g7.out 2).trans rfl;have hfqgb260_2:=blk_frozen g7.out 2)))|((with_reducible refine gc 19 rfl ?_);refine gC 19 (some 12) Tryz.func19 #[.slice a6 l0.length a7] ?_;(with_reducible refine(Ezb.calls k _ _ l0 d7 _ ?_ ?_ e8.out).mono ?_);exact cB b9;exact d0.out;rintro e w' ⟨rfl,⟨nd,rfl⟩⟩;refine⟨_,rfl,?_⟩;(try(rw[drewN_self g6];generalize hq_:World.drewN g6 _=g6;have n0_:Aside0 (g6.heap[g5]?=some (.cells #[.bool false,.slice none 0 0,.slice none 0 0] 26 (0,0))):=⟨by rw[← hq_];exact(kW g7)⟩;have n1_:Aside0 (Below w.heap.size w g6):=⟨by rw[← hq_];exact pB⟩;clear g7 HB hq_;have g7:=n0_;have HB:=n1_;clear n0_ n1_;have hcqgb260_0:g6.cell? ⟨g5,0,none⟩=some (.bool false):=(blk_cell g7.out 0).trans rfl;have hfqgb260_0:=blk_frozen g7.out 0;have hcqgb260_1:g6.cell? ⟨g5,1,none⟩=some (.slice none 0 0):=(blk_cell g7.out 1).trans rfl;have hfqgb260_1:=blk_frozen g7.out 1;have hcqgb260_2:g6.cell? ⟨g5,2,none⟩=some (.slice none 0 0):=(blk_cell g7.out 2).trans rfl;have hfqgb260_2:=blk_frozen g7.out 2)))|((with_reducible refine gc 18 rfl ?_);refine gC 18 (some 15) Tryz.func18 #[.int .i64 d7,.int .i64 (l0.length:Int)] ?_;(with_reducible refine(Ezk.calls k d7 (l0.length:Int) e9 f3 f4 f6 _ g4.out).mono ?_);rintro e j3 ⟨j4,j5,rfl,j6,j7,hb⟩;refine⟨_,rfl,?_⟩;have j8:=rL j6;have j9:=rL j7;replace g7:=kb g7 hb;replace HB:=bB hb;clear hb j6 j7;obtain⟨l5,l6,l7,l8,l9,m0⟩:=bk3 g7;obtain⟨m3,m4,rfl⟩:=Kd.R_slice j8.out;obtain⟨m5,m6,rfl⟩:=Kd.R_slice j9.out))
  refine bodyPost_ret (results_ct rfl _ _ g5 26 #[.bool e9,.slice m3 f3.length m4,.slice m5 f4.length m6] (0,0) _ rfl (kQ g7) Tryz.underlying26 rfl (by kernel_rfl)) rfl ?_
  exact⟨_,_,eW,by exact Kd.R_mono (rT j8 g7) (fun _ hk=>hk),by exact Kd.R_mono (rT j9 g7) (fun _ hk=>hk),pB⟩
 ·rw[if_neg c3] at H;obtain⟨e6,e7⟩:=bI c3;obtain⟨rfl,rfl,rfl,rfl⟩:=q4 H;go_enter Tryz.func5,Tryz.ntmps5
  go_wp2_with (first|((with_reducible refine gd 2 rfl ?_);refine bx #[.bool false,.slice none 0 0,.slice none 0 0] 26 ?_;intro g5 hg m7 g7 hb;have g8:=gA w hg;have g9:=gA w hg;replace HB:=bB hb;clear hb hg)|((with_reducible refine gc 9 rfl ?_);refine gC 9 (some 6) Tryz.func9 #[.slice a6 l0.length a7] ?_;(with_reducible refine(Czy.calls k _ _ l0 d6 _ ?_ ?_ d9.out).mono ?_);exact cB b9;exact d0.out;rintro e w' ⟨rfl,⟨nd,rfl⟩⟩;refine⟨_,rfl,?_⟩;(try(rw[drewN_self m7];generalize hq_:World.drewN m7 _=m7;have n0_:Aside0 (m7.heap[g5]?=some (.cells #[.bool false,.slice none 0 0,.slice none 0 0] 26 (0,0))):=⟨by rw[← hq_];exact(kW g7)⟩;have n1_:Aside0 (Below w.heap.size w m7):=⟨by rw[← hq_];exact pB⟩;clear g7 HB hq_;have g7:=n0_;have HB:=n1_;clear n0_ n1_;have hcqgb260_0:m7.cell? ⟨g5,0,none⟩=some (.bool false):=(blk_cell g7.out 0).trans rfl;have hfqgb260_0:=blk_frozen g7.out 0;have hcqgb260_1:m7.cell? ⟨g5,1,none⟩=some (.slice none 0 0):=(blk_cell g7.out 1).trans rfl;have hfqgb260_1:=blk_frozen g7.out 1;have hcqgb260_2:m7.cell? ⟨g5,2,none⟩=some (.slice none 0 0):=(blk_cell g7.out 2).trans rfl;have hfqgb260_2:=blk_frozen g7.out 2));obtain⟨m8,m9,n0,n6,n7,n8⟩:=bk3 g7))
  refine bodyPost_ret (results_ct rfl _ _ g5 26 #[.bool false,.slice none 0 0,.slice none 0 0] (0,0) _ rfl (kQ g7) Tryz.underlying26 rfl (by kernel_rfl)) rfl ?_
  exact⟨_,_,eW,nK,nK,pB⟩

def Gzf.f (k:Nat) (a0:Int):Option (Bool × List Int × List Int × Int):=(Ezk.f k a0 1).bind fun bt272=>(some (bt272.1,bt272.2.1,bt272.2.2.1,bt272.2.2.2))
theorem Gzf.mono:∀ a6 k,LeO (Gzf.f k a6) (Gzf.f (k+1) a6):=by
 intro a6 k;unfold Gzf.f;have i0:=@Ezk.mono;exact mM
theorem Gzf.calls (k:Nat) (a6:Int) (a7:Bool) (a8:List Int) (b4:List Int) (b5:Int) (w:World) (h:Gzf.f k a6=some (a7,a8,b4,b5)) :
  Calls Tryz.prog 22 #[.int .i64 a6] w fun e w'=>∃ v1_ v2_:Value,e=.returned (.tuple #[.agg #[.bool a7,v1_,v2_],.int .i64 b5])∧Kd.R (Kd.int .i64) 3 w' w.heap.size (fun k_=>some k_≠(v2_:Value).ownBlock) v1_ a8∧Kd.R (Kd.int .i64) 3 w' w.heap.size (fun k_=>some k_≠(v1_:Value).ownBlock) v2_ b4∧Below w.heap.size w w':=by
 have hu26:=Tryz.underlying26;have HB:=aM (Below.refl w.heap.size w);have H:((Ezk.f k a6 1).bind fun b6=>(some (b6.1,b6.2.1,b6.2.2.1,b6.2.2.2)))=some (a7,a8,b4,b5):=h
 clear h;replace H:=bS H;obtain⟨⟨b7,b8,b9,d0⟩,d6,H⟩:=H;replace H:(some (b7,b8,b9,d0))=some (a7,a8,b4,b5):=H;have d7:=aM d6;clear d6;obtain⟨rfl,rfl,rfl,rfl⟩:=q4 H;go_enter Tryz.func22,Tryz.ntmps22
 go_wp2_with (first|((with_reducible refine gd 2 rfl ?_);refine bx #[.bool false,.slice none 0 0,.slice none 0 0] 26 ?_;intro d8 hg d9 e6 hb;have e7:=gA w hg;have e8:=gA w hg;replace HB:=bB hb;clear hb hg)|((with_reducible refine gc 18 rfl ?_);refine gC 18 (some 5) Tryz.func18 #[.int .i64 a6,.int .i64 1] ?_;(with_reducible refine(Ezk.calls k a6 1 b7 b8 b9 d0 _ d7.out).mono ?_);rintro e e9 ⟨f3,f4,rfl,f6,f9,hb⟩;refine⟨_,rfl,?_⟩;have g4:=rL f6;have g5:=rL f9;replace e6:=kb e6 hb;replace HB:=bB hb;clear hb f6 f9;obtain⟨g6,g7,g8,g9,j3,j4⟩:=bk3 e6;obtain⟨j5,j6,rfl⟩:=Kd.R_slice g4.out;obtain⟨j7,j8,rfl⟩:=Kd.R_slice g5.out))
 refine bodyPost_ret (results_ct rfl _ _ d8 26 #[.bool b7,.slice j5 b8.length j6,.slice j7 b9.length j8] (0,0) _ rfl (kQ e6) Tryz.underlying26 rfl (by kernel_rfl)) rfl ?_
 exact⟨_,_,eW,by exact Kd.R_mono (rT g4 e6) (fun _ hk=>hk),by exact Kd.R_mono (rT g5 e6) (fun _ hk=>hk),pB⟩

end Go.Proofs.YtokkiljkgejnhaaGreat.Print
