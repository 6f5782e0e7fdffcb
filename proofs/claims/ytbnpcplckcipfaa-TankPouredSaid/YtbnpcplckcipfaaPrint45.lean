import Derived.Test.YtbnpcplckcipfaaPrint0
import Derived.Test.YtbnpcplckcipfaaPrint39
import Derived.Test.YtbnpcplckcipfaaPrint42
namespace Go.Proofs.Ytbnpcplckcipfaa.Print
open Go.RowKit Go.Proofs.YtbnpcplckcipfaaW.PrintWords Go.Proofs.YtbnpcplckcipfaaW.PrintLast Go.Proofs.YtbnpcplckcipfaaW.PrintMore
attribute [local go_sem] dF dG eB eD dm dn dH dI
set_option linter.unusedVariables false
set_option maxRecDepth 100000
set_option maxHeartbeats 8000000
set_option linter.unusedSimpArgs false

mutual
def Azp.j0:Nat→List Int→List Int→Bool→Option (List Int × Int)
 | 0,_,_,_=>none
 | k+1,x0,x1,x16=>if x16=true then(some (([]:List Int),3)) else((some (([]:List Int):List Int)).bind fun y627=>(if y627.length+x0.length < 17592186044416 then(Azp.l0 k (y627 ++ x0) x1) else(none)))
def Azp.l0:Nat→List Int→List Int→Option (List Int × Int)
 | 0,_,_=>none
 | k+1,x0,x1=>if(x1.length:Int) > 0 then((Azj.f k x0 x1).bind fun bt633=>((some (([]:List Int):List Int)).bind fun y640=>(if y640.length+x1.length < 17592186044416 then(Azp.l0 k (y640 ++ x1) bt633.2.1) else(none)))) else(some (x0,0))
end
def Azp.f (k:Nat) (l0:List Int) (l1:List Int):Option (List Int × Int):=(Azz.f k l0).bind fun t625=>(if t625=true then((Azz.f k l1).bind fun t626=>(Azp.j0 k l0 l1 (!t626))) else(Azp.j0 k l0 l1 true))
theorem Azp.mono_l:∀ k,(∀ a6 a7 a8,LeO (Azp.j0 k a6 a7 a8) (Azp.j0 (k+1) a6 a7 a8))∧(∀ a6 a7,LeO (Azp.l0 k a6 a7) (Azp.l0 (k+1) a6 a7))
 | 0=>⟨fun _ _ _ r h=>by simp [Azp.j0] at h,fun _ _ r h=>by simp [Azp.l0] at h⟩
 | k+1=>by
  obtain⟨ih0,ih1⟩:=Azp.mono_l k;have i0:=@Azj.mono;have i1:=@Azz.mono;refine⟨?_,?_⟩
  ·intro a6 a7 a8;unfold Azp.j0;exact mM
  ·intro a6 a7;unfold Azp.l0;exact mM
theorem Azp.mono:∀ a6 a7 k,LeO (Azp.f k a6 a7) (Azp.f (k+1) a6 a7):=by
 intro a6 a7 k;obtain⟨ih0,ih1⟩:=Azp.mono_l k;unfold Azp.f;have i0:=@Azj.mono;have i1:=@Azz.mono;exact mM
theorem Azp.calls (k:Nat) (a6:Option Addr) (a7:Nat) (l0:List Int) (a8:Nat→Prop) (a9:Option Addr) (b4:Nat) (l1:List Int) (b5:List Int) (b6:Int) (w:World) (b7:cI w a6 l0) (b8:l0.length≤a7) (b9:Kd.V (Kd.int .i64) 3 w w.heap.size (fun k_=>a8 k_) (.slice a9 l1.length b4) l1) (h:Azp.f k l0 l1=some (b5,b6)) :
  Calls Try.prog 71 #[.slice a6 l0.length a7,.slice a9 l1.length b4] w fun e w'=>∃ v0_:Value,e=.returned (.tuple #[v0_,.int .i64 b6])∧rI w' w (fun k_=>(w.heap.size≤k_)) v0_ b5∧bw w w':=by
 have d6:=aM b7;have d7:=aM b8;clear b7 b8;have d8:=aM (show Kd.V (Kd.int .i64) 3 w w.heap.size (fun k_=>(a8 k_∨w.heap.size≤k_)) (.slice a9 l1.length b4) l1 from Kd.aC b9 (fun k_ hk=>.inl hk))
 have HB:=aM (Below.refl w.heap.size w);have H:((Azz.f k l0).bind fun d9=>(if d9=true then((Azz.f k l1).bind fun e6=>(Azp.j0 k l0 l1 (!e6))) else(Azp.j0 k l0 l1 true)))=some (b5,b6):=h
 clear h;have e7:=aM H;clear H;go_enter Try.func71,Try.ntmps71
 go_upto_region 1 with (fail)
 go_cut [16] (fun f6 wc=>∃ (kq:Nat) (f7:Bool),f6=.bool f7∧ae (Azp.j0 kq l0 l1 f7=some (b5,b6))∧ae (kq≤k)∧ae (Kd.V (Kd.int .i64) 3 wc w.heap.size (fun k_=>(a8 k_∨w.heap.size≤k_)) (.slice a9 l1.length b4) l1)∧ae (bw w wc))
 case first =>
  have H:=e7.out;clear e7;obtain⟨d9,f8,H⟩:=bT H;(try dsimp only at H);by_cases c5:d9=true
  ·subst c5;rw[if_pos rfl] at H;obtain⟨e6,g5,H⟩:=bT H;(try dsimp only at H);have H':=aM H;clear H;go_wp2_with (first|((with_reducible refine gc 70 rfl ?_);refine gC 70 (some 10) Try.func70 #[.slice a6 l0.length a7] ?_;(with_reducible refine(Azz.calls k _ _ l0 true _ ?_ ?_ f8.out).mono ?_);exact cB d6;exact d7.out;rintro e w' ⟨rfl,⟨nd,rfl⟩⟩;refine⟨_,rfl,?_⟩)|(go_at_call 70;(with_reducible refine(Azz.calls k _ _ l1 e6 _ ?_ ?_ g5.out).mono ?_);exact cV d8;exact lV d8;rintro e w' ⟨rfl,⟨nd,rfl⟩⟩))
   go_meet
   case rel=>exact⟨_,(!e6),sD,H',⟨by first|omega|exact Nat.le_refl _⟩,⟨vX d8.out⟩,⟨pB⟩⟩
  ·obtain rfl:=bN c5;rw[if_neg nF] at H
   have H':=aM H;clear H;go_wp2_with (first|((with_reducible refine gc 70 rfl ?_);refine gC 70 (some 10) Try.func70 #[.slice a6 l0.length a7] ?_;(with_reducible refine(Azz.calls k _ _ l0 false _ ?_ ?_ f8.out).mono ?_);exact cB d6;exact d7.out;rintro e w' ⟨rfl,⟨nd,rfl⟩⟩;refine⟨_,rfl,?_⟩))
   go_meet
   case rel=>exact⟨_,(true),sD,H',⟨by first|omega|exact Nat.le_refl _⟩,⟨vX d8.out⟩,⟨pB⟩⟩
 case rest =>
  clear e7;try clear b4
  obtain⟨kq,f7,rfl,HA,g8,g9,HB⟩:=hcut;cases kq with
  | zero=>exact absurd HA.out (by simp [Azp.j0])
  | succ j3 =>
   have H:=HA.out;clear HA;simp only[Azp.j0] at H;by_cases c7:f7=true
   ·subst c7;rw[if_pos rfl] at H;obtain⟨rfl,rfl⟩:=q2 H;go_wp2
    go_ret2
    exact⟨_,eW,nK,pB⟩
   ·obtain rfl:=bN c7;rw[if_neg nF] at H
    obtain⟨j4,j5⟩:∃ y_:List Int,y_=(([]:List Int)):=⟨_,rfl⟩;replace H:(if j4.length+l0.length < 17592186044416 then(Azp.l0 j3 (j4 ++ l0) l1) else(none))=some (b5,b6):=yE j5 H
    have j6:=aM j5;clear j5;by_cases c8:j4.length+l0.length < 17592186044416
    ·rw[if_pos c8] at H;have LMc8:=aM c8;clear c8;obtain⟨j7,j8⟩:∃ y_:List Int,y_=(j4 ++ l0):=⟨_,rfl⟩;replace H:(Azp.l0 j3 j7 l1)=some (b5,b6):=yE j8 H
     have j9:=aM j8;clear j8;have H':=aM H;clear H;go_wp2_with (first|((with_reducible refine gd 17 rfl ?_);refine iL 17 [] ?_;intro l5 l6 l7 hb;replace l7:=rY j6 l7;have l8:=rL (Kd.gB (M:=fun k_=>(w.heap.size≤k_)) l7 (ay pB) (fun k_ h_=>h_));replace g9:=vE g9 l7 hb;replace HB:=bB hb;clear hb l7)|((with_reducible refine dw (b:=.append) (xs:=#[.tmp 17,.tmp 18]) rfl ?_);at_builtin;refine Kd.gH (Kd.int .i64) (w0:=w) w.heap.size rfl (.tmp 17) (.tmp 18) 31 3 (.int .i64 0) 8 rfl Try.underlying31 info3 rfl (by decide) (by omega) l5 j4 l0 _ _ _ (fun k_=>(w.heap.size≤k_)) (fun _=>False) rfl rfl ?aO ?aR (fun _ _ h=>h) (fun _ h=>h.elim) ?aF ?aB ?aS ?aL ?_;(case aR=>exact cB d6);(case aB=>exact pB);(case aF=>exact(fun k_ hk=>(Nat.le_trans (ay pB) hk)));(case aO=>exact(rX (Kd.ah l8.out (fun _ hk=>hk.1))));(case aS=>exact(ay pB));(case aL=>have:=LMc8.out;omega);intro l9 m0 ho hb hg hat;rw[← j9.out] at ho;have m4:=aM (ho);replace g9:=aM (Kd.tF (ok:=(fun k_=>(a8 k_∨w.heap.size≤k_))) (vX g9.out) hg hat);replace HB:=aM (hb);clear l8 ho hb hg hat))
     go_loopg [0,1] j3 (fun kq m5 m6 w'=>∃ (m7:List Int) (m8:List Int),ae (Azp.l0 kq m7 m8=some (b5,b6))∧ae (kq≤j3)∧ae (rI w' w (fun k_=>(w.heap.size≤k_)) m5 m7)∧ae (Kd.V (Kd.int .i64) 3 w' w.heap.size (fun k_=>(a8 k_∨w.heap.size≤k_)∧oV m5 k_) m6 m8)∧ae (bw w w'))
     case atStart=>exact⟨(j7),(l1),H',⟨Nat.le_refl _⟩,⟨rX m4.out⟩,⟨vX g9.out⟩,⟨pB⟩⟩
     case round =>
      clear H';try clear b4
      obtain⟨m7,m8,HA,m9,n0,g9,HB⟩:=hrel;cases gk with
      | zero=>exact absurd HA.out (by simp [Azp.l0])
      | succ k2 =>
       have H:=HA.out;clear HA;simp only[Azp.l0] at H;by_cases n7:(m8.length:Int) > 0
       ·rw[if_pos n7] at H;have n8:decide (0 < (m8.length:Int))=true:=dE n7;have n9:decide (0 < m8.length)=true:=dE (by omega)
        clear n7;obtain⟨⟨o0,o8,o9⟩,p9,H⟩:=bT H;(try dsimp only at H);obtain⟨r6,r7⟩:∃ y_:List Int,y_=(([]:List Int)):=⟨_,rfl⟩;replace H:(if r6.length+m8.length < 17592186044416 then(Azp.l0 k2 (r6 ++ m8) o8) else(none))=some (b5,b6):=yE r7 H
        have r8:=aM r7;clear r7;obtain⟨r9,H⟩:=iO H;have LMc14:=aM r9;clear r9;obtain⟨t4,t5⟩:∃ y_:List Int,y_=(r6 ++ m8):=⟨_,rfl⟩;replace H:(Azp.l0 k2 t4 o8)=some (b5,b6):=yE t5 H
        have t6:=aM t5;clear t5;have H':=aM H;clear H;obtain⟨t7,t8,t9⟩:=Kd.iF g9.out;subst t9;obtain⟨z3,z4,rfl⟩:=Kd.aj n0.out;go_wp2_with (first|((with_reducible refine gc 86 rfl ?_);refine gC 86 (some 26) Try.func86 #[.slice z3 m7.length z4,.slice t7 m8.length t8] ?_;(with_reducible refine(Azj.calls k2 _ _ m7 _ _ m8 o0 o8 o9 _ ?_ ?_ ?_ ?_ p9.out).mono ?_);exact cR n0;exact lR n0;exact cV g9;exact lV g9;rintro e z5 ⟨z6,z7,rfl,z8,z9,hb⟩;refine⟨_,rfl,?_⟩;have B0:=rL (rn (Kd.gB (M:=fun k_=>(w.heap.size≤k_)) z8 (ay pB) (fun k_ h_=>h_)) n0);have B5:=rL (rn (Kd.gB (M:=fun k_=>(w.heap.size≤k_)) z9 (ay pB) (fun k_ h_=>h_)) n0);replace n0:=rO n0 hb z8 z9;replace g9:=vO g9 hb z8 z9;replace HB:=bB hb;clear hb z8 z9)|((with_reducible refine gd 30 rfl ?_);refine iL 30 [] ?_;intro B9 C0 C1 hb;replace C1:=rY r8 C1;have C2:=rL (rn (rn (rn (Kd.gB (M:=fun k_=>(w.heap.size≤k_)) C1 (ay pB) (fun k_ h_=>h_)) n0) B0) B5);replace n0:=rE n0 C1 hb;replace g9:=vE g9 C1 hb;replace B0:=rE B0 C1 hb;replace B5:=rE B5 C1 hb;replace HB:=bB hb;clear hb C1)|((with_reducible refine dw (b:=.append) (xs:=#[.tmp 30,.tmp 31]) rfl ?_);at_builtin;refine Kd.gH (Kd.int .i64) (w0:=w) w.heap.size rfl (.tmp 30) (.tmp 31) 31 3 (.int .i64 0) 8 rfl Try.underlying31 info3 rfl (by decide) (by omega) B9 r6 m8 _ _ _ (fun k_=>(w.heap.size≤k_)∧oN z3 m7.length z4 k_∧oV z6 k_∧oV z7 k_) (fun _=>False) rfl rfl ?aO ?aR (fun _ _ h=>h) (fun _ h=>h.elim) ?aF ?aB ?aS ?aL ?_;(case aR=>exact cV g9);(case aB=>exact pB);(case aF=>exact(fun k_ hk=>⟨(Nat.le_trans (ay pB) hk),Kd.fresh' (Kd.dS (rX n0.out)) k_ hk,Kd.fresh' (Kd.dS (rX B0.out)) k_ hk,Kd.fresh' (Kd.dS (rX B5.out)) k_ hk⟩));(case aO=>exact(rX (Kd.ah C2.out (fun _ hk=>⟨hk.1.1.1.1,⟨hk.1.1.2,⟨hk.1.2,hk.2⟩⟩⟩))));(case aS=>exact(ay pB));(case aL=>have:=LMc14.out;omega);intro C3 C4 ho hb hg hat;rw[← t6.out] at ho;have C6:=aM (ho);replace n0:=aM (Kd.iC (ok:=(fun k_=>(w.heap.size≤k_)∧oV z6 k_∧oV z7 k_)) (rX (Kd.ah n0.out (fun _ hk=>⟨⟨hk.1.1.1,⟨hk.1.1.2,hk.1.2⟩⟩,hk.2⟩))) hg hat);replace g9:=aM (Kd.tF (ok:=(fun k_=>(a8 k_∨w.heap.size≤k_)∧oN z3 m7.length z4 k_∧oV z6 k_∧oV z7 k_)) (by exact vX (Kd.aC g9.out (fun _ hk=>⟨⟨hk.1.1.1.1,⟨hk.1.1.1.2,⟨hk.1.1.2,hk.1.2⟩⟩⟩,hk.2⟩))) hg hat);replace B0:=aM (Kd.iC (ok:=(fun k_=>(w.heap.size≤k_)∧oN z3 m7.length z4 k_∧oV z7 k_)) (rX (Kd.ah B0.out (fun _ hk=>⟨⟨hk.1.1.1,⟨hk.1.2,hk.1.1.2⟩⟩,hk.2⟩))) hg hat);replace B5:=aM (Kd.iC (ok:=(fun k_=>(w.heap.size≤k_)∧oN z3 m7.length z4 k_∧oV z6 k_)) (rX (Kd.ah B5.out (fun _ hk=>⟨⟨hk.1.1.1,⟨hk.1.2,hk.1.1.2⟩⟩,hk.2⟩))) hg hat);replace HB:=aM (hb);clear C2 ho hb hg hat))
        go_roundg k2
        case measure=>have:=g8.out;have:=m9.out;omega
        case rel=>exact⟨(t4),(o8),H',⟨by have:=g8.out;have:=m9.out;omega⟩,⟨by exact rX (Kd.ah C6.out (fun _ hk=>hk.1))⟩,⟨Kd.aC (Kd.R_V (rX B5.out)) (fun k_ hk=>by first|exact⟨(.inr hk.1.1),hk.2⟩|exact⟨(.inr (hk.1)),hk.2⟩|exact(.inr (hk)))⟩,⟨pB⟩⟩
       ·rw[if_neg n7] at H;have n8:decide (0 < (m8.length:Int))=false:=decide_eq_false n7;have n9:decide (0 < m8.length)=false:=decide_eq_false (by omega)
        clear n7;obtain⟨rfl,rfl⟩:=q2 H;obtain⟨C7,C8,C9⟩:=Kd.iF g9.out;subst C9;go_wp2
        go_ret2
        exact⟨_,eW,rX n0.out,pB⟩
    ·rw[if_neg c8] at H;exact absurd H (by simp)

def Czb.f (k:Nat) (a0:Bool) (l1:List Int) (l2:List Int):Option (Bool × List Int × List Int):=(Azp.f k l1 l2).bind fun bt647=>((Azj.f k l1 bt647.1).bind fun bt651=>((Azj.f k l2 bt647.1).bind fun bt658=>(if a0=true then(some (decide (0 < bt651.1.length),bt651.1,bt658.1)) else(some (false,bt651.1,bt658.1)))))
theorem Czb.mono:∀ a6 a7 a8 k,LeO (Czb.f k a6 a7 a8) (Czb.f (k+1) a6 a7 a8):=by
 intro a6 a7 a8 k;unfold Czb.f;have i0:=@Azj.mono;have i1:=@Azp.mono;exact mM
theorem Czb.calls (k:Nat) (a6:Bool) (a7:Option Addr) (a8:Nat) (l1:List Int) (a9:Option Addr) (c2:Nat) (l2:List Int) (b4:Bool) (b5:List Int) (b6:List Int) (w:World) (b7:cI w a7 l1) (b8:l1.length≤a8) (b9:cI w a9 l2) (d6:l2.length≤c2) (h:Czb.f k a6 l1 l2=some (b4,b5,b6)) :
  Calls Try.prog 58 #[.bool a6,.slice a7 l1.length a8,.slice a9 l2.length c2] w fun e w'=>∃ v1_ v2_:Value,e=.returned (.agg #[.bool b4,v1_,v2_])∧rI w' w (oV v2_) v1_ b5∧rI w' w (oV v1_) v2_ b6∧bw w w':=by
 have hu33:=Try.underlying33;have d7:=aM b7;have d8:=aM b8;clear b7 b8;have d9:=aM b9;have e6:=aM d6;clear b9 d6;have HB:=aM (Below.refl w.heap.size w);have H:((Azp.f k l1 l2).bind fun e7=>((Azj.f k l1 e7.1).bind fun f6=>((Azj.f k l2 e7.1).bind fun f7=>(if a6=true then(some (decide (0 < f6.1.length),f6.1,f7.1)) else(some (false,f6.1,f7.1))))))=some (b4,b5,b6):=h
 clear h;obtain⟨⟨f8,g5⟩,g8,H⟩:=bT H;(try dsimp only at H);obtain⟨⟨g9,j3,j4⟩,j5,H⟩:=bT H;(try dsimp only at H);obtain⟨⟨j6,j7,j8⟩,j9,H⟩:=bT H;(try dsimp only at H);have l5:=aM H;clear H;go_enter Try.func58,Try.ntmps58
 go_upto_region 4 with (first|((with_reducible refine gd 6 rfl ?_);refine bzg 33 ?_;intro l6 hg l7 l8 hb;have l9:=gA w hg;replace HB:=bB hb;clear hb hg)|((with_reducible refine gc 71 rfl ?_);refine gC 71 (some 18) Try.func71 #[.slice a7 l1.length a8,.slice a9 l2.length c2] ?_;(with_reducible refine(Azp.calls k _ _ l1 (fun k_=>k_ < w.heap.size) _ _ l2 f8 g5 _ ?_ ?_ ?_ g8.out).mono ?_);exact cB d7;exact d8.out;exact Kd.jI e6.out (Kd.eX (Kd.C_F (Kd.dZ .i64) d9.out) pB);rintro e m4 ⟨m5,rfl,m6,hb⟩;refine⟨_,rfl,?_⟩;have m7:=rL (Kd.ah (ok':=fun k_=>True) m6 (fun _ hk_=>trivial));replace l8:=kb l8 hb;replace HB:=bB hb;clear hb m6;obtain⟨m8,m9,rfl⟩:=Kd.aj m7.out)|((with_reducible refine gc 86 rfl ?_);refine gC 86 (some 24) Try.func86 #[.slice a7 l1.length a8,.slice m8 f8.length m9] ?_;(with_reducible refine(Azj.calls k _ _ l1 _ _ f8 g9 j3 j4 _ ?_ ?_ ?_ ?_ j5.out).mono ?_);exact cB d7;exact d8.out;exact cR m7;exact lR m7;rintro e n0 ⟨n7,n8,rfl,m6,n9,hb⟩;refine⟨_,rfl,?_⟩;have o0:=rL (rn m6 m7);have o8:=rL (rn n9 m7);replace m7:=rO m7 hb m6 n9;replace l8:=kb l8 hb;replace HB:=bB hb;clear hb m6 n9)|((with_reducible refine gc 86 rfl ?_);refine gC 86 (some 31) Try.func86 #[.slice a9 l2.length c2,.slice m8 f8.length m9] ?_;(with_reducible refine(Azj.calls k _ _ l2 _ _ f8 j6 j7 j8 _ ?_ ?_ ?_ ?_ j9.out).mono ?_);exact cB d9;exact e6.out;exact cR m7;exact lR m7;rintro e o9 ⟨p9,r6,rfl,m6,n9,hb⟩;refine⟨_,rfl,?_⟩;have r7:=rL (rn (rn (rn m6 m7) o0) o8);have r8:=rL (rn (rn (rn n9 m7) o0) o8);replace m7:=rO m7 hb m6 n9;replace o0:=rO o0 hb m6 n9;replace o8:=rO o8 hb m6 n9;replace l8:=kb l8 hb;replace HB:=bB hb;clear hb m6 n9))
 have H:=l5.out;clear l5;by_cases r9:a6=true
 ·subst r9;rw[if_pos rfl] at H;obtain⟨rfl,rfl,rfl⟩:=q3 H;obtain⟨t4,t5,rfl⟩:=Kd.aj o0.out;obtain⟨t6,t7,rfl⟩:=Kd.aj r7.out;obtain⟨t8,t9,z3,z4,z5,z6⟩:=bk3 l8;go_wp2
  refine bodyPost_ret (results_cell_row rfl _ _ l6 33 #[.bool (decide (0 < g9.length)),.slice t4 g9.length t5,.slice t6 j6.length t7] (0,0) _ rfl (kQ l8) Try.underlying33 rfl (by kernel_rfl)) rfl ?_
  exact⟨_,_,eW,by exact Kd.ah (rT o0 l8) (fun _ hk=>hk.1.2),by exact Kd.ah (rT r7 l8) (fun _ hk=>hk.1.2),pB⟩
 ·obtain rfl:=bN r9;rw[if_neg nF] at H
  obtain⟨rfl,rfl,rfl⟩:=q3 H;obtain⟨z7,z8,rfl⟩:=Kd.aj r7.out;obtain⟨z9,B0,rfl⟩:=Kd.aj o0.out;obtain⟨B5,B9,C0,C1,C2,C3⟩:=bk3 l8;go_wp2
  refine bodyPost_ret (results_cell_row rfl _ _ l6 33 #[.bool false,.slice z9 g9.length B0,.slice z7 j6.length z8] (0,0) _ rfl (kQ l8) Try.underlying33 rfl (by kernel_rfl)) rfl ?_
  exact⟨_,_,eW,by exact Kd.ah (rT o0 l8) (fun _ hk=>hk.1.2),by exact Kd.ah (rT r7 l8) (fun _ hk=>hk.1.2),pB⟩


def Bzm.l0:Nat→Int→List Int→Option (List Int × Int)
 | 0,_,_=>none
 | k+1,x0,x4=>if x0 > 0 then(if x4.length < 17592186044416 then(Bzm.l0 k (wrap64 (Int.tdiv x0 1000000000)) (x4 ++ [Int.tmod x0 1000000000])) else(none)) else(some (x4,0))
def Bzm.f (k:Nat) (a0:Int):Option (List Int × Int):=if a0 < 0 then(some (([]:List Int),1)) else(Bzm.l0 k a0 ([]:List Int))
theorem Bzm.mono_l:∀ k,(∀ a6 a7,LeO (Bzm.l0 k a6 a7) (Bzm.l0 (k+1) a6 a7))
 | 0=>fun _ _ r h=>by simp [Bzm.l0] at h
 | k+1=>by
  have ih0:=Bzm.mono_l k
  ·intro a6 a7;unfold Bzm.l0;exact mM
theorem Bzm.mono:∀ a6 k,LeO (Bzm.f k a6) (Bzm.f (k+1) a6):=by
 intro a6 k;have ih0:=Bzm.mono_l k;unfold Bzm.f;exact mM
theorem Bzm.calls (k:Nat) (a6:Int) (a7:List Int) (a8:Int) (w:World) (h:Bzm.f k a6=some (a7,a8)) :
  Calls Try.prog 60 #[.int .i64 a6] w fun e w'=>∃ v0_:Value,e=.returned (.tuple #[v0_,.int .i64 a8])∧rI w' w (fun _=>True) v0_ a7∧bw w w':=by
 have HB:=aM (Below.refl w.heap.size w);have H:(if a6 < 0 then(some (([]:List Int),1)) else(Bzm.l0 k a6 ([]:List Int)))=some (a7,a8):=h
 clear h;replace H:=iD H;rcases H with⟨a9,H⟩|⟨a9,H⟩
 ·obtain⟨rfl,rfl⟩:=q2 H;go_enter Try.func60,Try.ntmps60
  go_wp2
  go_ret2
  exact⟨_,eW,nK,pB⟩
 ·have H':=aM H;clear H;go_enter Try.func60,Try.ntmps60
  go_wp2
  go_loopg [0,4] k (fun kq b4 b5 w'=>∃ (b6:Int) (b7:List Int),b4=.int .i64 b6∧ae (Bzm.l0 kq b6 b7=some (a7,a8))∧ae (kq≤k)∧ae (rI w' w (fun _=>True) b5 b7)∧ae (bw w w'))
  case atStart=>exact⟨(a6),(([]:List Int)),sD,H',⟨Nat.le_refl _⟩,⟨nK⟩,⟨pB⟩⟩
  case round =>
   clear H';try clear c2
   obtain⟨b6,b7,rfl,HA,b8,b9,HB⟩:=hrel;cases gk with
   | zero=>exact absurd HA.out (by simp [Bzm.l0])
   | succ k1 =>
    have H:=HA.out;clear HA;simp only[Bzm.l0] at H;by_cases c3:b6 > 0
    ·rw[if_pos c3] at H;have d6:decide (0 < b6)=true:=dE c3;clear c3;obtain⟨c4,H⟩:=iO H;have LMc4:=aM c4;clear c4;obtain⟨d7,d8⟩:∃ y_:List Int,y_=(b7 ++ [Int.tmod b6 1000000000]):=⟨_,rfl⟩;replace H:(Bzm.l0 k1 (wrap64 (Int.tdiv b6 1000000000)) d7)=some (a7,a8):=yE d8 H
     have d9:=aM d8;clear d8;have H':=aM H;clear H;go_wp2_with (first|((with_reducible refine dw (b:=.append) (xs:=#[.tmp 9,.tmp 12]) rfl ?_);at_builtin;refine Kd.jy (Kd.int .i64) (w0:=w) w.heap.size rfl (.tmp 9) (.tmp 12) 31 3 (.int .i64 0) 8 rfl Try.underlying31 info3 rfl (by decide) (by omega) u4 b7 (Int.tmod b6 1000000000) [.int .i64 (Int.tmod b6 1000000000)] (fun _=>True) (fun _=>False) rfl rfl ?aP (fun _ hk=>hk.elim) ?aF ?aO ?aB ?aS ?aL ?_;(case aP=>exact rfl);(case aB=>exact pB);(case aF=>exact(fun _ _=>trivial));(case aO=>exact(rX b9.out));(case aS=>exact(ay pB));(case aL=>have:=LMc4.out;omega);intro e6 e7 ho hb hg hat;rw[← d9.out] at ho;have f6:=aM (ho);replace HB:=aM (hb);clear b9 ho hb hg hat))
     go_roundg k1
     case measure=>have:=b8.out;omega
     case rel=>exact⟨(wrap64 (Int.tdiv b6 1000000000)),(d7),sD,H',⟨by have:=b8.out;omega⟩,⟨rX f6.out⟩,⟨pB⟩⟩
    ·rw[if_neg c3] at H;have d6:decide (0 < b6)=false:=decide_eq_false c3;clear c3;obtain⟨rfl,rfl⟩:=q2 H;go_wp2
     go_ret2
     exact⟨_,eW,rX b9.out,pB⟩

def Azy.j0:Nat→Int→Int→Bool→Option (Bool × List Int × List Int × Int)
 | 0,_,_,_=>none
 | k+1,x0,x1,x23=>if x23=true then(some (false,([]:List Int),([]:List Int),1)) else(if x1=0 then(some (false,([]:List Int),([]:List Int),16)) else((Bzm.f k (mx x0 (wrap64 (-x0)))).bind fun bt669=>((Bzm.f k (mx x1 (wrap64 (-x1)))).bind fun bt673=>((Czb.f k ((decide (x0 < 0)) != (decide (x1 < 0))) bt669.1 bt673.1).bind fun bt677=>(some (bt677.1,bt677.2.1,bt677.2.2,0))))))
def Azy.f (k:Nat) (a0:Int) (a1:Int):Option (Bool × List Int × List Int × Int):=if a0 < (-1125899906842624) then(Azy.j0 k a0 a1 true) else(if a0 > 1125899906842624 then(Azy.j0 k a0 a1 true) else(if a1 < (-1125899906842624) then(Azy.j0 k a0 a1 true) else(Azy.j0 k a0 a1 (decide (a1 > 1125899906842624)))))
theorem Azy.mono_l:∀ k,(∀ a6 a7 a8,LeO (Azy.j0 k a6 a7 a8) (Azy.j0 (k+1) a6 a7 a8))
 | 0=>fun _ _ _ r h=>by simp [Azy.j0] at h
 | k+1=>by
  have ih0:=Azy.mono_l k
  ·intro a6 a7 a8;unfold Azy.j0;have i0:=@Bzm.mono;have i1:=@Czb.mono;exact mM
theorem Azy.mono:∀ a6 a7 k,LeO (Azy.f k a6 a7) (Azy.f (k+1) a6 a7):=by
 intro a6 a7 k;have ih0:=Azy.mono_l k;unfold Azy.f;have i0:=@Bzm.mono;have i1:=@Czb.mono;exact mM
theorem Azy.calls (k:Nat) (a6:Int) (a7:Int) (a8:Bool) (a9:List Int) (b4:List Int) (b5:Int) (w:World) (h:Azy.f k a6 a7=some (a8,a9,b4,b5)) :
  Calls Try.prog 33 #[.int .i64 a6,.int .i64 a7] w fun e w'=>∃ v1_ v2_:Value,e=.returned (.tuple #[.agg #[.bool a8,v1_,v2_],.int .i64 b5])∧rI w' w (oV v2_) v1_ a9∧rI w' w (oV v1_) v2_ b4∧bw w w':=by
 have hu33:=Try.underlying33;have HB:=aM (Below.refl w.heap.size w);have H:(if a6 < (-1125899906842624) then(Azy.j0 k a6 a7 true) else(if a6 > 1125899906842624 then(Azy.j0 k a6 a7 true) else(if a7 < (-1125899906842624) then(Azy.j0 k a6 a7 true) else(Azy.j0 k a6 a7 (decide (a7 > 1125899906842624))))))=some (a8,a9,b4,b5):=h
 clear h;have b6:=aM H;clear H;go_enter Try.func33,Try.ntmps33
 go_upto_region 1 with (first|((with_reducible refine gd 4 rfl ?_);refine bz 33 ?_;intro b7 hg b8 b9 hb;have d6:=gA w hg;replace HB:=bB hb;clear hb hg))
 (try simp only[Act.put,sA,sZ,sC])
 go_cut [23] (fun d8 wc=>∃ (kq:Nat) (d9:Bool),d8=.bool d9∧ae (Azy.j0 kq a6 a7 d9=some (a8,a9,b4,b5))∧ae (kq≤k)∧ae (wc.heap[b7]?=some (.cells #[.bool false,(.slice none 0 0),(.slice none 0 0)] 33 (0,0)))∧ae (bw w wc))
 case first =>
  have H:=b6.out;clear b6;replace H:=iD H;rcases H with⟨e6,H⟩|⟨e6,H⟩
  ·(first|rw[e6]|(simp only[aH,bg];rw[e6])|skip)
   have H':=aM H;clear H;go_wp2
   go_meet
   case rel=>exact⟨_,(true),sD,H',⟨by first|omega|exact Nat.le_refl _⟩,⟨by exact kW b9⟩,⟨pB⟩⟩
  ·(first|rw[e6]|(simp only[aH,bg];rw[e6])|skip)
   by_cases c6:a6 > 1125899906842624
   ·rw[if_pos c6] at H;have e7:decide (1125899906842624 < a6)=true:=dE c6;clear c6;have H':=aM H;clear H;go_wp2
    go_meet
    case rel=>exact⟨_,(true),sD,H',⟨by first|omega|exact Nat.le_refl _⟩,⟨by exact kW b9⟩,⟨pB⟩⟩
   ·rw[if_neg c6] at H;have e7:decide (1125899906842624 < a6)=false:=decide_eq_false c6;clear c6;replace H:=iD H;rcases H with⟨f6,H⟩|⟨f6,H⟩
    ·have H':=aM H;clear H;go_wp2
     go_meet
     case rel=>exact⟨_,(true),sD,H',⟨by first|omega|exact Nat.le_refl _⟩,⟨by exact kW b9⟩,⟨pB⟩⟩
    ·have H':=aM H;clear H;go_wp2
     go_meet
     case rel=>exact⟨_,(decide (a7 > 1125899906842624)),sD,H',⟨by first|omega|exact Nat.le_refl _⟩,⟨by exact kW b9⟩,⟨pB⟩⟩
 case rest =>
  clear b6;try clear f7
  obtain⟨kq,d9,rfl,HA,f8,b9,HB⟩:=hcut;cases kq with
  | zero=>exact absurd HA.out (by simp [Azy.j0])
  | succ g5 =>
   have H:=HA.out;clear HA;simp only[Azy.j0] at H;by_cases c8:d9=true
   ·subst c8;rw[if_pos rfl] at H;obtain⟨rfl,rfl,rfl,rfl⟩:=q4 H;obtain⟨g8,g9,j3,j4,j5,j6⟩:=bk3 b9;go_wp2
    refine rC b7 33 #[.bool false,.slice none 0 0,.slice none 0 0] (kQ b9) Try.underlying33 ?_
    exact⟨_,_,eW,nK,nK,pB⟩
   ·obtain rfl:=bN c8;rw[if_neg nF] at H
    replace H:=iE H;rcases H with⟨j7,j8,H⟩|⟨c10,j7,j8,H⟩
    ·obtain⟨rfl,rfl,rfl,rfl⟩:=q4 H;obtain⟨j9,l5,l6,l7,l8,l9⟩:=bk3 b9;go_wp2
     refine rC b7 33 #[.bool false,.slice none 0 0,.slice none 0 0] (kQ b9) Try.underlying33 ?_
     exact⟨_,_,eW,nK,nK,pB⟩
    ·obtain⟨m0,m4⟩:∃ j_:Int,(mx a6 (wrap64 (-a6)))=j_:=⟨_,rfl⟩;replace H:((Bzm.f g5 (m0)).bind fun m5=>((Bzm.f g5 (mx a7 (wrap64 (-a7)))).bind fun m6=>((Czb.f g5 ((decide (a6 < 0)) != (decide (a7 < 0))) m5.1 m6.1).bind fun m7=>(some (m7.1,m7.2.1,m7.2.2,0)))))=some (a8,a9,b4,b5):=by first|(rw[m4] at H;exact H)|(simp only[m4] at H ⊢;exact H)
     have m8:(if a6 < (wrap64 (-a6)) then(wrap64 (-a6)) else a6)=m0:=m4
     obtain⟨⟨m9,n0⟩,n7,H⟩:=bT H;(try dsimp only at H);obtain⟨n8,n9⟩:∃ j_:Int,(mx a7 (wrap64 (-a7)))=j_:=⟨_,rfl⟩;replace H:((Bzm.f g5 (n8)).bind fun m6=>((Czb.f g5 ((decide (a6 < 0)) != (decide (a7 < 0))) m9 m6.1).bind fun m7=>(some (m7.1,m7.2.1,m7.2.2,0))))=some (a8,a9,b4,b5):=by first|(rw[n9] at H;exact H)|(simp only[n9] at H ⊢;exact H)
     (try rw[n9] at n7)
     have o0:(if a7 < (wrap64 (-a7)) then(wrap64 (-a7)) else a7)=n8:=n9
     obtain⟨⟨o8,o9⟩,p9,H⟩:=bT H;(try dsimp only at H);replace H:=bS H;obtain⟨⟨r6,r7,r8⟩,r9,H⟩:=H;replace H:(some (r6,r7,r8,0))=some (a8,a9,b4,b5):=H;have t4:=aM r9;clear r9;obtain⟨rfl,rfl,rfl,rfl⟩:=q4 H;go_wp2_with (first|((with_reducible refine df (f:=60) rfl ?_);refine gJ (some 33) rfl rfl Try.func60 (by kernel_rfl) rfl #[.int .i64 m0] rfl (by(try simp only[List.map_toArray,List.map_cons,List.map_nil]);first|done|(simp only[m4];rfl)|rfl|(simp only[List.length_drop,List.length_take];rfl)) ?_;(with_reducible refine(Bzm.calls g5 m0 m9 n0 _ n7.out).mono ?_);rintro e t5 ⟨t6,rfl,t7,hb⟩;refine⟨_,rfl,?_⟩;have t8:=rL t7;replace b9:=kb b9 hb;replace HB:=bB hb;clear hb t7)|((with_reducible refine df (f:=60) rfl ?_);refine gJ (some 41) rfl rfl Try.func60 (by kernel_rfl) rfl #[.int .i64 n8] rfl (by(try simp only[List.map_toArray,List.map_cons,List.map_nil]);first|done|(simp only[n9];rfl)|rfl|(simp only[List.length_drop,List.length_take];rfl)) ?_;(with_reducible refine(Bzm.calls g5 n8 o8 o9 _ p9.out).mono ?_);rintro e t9 ⟨z3,rfl,t7,hb⟩;refine⟨_,rfl,?_⟩;have z4:=rL (rn t7 t8);replace t8:=rE t8 t7 hb;replace b9:=kb b9 hb;replace HB:=bB hb;clear hb t7;obtain⟨z5,z6,rfl⟩:=Kd.aj t8.out;obtain⟨z7,z8,rfl⟩:=Kd.aj z4.out)|((with_reducible refine gc 58 rfl ?_);refine gC 58 (some 51) Try.func58 #[.bool ((decide (a6 < 0)) != (decide (a7 < 0))),.slice z5 m9.length z6,.slice z7 o8.length z8] ?_;(with_reducible refine(Czb.calls g5 ((decide (a6 < 0)) != (decide (a7 < 0))) _ _ m9 _ _ o8 r6 r7 r8 _ ?_ ?_ ?_ ?_ t4.out).mono ?_);exact cR t8;exact lR t8;exact cR z4;exact lR z4;rintro e z9 ⟨B0,B5,rfl,t7,B9,hb⟩;refine⟨_,rfl,?_⟩;have C0:=rL (rn (rn t7 t8) z4);have C1:=rL (rn (rn B9 t8) z4);replace t8:=rO t8 hb t7 B9;replace z4:=rO z4 hb t7 B9;replace b9:=kb b9 hb;replace HB:=bB hb;clear hb t7 B9;obtain⟨C2,C3,C4,C6,C7,C8⟩:=bk3 b9;obtain⟨C9,D4,rfl⟩:=Kd.aj C0.out;obtain⟨D5,D6,rfl⟩:=Kd.aj C1.out))
     refine rC b7 33 #[.bool r6,.slice C9 r7.length D4,.slice D5 r8.length D6] (kQ b9) Try.underlying33 ?_
     exact⟨_,_,by first|rfl|(simp [bv,bC] <;> rfl)|(simp only[← m4,← n9];first|rfl|(simp [bv,bC] <;> rfl))|(simp [*,bv,bC] <;> rfl),by exact Kd.ah (rT C0 b9) (fun _ hk=>hk.1.1),by exact Kd.ah (rT C1 b9) (fun _ hk=>hk.1.1),pB⟩

def Fzj.f (k:Nat) (a0:Int):Option (Bool × List Int × List Int × Int):=(Azy.f k a0 1).bind fun bt685=>(some (bt685.1,bt685.2.1,bt685.2.2.1,bt685.2.2.2))
theorem Fzj.mono:∀ a6 k,LeO (Fzj.f k a6) (Fzj.f (k+1) a6):=by
 intro a6 k;unfold Fzj.f;have i0:=@Azy.mono;exact mM
theorem Fzj.calls (k:Nat) (a6:Int) (a7:Bool) (a8:List Int) (a9:List Int) (b4:Int) (w:World) (h:Fzj.f k a6=some (a7,a8,a9,b4)) :
  Calls Try.prog 40 #[.int .i64 a6] w fun e w'=>∃ v1_ v2_:Value,e=.returned (.tuple #[.agg #[.bool a7,v1_,v2_],.int .i64 b4])∧rI w' w (oV v2_) v1_ a8∧rI w' w (oV v1_) v2_ a9∧bw w w':=by
 have hu33:=Try.underlying33;have HB:=aM (Below.refl w.heap.size w);have H:((Azy.f k a6 1).bind fun b5=>(some (b5.1,b5.2.1,b5.2.2.1,b5.2.2.2)))=some (a7,a8,a9,b4):=h
 clear h;replace H:=bS H;obtain⟨⟨b6,b7,b8,b9⟩,d6,H⟩:=H;replace H:(some (b6,b7,b8,b9))=some (a7,a8,a9,b4):=H;have d7:=aM d6;clear d6;obtain⟨rfl,rfl,rfl,rfl⟩:=q4 H;go_enter Try.func40,Try.ntmps40
 go_wp2_with (first|((with_reducible refine gd 2 rfl ?_);refine bz 33 ?_;intro d8 hg d9 e6 hb;have e7:=gA w hg;replace HB:=bB hb;clear hb hg)|((with_reducible refine gc 33 rfl ?_);refine gC 33 (some 5) Try.func33 #[.int .i64 a6,.int .i64 1] ?_;(with_reducible refine(Azy.calls k a6 1 b6 b7 b8 b9 _ d7.out).mono ?_);rintro e f7 ⟨f8,g5,rfl,g8,g9,hb⟩;refine⟨_,rfl,?_⟩;have j3:=rL g8;have j4:=rL g9;replace e6:=kb e6 hb;replace HB:=bB hb;clear hb g8 g9;obtain⟨j5,j6,j7,j8,j9,l5⟩:=bk3 e6;obtain⟨l6,l7,rfl⟩:=Kd.aj j3.out;obtain⟨l8,l9,rfl⟩:=Kd.aj j4.out))
 refine rC d8 33 #[.bool b6,.slice l6 b7.length l7,.slice l8 b8.length l9] (kQ e6) Try.underlying33 ?_
 exact⟨_,_,eW,by exact Kd.ah (rT j3 e6) (fun _ hk=>hk),by exact Kd.ah (rT j4 e6) (fun _ hk=>hk),pB⟩

def Dzf.f (k:Nat) (a0:Int):Option (Bool × List Int × List Int):=(Fzj.f k a0).bind fun bt694=>(some (bt694.1,bt694.2.1,bt694.2.2.1))
theorem Dzf.mono:∀ a6 k,LeO (Dzf.f k a6) (Dzf.f (k+1) a6):=by
 intro a6 k;unfold Dzf.f;have i0:=@Fzj.mono;exact mM
theorem Dzf.calls (k:Nat) (a6:Int) (a7:Bool) (a8:List Int) (a9:List Int) (w:World) (h:Dzf.f k a6=some (a7,a8,a9)) :
  Calls Try.prog 31 #[.int .i64 a6] w fun e w'=>∃ v1_ v2_:Value,e=.returned (.agg #[.bool a7,v1_,v2_])∧rI w' w (oV v2_) v1_ a8∧rI w' w (oV v1_) v2_ a9∧bw w w':=by
 have hu33:=Try.underlying33;have HB:=aM (Below.refl w.heap.size w);have H:((Fzj.f k a6).bind fun b4=>(some (b4.1,b4.2.1,b4.2.2.1)))=some (a7,a8,a9):=h
 clear h;replace H:=bS H;obtain⟨⟨b5,b6,b7,b8⟩,b9,H⟩:=H;replace H:(some (b5,b6,b7))=some (a7,a8,a9):=H;have d6:=aM b9;clear b9;obtain⟨rfl,rfl,rfl⟩:=q3 H;go_enter Try.func31,Try.ntmps31
 go_wp2_with (first|((with_reducible refine gd 2 rfl ?_);refine bz 33 ?_;intro d7 hg d8 d9 hb;have e6:=gA w hg;replace HB:=bB hb;clear hb hg)|((with_reducible refine gc 40 rfl ?_);refine gC 40 (some 7) Try.func40 #[.int .i64 a6] ?_;(with_reducible refine(Fzj.calls k a6 b5 b6 b7 b8 _ d6.out).mono ?_);rintro e f6 ⟨f7,f8,rfl,g5,g8,hb⟩;refine⟨_,rfl,?_⟩;have g9:=rL g5;have j3:=rL g8;replace d9:=kb d9 hb;replace HB:=bB hb;clear hb g5 g8)|((with_reducible refine gd 3 rfl ?_);refine bz 33 ?_;intro j4 hg j5 j6 hb;have j7:=gA w hg;have j9:=nl hg d9;have l5:=ng hg d9;replace g9:=rB g9 hb;replace j3:=rB j3 hb;replace d9:=kb d9 hb;replace HB:=bB hb;clear hb hg;have l6:=l5.out;have l7:=j9.out;obtain⟨l8,l9,m0,m4,m5,m6⟩:=bk3 j6;obtain⟨m7,m8,rfl⟩:=Kd.aj g9.out;obtain⟨m9,n0,rfl⟩:=Kd.aj j3.out;obtain⟨n7,n8,n9,o0,o8,o9⟩:=bk3 d9))
 refine bodyPost_ret (results_cell_row rfl _ _ d7 33 #[.bool b5,.slice m7 b6.length m8,.slice m9 b7.length n0] (0,0) _ rfl (by refine bD ?_;refine au (cs:=#[.bool b5,.slice m7 b6.length m8,.slice none 0 0]) ?_ 2 _ rfl;refine bD ?_;refine au (cs:=#[.bool b5,.slice none 0 0,.slice none 0 0]) ?_ 1 _ rfl;refine bD ?_;refine au (cs:=#[.bool false,.slice none 0 0,.slice none 0 0]) ?_ 0 _ rfl;refine bD ?_;refine av ?_ j9.out _;refine bD ?_;refine av ?_ j9.out _;refine bD ?_;refine av ?_ j9.out _;(with_reducible repeat(first|refine cK ?_ _|refine az ?_|refine aK ?_ _));exact d9.out) Try.underlying33 rfl (by kernel_rfl)) rfl ?_
 exact⟨_,_,eW,by exact rX (Kd.ah (Kd.bF (p:=⟨d7,2,none⟩) (Kd.bF (p:=⟨d7,1,none⟩) (Kd.bF (p:=⟨d7,0,none⟩) (Kd.bF (p:=⟨j4,2,none⟩) (Kd.bF (p:=⟨j4,1,none⟩) (Kd.bF (p:=⟨j4,0,none⟩) (Kd.aA (Kd.aA g9.out j6.out (by decide)) d9.out (by decide)) (fun _ hk=>hk.1.2) (.bool b5)) (fun _ hk=>hk.1.2) (.slice m7 b6.length m8)) (fun _ hk=>hk.1.2) (.slice m9 b7.length n0)) (fun _ hk=>hk.2) (.bool b5)) (fun _ hk=>hk.2) (.slice m7 b6.length m8)) (fun _ hk=>hk.2) (.slice m9 b7.length n0)) (fun _ hk=>hk.1.1)),by exact rX (Kd.ah (Kd.bF (p:=⟨d7,2,none⟩) (Kd.bF (p:=⟨d7,1,none⟩) (Kd.bF (p:=⟨d7,0,none⟩) (Kd.bF (p:=⟨j4,2,none⟩) (Kd.bF (p:=⟨j4,1,none⟩) (Kd.bF (p:=⟨j4,0,none⟩) (Kd.aA (Kd.aA j3.out j6.out (by decide)) d9.out (by decide)) (fun _ hk=>hk.1.2) (.bool b5)) (fun _ hk=>hk.1.2) (.slice m7 b6.length m8)) (fun _ hk=>hk.1.2) (.slice m9 b7.length n0)) (fun _ hk=>hk.2) (.bool b5)) (fun _ hk=>hk.2) (.slice m7 b6.length m8)) (fun _ hk=>hk.2) (.slice m9 b7.length n0)) (fun _ hk=>hk.1.1)),pB⟩

end Go.Proofs.Ytbnpcplckcipfaa.Print
