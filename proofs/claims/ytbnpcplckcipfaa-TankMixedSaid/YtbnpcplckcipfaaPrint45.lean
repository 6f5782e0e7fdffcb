import Derived.Test.YtbnpcplckcipfaaPrint0
import Derived.Test.YtbnpcplckcipfaaPrint38
import Derived.Test.YtbnpcplckcipfaaPrint42
namespace Go.Proofs.Ytbnpcplckcipfaa.Print
open Go.RowKit Go.Proofs.YtbnpcplckcipfaaW.PrintWords Go.Proofs.YtbnpcplckcipfaaW.PrintLast Go.Proofs.YtbnpcplckcipfaaW.PrintMore
attribute [local go_sem] max2_int min2_int max_two min_two max_three min_three max_four min_four
set_option linter.unusedVariables false
set_option maxRecDepth 100000
set_option maxHeartbeats 8000000
set_option linter.unusedSimpArgs false

mutual
def Azk.j0:Nat→List Int→List Int→Bool→Option (List Int × Int)
 | 0,_,_,_=>none
 | k+1,x0,x1,x16=>if x16=true then(some (([]:List Int),3)) else((some (([]:List Int):List Int)).bind fun y627=>(if y627.length+x0.length < 17592186044416 then(Azk.l0 k (y627 ++ x0) x1) else(none)))
def Azk.l0:Nat→List Int→List Int→Option (List Int × Int)
 | 0,_,_=>none
 | k+1,x0,x1=>if(x1.length:Int) > 0 then((Azz.f k x0 x1).bind fun bt633=>((some (([]:List Int):List Int)).bind fun y640=>(if y640.length+x1.length < 17592186044416 then(Azk.l0 k (y640 ++ x1) bt633.2.1) else(none)))) else(some (x0,0))
end
def Azk.f (k:Nat) (l0:List Int) (l1:List Int):Option (List Int × Int):=(Azj.f k l0).bind fun t625=>(if t625=true then((Azj.f k l1).bind fun t626=>(Azk.j0 k l0 l1 (!t626))) else(Azk.j0 k l0 l1 true))
theorem Azk.mono_l:∀ k,(∀ a6 a7 a8,LeO (Azk.j0 k a6 a7 a8) (Azk.j0 (k+1) a6 a7 a8))∧(∀ a6 a7,LeO (Azk.l0 k a6 a7) (Azk.l0 (k+1) a6 a7))
 | 0=>⟨fun _ _ _ r h=>by simp [Azk.j0] at h,fun _ _ r h=>by simp [Azk.l0] at h⟩
 | k+1=>by
  obtain⟨ih0,ih1⟩:=Azk.mono_l k;have i0:=@Azz.mono;have i1:=@Azj.mono;refine⟨?_,?_⟩
  ·intro a6 a7 a8;unfold Azk.j0;exact mM
  ·intro a6 a7;unfold Azk.l0;exact mM
theorem Azk.mono:∀ a6 a7 k,LeO (Azk.f k a6 a7) (Azk.f (k+1) a6 a7):=by
 intro a6 a7 k;obtain⟨ih0,ih1⟩:=Azk.mono_l k;unfold Azk.f;have i0:=@Azz.mono;have i1:=@Azj.mono;exact mM
theorem Azk.calls (k:Nat) (a6:Option Addr) (a7:Nat) (l0:List Int) (a8:Nat→Prop) (a9:Option Addr) (b4:Nat) (l1:List Int) (b5:List Int) (b6:Int) (w:World) (b7:cI w a6 l0) (b8:l0.length≤a7) (b9:Kd.V (Kd.int .i64) 3 w w.heap.size (fun k_=>a8 k_) (.slice a9 l1.length b4) l1) (h:Azk.f k l0 l1=some (b5,b6)) :
  Calls Try.prog 71 #[.slice a6 l0.length a7,.slice a9 l1.length b4] w fun e w'=>∃ v0_:Value,e=.returned (.tuple #[v0_,.int .i64 b6])∧rI w' w (fun k_=>(w.heap.size≤k_)) v0_ b5∧bw w w':=by
 have d6:=aM b7;have d7:=aM b8;clear b7 b8;have d8:=aM (show Kd.V (Kd.int .i64) 3 w w.heap.size (fun k_=>(a8 k_∨w.heap.size≤k_)) (.slice a9 l1.length b4) l1 from Kd.V_mono b9 (fun k_ hk=>.inl hk))
 have HB:=aM (Below.refl w.heap.size w);have H:((Azj.f k l0).bind fun d9=>(if d9=true then((Azj.f k l1).bind fun e6=>(Azk.j0 k l0 l1 (!e6))) else(Azk.j0 k l0 l1 true)))=some (b5,b6):=h
 clear h;have e7:=aM H;clear H;go_enter Try.func71,Try.ntmps71
 go_upto_region 1 with (fail)
 go_cut [16] (fun e8 wc=>∃ (kq:Nat) (e9:Bool),e8=.bool e9∧Aside0 (Azk.j0 kq l0 l1 e9=some (b5,b6))∧Aside0 (kq≤k)∧Aside0 (Kd.V (Kd.int .i64) 3 wc w.heap.size (fun k_=>(a8 k_∨w.heap.size≤k_)) (.slice a9 l1.length b4) l1)∧Aside0 (bw w wc))
 case first =>
  have H:=e7.out;clear e7;obtain⟨d9,f3,H⟩:=bT H;(try dsimp only at H);by_cases c5:d9=true
  ·subst c5;rw[if_pos rfl] at H;obtain⟨e6,f4,H⟩:=bT H;(try dsimp only at H);have H':=aM H;clear H;go_wp2_with (first|((with_reducible refine gc 70 rfl ?_);refine gC 70 (some 10) Try.func70 #[.slice a6 l0.length a7] ?_;(with_reducible refine(Azj.calls k _ _ l0 true _ ?_ ?_ f3.out).mono ?_);exact cB d6;exact d7.out;rintro e w' ⟨rfl,⟨nd,rfl⟩⟩;refine⟨_,rfl,?_⟩)|(go_at_call 70;(with_reducible refine(Azj.calls k _ _ l1 e6 _ ?_ ?_ f4.out).mono ?_);exact cV d8;exact lV d8;rintro e w' ⟨rfl,⟨nd,rfl⟩⟩))
   go_meet
   case rel=>exact⟨_,(!e6),sD,H',⟨by first|omega|exact Nat.le_refl _⟩,⟨vX d8.out⟩,⟨pB⟩⟩
  ·obtain rfl:=bN c5;rw[if_neg nF] at H
   have H':=aM H;clear H;go_wp2_with (first|((with_reducible refine gc 70 rfl ?_);refine gC 70 (some 10) Try.func70 #[.slice a6 l0.length a7] ?_;(with_reducible refine(Azj.calls k _ _ l0 false _ ?_ ?_ f3.out).mono ?_);exact cB d6;exact d7.out;rintro e w' ⟨rfl,⟨nd,rfl⟩⟩;refine⟨_,rfl,?_⟩))
   go_meet
   case rel=>exact⟨_,(true),sD,H',⟨by first|omega|exact Nat.le_refl _⟩,⟨vX d8.out⟩,⟨pB⟩⟩
 case rest =>
  clear e7;try clear b4
  obtain⟨kq,e9,rfl,HA,f5,f6,HB⟩:=hcut;cases kq with
  | zero=>exact absurd HA.out (by simp [Azk.j0])
  | succ f7 =>
   have H:=HA.out;clear HA;simp only[Azk.j0] at H;by_cases c7:e9=true
   ·subst c7;rw[if_pos rfl] at H;obtain⟨rfl,rfl⟩:=q2 H;go_wp2
    go_ret2
    exact⟨_,eW,nK,pB⟩
   ·obtain rfl:=bN c7;rw[if_neg nF] at H
    obtain⟨f8,f9⟩:∃ y_:List Int,y_=(([]:List Int)):=⟨_,rfl⟩;replace H:(if f8.length+l0.length < 17592186044416 then(Azk.l0 f7 (f8 ++ l0) l1) else(none))=some (b5,b6):=yE f9 H
    have g4:=aM f9;clear f9;by_cases c8:f8.length+l0.length < 17592186044416
    ·rw[if_pos c8] at H;have LMc8:=aM c8;clear c8;obtain⟨g5,g6⟩:∃ y_:List Int,y_=(f8 ++ l0):=⟨_,rfl⟩;replace H:(Azk.l0 f7 g5 l1)=some (b5,b6):=yE g6 H
     have g7:=aM g6;clear g6;have H':=aM H;clear H;go_wp2_with (first|((with_reducible refine gd 17 rfl ?_);refine iL 17 [] ?_;intro g8 g9 j3 hb;replace j3:=rY g4 j3;have j4:=rL (Kd.R_newM (M:=fun k_=>(w.heap.size≤k_)) j3 (below_size pB) (fun k_ h_=>h_));replace f6:=vE f6 j3 hb;replace HB:=bB hb;clear hb j3)|((with_reducible refine gate_builtin (b:=.append) (xs:=#[.tmp 17,.tmp 18]) rfl ?_);at_builtin;refine Kd.R_append_rows (Kd.int .i64) (w0:=w) w.heap.size rfl (.tmp 17) (.tmp 18) 31 3 (.int .i64 0) 8 rfl Try.underlying31 info3 rfl (by decide) (by omega) g8 f8 l0 _ _ _ (fun k_=>(w.heap.size≤k_)) (fun _=>False) rfl rfl ?aO ?aR (fun _ _ h=>h) (fun _ h=>h.elim) ?aF ?aB ?aS ?aL ?_;(case aR=>exact cB d6);(case aB=>exact pB);(case aF=>exact(fun k_ hk=>(Nat.le_trans (below_size pB) hk)));(case aO=>exact(rX (Kd.R_mono j4.out (fun _ hk=>hk.1))));(case aS=>exact(below_size pB));(case aL=>have:=LMc8.out;omega);intro j5 j6 ho hb hg hat;rw[← g7.out] at ho;have j7:=aM (ho);replace f6:=aM (Kd.V_afterv (ok:=(fun k_=>(a8 k_∨w.heap.size≤k_))) (vX f6.out) hg hat);replace HB:=aM (hb);clear j4 ho hb hg hat))
     go_loopg [0,1] f7 (fun kq j8 j9 w'=>∃ (l5:List Int) (l6:List Int),Aside0 (Azk.l0 kq l5 l6=some (b5,b6))∧Aside0 (kq≤f7)∧Aside0 (rI w' w (fun k_=>(w.heap.size≤k_)) j8 l5)∧Aside0 (Kd.V (Kd.int .i64) 3 w' w.heap.size (fun k_=>(a8 k_∨w.heap.size≤k_)∧oV j8 k_) j9 l6)∧Aside0 (bw w w'))
     case atStart=>exact⟨(g5),(l1),H',⟨Nat.le_refl _⟩,⟨rX j7.out⟩,⟨vX f6.out⟩,⟨pB⟩⟩
     case round =>
      clear H';try clear b4
      obtain⟨l5,l6,HA,l7,l8,f6,HB⟩:=hrel;cases gk with
      | zero=>exact absurd HA.out (by simp [Azk.l0])
      | succ k2 =>
       have H:=HA.out;clear HA;simp only[Azk.l0] at H;by_cases l9:(l6.length:Int) > 0
       ·rw[if_pos l9] at H;have m0:decide (0 < (l6.length:Int))=true:=dE l9;have m4:decide (0 < l6.length)=true:=dE (by omega)
        clear l9;obtain⟨⟨m5,m6,m7⟩,m8,H⟩:=bT H;(try dsimp only at H);obtain⟨m9,n0⟩:∃ y_:List Int,y_=(([]:List Int)):=⟨_,rfl⟩;replace H:(if m9.length+l6.length < 17592186044416 then(Azk.l0 k2 (m9 ++ l6) m6) else(none))=some (b5,b6):=yE n0 H
        have n7:=aM n0;clear n0;obtain⟨n8,H⟩:=iO H;have LMc14:=aM n8;clear n8;obtain⟨n9,o0⟩:∃ y_:List Int,y_=(m9 ++ l6):=⟨_,rfl⟩;replace H:(Azk.l0 k2 n9 m6)=some (b5,b6):=yE o0 H
        have o8:=aM o0;clear o0;have H':=aM H;clear H;obtain⟨o9,p0,p4⟩:=Kd.V_slice f6.out;subst p4;obtain⟨p7,p9,rfl⟩:=Kd.R_slice l8.out;go_wp2_with (first|((with_reducible refine gc 86 rfl ?_);refine gC 86 (some 26) Try.func86 #[.slice p7 l5.length p9,.slice o9 l6.length p0] ?_;(with_reducible refine(Azz.calls k2 _ _ l5 _ _ l6 m5 m6 m7 _ ?_ ?_ ?_ ?_ m8.out).mono ?_);exact cR l8;exact lR l8;exact cV f6;exact lV f6;rintro e r5 ⟨r6,r7,rfl,r8,r9,hb⟩;refine⟨_,rfl,?_⟩;have t4:=rL (rn (Kd.R_newM (M:=fun k_=>(w.heap.size≤k_)) r8 (below_size pB) (fun k_ h_=>h_)) l8);have t5:=rL (rn (Kd.R_newM (M:=fun k_=>(w.heap.size≤k_)) r9 (below_size pB) (fun k_ h_=>h_)) l8);replace l8:=rO l8 hb r8 r9;replace f6:=vO f6 hb r8 r9;replace HB:=bB hb;clear hb r8 r9)|((with_reducible refine gd 30 rfl ?_);refine iL 30 [] ?_;intro t6 t7 t8 hb;replace t8:=rY n7 t8;have t9:=rL (rn (rn (rn (Kd.R_newM (M:=fun k_=>(w.heap.size≤k_)) t8 (below_size pB) (fun k_ h_=>h_)) l8) t4) t5);replace l8:=rE l8 t8 hb;replace f6:=vE f6 t8 hb;replace t4:=rE t4 t8 hb;replace t5:=rE t5 t8 hb;replace HB:=bB hb;clear hb t8)|((with_reducible refine gate_builtin (b:=.append) (xs:=#[.tmp 30,.tmp 31]) rfl ?_);at_builtin;refine Kd.R_append_rows (Kd.int .i64) (w0:=w) w.heap.size rfl (.tmp 30) (.tmp 31) 31 3 (.int .i64 0) 8 rfl Try.underlying31 info3 rfl (by decide) (by omega) t6 m9 l6 _ _ _ (fun k_=>(w.heap.size≤k_)∧oN p7 l5.length p9 k_∧oV r6 k_∧oV r7 k_) (fun _=>False) rfl rfl ?aO ?aR (fun _ _ h=>h) (fun _ h=>h.elim) ?aF ?aB ?aS ?aL ?_;(case aR=>exact cV f6);(case aB=>exact pB);(case aF=>exact(fun k_ hk=>⟨(Nat.le_trans (below_size pB) hk),Kd.fresh' (Kd.R_lt (rX l8.out)) k_ hk,Kd.fresh' (Kd.R_lt (rX t4.out)) k_ hk,Kd.fresh' (Kd.R_lt (rX t5.out)) k_ hk⟩));(case aO=>exact(rX (Kd.R_mono t9.out (fun _ hk=>⟨hk.1.1.1.1,⟨hk.1.1.2,⟨hk.1.2,hk.2⟩⟩⟩))));(case aS=>exact(below_size pB));(case aL=>have:=LMc14.out;omega);intro y9 z3 ho hb hg hat;rw[← o8.out] at ho;have z4:=aM (ho);replace l8:=aM (Kd.R_after (ok:=(fun k_=>(w.heap.size≤k_)∧oV r6 k_∧oV r7 k_)) (rX (Kd.R_mono l8.out (fun _ hk=>⟨⟨hk.1.1.1,⟨hk.1.1.2,hk.1.2⟩⟩,hk.2⟩))) hg hat);replace f6:=aM (Kd.V_afterv (ok:=(fun k_=>(a8 k_∨w.heap.size≤k_)∧oN p7 l5.length p9 k_∧oV r6 k_∧oV r7 k_)) (by exact vX (Kd.V_mono f6.out (fun _ hk=>⟨⟨hk.1.1.1.1,⟨hk.1.1.1.2,⟨hk.1.1.2,hk.1.2⟩⟩⟩,hk.2⟩))) hg hat);replace t4:=aM (Kd.R_after (ok:=(fun k_=>(w.heap.size≤k_)∧oN p7 l5.length p9 k_∧oV r7 k_)) (rX (Kd.R_mono t4.out (fun _ hk=>⟨⟨hk.1.1.1,⟨hk.1.2,hk.1.1.2⟩⟩,hk.2⟩))) hg hat);replace t5:=aM (Kd.R_after (ok:=(fun k_=>(w.heap.size≤k_)∧oN p7 l5.length p9 k_∧oV r6 k_)) (rX (Kd.R_mono t5.out (fun _ hk=>⟨⟨hk.1.1.1,⟨hk.1.2,hk.1.1.2⟩⟩,hk.2⟩))) hg hat);replace HB:=aM (hb);clear t9 ho hb hg hat))
        go_roundg k2
        case measure=>have:=f5.out;have:=l7.out;omega
        case rel=>exact⟨(n9),(m6),H',⟨by have:=f5.out;have:=l7.out;omega⟩,⟨by exact rX (Kd.R_mono z4.out (fun _ hk=>hk.1))⟩,⟨Kd.V_mono (Kd.R_V (rX t5.out)) (fun k_ hk=>by first|exact⟨(.inr hk.1.1),hk.2⟩|exact⟨(.inr (hk.1)),hk.2⟩|exact(.inr (hk)))⟩,⟨pB⟩⟩
       ·rw[if_neg l9] at H;have m0:decide (0 < (l6.length:Int))=false:=decide_eq_false l9;have m4:decide (0 < l6.length)=false:=decide_eq_false (by omega)
        clear l9;obtain⟨rfl,rfl⟩:=q2 H;obtain⟨z5,z6,z7⟩:=Kd.V_slice f6.out;subst z7;go_wp2
        go_ret2
        exact⟨_,eW,rX l8.out,pB⟩
    ·rw[if_neg c8] at H;exact absurd H (by simp)

def Dzv.f (k:Nat) (a0:Bool) (l1:List Int) (l2:List Int):Option (Bool × List Int × List Int):=(Azk.f k l1 l2).bind fun bt647=>((Azz.f k l1 bt647.1).bind fun bt651=>((Azz.f k l2 bt647.1).bind fun bt658=>(if a0=true then(some (decide (0 < bt651.1.length),bt651.1,bt658.1)) else(some (false,bt651.1,bt658.1)))))
theorem Dzv.mono:∀ a6 a7 a8 k,LeO (Dzv.f k a6 a7 a8) (Dzv.f (k+1) a6 a7 a8):=by
 intro a6 a7 a8 k;unfold Dzv.f;have i0:=@Azz.mono;have i1:=@Azk.mono;exact mM
theorem Dzv.calls (k:Nat) (a6:Bool) (a7:Option Addr) (a8:Nat) (l1:List Int) (a9:Option Addr) (c2:Nat) (l2:List Int) (b4:Bool) (b5:List Int) (b6:List Int) (w:World) (b7:cI w a7 l1) (b8:l1.length≤a8) (b9:cI w a9 l2) (d6:l2.length≤c2) (h:Dzv.f k a6 l1 l2=some (b4,b5,b6)) :
  Calls Try.prog 58 #[.bool a6,.slice a7 l1.length a8,.slice a9 l2.length c2] w fun e w'=>∃ v1_ v2_:Value,e=.returned (.agg #[.bool b4,v1_,v2_])∧rI w' w (oV v2_) v1_ b5∧rI w' w (oV v1_) v2_ b6∧bw w w':=by
 have hu33:=Try.underlying33;have d7:=aM b7;have d8:=aM b8;clear b7 b8;have d9:=aM b9;have e6:=aM d6;clear b9 d6;have HB:=aM (Below.refl w.heap.size w);have H:((Azk.f k l1 l2).bind fun e7=>((Azz.f k l1 e7.1).bind fun e8=>((Azz.f k l2 e7.1).bind fun e9=>(if a6=true then(some (decide (0 < e8.1.length),e8.1,e9.1)) else(some (false,e8.1,e9.1))))))=some (b4,b5,b6):=h
 clear h;obtain⟨⟨f3,f4⟩,f5,H⟩:=bT H;(try dsimp only at H);obtain⟨⟨f6,f7,f8⟩,f9,H⟩:=bT H;(try dsimp only at H);obtain⟨⟨g4,g5,g6⟩,g7,H⟩:=bT H;(try dsimp only at H);by_cases c7:a6=true
 ·subst c7;rw[if_pos rfl] at H;obtain⟨rfl,rfl,rfl⟩:=q3 H;go_enter Try.func58,Try.ntmps58
  go_wp2_with (first|((with_reducible refine gd 6 rfl ?_);refine bzg 33 ?_;intro g8 hg g9 j3 hb;have j4:=gA w hg;replace HB:=bB hb;clear hb hg)|((with_reducible refine gc 71 rfl ?_);refine gC 71 (some 18) Try.func71 #[.slice a7 l1.length a8,.slice a9 l2.length c2] ?_;(with_reducible refine(Azk.calls k _ _ l1 (fun k_=>k_ < w.heap.size) _ _ l2 f3 f4 _ ?_ ?_ ?_ f5.out).mono ?_);exact cB d7;exact d8.out;exact Kd.V_mk e6.out (Kd.F_below (Kd.C_F (Kd.heap_int .i64) d9.out) pB);rintro e j6 ⟨j7,rfl,j8,hb⟩;refine⟨_,rfl,?_⟩;have j9:=rL (Kd.R_mono (ok':=fun k_=>True) j8 (fun _ hk_=>trivial));replace j3:=kb j3 hb;replace HB:=bB hb;clear hb j8;obtain⟨l5,l6,rfl⟩:=Kd.R_slice j9.out)|((with_reducible refine gc 86 rfl ?_);refine gC 86 (some 24) Try.func86 #[.slice a7 l1.length a8,.slice l5 f3.length l6] ?_;(with_reducible refine(Azz.calls k _ _ l1 _ _ f3 f6 f7 f8 _ ?_ ?_ ?_ ?_ f9.out).mono ?_);exact cB d7;exact d8.out;exact cR j9;exact lR j9;rintro e l7 ⟨l8,l9,rfl,j8,m0,hb⟩;refine⟨_,rfl,?_⟩;have m4:=rL (rn j8 j9);have m5:=rL (rn m0 j9);replace j9:=rO j9 hb j8 m0;replace j3:=kb j3 hb;replace HB:=bB hb;clear hb j8 m0)|((with_reducible refine gc 86 rfl ?_);refine gC 86 (some 31) Try.func86 #[.slice a9 l2.length c2,.slice l5 f3.length l6] ?_;(with_reducible refine(Azz.calls k _ _ l2 _ _ f3 g4 g5 g6 _ ?_ ?_ ?_ ?_ g7.out).mono ?_);exact cB d9;exact e6.out;exact cR j9;exact lR j9;rintro e m6 ⟨m7,m8,rfl,j8,m0,hb⟩;refine⟨_,rfl,?_⟩;have m9:=rL (rn (rn (rn j8 j9) m4) m5);have n0:=rL (rn (rn (rn m0 j9) m4) m5);replace j9:=rO j9 hb j8 m0;replace m4:=rO m4 hb j8 m0;replace m5:=rO m5 hb j8 m0;replace j3:=kb j3 hb;replace HB:=bB hb;clear hb j8 m0;obtain⟨n7,n8,rfl⟩:=Kd.R_slice m4.out;obtain⟨n9,o0,rfl⟩:=Kd.R_slice m9.out;obtain⟨o8,o9,p0,p4,p7,p9⟩:=bk3 j3))
  refine bodyPost_ret (results_cell_row rfl _ _ g8 33 #[.bool (decide (0 < f6.length)),.slice n7 f6.length n8,.slice n9 g4.length o0] (0,0) _ rfl (kQ j3) Try.underlying33 rfl (by kernel_rfl)) rfl ?_
  exact⟨_,_,eW,by exact Kd.R_mono (rT m4 j3) (fun _ hk=>hk.1.2),by exact Kd.R_mono (rT m9 j3) (fun _ hk=>hk.1.2),pB⟩
 ·obtain rfl:=bN c7;rw[if_neg nF] at H
  obtain⟨rfl,rfl,rfl⟩:=q3 H;go_enter Try.func58,Try.ntmps58
  go_wp2_with (first|((with_reducible refine gd 6 rfl ?_);refine bzg 33 ?_;intro g8 hg r5 j3 hb;have j4:=gA w hg;replace HB:=bB hb;clear hb hg)|((with_reducible refine gc 71 rfl ?_);refine gC 71 (some 18) Try.func71 #[.slice a7 l1.length a8,.slice a9 l2.length c2] ?_;(with_reducible refine(Azk.calls k _ _ l1 (fun k_=>k_ < w.heap.size) _ _ l2 f3 f4 _ ?_ ?_ ?_ f5.out).mono ?_);exact cB d7;exact d8.out;exact Kd.V_mk e6.out (Kd.F_below (Kd.C_F (Kd.heap_int .i64) d9.out) pB);rintro e r6 ⟨j7,rfl,j8,hb⟩;refine⟨_,rfl,?_⟩;have j9:=rL (Kd.R_mono (ok':=fun k_=>True) j8 (fun _ hk_=>trivial));replace j3:=kb j3 hb;replace HB:=bB hb;clear hb j8;obtain⟨r7,r8,rfl⟩:=Kd.R_slice j9.out)|((with_reducible refine gc 86 rfl ?_);refine gC 86 (some 24) Try.func86 #[.slice a7 l1.length a8,.slice r7 f3.length r8] ?_;(with_reducible refine(Azz.calls k _ _ l1 _ _ f3 f6 f7 f8 _ ?_ ?_ ?_ ?_ f9.out).mono ?_);exact cB d7;exact d8.out;exact cR j9;exact lR j9;rintro e r9 ⟨l8,l9,rfl,j8,m0,hb⟩;refine⟨_,rfl,?_⟩;have m4:=rL (rn j8 j9);have m5:=rL (rn m0 j9);replace j9:=rO j9 hb j8 m0;replace j3:=kb j3 hb;replace HB:=bB hb;clear hb j8 m0)|((with_reducible refine gc 86 rfl ?_);refine gC 86 (some 31) Try.func86 #[.slice a9 l2.length c2,.slice r7 f3.length r8] ?_;(with_reducible refine(Azz.calls k _ _ l2 _ _ f3 g4 g5 g6 _ ?_ ?_ ?_ ?_ g7.out).mono ?_);exact cB d9;exact e6.out;exact cR j9;exact lR j9;rintro e t4 ⟨m7,m8,rfl,j8,m0,hb⟩;refine⟨_,rfl,?_⟩;have m9:=rL (rn (rn (rn j8 j9) m4) m5);have n0:=rL (rn (rn (rn m0 j9) m4) m5);replace j9:=rO j9 hb j8 m0;replace m4:=rO m4 hb j8 m0;replace m5:=rO m5 hb j8 m0;replace j3:=kb j3 hb;replace HB:=bB hb;clear hb j8 m0;obtain⟨t5,t6,rfl⟩:=Kd.R_slice m9.out;obtain⟨t7,t8,rfl⟩:=Kd.R_slice m4.out;obtain⟨t9,y9,z3,z4,z5,z6⟩:=bk3 j3))
  refine bodyPost_ret (results_cell_row rfl _ _ g8 33 #[.bool false,.slice t7 f6.length t8,.slice t5 g4.length t6] (0,0) _ rfl (kQ j3) Try.underlying33 rfl (by kernel_rfl)) rfl ?_
  exact⟨_,_,eW,by exact Kd.R_mono (rT m4 j3) (fun _ hk=>hk.1.2),by exact Kd.R_mono (rT m9 j3) (fun _ hk=>hk.1.2),pB⟩


def Bzv.l0:Nat→Int→List Int→Option (List Int × Int)
 | 0,_,_=>none
 | k+1,x0,x4=>if x0 > 0 then(if x4.length < 17592186044416 then(Bzv.l0 k (wrap64 (Int.tdiv x0 1000000000)) (x4 ++ [Int.tmod x0 1000000000])) else(none)) else(some (x4,0))
def Bzv.f (k:Nat) (a0:Int):Option (List Int × Int):=if a0 < 0 then(some (([]:List Int),1)) else(Bzv.l0 k a0 ([]:List Int))
theorem Bzv.mono_l:∀ k,(∀ a6 a7,LeO (Bzv.l0 k a6 a7) (Bzv.l0 (k+1) a6 a7))
 | 0=>fun _ _ r h=>by simp [Bzv.l0] at h
 | k+1=>by
  have ih0:=Bzv.mono_l k
  ·intro a6 a7;unfold Bzv.l0;exact mM
theorem Bzv.mono:∀ a6 k,LeO (Bzv.f k a6) (Bzv.f (k+1) a6):=by
 intro a6 k;have ih0:=Bzv.mono_l k;unfold Bzv.f;exact mM
theorem Bzv.calls (k:Nat) (a6:Int) (a7:List Int) (a8:Int) (w:World) (h:Bzv.f k a6=some (a7,a8)) :
  Calls Try.prog 60 #[.int .i64 a6] w fun e w'=>∃ v0_:Value,e=.returned (.tuple #[v0_,.int .i64 a8])∧rI w' w (fun _=>True) v0_ a7∧bw w w':=by
 have HB:=aM (Below.refl w.heap.size w);have H:(if a6 < 0 then(some (([]:List Int),1)) else(Bzv.l0 k a6 ([]:List Int)))=some (a7,a8):=h
 clear h;replace H:=iD H;rcases H with⟨a9,H⟩|⟨a9,H⟩
 ·obtain⟨rfl,rfl⟩:=q2 H;go_enter Try.func60,Try.ntmps60
  go_wp2
  go_ret2
  exact⟨_,eW,nK,pB⟩
 ·have H':=aM H;clear H;go_enter Try.func60,Try.ntmps60
  go_wp2
  go_loopg [0,4] k (fun kq b4 b5 w'=>∃ (b6:Int) (b7:List Int),b4=.int .i64 b6∧Aside0 (Bzv.l0 kq b6 b7=some (a7,a8))∧Aside0 (kq≤k)∧Aside0 (rI w' w (fun _=>True) b5 b7)∧Aside0 (bw w w'))
  case atStart=>exact⟨(a6),(([]:List Int)),sD,H',⟨Nat.le_refl _⟩,⟨nK⟩,⟨pB⟩⟩
  case round =>
   clear H';try clear c2
   obtain⟨b6,b7,rfl,HA,b8,b9,HB⟩:=hrel;cases gk with
   | zero=>exact absurd HA.out (by simp [Bzv.l0])
   | succ k1 =>
    have H:=HA.out;clear HA;simp only[Bzv.l0] at H;by_cases c3:b6 > 0
    ·rw[if_pos c3] at H;have d6:decide (0 < b6)=true:=dE c3;clear c3;obtain⟨c4,H⟩:=iO H;have LMc4:=aM c4;clear c4;obtain⟨d7,d8⟩:∃ y_:List Int,y_=(b7 ++ [Int.tmod b6 1000000000]):=⟨_,rfl⟩;replace H:(Bzv.l0 k1 (wrap64 (Int.tdiv b6 1000000000)) d7)=some (a7,a8):=yE d8 H
     have d9:=aM d8;clear d8;have H':=aM H;clear H;go_wp2_with (first|((with_reducible refine gate_builtin (b:=.append) (xs:=#[.tmp 9,.tmp 12]) rfl ?_);at_builtin;refine Kd.R_append (Kd.int .i64) (w0:=w) w.heap.size rfl (.tmp 9) (.tmp 12) 31 3 (.int .i64 0) 8 rfl Try.underlying31 info3 rfl (by decide) (by omega) u4 b7 (Int.tmod b6 1000000000) [.int .i64 (Int.tmod b6 1000000000)] (fun _=>True) (fun _=>False) rfl rfl ?aP (fun _ hk=>hk.elim) ?aF ?aO ?aB ?aS ?aL ?_;(case aP=>exact rfl);(case aB=>exact pB);(case aF=>exact(fun _ _=>trivial));(case aO=>exact(rX b9.out));(case aS=>exact(below_size pB));(case aL=>have:=LMc4.out;omega);intro e6 e7 ho hb hg hat;rw[← d9.out] at ho;have e8:=aM (ho);replace HB:=aM (hb);clear b9 ho hb hg hat))
     go_roundg k1
     case measure=>have:=b8.out;omega
     case rel=>exact⟨(wrap64 (Int.tdiv b6 1000000000)),(d7),sD,H',⟨by have:=b8.out;omega⟩,⟨rX e8.out⟩,⟨pB⟩⟩
    ·rw[if_neg c3] at H;have d6:decide (0 < b6)=false:=decide_eq_false c3;clear c3;obtain⟨rfl,rfl⟩:=q2 H;go_wp2
     go_ret2
     exact⟨_,eW,rX b9.out,pB⟩

def Azv.j0:Nat→Int→Int→Bool→Option (Bool × List Int × List Int × Int)
 | 0,_,_,_=>none
 | k+1,x0,x1,x23=>if x23=true then(some (false,([]:List Int),([]:List Int),1)) else(if x1=0 then(some (false,([]:List Int),([]:List Int),16)) else((Bzv.f k (mx x0 (wrap64 (-x0)))).bind fun bt669=>((Bzv.f k (mx x1 (wrap64 (-x1)))).bind fun bt673=>((Dzv.f k ((decide (x0 < 0)) != (decide (x1 < 0))) bt669.1 bt673.1).bind fun bt677=>(some (bt677.1,bt677.2.1,bt677.2.2,0))))))
def Azv.f (k:Nat) (a0:Int) (a1:Int):Option (Bool × List Int × List Int × Int):=if a0 < (-1125899906842624) then(Azv.j0 k a0 a1 true) else(if a0 > 1125899906842624 then(Azv.j0 k a0 a1 true) else(if a1 < (-1125899906842624) then(Azv.j0 k a0 a1 true) else(Azv.j0 k a0 a1 (decide (a1 > 1125899906842624)))))
theorem Azv.mono_l:∀ k,(∀ a6 a7 a8,LeO (Azv.j0 k a6 a7 a8) (Azv.j0 (k+1) a6 a7 a8))
 | 0=>fun _ _ _ r h=>by simp [Azv.j0] at h
 | k+1=>by
  have ih0:=Azv.mono_l k
  ·intro a6 a7 a8;unfold Azv.j0;have i0:=@Bzv.mono;have i1:=@Dzv.mono;exact mM
theorem Azv.mono:∀ a6 a7 k,LeO (Azv.f k a6 a7) (Azv.f (k+1) a6 a7):=by
 intro a6 a7 k;have ih0:=Azv.mono_l k;unfold Azv.f;have i0:=@Bzv.mono;have i1:=@Dzv.mono;exact mM
theorem Azv.calls (k:Nat) (a6:Int) (a7:Int) (a8:Bool) (a9:List Int) (b4:List Int) (b5:Int) (w:World) (h:Azv.f k a6 a7=some (a8,a9,b4,b5)) :
  Calls Try.prog 33 #[.int .i64 a6,.int .i64 a7] w fun e w'=>∃ v1_ v2_:Value,e=.returned (.tuple #[.agg #[.bool a8,v1_,v2_],.int .i64 b5])∧rI w' w (oV v2_) v1_ a9∧rI w' w (oV v1_) v2_ b4∧bw w w':=by
 have hu33:=Try.underlying33;have HB:=aM (Below.refl w.heap.size w);have H:(if a6 < (-1125899906842624) then(Azv.j0 k a6 a7 true) else(if a6 > 1125899906842624 then(Azv.j0 k a6 a7 true) else(if a7 < (-1125899906842624) then(Azv.j0 k a6 a7 true) else(Azv.j0 k a6 a7 (decide (a7 > 1125899906842624))))))=some (a8,a9,b4,b5):=h
 clear h;have b6:=aM H;clear H;go_enter Try.func33,Try.ntmps33
 go_upto_region 1 with (first|((with_reducible refine gd 4 rfl ?_);refine bz 33 ?_;intro b7 hg b8 b9 hb;have d6:=gA w hg;replace HB:=bB hb;clear hb hg))
 (try simp only[Act.put,sA,sZ,sC])
 go_cut [23] (fun d8 wc=>∃ (kq:Nat) (d9:Bool),d8=.bool d9∧Aside0 (Azv.j0 kq a6 a7 d9=some (a8,a9,b4,b5))∧Aside0 (kq≤k)∧Aside0 (wc.heap[b7]?=some (.cells #[.bool false,(.slice none 0 0),(.slice none 0 0)] 33 (0,0)))∧Aside0 (bw w wc))
 case first =>
  have H:=b6.out;clear b6;replace H:=iD H;rcases H with⟨e6,H⟩|⟨e6,H⟩
  ·(first|rw[e6]|(simp only[i64_w,i32_w];rw[e6])|skip)
   have H':=aM H;clear H;go_wp2
   go_meet
   case rel=>exact⟨_,(true),sD,H',⟨by first|omega|exact Nat.le_refl _⟩,⟨by exact kW b9⟩,⟨pB⟩⟩
  ·(first|rw[e6]|(simp only[i64_w,i32_w];rw[e6])|skip)
   by_cases c6:a6 > 1125899906842624
   ·rw[if_pos c6] at H;have e7:decide (1125899906842624 < a6)=true:=dE c6;clear c6;have H':=aM H;clear H;go_wp2
    go_meet
    case rel=>exact⟨_,(true),sD,H',⟨by first|omega|exact Nat.le_refl _⟩,⟨by exact kW b9⟩,⟨pB⟩⟩
   ·rw[if_neg c6] at H;have e7:decide (1125899906842624 < a6)=false:=decide_eq_false c6;clear c6;replace H:=iD H;rcases H with⟨e8,H⟩|⟨e8,H⟩
    ·have H':=aM H;clear H;go_wp2
     go_meet
     case rel=>exact⟨_,(true),sD,H',⟨by first|omega|exact Nat.le_refl _⟩,⟨by exact kW b9⟩,⟨pB⟩⟩
    ·have H':=aM H;clear H;go_wp2
     go_meet
     case rel=>exact⟨_,(decide (a7 > 1125899906842624)),sD,H',⟨by first|omega|exact Nat.le_refl _⟩,⟨by exact kW b9⟩,⟨pB⟩⟩
 case rest =>
  clear b6;try clear e9
  obtain⟨kq,d9,rfl,HA,f3,b9,HB⟩:=hcut;cases kq with
  | zero=>exact absurd HA.out (by simp [Azv.j0])
  | succ f4 =>
   have H:=HA.out;clear HA;simp only[Azv.j0] at H;by_cases c8:d9=true
   ·subst c8;rw[if_pos rfl] at H;obtain⟨rfl,rfl,rfl,rfl⟩:=q4 H;obtain⟨f5,f6,f7,f8,f9,g4⟩:=bk3 b9;go_wp2
    refine rC b7 33 #[.bool false,.slice none 0 0,.slice none 0 0] (kQ b9) Try.underlying33 ?_
    exact⟨_,_,eW,nK,nK,pB⟩
   ·obtain rfl:=bN c8;rw[if_neg nF] at H
    replace H:=iE H;rcases H with⟨g5,g6,H⟩|⟨c10,g5,g6,H⟩
    ·obtain⟨rfl,rfl,rfl,rfl⟩:=q4 H;obtain⟨g7,g8,g9,j3,j4,j5⟩:=bk3 b9;go_wp2
     refine rC b7 33 #[.bool false,.slice none 0 0,.slice none 0 0] (kQ b9) Try.underlying33 ?_
     exact⟨_,_,eW,nK,nK,pB⟩
    ·obtain⟨j6,j7⟩:∃ j_:Int,(mx a6 (wrap64 (-a6)))=j_:=⟨_,rfl⟩;replace H:((Bzv.f f4 (j6)).bind fun j8=>((Bzv.f f4 (mx a7 (wrap64 (-a7)))).bind fun j9=>((Dzv.f f4 ((decide (a6 < 0)) != (decide (a7 < 0))) j8.1 j9.1).bind fun l5=>(some (l5.1,l5.2.1,l5.2.2,0)))))=some (a8,a9,b4,b5):=by first|(rw[j7] at H;exact H)|(simp only[j7] at H ⊢;exact H)
     have l6:(if a6 < (wrap64 (-a6)) then(wrap64 (-a6)) else a6)=j6:=j7
     obtain⟨⟨l7,l8⟩,l9,H⟩:=bT H;(try dsimp only at H);obtain⟨m0,m4⟩:∃ j_:Int,(mx a7 (wrap64 (-a7)))=j_:=⟨_,rfl⟩;replace H:((Bzv.f f4 (m0)).bind fun j9=>((Dzv.f f4 ((decide (a6 < 0)) != (decide (a7 < 0))) l7 j9.1).bind fun l5=>(some (l5.1,l5.2.1,l5.2.2,0))))=some (a8,a9,b4,b5):=by first|(rw[m4] at H;exact H)|(simp only[m4] at H ⊢;exact H)
     (try rw[m4] at l9)
     have m5:(if a7 < (wrap64 (-a7)) then(wrap64 (-a7)) else a7)=m0:=m4
     obtain⟨⟨m6,m7⟩,m8,H⟩:=bT H;(try dsimp only at H);replace H:=bS H;obtain⟨⟨m9,n0,n7⟩,n8,H⟩:=H;replace H:(some (m9,n0,n7,0))=some (a8,a9,b4,b5):=H;have n9:=aM n8;clear n8;obtain⟨rfl,rfl,rfl,rfl⟩:=q4 H;go_wp2_with (first|((with_reducible refine gate_callee (f:=60) rfl ?_);refine goesL_ (some 33) rfl rfl Try.func60 (by kernel_rfl) rfl #[.int .i64 j6] rfl (by(try simp only[List.map_toArray,List.map_cons,List.map_nil]);first|done|(simp only[j7];rfl)|rfl|(simp only[List.length_drop,List.length_take];rfl)) ?_;(with_reducible refine(Bzv.calls f4 j6 l7 l8 _ l9.out).mono ?_);rintro e o0 ⟨o8,rfl,o9,hb⟩;refine⟨_,rfl,?_⟩;have p0:=rL o9;replace b9:=kb b9 hb;replace HB:=bB hb;clear hb o9)|((with_reducible refine gate_callee (f:=60) rfl ?_);refine goesL_ (some 41) rfl rfl Try.func60 (by kernel_rfl) rfl #[.int .i64 m0] rfl (by(try simp only[List.map_toArray,List.map_cons,List.map_nil]);first|done|(simp only[m4];rfl)|rfl|(simp only[List.length_drop,List.length_take];rfl)) ?_;(with_reducible refine(Bzv.calls f4 m0 m6 m7 _ m8.out).mono ?_);rintro e p4 ⟨p7,rfl,o9,hb⟩;refine⟨_,rfl,?_⟩;have p9:=rL (rn o9 p0);replace p0:=rE p0 o9 hb;replace b9:=kb b9 hb;replace HB:=bB hb;clear hb o9;obtain⟨r5,r6,rfl⟩:=Kd.R_slice p0.out;obtain⟨r7,r8,rfl⟩:=Kd.R_slice p9.out)|((with_reducible refine gc 58 rfl ?_);refine gC 58 (some 51) Try.func58 #[.bool ((decide (a6 < 0)) != (decide (a7 < 0))),.slice r5 l7.length r6,.slice r7 m6.length r8] ?_;(with_reducible refine(Dzv.calls f4 ((decide (a6 < 0)) != (decide (a7 < 0))) _ _ l7 _ _ m6 m9 n0 n7 _ ?_ ?_ ?_ ?_ n9.out).mono ?_);exact cR p0;exact lR p0;exact cR p9;exact lR p9;rintro e r9 ⟨t4,t5,rfl,o9,t6,hb⟩;refine⟨_,rfl,?_⟩;have t7:=rL (rn (rn o9 p0) p9);have t8:=rL (rn (rn t6 p0) p9);replace p0:=rO p0 hb o9 t6;replace p9:=rO p9 hb o9 t6;replace b9:=kb b9 hb;replace HB:=bB hb;clear hb o9 t6;obtain⟨t9,y9,z3,z4,z5,z6⟩:=bk3 b9;obtain⟨z7,z8,rfl⟩:=Kd.R_slice t7.out;obtain⟨z9,B0,rfl⟩:=Kd.R_slice t8.out))
     refine rC b7 33 #[.bool m9,.slice z7 n0.length z8,.slice z9 n7.length B0] (kQ b9) Try.underlying33 ?_
     exact⟨_,_,by first|rfl|(simp [errW_none,errW_some] <;> rfl)|(simp only[← j7,← m4];first|rfl|(simp [errW_none,errW_some] <;> rfl))|(simp [*,errW_none,errW_some] <;> rfl),by exact Kd.R_mono (rT t7 b9) (fun _ hk=>hk.1.1),by exact Kd.R_mono (rT t8 b9) (fun _ hk=>hk.1.1),pB⟩

def Ezk.f (k:Nat) (a0:Int):Option (Bool × List Int × List Int × Int):=(Azv.f k a0 1).bind fun bt685=>(some (bt685.1,bt685.2.1,bt685.2.2.1,bt685.2.2.2))
theorem Ezk.mono:∀ a6 k,LeO (Ezk.f k a6) (Ezk.f (k+1) a6):=by
 intro a6 k;unfold Ezk.f;have i0:=@Azv.mono;exact mM
theorem Ezk.calls (k:Nat) (a6:Int) (a7:Bool) (a8:List Int) (a9:List Int) (b4:Int) (w:World) (h:Ezk.f k a6=some (a7,a8,a9,b4)) :
  Calls Try.prog 40 #[.int .i64 a6] w fun e w'=>∃ v1_ v2_:Value,e=.returned (.tuple #[.agg #[.bool a7,v1_,v2_],.int .i64 b4])∧rI w' w (oV v2_) v1_ a8∧rI w' w (oV v1_) v2_ a9∧bw w w':=by
 have hu33:=Try.underlying33;have HB:=aM (Below.refl w.heap.size w);have H:((Azv.f k a6 1).bind fun b5=>(some (b5.1,b5.2.1,b5.2.2.1,b5.2.2.2)))=some (a7,a8,a9,b4):=h
 clear h;replace H:=bS H;obtain⟨⟨b6,b7,b8,b9⟩,d6,H⟩:=H;replace H:(some (b6,b7,b8,b9))=some (a7,a8,a9,b4):=H;have d7:=aM d6;clear d6;obtain⟨rfl,rfl,rfl,rfl⟩:=q4 H;go_enter Try.func40,Try.ntmps40
 go_wp2_with (first|((with_reducible refine gd 2 rfl ?_);refine bz 33 ?_;intro d8 hg d9 e6 hb;have e7:=gA w hg;replace HB:=bB hb;clear hb hg)|((with_reducible refine gc 33 rfl ?_);refine gC 33 (some 5) Try.func33 #[.int .i64 a6,.int .i64 1] ?_;(with_reducible refine(Azv.calls k a6 1 b6 b7 b8 b9 _ d7.out).mono ?_);rintro e e9 ⟨f3,f4,rfl,f5,f6,hb⟩;refine⟨_,rfl,?_⟩;have f7:=rL f5;have f8:=rL f6;replace e6:=kb e6 hb;replace HB:=bB hb;clear hb f5 f6;obtain⟨f9,g4,g5,g6,g7,g8⟩:=bk3 e6;obtain⟨g9,j3,rfl⟩:=Kd.R_slice f7.out;obtain⟨j4,j5,rfl⟩:=Kd.R_slice f8.out))
 refine rC d8 33 #[.bool b6,.slice g9 b7.length j3,.slice j4 b8.length j5] (kQ e6) Try.underlying33 ?_
 exact⟨_,_,eW,by exact Kd.R_mono (rT f7 e6) (fun _ hk=>hk),by exact Kd.R_mono (rT f8 e6) (fun _ hk=>hk),pB⟩

def Dzj.f (k:Nat) (a0:Int):Option (Bool × List Int × List Int):=(Ezk.f k a0).bind fun bt694=>(some (bt694.1,bt694.2.1,bt694.2.2.1))
theorem Dzj.mono:∀ a6 k,LeO (Dzj.f k a6) (Dzj.f (k+1) a6):=by
 intro a6 k;unfold Dzj.f;have i0:=@Ezk.mono;exact mM
theorem Dzj.calls (k:Nat) (a6:Int) (a7:Bool) (a8:List Int) (a9:List Int) (w:World) (h:Dzj.f k a6=some (a7,a8,a9)) :
  Calls Try.prog 31 #[.int .i64 a6] w fun e w'=>∃ v1_ v2_:Value,e=.returned (.agg #[.bool a7,v1_,v2_])∧rI w' w (oV v2_) v1_ a8∧rI w' w (oV v1_) v2_ a9∧bw w w':=by
 have hu33:=Try.underlying33;have HB:=aM (Below.refl w.heap.size w);have H:((Ezk.f k a6).bind fun b4=>(some (b4.1,b4.2.1,b4.2.2.1)))=some (a7,a8,a9):=h
 clear h;replace H:=bS H;obtain⟨⟨b5,b6,b7,b8⟩,b9,H⟩:=H;replace H:(some (b5,b6,b7))=some (a7,a8,a9):=H;have d6:=aM b9;clear b9;obtain⟨rfl,rfl,rfl⟩:=q3 H;go_enter Try.func31,Try.ntmps31
 go_wp2_with (first|((with_reducible refine gd 2 rfl ?_);refine bz 33 ?_;intro d7 hg d8 d9 hb;have e6:=gA w hg;replace HB:=bB hb;clear hb hg)|((with_reducible refine gc 40 rfl ?_);refine gC 40 (some 7) Try.func40 #[.int .i64 a6] ?_;(with_reducible refine(Ezk.calls k a6 b5 b6 b7 b8 _ d6.out).mono ?_);rintro e e8 ⟨e9,f3,rfl,f4,f5,hb⟩;refine⟨_,rfl,?_⟩;have f6:=rL f4;have f7:=rL f5;replace d9:=kb d9 hb;replace HB:=bB hb;clear hb f4 f5)|((with_reducible refine gd 3 rfl ?_);refine bz 33 ?_;intro f8 hg f9 g4 hb;have g5:=gA w hg;have g7:=nl hg d9;have g8:=ng hg d9;replace f6:=rB f6 hb;replace f7:=rB f7 hb;replace d9:=kb d9 hb;replace HB:=bB hb;clear hb hg;have g9:=g8.out;have j3:=g7.out;obtain⟨j4,j5,j6,j7,j8,j9⟩:=bk3 g4;obtain⟨l5,l6,rfl⟩:=Kd.R_slice f6.out;obtain⟨l7,l8,rfl⟩:=Kd.R_slice f7.out;obtain⟨l9,m0,m4,m5,m6,m7⟩:=bk3 d9))
 refine bodyPost_ret (results_cell_row rfl _ _ d7 33 #[.bool b5,.slice l5 b6.length l6,.slice l7 b7.length l8] (0,0) _ rfl (by refine bD ?_;refine blk_put (cs:=#[.bool b5,.slice l5 b6.length l6,.slice none 0 0]) ?_ 2 _ rfl;refine bD ?_;refine blk_put (cs:=#[.bool b5,.slice none 0 0,.slice none 0 0]) ?_ 1 _ rfl;refine bD ?_;refine blk_put (cs:=#[.bool false,.slice none 0 0,.slice none 0 0]) ?_ 0 _ rfl;refine bD ?_;refine blk_far ?_ g7.out _;refine bD ?_;refine blk_far ?_ g7.out _;refine bD ?_;refine blk_far ?_ g7.out _;(with_reducible repeat(first|refine blk_drewN ?_ _|refine blk_drew ?_|refine blk_alloc ?_ _));exact d9.out) Try.underlying33 rfl (by kernel_rfl)) rfl ?_
 exact⟨_,_,eW,by exact rX (Kd.R_mono (Kd.R_far (p:=⟨d7,2,none⟩) (Kd.R_far (p:=⟨d7,1,none⟩) (Kd.R_far (p:=⟨d7,0,none⟩) (Kd.R_far (p:=⟨f8,2,none⟩) (Kd.R_far (p:=⟨f8,1,none⟩) (Kd.R_far (p:=⟨f8,0,none⟩) (Kd.R_types (Kd.R_types f6.out g4.out (by decide)) d9.out (by decide)) (fun _ hk=>hk.1.2) (.bool b5)) (fun _ hk=>hk.1.2) (.slice l5 b6.length l6)) (fun _ hk=>hk.1.2) (.slice l7 b7.length l8)) (fun _ hk=>hk.2) (.bool b5)) (fun _ hk=>hk.2) (.slice l5 b6.length l6)) (fun _ hk=>hk.2) (.slice l7 b7.length l8)) (fun _ hk=>hk.1.1)),by exact rX (Kd.R_mono (Kd.R_far (p:=⟨d7,2,none⟩) (Kd.R_far (p:=⟨d7,1,none⟩) (Kd.R_far (p:=⟨d7,0,none⟩) (Kd.R_far (p:=⟨f8,2,none⟩) (Kd.R_far (p:=⟨f8,1,none⟩) (Kd.R_far (p:=⟨f8,0,none⟩) (Kd.R_types (Kd.R_types f7.out g4.out (by decide)) d9.out (by decide)) (fun _ hk=>hk.1.2) (.bool b5)) (fun _ hk=>hk.1.2) (.slice l5 b6.length l6)) (fun _ hk=>hk.1.2) (.slice l7 b7.length l8)) (fun _ hk=>hk.2) (.bool b5)) (fun _ hk=>hk.2) (.slice l5 b6.length l6)) (fun _ hk=>hk.2) (.slice l7 b7.length l8)) (fun _ hk=>hk.1.1)),pB⟩

end Go.Proofs.Ytbnpcplckcipfaa.Print
