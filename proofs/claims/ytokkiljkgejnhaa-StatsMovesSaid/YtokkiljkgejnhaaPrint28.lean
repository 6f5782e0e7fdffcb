import Derived.Test.YtokkiljkgejnhaaPrint0
import Derived.Test.YtokkiljkgejnhaaPrint15
import Derived.Test.YtokkiljkgejnhaaPrint13
namespace Go.Proofs.Ytokkiljkgejnhaa.Print
open Go.RowKit Go.Proofs.YtokkiljkgejnhaaW.PrintWords Go.Proofs.YtokkiljkgejnhaaW.PrintLast Go.Proofs.YtokkiljkgejnhaaW.PrintMore
attribute [local go_sem] max2_int min2_int max_two min_two max_three min_three max_four min_four
set_option linter.unusedVariables false
set_option maxRecDepth 100000
set_option maxHeartbeats 8000000
set_option linter.unusedSimpArgs false

def Dzk.f (k:Nat) (l0:List Int):Option (List Int × Int):=(Azp.f k l0).bind fun t475=>(if(t475.length:Int) > 48 then(some (([]:List Int),2)) else(some (t475,0)))
theorem Dzk.mono:∀ a6 k,LeO (Dzk.f k a6) (Dzk.f (k+1) a6):=by
 intro a6 k;unfold Dzk.f;have i0:=@Azp.mono;exact mM
theorem Dzk.calls (k:Nat) (a6:Nat→Prop) (u9000_:Value) (l0:List Int) (a7:List Int) (a8:Int) (b4 w:World) (hB:Below b4.heap.size b4 w) (b5:Kd.R (Kd.int .i64) 3 w b4.heap.size a6 u9000_ l0) (h:Dzk.f k l0=some (a7,a8)) :
  Calls Try.prog 70 #[u9000_] w fun e w'=>∃ v0_:Value,e=.returned (.tuple #[v0_,.int .i64 a8])∧Kd.R (Kd.int .i64) 3 w' b4.heap.size (fun k_=>(a6 k_∨w.heap.size≤k_)) v0_ a7∧Below b4.heap.size b4 w'∧Kept w w' (fun k_=>a6 k_):=by
 have b6:=aM (show Kd.R (Kd.int .i64) 3 w b4.heap.size (fun k_=>(a6 k_∨w.heap.size≤k_)) u9000_ l0 from Kd.R_mono b5 (fun k_ hk=>(.inl hk)))
 have HK:=aM (Kept.refl w (fun k_=>a6 k_))
 have HW0:=aM hB.size;have HB:=aM hB;clear hB;have H:((Azp.f k l0).bind fun b7=>(if(b7.length:Int) > 48 then(some (([]:List Int),2)) else(some (b7,0))))=some (a7,a8):=h
 clear h;obtain⟨b7,b8,H⟩:=bT H;(try dsimp only at H);by_cases c3:(b7.length:Int) > 48
 ·rw[if_pos c3] at H;have b9:decide (48 < (b7.length:Int))=true:=dE c3;have d0:decide (48 < b7.length)=true:=dE (by omega)
  clear c3;obtain⟨rfl,rfl⟩:=q2 H;obtain⟨d6,d7,rfl⟩:=Kd.R_slice b6.out;go_enter Try.func70,Try.ntmps70
  go_wp2_with (first|((with_reducible refine gc 72 rfl ?_);refine gC 72 (some 6) Try.func72 #[.slice d6 l0.length d7] ?_;(with_reducible refine(Azp.calls k (fun k_=>some k_=(.slice d6 l0.length d7:Value).ownBlock) (.slice d6 l0.length d7) l0 b7 b4 _ ?_ ?_ b8.out).mono ?_);exact pB;exact Kd.R_tight rfl b6.out;rintro e d8 ⟨d9,rfl,b5,hb,hkp⟩;refine⟨_,rfl,?_⟩;have e6:=aM (Kd.R_mono (ok':=fun k_=>(a6 k_∨w.heap.size≤k_)) b5 (fun k_ hk_=>Or.elim hk_ (fun hs_=>(b6.out.1 k_ (hs_).symm)) (fun hn_=>(.inr (Nat.le_trans (by first|exact HK.out.1|exact(show Kept w _ (fun k_=>a6 k_) from kK HK).1) hn_)))));replace HK:=aM (Kept.then_ (S:=(fun k_=>a6 k_)) (kK HK) hkp (fun k_ hs_=>(fun e_=>(b6.out.1 k_ e_.symm)) hs_));replace HB:=aM (hb);clear b6;clear hb hkp b5;obtain⟨e7,e8,rfl⟩:=Kd.R_slice e6.out))
  go_ret2
  exact⟨_,eW,nK,pB,kK HK⟩
 ·rw[if_neg c3] at H;have b9:decide (48 < (b7.length:Int))=false:=decide_eq_false c3;have d0:decide (48 < b7.length)=false:=decide_eq_false (by omega)
  clear c3;obtain⟨rfl,rfl⟩:=q2 H;obtain⟨e9,f3,rfl⟩:=Kd.R_slice b6.out;go_enter Try.func70,Try.ntmps70
  go_wp2_with (first|((with_reducible refine gc 72 rfl ?_);refine gC 72 (some 6) Try.func72 #[.slice e9 l0.length f3] ?_;(with_reducible refine(Azp.calls k (fun k_=>some k_=(.slice e9 l0.length f3:Value).ownBlock) (.slice e9 l0.length f3) l0 b7 b4 _ ?_ ?_ b8.out).mono ?_);exact pB;exact Kd.R_tight rfl b6.out;rintro e f4 ⟨d9,rfl,b5,hb,hkp⟩;refine⟨_,rfl,?_⟩;have e6:=aM (Kd.R_mono (ok':=fun k_=>(a6 k_∨w.heap.size≤k_)) b5 (fun k_ hk_=>Or.elim hk_ (fun hs_=>(b6.out.1 k_ (hs_).symm)) (fun hn_=>(.inr (Nat.le_trans (by first|exact HK.out.1|exact(show Kept w _ (fun k_=>a6 k_) from kK HK).1) hn_)))));replace HK:=aM (Kept.then_ (S:=(fun k_=>a6 k_)) (kK HK) hkp (fun k_ hs_=>(fun e_=>(b6.out.1 k_ e_.symm)) hs_));replace HB:=aM (hb);clear b6;clear hb hkp b5;obtain⟨f6,f9,rfl⟩:=Kd.R_slice e6.out))
  go_ret2
  exact⟨_,eW,rX e6.out,pB,kK HK⟩


mutual
def Bzy.j0:Nat→List Int→List Int→Bool→Option (List Int × Int)
 | 0,_,_,_=>none
 | k+1,x0,x1,x18=>if x18=true then(some (([]:List Int),3)) else(if 0≤(wrap64 ((wrap64 ((x0.length:Int)+(x1.length:Int)))+1)) then(if(wrap64 ((wrap64 ((x0.length:Int)+(x1.length:Int)))+1):Int).toNat≤35184372088832 then(Bzy.l0 k x0 x1 (List.replicate (wrap64 ((wrap64 ((x0.length:Int)+(x1.length:Int)))+1):Int).toNat 0) (x0.length:Int) 0) else(none)) else(none))
def Bzy.l0:Nat→List Int→List Int→List Int→Int→Int→Option (List Int × Int)
 | 0,_,_,_,_,_=>none
 | k+1,x0,x1,x6,x27,x28=>if x28 < x27 then(Bzy.l1 k x0 x1 x6 x28 0 x27 x28 (x1.length:Int) 0) else((Dzk.f k x6).bind fun bt483=>(some (bt483.1,bt483.2)))
def Bzy.l1:Nat→List Int→List Int→List Int→Int→Int→Int→Int→Int→Int→Option (List Int × Int)
 | 0,_,_,_,_,_,_,_,_,_=>none
 | k+1,x0,x1,x6,x7,x8,x27,x28,x32,x33=>if x33 < x32 then(if 0≤(wrap64 (x7+x33)) then(if(wrap64 (x7+x33)) < (x6.length:Int) then(if 0≤x7 then(if x7 < (x0.length:Int) then(if 0≤x33 then(if x33 < (x1.length:Int) then(Bzy.l1 k x0 x1 (x6.set ((wrap64 (x7+x33)):Int).toNat (Int.tmod (wrap64 ((wrap64 ((rd x6 (wrap64 (x7+x33)))+(wrap64 ((rd x0 x7) * (rd x1 x33)))))+x8)) 1000000000)) x7 (wrap64 (Int.tdiv (wrap64 ((wrap64 ((rd x6 (wrap64 (x7+x33)))+(wrap64 ((rd x0 x7) * (rd x1 x33)))))+x8)) 1000000000)) x27 x28 x32 (wrap64 (x33+1))) else(none)) else(none)) else(none)) else(none)) else(none)) else(none)) else(if 0≤(wrap64 (x7+(x1.length:Int))) then(if(wrap64 (x7+(x1.length:Int))) < (x6.length:Int) then(Bzy.l0 k x0 x1 (x6.set ((wrap64 (x7+(x1.length:Int))):Int).toNat x8) x27 (wrap64 (x28+1))) else(none)) else(none))
end
def Bzy.f (k:Nat) (l0:List Int) (l1:List Int):Option (List Int × Int):=(Azq.f k l0).bind fun t478=>(if t478=true then((Azq.f k l1).bind fun t479=>(Bzy.j0 k l0 l1 (!t479))) else(Bzy.j0 k l0 l1 true))
theorem Bzy.mono_l:∀ k,(∀ a6 a7 a8,LeO (Bzy.j0 k a6 a7 a8) (Bzy.j0 (k+1) a6 a7 a8))∧(∀ a6 a7 a8 b4 b5,LeO (Bzy.l0 k a6 a7 a8 b4 b5) (Bzy.l0 (k+1) a6 a7 a8 b4 b5))∧(∀ a6 a7 a8 b4 b5 b6 b7 b8 b9,LeO (Bzy.l1 k a6 a7 a8 b4 b5 b6 b7 b8 b9) (Bzy.l1 (k+1) a6 a7 a8 b4 b5 b6 b7 b8 b9))
 | 0=>⟨fun _ _ _ r h=>by simp [Bzy.j0] at h,fun _ _ _ _ _ r h=>by simp [Bzy.l0] at h,fun _ _ _ _ _ _ _ _ _ r h=>by simp [Bzy.l1] at h⟩
 | k+1=>by
  obtain⟨ih0,ih1,ih2⟩:=Bzy.mono_l k;have i0:=@Azq.mono;have i1:=@Dzk.mono;refine⟨?_,?_,?_⟩
  ·intro a6 a7 a8;unfold Bzy.j0;exact mM
  ·intro a6 a7 a8 b4 b5;unfold Bzy.l0;exact mM
  ·intro a6 a7 a8 b4 b5 b6 b7 b8 b9;unfold Bzy.l1;exact mM
theorem Bzy.mono:∀ a6 a7 k,LeO (Bzy.f k a6 a7) (Bzy.f (k+1) a6 a7):=by
 intro a6 a7 k;obtain⟨ih0,ih1,ih2⟩:=Bzy.mono_l k;unfold Bzy.f;have i0:=@Azq.mono;have i1:=@Dzk.mono;exact mM
theorem Bzy.calls (k:Nat) (a6:Option Addr) (a7:Nat) (l0:List Int) (a8:Option Addr) (b4:Nat) (l1:List Int) (b5:List Int) (b6:Int) (w:World) (b7:Kd.C (Kd.int .i64) w a6 l0.length l0) (b8:l0.length≤a7) (b9:Kd.C (Kd.int .i64) w a8 l1.length l1) (d0:l1.length≤b4) (h:Bzy.f k l0 l1=some (b5,b6)) :
  Calls Try.prog 68 #[.slice a6 l0.length a7,.slice a8 l1.length b4] w fun e w'=>∃ v0_:Value,e=.returned (.tuple #[v0_,.int .i64 b6])∧Kd.R (Kd.int .i64) 3 w' w.heap.size (fun _=>True) v0_ b5∧Below w.heap.size w w':=by
 have d6:=aM b7;have d7:=aM b8;clear b7 b8;have d8:=aM b9;have d9:=aM d0;clear b9 d0;have HB:=aM (Below.refl w.heap.size w);have H:((Azq.f k l0).bind fun e6=>(if e6=true then((Azq.f k l1).bind fun e7=>(Bzy.j0 k l0 l1 (!e7))) else(Bzy.j0 k l0 l1 true)))=some (b5,b6):=h
 clear h;have e8:=aM H;clear H;go_enter Try.func68,Try.ntmps68
 go_upto_region 1 with (fail)
 repeat(go_quiet (fail);go_upto_region 1 with (fail))
 go_cut [18] (fun e9 wc=>∃ (kq:Nat) (f3:Bool),e9=.bool f3∧Aside0 (Bzy.j0 kq l0 l1 f3=some (b5,b6))∧Aside0 (kq≤k)∧Aside0 (Below w.heap.size w wc))
 case first =>
  have H:=e8.out;clear e8;obtain⟨e6,f4,H⟩:=bT H;(try dsimp only at H);by_cases c5:e6=true
  ·subst c5;rw[if_pos rfl] at H;obtain⟨e7,f6,H⟩:=bT H;(try dsimp only at H);have H':=aM H;clear H;have fl_:True:=trivial;repeat((first|clear fl_|go_quiet (first|(go_at_call 65;(with_reducible refine(Azq.calls k _ _ l0 true _ ?_ ?_ f4.out).mono ?_);exact cB d6;exact d7.out;rintro e w' ⟨rfl,⟨nd,rfl⟩⟩;(try exact dD))|(go_at_call 65;(with_reducible refine(Azq.calls k _ _ l1 e7 _ ?_ ?_ f6.out).mono ?_);exact cB d8;exact d9.out;rintro e w' ⟨rfl,⟨nd,rfl⟩⟩;(try exact dD))));go_wp2_with (first|(go_at_call 65;(with_reducible refine(Azq.calls k _ _ l0 true _ ?_ ?_ f4.out).mono ?_);exact cB d6;exact d7.out;rintro e w' ⟨rfl,⟨nd,rfl⟩⟩;(try exact dD))|(go_at_call 65;(with_reducible refine(Azq.calls k _ _ l1 e7 _ ?_ ?_ f6.out).mono ?_);exact cB d8;exact d9.out;rintro e w' ⟨rfl,⟨nd,rfl⟩⟩;(try exact dD))))
   go_meet
   case rel=>exact⟨_,(!e7),sD,H',⟨by first|omega|exact Nat.le_refl _⟩,⟨pB⟩⟩
  ·obtain rfl:=bN c5;rw[if_neg nF] at H
   have H':=aM H;clear H;have fl_:True:=trivial;repeat((first|clear fl_|go_quiet (first|(go_at_call 65;(with_reducible refine(Azq.calls k _ _ l0 false _ ?_ ?_ f4.out).mono ?_);exact cB d6;exact d7.out;rintro e w' ⟨rfl,⟨nd,rfl⟩⟩;(try exact dD))));go_wp2_with (first|(go_at_call 65;(with_reducible refine(Azq.calls k _ _ l0 false _ ?_ ?_ f4.out).mono ?_);exact cB d6;exact d7.out;rintro e w' ⟨rfl,⟨nd,rfl⟩⟩;(try exact dD))))
   go_meet
   case rel=>exact⟨_,(true),sD,H',⟨by first|omega|exact Nat.le_refl _⟩,⟨pB⟩⟩
 case rest =>
  clear e8;try clear b4
  try clear f9
  try clear c5
  try clear c6
  obtain⟨kq,f3,rfl,HA,g4,HB⟩:=hcut;cases kq with
  | zero=>exact absurd HA.out (by simp [Bzy.j0])
  | succ g5 =>
   have H:=HA.out;clear HA;simp only[Bzy.j0] at H;by_cases c7:f3=true
   ·subst c7;rw[if_pos rfl] at H;obtain⟨rfl,rfl⟩:=q2 H;go_wp2
    repeat(go_quiet (fail);try go_wp2)
    go_ret2
    exact⟨_,eW,nK,pB⟩
   ·obtain rfl:=bN c7;rw[if_neg nF] at H
    obtain⟨g6,g7⟩:∃ j_:Int,(wrap64 ((wrap64 ((l0.length:Int)+(l1.length:Int)))+1))=j_:=⟨_,rfl⟩;replace H:(if 0≤(g6) then(if(g6:Int).toNat≤35184372088832 then(Bzy.l0 g5 l0 l1 (List.replicate (g6:Int).toNat 0) (l0.length:Int) 0) else(none)) else(none))=some (b5,b6):=by first|(rw[g7] at H;exact H)|(simp only[g7] at H ⊢;exact H)
    have g8:(IntKind.i64.wrap ((wrap64 ((l0.length:Int)+(l1.length:Int)))+1))=g6:=(i64_w _).trans g7;by_cases c9:0≤(g6)
    ·rw[if_pos c9] at H;have g9:=eq_true c9;have j5:=dE c9;clear c9;obtain⟨c10,H⟩:=iO H;have j6:=eq_true c10;have j7:decide ((g6:Int).toNat≤35184372088832)=true:=dE c10;clear c10;obtain⟨j8,j9⟩:∃ y_:List Int,y_=(List.replicate (g6:Int).toNat 0):=⟨_,rfl⟩;replace H:(Bzy.l0 g5 l0 l1 j8 (l0.length:Int) 0)=some (b5,b6):=yE j9 H
     have l5:=aM j9;clear j9;have H':=aM H;clear H;have fl_:True:=trivial;repeat((first|clear fl_|go_quiet (first|((with_reducible refine gate_dst (N:=25) rfl ?_);refine Kd.R_make (Kd.int .i64) _ 3 rfl (N:=25) rfl 22 _ _ rfl g6 rfl rfl Try.underlying22 (.int .i64 0) 8 info3 rfl (by decide) (by omega) 0 (ok:=fun _=>True) (okp:=fun _=>True) rfl (fun _ hk=>hk) trivial (oE aS) (Nat.le_trans (Nat.mul_le_mul_right _ (oE aS:g6.toNat≤35184372088832)) (by omega)) (Below.refl _ _) (Nat.le_refl _) ?_;intro l6 l7 l8 hb hg_ hnew_;clear hg_ hnew_;replace l8:=rY l5 l8;have l9:=rL l8;replace HB:=bB hb;clear hb l8)));go_wp2_with (first|((with_reducible refine gate_dst (N:=25) rfl ?_);refine Kd.R_make (Kd.int .i64) _ 3 rfl (N:=25) rfl 22 _ _ rfl g6 rfl rfl Try.underlying22 (.int .i64 0) 8 info3 rfl (by decide) (by omega) 0 (ok:=fun _=>True) (okp:=fun _=>True) rfl (fun _ hk=>hk) trivial (oE aS) (Nat.le_trans (Nat.mul_le_mul_right _ (oE aS:g6.toNat≤35184372088832)) (by omega)) (Below.refl _ _) (Nat.le_refl _) ?_;intro l6 l7 l8 hb hg_ hnew_;clear hg_ hnew_;replace l8:=rY l5 l8;have l9:=rL l8;replace HB:=bB hb;clear hb l8)))
     go_loopg [28] g5 (fun kq m0 w'=>∃ (m2:List Int) (m3:Int),m0=.int .i64 m3∧Aside0 (Bzy.l0 kq l0 l1 m2 (l0.length:Int) m3=some (b5,b6))∧Aside0 (kq≤g5)∧Aside0 (Kd.R (Kd.int .i64) 3 w' w.heap.size (fun _=>True) l6 m2)∧Aside0 (Below w.heap.size w w'))
     case atStart=>exact⟨(j8),(0),sD,H',⟨Nat.le_refl _⟩,⟨rX l9.out⟩,⟨pB⟩⟩
     case round =>
      clear H';try clear b4
      try clear f9
      try clear c5
      try clear c6
      try clear m4
      try clear c7
      try clear c9
      try clear g9
      try clear j5
      try clear c10
      try clear j6
      try clear j7
      try clear f9
      obtain⟨m2,m3,rfl,HA,m5,m6,HB⟩:=hrel;cases gk with
      | zero=>exact absurd HA.out (by simp [Bzy.l0])
      | succ k2 =>
       have H:=HA.out;clear HA;simp only[Bzy.l0] at H;by_cases m7:m3 < (l0.length:Int)
       ·rw[if_pos m7] at H;have m8:=dE m7;clear m7;have H':=aM H;clear H;go_wp2
        repeat(go_quiet (fail);try go_wp2)
        go_loopg [8,33] k2 (fun kq m9 n0 w'=>∃ (n6:List Int) (n7:Int) (n8:Int),m9=.int .i64 n7∧n0=.int .i64 n8∧Aside0 (Bzy.l1 kq l0 l1 n6 m3 n7 (l0.length:Int) m3 (l1.length:Int) n8=some (b5,b6))∧Aside0 (kq≤k2)∧Aside0 (Kd.R (Kd.int .i64) 3 w' w.heap.size (fun _=>True) l6 n6)∧Aside0 (Below w.heap.size w w'))
        case atStart=>exact⟨(m2),(0),(0),sD,sD,H',⟨Nat.le_refl _⟩,⟨rX m6.out⟩,⟨pB⟩⟩
        case round =>
         clear H';try clear b4
         try clear f9
         try clear c5
         try clear c6
         try clear m4
         try clear c7
         try clear c9
         try clear g9
         try clear j5
         try clear c10
         try clear j6
         try clear j7
         try clear m7
         try clear m8
         try clear f9
         try clear m4
         obtain⟨n6,n7,n8,rfl,rfl,HA,n9,m6,HB⟩:=hrel;cases gk with
         | zero=>exact absurd HA.out (by simp [Bzy.l1])
         | succ k3 =>
          have H:=HA.out;clear HA;simp only[Bzy.l1] at H;by_cases o0:n8 < (l1.length:Int)
          ·rw[if_pos o0] at H;have o8:=dE o0;clear o0;obtain⟨o9,p0⟩:∃ j_:Int,(wrap64 (m3+n8))=j_:=⟨_,rfl⟩;replace H:(if 0≤(o9) then(if(o9) < (n6.length:Int) then(if 0≤m3 then(if m3 < (l0.length:Int) then(if 0≤n8 then(if n8 < (l1.length:Int) then(Bzy.l1 k3 l0 l1 (n6.set ((o9):Int).toNat (Int.tmod (wrap64 ((wrap64 ((rd n6 (o9))+(wrap64 ((rd l0 m3) * (rd l1 n8)))))+n7)) 1000000000)) m3 (wrap64 (Int.tdiv (wrap64 ((wrap64 ((rd n6 (o9))+(wrap64 ((rd l0 m3) * (rd l1 n8)))))+n7)) 1000000000)) (l0.length:Int) m3 (l1.length:Int) (wrap64 (n8+1))) else(none)) else(none)) else(none)) else(none)) else(none)) else(none))=some (b5,b6):=by first|(rw[p0] at H;exact H)|(simp only[p0] at H ⊢;exact H)
           have p4:(IntKind.i64.wrap (m3+n8))=o9:=(i64_w _).trans p0;obtain⟨p5,H⟩:=iN H;obtain⟨p9,H⟩:=iN H;obtain⟨r5,H⟩:=iN H;obtain⟨r6,H⟩:=iN H;obtain⟨r7,H⟩:=iN H;obtain⟨r8,H⟩:=iN H;obtain⟨r9,t6⟩:∃ y_:List Int,y_=(n6.set ((o9):Int).toNat (Int.tmod (wrap64 ((wrap64 ((rd n6 (o9))+(wrap64 ((rd l0 m3) * (rd l1 n8)))))+n7)) 1000000000)):=⟨_,rfl⟩;replace H:(Bzy.l1 k3 l0 l1 r9 m3 (wrap64 (Int.tdiv (wrap64 ((wrap64 ((rd n6 (o9))+(wrap64 ((rd l0 m3) * (rd l1 n8)))))+n7)) 1000000000)) (l0.length:Int) m3 (l1.length:Int) (wrap64 (n8+1)))=some (b5,b6):=yE t6 H
           have t7:=aM t6;clear t6;have H':=aM H;clear H;obtain⟨t8,z1,rfl⟩:=Kd.R_slice m6.out;obtain⟨z2,z6,z7,z8,B0⟩:=aI (Kd.R_reads' m6.out).2.2 (o9);cases z6;obtain⟨B5,B6,B8,B9,C0⟩:=aI d6.out m3;cases B6
           replace B8:=hB HB B8;obtain⟨C1,C2,C3,C4,C6⟩:=aI d8.out n8;cases C2
           replace C3:=hB HB C3;have C7:0≤((o9):Int):=oE aS
           have C8:((o9):Int) < ((n6.length:Int):Int):=oE aS
           obtain⟨C9,D0,D1,D2,D3,D4,D5⟩:=Kd.R_form m6.out (by omega)
           (first|cases D1|(injection D1 with ea_ en_ ec_;(first|subst ea_|(injection ea_ with ea_;subst ea_));subst ec_;clear en_))
           have D6:=aM D2;have D7:=aM D5;clear D2 D3 D5;(first|simp only[add_plain] at z7|skip)
           obtain⟨D8,D9⟩:=Kd.R_celln 0 m6.out ((o9):Int) C7 C8;replace C7:=eq_true C7;replace C8:=eq_true C8;have E0:=Kd.R_putg m6.out ((o9):Int) (Int.tmod (wrap64 ((wrap64 ((rd n6 (o9))+(wrap64 ((rd l0 m3) * (rd l1 n8)))))+n7)) 1000000000);have fl_:True:=trivial;repeat((first|clear fl_|go_quiet (first|((with_reducible refine gate_store (t:=3) (p:=62) rfl ?_);(try(rw[drewN_self wr];generalize hq_:World.drewN wr _=wr;have n0_:=aM (Kd.R_at hq_ m6.out);have n1_:=aM (below_at hq_ HB.out);clear hq_ m6 HB;have m6:=n0_;have HB:=n1_;clear n0_ n1_;(try(obtain⟨D8,D9⟩:=Kd.R_celln 0 m6.out ((o9):Int) (of_eq_true C7) (of_eq_true C8)));(try(have E0:=Kd.R_putg m6.out ((o9):Int) (Int.tmod (wrap64 ((wrap64 ((rd n6 (o9))+(wrap64 ((rd l0 m3) * (rd l1 n8)))))+n7)) 1000000000)))));refine store_event (t:=3) (p:=62) (v:=?vo_w25) (w1:=(wr.setCell ⟨C9,((o9):Int).toNat,none⟩ (.int .i64 (Int.tmod (wrap64 ((wrap64 ((rd n6 (o9))+(wrap64 ((rd l0 m3) * (rd l1 n8)))))+n7)) 1000000000)))) ?hg ?ho ?hn ?hr ?_;(case ho=>rfl);(case hg=>rfl);(case hn=>rfl);(case hr=>first|(go_simp;done)|(go_simp;rfl));intro E1 hw;have hg:wr.grownBy E1 (some C9):=(by rw[hw];exact E0.2);have hp_:Kd.R (Kd.int .i64) 3 E1 w.heap.size (fun _=>True) (.slice (some ⟨C9,0,none⟩) n6.length z1) r9:=(by rw[hw,t7.out];exact E0.1);clear E0;replace m6:=aM (hp_);replace HB:=aM ((by rw[hw];exact below_set (HB.out) D6.out:Below w.heap.size w E1));clear hg hw hp_)));go_wp2_with (first|((with_reducible refine gate_store (t:=3) (p:=62) rfl ?_);(try(rw[drewN_self wr];generalize hq_:World.drewN wr _=wr;have n0_:=aM (Kd.R_at hq_ m6.out);have n1_:=aM (below_at hq_ HB.out);clear hq_ m6 HB;have m6:=n0_;have HB:=n1_;clear n0_ n1_;(try(obtain⟨D8,D9⟩:=Kd.R_celln 0 m6.out ((o9):Int) (of_eq_true C7) (of_eq_true C8)));(try(have E0:=Kd.R_putg m6.out ((o9):Int) (Int.tmod (wrap64 ((wrap64 ((rd n6 (o9))+(wrap64 ((rd l0 m3) * (rd l1 n8)))))+n7)) 1000000000)))));refine store_event (t:=3) (p:=62) (v:=?vo_w25) (w1:=(wr.setCell ⟨C9,((o9):Int).toNat,none⟩ (.int .i64 (Int.tmod (wrap64 ((wrap64 ((rd n6 (o9))+(wrap64 ((rd l0 m3) * (rd l1 n8)))))+n7)) 1000000000)))) ?hg ?ho ?hn ?hr ?_;(case ho=>rfl);(case hg=>rfl);(case hn=>rfl);(case hr=>first|(go_simp;done)|(go_simp;rfl));intro E1 hw;have hg:wr.grownBy E1 (some C9):=(by rw[hw];exact E0.2);have hp_:Kd.R (Kd.int .i64) 3 E1 w.heap.size (fun _=>True) (.slice (some ⟨C9,0,none⟩) n6.length z1) r9:=(by rw[hw,t7.out];exact E0.1);clear E0;replace m6:=aM (hp_);replace HB:=aM ((by rw[hw];exact below_set (HB.out) D6.out:Below w.heap.size w E1));clear hg hw hp_)))
           go_roundg k3
           case measure=>have:=g4.out;have:=m5.out;have:=n9.out;omega
           case rel=>exact⟨(r9),(wrap64 (Int.tdiv (wrap64 ((wrap64 ((rd n6 (o9))+(wrap64 ((rd l0 m3) * (rd l1 n8)))))+n7)) 1000000000)),(wrap64 (n8+1)),(by first|rfl|(simp;done)|(simp only[← p0] <;> (first|rfl|simp))|(simp [*];done)),sD,H',⟨by have:=g4.out;have:=m5.out;have:=n9.out;omega⟩,⟨rX m6.out⟩,⟨pB⟩⟩
          ·rw[if_neg o0] at H;have o8:decide (n8 < (l1.length:Int))=false:=decide_eq_false o0;clear o0;obtain⟨E2,E3⟩:∃ j_:Int,(wrap64 (m3+(l1.length:Int)))=j_:=⟨_,rfl⟩;replace H:(if 0≤(E2) then(if(E2) < (n6.length:Int) then(Bzy.l0 k3 l0 l1 (n6.set ((E2):Int).toNat n7) (l0.length:Int) (wrap64 (m3+1))) else(none)) else(none))=some (b5,b6):=by first|(rw[E3] at H;exact H)|(simp only[E3] at H ⊢;exact H)
           have E4:(IntKind.i64.wrap (m3+(l1.length:Int)))=E2:=(i64_w _).trans E3;obtain⟨E5,H⟩:=iN H;obtain⟨E6,H⟩:=iN H;obtain⟨E7,E8⟩:∃ y_:List Int,y_=(n6.set ((E2):Int).toNat n7):=⟨_,rfl⟩;replace H:(Bzy.l0 k3 l0 l1 E7 (l0.length:Int) (wrap64 (m3+1)))=some (b5,b6):=yE E8 H
           have E9:=aM E8;clear E8;have H':=aM H;clear H;have F0:0≤((E2):Int):=oE aS
           have F1:((E2):Int) < ((n6.length:Int):Int):=oE aS
           obtain⟨F2,F3,F4,F5,F6,F7,F8⟩:=Kd.R_form m6.out (by omega)
           (first|cases F4|(injection F4 with ea_ en_ ec_;(first|subst ea_|(injection ea_ with ea_;subst ea_));subst ec_;clear en_))
           have F9:=aM F5;have G0:=aM F8;clear F5 F6 F8;obtain⟨G4,G5⟩:=Kd.R_celln 0 m6.out ((E2):Int) F0 F1;replace F0:=eq_true F0;replace F1:=eq_true F1;have G6:=Kd.R_putg m6.out ((E2):Int) n7;have fl_:True:=trivial;repeat((first|clear fl_|go_quiet (first|((with_reducible refine gate_store (t:=3) (p:=70) rfl ?_);(try(rw[drewN_self wr];generalize hq_:World.drewN wr _=wr;have n0_:=aM (Kd.R_at hq_ m6.out);have n1_:=aM (below_at hq_ HB.out);clear hq_ m6 HB;have m6:=n0_;have HB:=n1_;clear n0_ n1_;(try(obtain⟨G4,G5⟩:=Kd.R_celln 0 m6.out ((E2):Int) (of_eq_true F0) (of_eq_true F1)));(try(have G6:=Kd.R_putg m6.out ((E2):Int) n7))));refine store_event (t:=3) (p:=70) (v:=?vo_w31) (w1:=(wr.setCell ⟨F2,((E2):Int).toNat,none⟩ (.int .i64 n7))) ?hg ?ho ?hn ?hr ?_;(case ho=>rfl);(case hg=>rfl);(case hn=>rfl);(case hr=>first|(go_simp;done)|(go_simp;rfl));intro G7 hw;have hg:wr.grownBy G7 (some F2):=(by rw[hw];exact G6.2);have hp_:Kd.R (Kd.int .i64) 3 G7 w.heap.size (fun _=>True) (.slice (some ⟨F2,0,none⟩) n6.length F3) E7:=(by rw[hw,E9.out];exact G6.1);clear G6;replace m6:=aM (hp_);replace HB:=aM ((by rw[hw];exact below_set (HB.out) F9.out:Below w.heap.size w G7));clear hg hw hp_)));go_wp2_with (first|((with_reducible refine gate_store (t:=3) (p:=70) rfl ?_);(try(rw[drewN_self wr];generalize hq_:World.drewN wr _=wr;have n0_:=aM (Kd.R_at hq_ m6.out);have n1_:=aM (below_at hq_ HB.out);clear hq_ m6 HB;have m6:=n0_;have HB:=n1_;clear n0_ n1_;(try(obtain⟨G4,G5⟩:=Kd.R_celln 0 m6.out ((E2):Int) (of_eq_true F0) (of_eq_true F1)));(try(have G6:=Kd.R_putg m6.out ((E2):Int) n7))));refine store_event (t:=3) (p:=70) (v:=?vo_w31) (w1:=(wr.setCell ⟨F2,((E2):Int).toNat,none⟩ (.int .i64 n7))) ?hg ?ho ?hn ?hr ?_;(case ho=>rfl);(case hg=>rfl);(case hn=>rfl);(case hr=>first|(go_simp;done)|(go_simp;rfl));intro G7 hw;have hg:wr.grownBy G7 (some F2):=(by rw[hw];exact G6.2);have hp_:Kd.R (Kd.int .i64) 3 G7 w.heap.size (fun _=>True) (.slice (some ⟨F2,0,none⟩) n6.length F3) E7:=(by rw[hw,E9.out];exact G6.1);clear G6;replace m6:=aM (hp_);replace HB:=aM ((by rw[hw];exact below_set (HB.out) F9.out:Below w.heap.size w G7));clear hg hw hp_)))
           go_roundg k3
           case measure=>have:=g4.out;have:=m5.out;have:=n9.out;omega
           case rel=>exact⟨(E7),(wrap64 (m3+1)),sD,H',⟨by have:=g4.out;have:=m5.out;have:=n9.out;omega⟩,⟨rX m6.out⟩,⟨pB⟩⟩
       ·rw[if_neg m7] at H;have m8:decide (m3 < (l0.length:Int))=false:=decide_eq_false m7;clear m7;replace H:=bS H;obtain⟨⟨G8,G9⟩,H5,H⟩:=H;replace H:(some (G8,G9))=some (b5,b6):=H;have H6:=aM H5;clear H5;obtain⟨rfl,rfl⟩:=q2 H;obtain⟨H7,H8,rfl⟩:=Kd.R_slice m6.out;have fl_:True:=trivial;repeat((first|clear fl_|go_quiet (first|(go_at_call 70;(with_reducible refine(Dzk.calls k2 (fun k_=>some k_=(.slice H7 m2.length H8:Value).ownBlock) (.slice H7 m2.length H8) m2 G8 G9 w _ ?_ ?_ H6.out).mono ?_);exact pB;exact Kd.R_tight rfl m6.out;rintro e H9 ⟨I0,rfl,I1,hb,hkp⟩;have I2:=aM (Kd.R_mono (ok':=fun k_=>True) I1 (fun k_ hk_=>trivial));replace HB:=aM (hb);clear m6;clear hb hkp I1)));go_wp2_with (first|(go_at_call 70;(with_reducible refine(Dzk.calls k2 (fun k_=>some k_=(.slice H7 m2.length H8:Value).ownBlock) (.slice H7 m2.length H8) m2 G8 G9 w _ ?_ ?_ H6.out).mono ?_);exact pB;exact Kd.R_tight rfl m6.out;rintro e H9 ⟨I0,rfl,I1,hb,hkp⟩;have I2:=aM (Kd.R_mono (ok':=fun k_=>True) I1 (fun k_ hk_=>trivial));replace HB:=aM (hb);clear m6;clear hb hkp I1)))
        go_ret2
        exact⟨_,by first|rfl|(simp [errW_none,errW_some] <;> rfl)|(simp only[← g7];first|rfl|(simp [errW_none,errW_some] <;> rfl))|(simp [*,errW_none,errW_some] <;> rfl),rX I2.out,pB⟩
    ·rw[if_neg c9] at H;exact absurd H (by simp)


theorem goesvL_ {P:Program} {ops:Array Oper} {Q:Exit→Act→World→Prop} {rest:List Oper} {oi:Oper} {a:Act} {w:World} (N:Option Tmp) (hd:oi.dst=N) (hg:oi.guard=none) {f:FuncId} {caps:Array Value} {fn:Func} {c:Operand} {ts:Array TypeId} (hf:P.funcs[f]?=some fn) (hname:(fn.name == "runtime.NumGoroutine")=false) (hb:fn.body.isSome=true)
  (hop:oi.op=.call { callee:=.value c,args:=#[],argTypes:=ts }) (hc:a.eval c=.func (.func f) #[] caps)
  (h:Calls P f caps w fun e w'=>∃ v,e=.returned v∧wpList P ops Q rest (a.put N v) w'):wpList P ops Q (oi :: rest) a w:=by
 refine wpList_plain hg fun K hK=>?_
 have he:=enters_ hf hname hb caps w;have hrun:(execOp a.eval oi).run P w=.ok (.enter f caps) w:=by
  unfold execOp;simp [hop,resolve,hc,Deferred.ofValue,invoke,he]
 unfold Oper.wp;rw[hrun,Oper.upon_enter];refine h.mono fun e w'' hh=>?_
 obtain⟨v,rfl,hk⟩:=hh;subst hd;exact hK _ _ hk
/-- What 'products' does with functions one after the other. -/
structure Steps_ (xs:List (Nat × Array Value)) (ad:Addr) (I:Nat→World→Prop) (Q:Int→World→Prop):Prop where
 cell:∀ j W,I j W→∀ i x,xs[i]?=some x→W.cell? (ad.add i)=some (.func (.func x.1) #[] x.2)
 step:∀ j W x,I j W→xs[j]?=some x→(∃ fn,Try.prog.funcs[x.1]?=some fn∧(fn.name == "runtime.NumGoroutine")=false∧fn.body.isSome=true)∧Calls Try.prog x.1 x.2 W fun e W'=>∃ r:Int,e=.returned (.int .i64 r)∧(r=0→I (j+1) W')∧(r≠0→Q r W')
 done:∀ W,I xs.length W→Q 0 W
theorem Fzp.calls (xs:List (Nat × Array Value)) (ad:Addr) (c:Nat) (w:World) (I:Nat→World→Prop) (Q:Int→World→Prop) (hS:Steps_ xs ad I Q) (a6:I 0 w) (hn:xs.length < 4611686018427387904) :
  Calls Try.prog 48 #[.slice (some ad) xs.length c] w fun e w'=>∃ r:Int,e=.returned (.int .i64 r)∧Q r w':=by
 have HS:=aM hS;have H0:=aM a6;have HN:=aM hn;clear hS a6 hn;go_enter Try.func48,Try.ntmps48
 go_wp2
 go_loopg [8] (xs.length+1) (fun kq a7 w'=>∃ (j_:Nat),a7=.int .i64 (j_:Int)∧Aside0 (j_+kq=xs.length+1∧0 < kq)∧Aside0 (I j_ w'))
 case atStart=>exact⟨0,rfl,⟨by omega,by omega⟩,H0⟩
 case round =>
  obtain⟨j_,rfl,HJ,HI⟩:=hrel;cases gk with
  | zero=>exact absurd HJ.out.2 (by omega)
  | succ k1 =>
   by_cases c5:(j_:Int) < (xs.length:Int)
   ·have a8:=dE c5;have b4:decide (j_ < xs.length)=true:=dE (by omega)
    obtain⟨x_,hx_⟩:∃ x_,xs[j_]?=some x_:=⟨xs[j_]'(by omega),List.getElem?_eq_getElem (by omega)⟩
    have b5:=aM c5;clear c5;have b6:=HS.out.cell j_ wr HI.out j_ x_ hx_;have HX:=aM hx_;clear hx_;have b7:(0:Int)≤(j_:Int):=by omega
    obtain⟨⟨fn_,hf_,hn_,hb_⟩,hC_⟩:=HS.out.step j_ wr x_ HI.out HX.out;have HF:=aM hf_;have HNM:=aM hn_;have HBD:=aM hb_;have HC:=aM hC_;clear hf_ hn_ hb_ hC_;go_wp2_with (first|(refine goesvL_ (some 13) rfl rfl (f:=x_.1) (caps:=x_.2) HF.out HNM.out HBD.out rfl (by first|rfl|(simp [Act.eval];done)) ?_;refine HC.out.mono ?_;rintro e b8 ⟨r_,rfl,b9,d0⟩;refine⟨_,rfl,?_⟩;have d6:=aM b9;have d7:=aM d0;clear b9 d0))
    ·rename_i hr_
     go_ret
     exact⟨r_,rfl,d7.out (by simpa using hr_)⟩
    ·rename_i hr_
     go_roundg k1
     case measure=>omega
     case rel =>
      refine⟨j_+1,?_,⟨by have:=HJ.out;omega,by have:=HJ.out;have:=b5.out;omega⟩,⟨d6.out (by simpa using hr_)⟩⟩
      have e_:wrap64 ((j_:Int)+1)=((j_+1:Nat):Int):=by have:=HN.out;have:=b5.out;unfold wrap64;omega
      rw[e_]
    all_goals (exfalso;have:=b5.out;omega)
   ·have a8:decide ((j_:Int) < (xs.length:Int))=false:=decide_eq_false c5;have b4:decide (j_ < xs.length)=false:=decide_eq_false (by omega)
    have b5:=aM c5;clear c5;go_wp2
    go_ret
    refine⟨_,rfl,HS.out.done _ ?_⟩;have e_:j_=xs.length:=by have:=b5.out;have:=HJ.out;omega
    rw[← e_];exact HI.out

/-- A function value that computes a product: where it lies,and what it has captured. -/
structure Thk (W:World) (b gp:Nat) (A:Option Addr) (n c:Nat) (A':Option Addr) (n' c':Nat):Prop where
 tp:W.heap[b]?=some (.cells #[.pointer (some ⟨gp,0,none⟩)] 68 (0,0))
 fa:W.heap[b+1]?=some (.cells #[.slice A n c] 36 (0,0))
 fb:W.heap[b+2]?=some (.cells #[.slice A' n' c'] 36 (0,0))
 lt:gp < b
theorem Thk.below {W W1:World} {b gp n c n' c':Nat} {A A':Option Addr} (h:Thk W b gp A n c A' n' c') (hb:Below W.heap.size W W1):Thk W1 b gp A n c A' n' c' :=
 ⟨(hb.block _ (Array.getElem?_eq_some_iff.1 h.tp).1).trans h.tp,(hb.block _ (Array.getElem?_eq_some_iff.1 h.fa).1).trans h.fa,(hb.block _ (Array.getElem?_eq_some_iff.1 h.fb).1).trans h.fb,h.lt⟩
theorem Thk.keep {W W1:World} {b gp n c n' c':Nat} {A A':Option Addr} (h:Thk W b gp A n c A' n' c') (a6:W1.heap[b]?=W.heap[b]?) (a7:W1.heap[b+1]?=W.heap[b+1]?) (a8:W1.heap[b+2]?=W.heap[b+2]?):Thk W1 b gp A n c A' n' c' :=
 ⟨a6.trans h.tp,a7.trans h.fa,a8.trans h.fb,h.lt⟩
def thkFn (f b:Nat):Nat × Array Value:=(f,#[.pointer (some ⟨b+1,0,none⟩),.pointer (some ⟨b+2,0,none⟩),.pointer (some ⟨b,0,none⟩)])
theorem Dzf.calls (gp:Nat) (A:Option Addr) (n c:Nat) (A':Option Addr) (n' c':Nat) (w:World) (hgp:gp < w.heap.size) :
  Calls Try.prog 49 #[.pointer (some ⟨gp,0,none⟩),.slice A n c,.slice A' n' c'] w fun e w'=>∃ b,e=.returned (.func (.func (thkFn 67 b).1) #[] (thkFn 67 b).2)∧Thk w' b gp A n c A' n' c'∧w.heap.size≤b∧Below w.heap.size w w':=by
 have hmf_:∀ (fn:Fn) (first cap:Array Value) (w:World),(Instr.makeFunc fn first cap).run Try.prog w=.ok (.func fn first cap) w:=fun _ _ _ _=>rfl
 have HGP:=aM hgp;clear hgp;go_enter Try.func49,Try.ntmps49
 go_wp2
 go_ret
 refine⟨w.heap.size,rfl,⟨?_,?_,?_,HGP.out⟩,Nat.le_refl _,?_⟩
 ·exact blk_alloc (blk_alloc (blk_new w _) _) _
 ·have:=blk_alloc (blk_new (w.alloc (Obj.cells #[Value.pointer (some { block:=gp,off:=0 })] 68)) (Obj.cells #[.slice A n c] 36)) (.cells #[.slice A' n' c'] 36);simpa using this
 ·have:=blk_new (((w.alloc (Obj.cells #[Value.pointer (some { block:=gp,off:=0 })] 68)).alloc (Obj.cells #[Value.slice A n c] 36))) (Obj.cells #[.slice A' n' c'] 36);simpa using this
 ·exact(((Below.refl _ _).alloc (Nat.le_refl _) _).alloc (by simp) _).alloc (by simp;omega) _
/-- The step that computes a product. -/
theorem Ezf.calls (k b gp:Nat) (A:Option Addr) (c:Nat) (l:List Int) (A':Option Addr) (c':Nat) (l':List Int) (u:Value) (a6:List Int) (a7:Int) (w:World) (hT:Thk w b gp A l.length c A' l'.length c') (hp:w.heap[gp]?=some (.cells #[u] 36 (0,0)))
  (a8:Kd.C (Kd.int .i64) w A l.length l) (b4:l.length≤c) (b5:Kd.C (Kd.int .i64) w A' l'.length l') (b6:l'.length≤c') (h:Bzy.f k l l'=some (a6,a7)) :
  Calls Try.prog (thkFn 67 b).1 (thkFn 67 b).2 w fun e w'=>∃ (b7:World) (v:Value),e=.returned (.int .i64 a7)∧w'=b7.setCell ⟨gp,0,none⟩ v∧Kd.R (Kd.int .i64) 3 b7 w.heap.size (fun _=>True) v a6∧Below w.heap.size w b7:=by
 have HA:=aM h;have b8:=aM a8;have b9:=aM b4;have d0:=aM b5;have d6:=aM b6;have HT:=aM hT;have HP:=aM hp;have HB:=aM (Below.refl w.heap.size w);have d7:=(blk_cell hT.tp 0).trans rfl;have d8:=(blk_cell hT.fa 0).trans rfl;have d9:=(blk_cell hT.fb 0).trans rfl;clear h a8 b4 b5 b6 hT hp;show Calls Try.prog 67 #[.pointer (some ⟨b+1,0,none⟩),.pointer (some ⟨b+2,0,none⟩),.pointer (some ⟨b,0,none⟩)] w _
 go_enter Try.func67,Try.ntmps67
 go_wp2_with (first|((with_reducible refine gc 68 rfl ?_);refine gC 68 (some 9) Try.func68 #[.slice A l.length c,.slice A' l'.length c'] ?_;(with_reducible refine(Bzy.calls k _ _ l _ _ l' a6 a7 _ ?_ ?_ ?_ ?_ HA.out).mono ?_);exact b8.out;exact b9.out;exact d0.out;exact d6.out;rintro e e6 ⟨e7,rfl,e8,hb⟩;refine⟨_,rfl,?_⟩;obtain⟨Ao_,co_,eo_⟩:=Kd.R_slice e8;subst eo_;have HO:=aM e8;have e9:=kb HP hb;have f3:=(blk_cell (kB (aM HT.out.tp) hb) 0).trans rfl;have f4:=(blk_cell e9.out 0).trans rfl;have f6:=blk_frozen e9.out 0;replace HB:=aM hb;clear hb e8))
 go_ret
 exact⟨_,_,rfl,rfl,HO.out,HB.out⟩
/-- What the pure text tells of a step's making: nothing. -/
def Dzf.f (_:Unit) (_ _:List Int):Option Int:=some 0
theorem fun_lit_step {P:Program} {ops:Array Oper} {Q:Exit→Act→World→Prop} {o:Oper} {a:Act} {Kc:Act→World→Prop} {W:World} (hw:Region.wanted o (yielded ops a.tmps)=true) {N:Tmp} (_hd:o.dst=some N) {cs:Array Value} {t:TypeId} {n:Nat}
  (hrun:(execOp a.eval o).run P W=.ok (.value (.slice (some ⟨W.heap.size,0,none⟩) n n)) (W.alloc (.cells cs t (0,0))))
  (h:∀ g a6,a6.heap[g]?=some (.cells cs t (0,0))→Below W.heap.size W a6→Kc (a.put o.dst (.slice (some ⟨g,0,none⟩) n n)) a6):if Region.wanted o (yielded ops a.tmps)=true then Oper.wp P o a W Kc Q else Kc (a.put o.dst undef) W :=
 event_step hw hrun (h _ _ (blk_new W _) (below_alloc (Below.refl _ _) _))
theorem V_keptC {W W_:World} {e base n c:Nat} {ok S:Nat→Prop} {A:Option Addr} {xs:List Int} (h:Kd.V (Kd.int .i64) e W base ok (.slice A n c) xs) (hk:Kept W W_ S) (hne:∀ k,ok k→¬ S k):Kd.C (Kd.int .i64) W_ A n xs:=by
 obtain⟨hn,_,_⟩:=Kd.V_reads' h;have a6:=Kd.V_reads' (Kd.V_step h (fun k hk1 hk2=>hk.2 k hk2 (hne k hk1)))
 rw[hn];exact a6.2.2
theorem C_V {w:World} {e base n c:Nat} {A:Option Addr} {xs:List Int} (h:Kd.C (Kd.int .i64) w A n xs) (hc:n≤c):Kd.V (Kd.int .i64) e w base (fun _=>True) (.slice A n c) xs:=by
 have hn:=h.1;subst hn;refine⟨A,c,rfl,hc,fun W' hW=>⟨h.1,h.2.1,fun hp=>?_⟩⟩
 obtain⟨ad,a6,a7⟩:=h.2.2 hp;refine⟨ad,a6,fun j q hj=>?_⟩
 obtain⟨cs,a8,b4,b5⟩:=a7 j q hj;refine⟨cs,a8,b4,fun i u hu=>?_⟩
 have b6:=b5 i u hu;have b7:=hW _ trivial (World.block_lt_of_cell? w _ b6);rw[← b6];simp only[World.cell?,b7]
/-- What two steps one after the other come to. -/
def Czb.f (k:Nat) (l1 l1' l2 l2':List Int):Option (Int × List Int × List Int):=(Bzy.f k l1 l1').bind fun x=>if x.2=0 then(Bzy.f k l2 l2').bind fun y=>some (y.2,x.1,y.1) else some (x.2,x.1,([]:List Int))
theorem Czb.mono:∀ a6 a7 a8 b4 k,LeO (Czb.f k a6 a7 a8 b4) (Czb.f (k+1) a6 a7 a8 b4):=by
 intro a6 a7 a8 b4 k;unfold Czb.f;exact LeO.bind (Bzy.mono _ _ k) (fun _=>LeO.ite (LeO.bind (Bzy.mono _ _ k) (fun _=>LeO.refl _)) (LeO.refl _))
theorem kept_far {w a6:World} {S:Nat→Prop} {B g:Nat} (h:Below B w a6) (hB:w.heap.size≤B) (hg:S g) (v:Value):Kept w (a6.setCell ⟨g,0,none⟩ v) S :=
 Kept.setCell (p:=⟨g,0,none⟩) ⟨h.size,fun i hi _=>h.block i (Nat.lt_of_lt_of_le hi hB)⟩ (.inl hg) v
theorem kept_trans {a b c:World} {S:Nat→Prop} (h:Kept a b S) (h':Kept b c S):Kept a c S :=
 ⟨Nat.le_trans h.1 h'.1,fun i hi hn=>(h'.2 i (Nat.lt_of_lt_of_le hi h.1) hn).trans (h.2 i hi hn)⟩
/-- What two products leave. -/
structure Fin2 (w0 w W:World) (gp gq:Nat) (vp vq:Value) (x y:List Int):Prop where
 p:W.heap[gp]?=some (.cells #[vp] 36 (0,0))
 q:W.heap[gq]?=some (.cells #[vq] 36 (0,0))
 rp:Kd.R (Kd.int .i64) 3 W w0.heap.size (fun k_=>w.heap.size≤k_∧some k_≠vq.ownBlock) vp x
 rq:Kd.R (Kd.int .i64) 3 W w0.heap.size (fun k_=>w.heap.size≤k_∧some k_≠vp.ownBlock) vq y
 below:Below w0.heap.size w0 W
 kept:Kept w W (fun k_=>k_=gp∨k_=gq)
theorem below_far {B:Nat} {a6 w a7:World} {g:Nat} (h:Below B a6 w) (hB:B≤w.heap.size) (a8:Below w.heap.size w a7) (hg:B≤g) (v:Value):Below B a6 (a7.setCell ⟨g,0,none⟩ v) :=
 Below.setCell (below_then h hB a8) hg v
set_option maxHeartbeats 2000000 in
theorem Czb.calls (k a6 a7 gp gq:Nat) (a8:Option Addr) (b4:Nat) (l1:List Int) (b5:Option Addr) (b6:Nat) (b7:List Int) (b8:Option Addr) (c2:Nat) (l2:List Int) (b9:Option Addr) (d0:Nat) (d6:List Int) (d7:Int) (d8 d9:List Int) (g cg:Nat) (e6 w:World) (hB:Below e6.heap.size e6 w)
  (hg:w.heap[g]?=some (.cells #[.func (.func (thkFn 67 a6).1) #[] (thkFn 67 a6).2,.func (.func (thkFn 67 a7).1) #[] (thkFn 67 a7).2] 66 (0,0)))
  (e7:Thk w a6 gp a8 l1.length b4 b5 b7.length b6) (e8:Thk w a7 gq b8 l2.length c2 b9 d6.length d0) (hp:w.heap[gp]?=some (.cells #[.slice none 0 0] 36 (0,0))) (hq:w.heap[gq]?=some (.cells #[.slice none 0 0] 36 (0,0))) (hne:gp≠gq) (hgp:e6.heap.size≤gp) (hgq:e6.heap.size≤gq) (e9:gp < a7) (f3:gq < a6)
  (f4:∀ W_,Kept w W_ (fun k_=>k_=gp∨k_=gq)→Kd.C (Kd.int .i64) W_ a8 l1.length l1) (f6:l1.length≤b4) (f9:∀ W_,Kept w W_ (fun k_=>k_=gp∨k_=gq)→Kd.C (Kd.int .i64) W_ b5 b7.length b7) (g4:b7.length≤b6)
  (g5:∀ W_,Kept w W_ (fun k_=>k_=gp∨k_=gq)→Kd.C (Kd.int .i64) W_ b8 l2.length l2) (g6:l2.length≤c2) (g7:∀ W_,Kept w W_ (fun k_=>k_=gp∨k_=gq)→Kd.C (Kd.int .i64) W_ b9 d6.length d6) (g8:d6.length≤d0)
  (h:Czb.f k l1 b7 l2 d6=some (d7,d8,d9)) :
  Calls Try.prog 48 #[.slice (some ⟨g,0,none⟩) 2 cg] w fun e w'=>e=.returned (.int .i64 d7)∧∃ vp vq:Value,Fin2 e6 w w' gp gq vp vq d8 d9:=by
 have hfn:∃ fn,Try.prog.funcs[67]?=some fn∧(fn.name == "runtime.NumGoroutine")=false∧fn.body.isSome=true:=⟨_,Try.func67,by kernel_rfl,rfl⟩
 have hgl:=blk_lt hg;have hgne:g≠gp∧g≠gq:=⟨blk_ne hg hp (by decide),blk_ne hg hq (by decide)⟩
 have hK1:∀ (g9:World) (v:Value),Below w.heap.size w g9→Kept w (g9.setCell ⟨gp,0,none⟩ v) (fun k_=>k_=gp∨k_=gq):=fun g9 v hb=>kept_far hb (Nat.le_refl _) (.inl rfl) v
 have hfar:∀ (W:World) (i:Nat) (o:Obj),Kept w W (fun k_=>k_=gp∨k_=gq)→i≠gp→i≠gq→w.heap[i]?=some o→W.heap[i]?=some o:=fun W i o hk j5 j6 ho=>blk_kept ho hk (fun e=>e.elim j5 j6)
 have hBs:=hB.size;let I:Nat→World→Prop:=fun j W=>Kept w W (fun k_=>k_=gp∨k_=gq)∧match j with
  | 0=>W=w
  | 1=>∃ (g9:World) (v:Value) (x:List Int),W=g9.setCell ⟨gp,0,none⟩ v∧Bzy.f k l1 b7=some (x,0)∧Kd.R (Kd.int .i64) 3 g9 w.heap.size (fun _=>True) v x∧Below w.heap.size w g9
  | _=>∃ (vp vq:Value) (x y:List Int),Fin2 e6 w W gp gq vp vq x y∧Czb.f k l1 b7 l2 d6=some (0,x,y)
 let Qr:Int→World→Prop:=fun r W=>∃ (vp vq:Value) (x y:List Int),Fin2 e6 w W gp gq vp vq x y∧Czb.f k l1 b7 l2 d6=some (r,x,y)
 have hS:Steps_ [thkFn 67 a6,thkFn 67 a7] ⟨g,0,none⟩ I Qr:=by
  refine⟨fun j W hI i x hx=>?_,fun j W x hI hx=>?_,fun W hI=>hI.2⟩
  ·rw[add_plain];have j5:=hfar W g _ hI.1 hgne.1 hgne.2 hg;rw[blk_cell j5 i];match i,hx with
   | 0,hx=>cases hx;rfl
   | 1,hx=>cases hx;rfl
   | i+2,hx=>simp at hx
  ·match j,hx,hI with
   | 0,hx,hI =>
    cases hx
    obtain⟨hk,hw⟩:=hI;cases hw
    refine⟨hfn,?_⟩;unfold Czb.f at h;rw[Option.bind_eq_some_iff] at h;obtain⟨⟨x,j7⟩,hm,h⟩:=h;refine(Ezf.calls k a6 gp a8 b4 l1 b5 b6 b7 _ x j7 w e7 hp (f4 w hk) f6 (f9 w hk) g4 hm).mono ?_;rintro e W' ⟨g9,v,rfl,rfl,hR,hb⟩;refine⟨j7,rfl,fun j8=>⟨hK1 g9 v hb,g9,v,x,rfl,j8 ▸ hm,hR,hb⟩,fun j8=>?_⟩
    have hp1:g9.heap[gp]?=some (.cells #[.slice none 0 0] 36 (0,0)):=(hb.block gp (blk_lt hp)).trans hp;have hq1:g9.heap[gq]?=some (.cells #[.slice none 0 0] 36 (0,0)):=(hb.block gq (blk_lt hq)).trans hq;refine⟨v,.slice none 0 0,x,[],⟨blk_put hp1 0 v rfl,blk_far hq1 (Ne.symm hne) v,?_,Kd.R_nil _ _ _ _ _,below_far hB hBs hb hgp v,hK1 g9 v hb⟩,?_⟩
    ·refine Kd.R_mono (Kd.R_far (p:=⟨gp,0,none⟩) (ok:=fun k_=>w.heap.size≤k_) (Kd.R_lower (Kd.R_reok rfl hR (fun k_ hk_=>Kd.R_base hR k_ hk_)) hBs) (fun k_ hk_ e_=>?_) v) (fun k_ hk_=>⟨hk_,by simp [Value.ownBlock]⟩)
     have:=blk_lt hp;subst e_;omega
    ·unfold Czb.f;rw[hm];simp only[Option.bind_some];rw[if_neg j8]
   | 1,hx,hI =>
    cases hx
    obtain⟨hk,g9,v,x,rfl,hm,hR,hb⟩:=hI;refine⟨hfn,?_⟩;unfold Czb.f at h;rw[Option.bind_eq_some_iff] at h;obtain⟨⟨x',j7⟩,hm',h⟩:=h;rw[hm] at hm';cases hm'
    simp only[if_true] at h;rw[Option.bind_eq_some_iff] at h;obtain⟨⟨y,j9⟩,l5,h⟩:=h;have hp1:g9.heap[gp]?=some (.cells #[.slice none 0 0] 36 (0,0)):=(hb.block gp (blk_lt hp)).trans hp;have hq1:(g9.setCell ⟨gp,0,none⟩ v).heap[gq]?=some (.cells #[.slice none 0 0] 36 (0,0)):=blk_far ((hb.block gq (blk_lt hq)).trans hq) (Ne.symm hne) v;have l6:Thk (g9.setCell ⟨gp,0,none⟩ v) a7 gq b8 l2.length c2 b9 d6.length d0:=⟨hfar _ _ _ hk (by omega) (by have:=e8.lt;omega) e8.tp,hfar _ _ _ hk (by omega) (by have:=e8.lt;omega) e8.fa,hfar _ _ _ hk (by omega) (by have:=e8.lt;omega) e8.fb,e8.lt⟩
    refine(Ezf.calls k a7 gq b8 c2 l2 b9 d0 d6 _ y j9 _ l6 hq1 (g5 _ hk) g6 (g7 _ hk) g8 l5).mono ?_;rintro e W' ⟨l7,u,rfl,rfl,l8,l9⟩;have hps:gp < w.heap.size:=blk_lt hp;have hqs:gq < w.heap.size:=blk_lt hq;have m0:w.heap.size≤(g9.setCell ⟨gp,0,none⟩ v).heap.size:=hk.1;have hRv:Kd.R (Kd.int .i64) 3 (g9.setCell ⟨gp,0,none⟩ v) w.heap.size (fun k_=>w.heap.size≤k_) v x:=Kd.R_far (p:=⟨gp,0,none⟩) (Kd.R_reok rfl hR (fun k_ hk_=>Kd.R_base hR k_ hk_)) (fun k_ hk_ e_=>by subst e_;omega) v
    have hkk:Kept w (l7.setCell ⟨gq,0,none⟩ u) (fun k_=>k_=gp∨k_=gq):=kept_trans hk (kept_far l9 (Nat.le_refl _) (.inr rfl) u)
    have hFin:Fin2 e6 w (l7.setCell ⟨gq,0,none⟩ u) gp gq v u x y:=by
     refine⟨blk_far ((l9.block gp (by omega)).trans (blk_put hp1 0 v rfl)) hne u,blk_put ((l9.block gq (by omega)).trans hq1) 0 u rfl,?_,?_,below_far (below_far hB hBs hb hgp v) (by omega) l9 hgq u,hkk⟩
     ·refine Kd.R_far (p:=⟨gq,0,none⟩) ?_ (fun k_ hk_ e_=>by subst e_;omega) u
      exact Kd.R_lower (Kd.R_elder' (rX hRv) (fun k_ hk_=>Kd.R_base l8 k_ hk_) l9) hBs
     ·refine Kd.R_far (p:=⟨gq,0,none⟩) ?_ (fun k_ hk_ e_=>by subst e_;omega) u
      refine Kd.R_lower (Kd.R_reok rfl l8 (fun k_ hk_=>⟨Nat.le_trans m0 (Kd.R_base l8 k_ hk_),fun e_=>?_⟩)) (by omega)
      have:=Kd.R_lt hRv k_ e_.symm;have:=Kd.R_base l8 k_ hk_;omega
    have m2:Czb.f k l1 b7 l2 d6=some (j9,x,y):=by
     unfold Czb.f;rw[hm];simp only[Option.bind_some,if_true];rw[l5];rfl
    exact⟨j9,rfl,fun j8=>⟨hkk,v,u,x,y,hFin,by rw[m2,j8]⟩,fun _=>⟨v,u,x,y,hFin,m2⟩⟩
   | j+2,hx,hI=>simp at hx
 have hI0:I 0 w:=⟨⟨Nat.le_refl _,fun _ _ _=>rfl⟩,rfl⟩
 refine(Fzp.calls [thkFn 67 a6,thkFn 67 a7] ⟨g,0,none⟩ cg w I Qr hS hI0 (by simp)).mono ?_
 rintro e w' ⟨r,rfl,vp,vq,x,y,hF,hf⟩;rw[h] at hf;cases hf
 exact⟨rfl,vp,vq,hF⟩



end Go.Proofs.Ytokkiljkgejnhaa.Print
