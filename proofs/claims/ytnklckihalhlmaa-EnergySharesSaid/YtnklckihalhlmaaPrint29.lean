import Derived.Test.YtnklckihalhlmaaPrint0
import Derived.Test.YtnklckihalhlmaaPrint16
import Derived.Test.YtnklckihalhlmaaPrint28
namespace Go.Proofs.Ytnklckihalhlmaa.Print
open Go.RowKit Go.Proofs.YtnklckihalhlmaaW.PrintWords Go.Proofs.YtnklckihalhlmaaW.PrintLast Go.Proofs.YtnklckihalhlmaaW.PrintMore
attribute [local go_sem] max2_int min2_int max_two min_two max_three min_three max_four min_four
set_option linter.unusedVariables false
set_option maxRecDepth 100000
set_option maxHeartbeats 8000000
set_option linter.unusedSimpArgs false

def Ezf.l0:Nat→List (S39)→Int→Int→Option (Bool)
 | 0,_,_,_=>none
 | k+1,x5,x6,x7=>if x7 < x6 then(if 0≤x7 then(if x7 < (x5.length:Int) then((Gzk.f k ((rd_T39 x5 x7).f0) ((rd_T39 x5 x7).f1) ((rd_T39 x5 x7).f2)).bind fun t430=>(if t430=true then(Ezf.l0 k x5 x6 (wrap64 (x7+1))) else(some false))) else(none)) else(none)) else(some true)
def Ezf.f (k:Nat) (l0:List (S39)):Option (Bool):=Ezf.l0 k l0 (l0.length:Int) 0
theorem Ezf.mono_l:∀ k,(∀ a6 a7 a8,LeO (Ezf.l0 k a6 a7 a8) (Ezf.l0 (k+1) a6 a7 a8))
 | 0=>fun _ _ _ r h=>by simp [Ezf.l0] at h
 | k+1=>by
  have ih0:=Ezf.mono_l k
  ·intro a6 a7 a8;unfold Ezf.l0;have i0:=@Gzk.mono;exact mM
theorem Ezf.mono:∀ a6 k,LeO (Ezf.f k a6) (Ezf.f (k+1) a6):=by
 intro a6 k;have ih0:=Ezf.mono_l k;unfold Ezf.f;have i0:=@Gzk.mono;exact mM
theorem Ezf.calls (k:Nat) (a6:Option Addr) (a7:Nat) (l0:List (S39)) (r:Bool) (w:World) (a8:Kd.C k39 w a6 l0.length l0) (a9:l0.length≤a7) (h:Ezf.f k l0=some r) :
  Calls Try.prog 61 #[.slice a6 l0.length a7] w fun e w'=>e=.returned (.bool r)∧Below w.heap.size w w':=by
 have hu39:=Try.underlying39;have b3:=aM a8;have b4:=aM a9;clear a8 a9;have HB:=aM (Below.refl w.heap.size w);have H:(Ezf.l0 k l0 (l0.length:Int) 0)=some r:=h;clear h;have H':=aM H;clear H;go_enter Try.func61,Try.ntmps61
 go_wp2
 go_loopg [7] k (fun kq b5 w'=>∃ (b6:Int),b5=.int .i64 b6∧Aside0 (Ezf.l0 kq l0 (l0.length:Int) b6=some r)∧Aside0 (kq≤k)∧Aside0 (Below w.heap.size w w'))
 case atStart=>exact⟨(0),sD,H',⟨Nat.le_refl _⟩,⟨pB⟩⟩
 case round =>
  clear H';obtain⟨b6,rfl,HA,b7,HB⟩:=hrel;cases gk with
  | zero=>exact absurd HA.out (by simp [Ezf.l0])
  | succ k1 =>
   have H:=HA.out;clear HA;simp only[Ezf.l0] at H;by_cases c2:b6 < (l0.length:Int)
   ·rw[if_pos c2] at H;have b8:=dE c2;clear c2;obtain⟨b9,H⟩:=iN H;obtain⟨d0,H⟩:=iN H;obtain⟨d1,d3,H⟩:=bT H;(try dsimp only at H);by_cases c6:d1=true
    ·subst c6;rw[if_pos rfl] at H;have H':=aM H;clear H;obtain⟨d4,d5,d6,d7,d8,d9,e6,e7,e8,f3,f4,f5,f6⟩:=at_T39 b3.out b6 (oE aS) (oE aS);cases d9
     replace e6:=hB HB e6;replace e7:=hB HB e7;replace e8:=hB HB e8;have f7:=aM f4;have f8:=aM f3;clear f4 f3;have f9:=aM f6;have g6:=aM f5;clear f6 f5;have g7:=eT (b6);have g8:=eU (b6) l0.length;go_wp2_with (first|((with_reducible refine gd 4 rfl ?_);refine bx #[.bool false,.slice none 0 0,.slice none 0 0] 39 ?_;intro g9 hg j5 j9 hb;have l5:=gA w hg;have l6:=gA w hg;replace HB:=bB hb;clear hb hg;obtain⟨l7,l8,l9,m4,m5,m6⟩:=bk3 j9)|((with_reducible refine gc 80 rfl ?_);refine gC 80 (some 12) Try.func80 #[.agg #[.bool ((rd_T39 l0 b6).f0),.slice d5 ((rd_T39 l0 b6).f1).length d6,.slice d7 ((rd_T39 l0 b6).f2).length d8]] ?_;(with_reducible refine(Gzk.calls k1 ((rd_T39 l0 b6).f0) _ _ ((rd_T39 l0 b6).f1) _ _ ((rd_T39 l0 b6).f2) true _ ?_ ?_ ?_ ?_ d3.out).mono ?_);exact Kd.C_below f7.out pB;exact f8.out;exact Kd.C_below f9.out pB;exact g6.out;rintro e m7 ⟨rfl,hb⟩;refine⟨_,rfl,?_⟩;replace j9:=kP (o':=.cells #[.bool ((rd_T39 l0 b6).f0),.slice d5 ((rd_T39 l0 b6).f1).length d6,.slice d7 ((rd_T39 l0 b6).f2).length d8] 39 (0,0)) j9 hb;replace HB:=bB hb;clear hb))
     go_roundg k1
     case measure=>have:=b7.out;omega
     case rel=>exact⟨(wrap64 (b6+1)),sD,H',⟨by have:=b7.out;omega⟩,⟨pB⟩⟩
    ·obtain rfl:=bN c6;rw[if_neg nF] at H
     obtain rfl:=Option.some.inj H;obtain⟨d4,d5,d6,d7,d8,d9,e6,e7,e8,f3,f4,f5,f6⟩:=at_T39 b3.out b6 (oE aS) (oE aS);cases d9
     replace e6:=hB HB e6;replace e7:=hB HB e7;replace e8:=hB HB e8;have f7:=aM f4;have f8:=aM f3;clear f4 f3;have f9:=aM f6;have g6:=aM f5;clear f6 f5;have g7:=eT (b6);have g8:=eU (b6) l0.length;go_wp2_with (first|((with_reducible refine gd 4 rfl ?_);refine bx #[.bool false,.slice none 0 0,.slice none 0 0] 39 ?_;intro g9 hg m8 j9 hb;have l5:=gA w hg;have l6:=gA w hg;replace HB:=bB hb;clear hb hg;obtain⟨m9,n0,n1,n2,n3,n4⟩:=bk3 j9)|((with_reducible refine gc 80 rfl ?_);refine gC 80 (some 12) Try.func80 #[.agg #[.bool ((rd_T39 l0 b6).f0),.slice d5 ((rd_T39 l0 b6).f1).length d6,.slice d7 ((rd_T39 l0 b6).f2).length d8]] ?_;(with_reducible refine(Gzk.calls k1 ((rd_T39 l0 b6).f0) _ _ ((rd_T39 l0 b6).f1) _ _ ((rd_T39 l0 b6).f2) false _ ?_ ?_ ?_ ?_ d3.out).mono ?_);exact Kd.C_below f7.out pB;exact f8.out;exact Kd.C_below f9.out pB;exact g6.out;rintro e n5 ⟨rfl,hb⟩;refine⟨_,rfl,?_⟩;replace j9:=kP (o':=.cells #[.bool ((rd_T39 l0 b6).f0),.slice d5 ((rd_T39 l0 b6).f1).length d6,.slice d7 ((rd_T39 l0 b6).f2).length d8] 39 (0,0)) j9 hb;replace HB:=bB hb;clear hb))
     go_ret
     exact⟨eW,pB⟩
   ·rw[if_neg c2] at H;have b8:decide (b6 < (l0.length:Int))=false:=decide_eq_false c2;clear c2;obtain rfl:=Option.some.inj H;go_wp2
    go_ret
    exact⟨eW,pB⟩

def Gzq.f (k:Nat) (l0:List Int):Option (List Int × Int):=(Czj.f k l0).bind fun t436=>(if(t436.length:Int) > 48 then(some (([]:List Int),2)) else(some (t436,0)))
theorem Gzq.mono:∀ a6 k,LeO (Gzq.f k a6) (Gzq.f (k+1) a6):=by
 intro a6 k;unfold Gzq.f;have i0:=@Czj.mono;exact mM
theorem Gzq.calls (k:Nat) (a6:Nat→Prop) (u9000_:Value) (l0:List Int) (a7:List Int) (a8:Int) (a9 w:World) (hB:Below a9.heap.size a9 w) (b3:Kd.R (Kd.int .i64) 3 w a9.heap.size a6 u9000_ l0) (h:Gzq.f k l0=some (a7,a8)) :
  Calls Try.prog 95 #[u9000_] w fun e w'=>∃ v0_:Value,e=.returned (.tuple #[v0_,.int .i64 a8])∧Kd.R (Kd.int .i64) 3 w' a9.heap.size (fun k_=>(a6 k_∨w.heap.size≤k_)) v0_ a7∧Below a9.heap.size a9 w'∧Kept w w' (fun k_=>a6 k_):=by
 have b4:=aM (show Kd.R (Kd.int .i64) 3 w a9.heap.size (fun k_=>(a6 k_∨w.heap.size≤k_)) u9000_ l0 from Kd.R_mono b3 (fun k_ hk=>(.inl hk)))
 have HK:=aM (Kept.refl w (fun k_=>a6 k_))
 have HW0:=aM hB.size;have HB:=aM hB;clear hB;have H:((Czj.f k l0).bind fun b5=>(if(b5.length:Int) > 48 then(some (([]:List Int),2)) else(some (b5,0))))=some (a7,a8):=h
 clear h;obtain⟨b5,b6,H⟩:=bT H;(try dsimp only at H);by_cases c3:(b5.length:Int) > 48
 ·rw[if_pos c3] at H;have b7:decide (48 < (b5.length:Int))=true:=dE c3;have b8:decide (48 < b5.length)=true:=dE (by omega)
  clear c3;obtain⟨rfl,rfl⟩:=q2 H;obtain⟨b9,d0,rfl⟩:=Kd.R_slice b4.out;go_enter Try.func95,Try.ntmps95
  go_wp2_with (first|((with_reducible refine gc 92 rfl ?_);refine gC 92 (some 6) Try.func92 #[.slice b9 l0.length d0] ?_;(with_reducible refine(Czj.calls k (fun k_=>some k_=(.slice b9 l0.length d0:Value).ownBlock) (.slice b9 l0.length d0) l0 b5 a9 _ ?_ ?_ b6.out).mono ?_);exact pB;exact Kd.R_tight rfl b4.out;rintro e d1 ⟨d3,rfl,b3,hb,hkp⟩;refine⟨_,rfl,?_⟩;have d4:=aM (Kd.R_mono (ok':=fun k_=>(a6 k_∨w.heap.size≤k_)) b3 (fun k_ hk_=>Or.elim hk_ (fun hs_=>(b4.out.1 k_ (hs_).symm)) (fun hn_=>(.inr (Nat.le_trans (by first|exact HK.out.1|exact(show Kept w _ (fun k_=>a6 k_) from kK HK).1) hn_)))));replace HK:=aM (Kept.then_ (S:=(fun k_=>a6 k_)) (kK HK) hkp (fun k_ hs_=>(fun e_=>(b4.out.1 k_ e_.symm)) hs_));replace HB:=aM (hb);clear b4 hb hkp b3;obtain⟨d5,d6,rfl⟩:=Kd.R_slice d4.out))
  go_ret2
  exact⟨_,eW,nK,pB,kK HK⟩
 ·rw[if_neg c3] at H;have b7:decide (48 < (b5.length:Int))=false:=decide_eq_false c3;have b8:decide (48 < b5.length)=false:=decide_eq_false (by omega)
  clear c3;obtain⟨rfl,rfl⟩:=q2 H;obtain⟨d7,d8,rfl⟩:=Kd.R_slice b4.out;go_enter Try.func95,Try.ntmps95
  go_wp2_with (first|((with_reducible refine gc 92 rfl ?_);refine gC 92 (some 6) Try.func92 #[.slice d7 l0.length d8] ?_;(with_reducible refine(Czj.calls k (fun k_=>some k_=(.slice d7 l0.length d8:Value).ownBlock) (.slice d7 l0.length d8) l0 b5 a9 _ ?_ ?_ b6.out).mono ?_);exact pB;exact Kd.R_tight rfl b4.out;rintro e d9 ⟨d3,rfl,b3,hb,hkp⟩;refine⟨_,rfl,?_⟩;have d4:=aM (Kd.R_mono (ok':=fun k_=>(a6 k_∨w.heap.size≤k_)) b3 (fun k_ hk_=>Or.elim hk_ (fun hs_=>(b4.out.1 k_ (hs_).symm)) (fun hn_=>(.inr (Nat.le_trans (by first|exact HK.out.1|exact(show Kept w _ (fun k_=>a6 k_) from kK HK).1) hn_)))));replace HK:=aM (Kept.then_ (S:=(fun k_=>a6 k_)) (kK HK) hkp (fun k_ hs_=>(fun e_=>(b4.out.1 k_ e_.symm)) hs_));replace HB:=aM (hb);clear b4 hb hkp b3;obtain⟨e6,e7,rfl⟩:=Kd.R_slice d4.out))
  go_ret2
  exact⟨_,eW,rX d4.out,pB,kK HK⟩


mutual
def Dzv.j0:Nat→List Int→List Int→Bool→Option (List Int × Int)
 | 0,_,_,_=>none
 | k+1,x0,x1,x18=>if x18=true then(some (([]:List Int),3)) else(if 0≤(wrap64 ((wrap64 ((x0.length:Int)+(x1.length:Int)))+1)) then(if(wrap64 ((wrap64 ((x0.length:Int)+(x1.length:Int)))+1):Int).toNat≤35184372088832 then(Dzv.l0 k x0 x1 (List.replicate (wrap64 ((wrap64 ((x0.length:Int)+(x1.length:Int)))+1):Int).toNat 0) (x0.length:Int) 0) else(none)) else(none))
def Dzv.l0:Nat→List Int→List Int→List Int→Int→Int→Option (List Int × Int)
 | 0,_,_,_,_,_=>none
 | k+1,x0,x1,x6,x27,x28=>if x28 < x27 then(Dzv.l1 k x0 x1 x6 x28 0 x27 x28 (x1.length:Int) 0) else((Gzq.f k x6).bind fun bt444=>(some (bt444.1,bt444.2)))
def Dzv.l1:Nat→List Int→List Int→List Int→Int→Int→Int→Int→Int→Int→Option (List Int × Int)
 | 0,_,_,_,_,_,_,_,_,_=>none
 | k+1,x0,x1,x6,x7,x8,x27,x28,x32,x33=>if x33 < x32 then(if 0≤(wrap64 (x7+x33)) then(if(wrap64 (x7+x33)) < (x6.length:Int) then(if 0≤x7 then(if x7 < (x0.length:Int) then(if 0≤x33 then(if x33 < (x1.length:Int) then(Dzv.l1 k x0 x1 (x6.set ((wrap64 (x7+x33)):Int).toNat (Int.tmod (wrap64 ((wrap64 ((rd x6 (wrap64 (x7+x33)))+(wrap64 ((rd x0 x7) * (rd x1 x33)))))+x8)) 1000000000)) x7 (wrap64 (Int.tdiv (wrap64 ((wrap64 ((rd x6 (wrap64 (x7+x33)))+(wrap64 ((rd x0 x7) * (rd x1 x33)))))+x8)) 1000000000)) x27 x28 x32 (wrap64 (x33+1))) else(none)) else(none)) else(none)) else(none)) else(none)) else(none)) else(if 0≤(wrap64 (x7+(x1.length:Int))) then(if(wrap64 (x7+(x1.length:Int))) < (x6.length:Int) then(Dzv.l0 k x0 x1 (x6.set ((wrap64 (x7+(x1.length:Int))):Int).toNat x8) x27 (wrap64 (x28+1))) else(none)) else(none))
end
def Dzv.f (k:Nat) (l0:List Int) (l1:List Int):Option (List Int × Int):=(Bzv.f k l0).bind fun t439=>(if t439=true then((Bzv.f k l1).bind fun t440=>(Dzv.j0 k l0 l1 (!t440))) else(Dzv.j0 k l0 l1 true))
theorem Dzv.mono_l:∀ k,(∀ a6 a7 a8,LeO (Dzv.j0 k a6 a7 a8) (Dzv.j0 (k+1) a6 a7 a8))∧(∀ a6 a7 a8 a9 b3,LeO (Dzv.l0 k a6 a7 a8 a9 b3) (Dzv.l0 (k+1) a6 a7 a8 a9 b3))∧(∀ a6 a7 a8 a9 b3 b4 b5 b6 b7,LeO (Dzv.l1 k a6 a7 a8 a9 b3 b4 b5 b6 b7) (Dzv.l1 (k+1) a6 a7 a8 a9 b3 b4 b5 b6 b7))
 | 0=>⟨fun _ _ _ r h=>by simp [Dzv.j0] at h,fun _ _ _ _ _ r h=>by simp [Dzv.l0] at h,fun _ _ _ _ _ _ _ _ _ r h=>by simp [Dzv.l1] at h⟩
 | k+1=>by
  obtain⟨ih0,ih1,ih2⟩:=Dzv.mono_l k;have i0:=@Bzv.mono;have i1:=@Gzq.mono;refine⟨?_,?_,?_⟩
  ·intro a6 a7 a8;unfold Dzv.j0;exact mM
  ·intro a6 a7 a8 a9 b3;unfold Dzv.l0;exact mM
  ·intro a6 a7 a8 a9 b3 b4 b5 b6 b7;unfold Dzv.l1;exact mM
theorem Dzv.mono:∀ a6 a7 k,LeO (Dzv.f k a6 a7) (Dzv.f (k+1) a6 a7):=by
 intro a6 a7 k;obtain⟨ih0,ih1,ih2⟩:=Dzv.mono_l k;unfold Dzv.f;have i0:=@Bzv.mono;have i1:=@Gzq.mono;exact mM
theorem Dzv.calls (k:Nat) (a6:Option Addr) (a7:Nat) (l0:List Int) (a8:Option Addr) (a9:Nat) (l1:List Int) (b3:List Int) (b4:Int) (w:World) (b5:Kd.C (Kd.int .i64) w a6 l0.length l0) (b6:l0.length≤a7) (b7:Kd.C (Kd.int .i64) w a8 l1.length l1) (b8:l1.length≤a9) (h:Dzv.f k l0 l1=some (b3,b4)) :
  Calls Try.prog 82 #[.slice a6 l0.length a7,.slice a8 l1.length a9] w fun e w'=>∃ v0_:Value,e=.returned (.tuple #[v0_,.int .i64 b4])∧Kd.R (Kd.int .i64) 3 w' w.heap.size (fun _=>True) v0_ b3∧Below w.heap.size w w':=by
 have b9:=aM b5;have d0:=aM b6;clear b5 b6;have d1:=aM b7;have d3:=aM b8;clear b7 b8;have HB:=aM (Below.refl w.heap.size w);have H:((Bzv.f k l0).bind fun d4=>(if d4=true then((Bzv.f k l1).bind fun d5=>(Dzv.j0 k l0 l1 (!d5))) else(Dzv.j0 k l0 l1 true)))=some (b3,b4):=h
 clear h;have d6:=aM H;clear H;go_enter Try.func82,Try.ntmps82
 go_upto_region 1 with (fail)
 repeat(go_quiet (fail);go_upto_region 1 with (fail))
 go_cut [18] (fun d7 wc=>∃ (kq:Nat) (d8:Bool),d7=.bool d8∧Aside0 (Dzv.j0 kq l0 l1 d8=some (b3,b4))∧Aside0 (kq≤k)∧Aside0 (Below w.heap.size w wc))
 case first =>
  have H:=d6.out;clear d6;obtain⟨d4,d9,H⟩:=bT H;(try dsimp only at H);by_cases c5:d4=true
  ·subst c5;rw[if_pos rfl] at H;obtain⟨d5,e6,H⟩:=bT H;(try dsimp only at H);have H':=aM H;clear H;have fl_:True:=trivial;repeat((first|clear fl_|go_quiet (first|(go_at_call 90;(with_reducible refine(Bzv.calls k _ _ l0 true _ ?_ ?_ d9.out).mono ?_);exact cB b9;exact d0.out;rintro e w' ⟨rfl,⟨nd,rfl⟩⟩;(try exact dD))|(go_at_call 90;(with_reducible refine(Bzv.calls k _ _ l1 d5 _ ?_ ?_ e6.out).mono ?_);exact cB d1;exact d3.out;rintro e w' ⟨rfl,⟨nd,rfl⟩⟩;(try exact dD))));go_wp2_with (first|(go_at_call 90;(with_reducible refine(Bzv.calls k _ _ l0 true _ ?_ ?_ d9.out).mono ?_);exact cB b9;exact d0.out;rintro e w' ⟨rfl,⟨nd,rfl⟩⟩;(try exact dD))|(go_at_call 90;(with_reducible refine(Bzv.calls k _ _ l1 d5 _ ?_ ?_ e6.out).mono ?_);exact cB d1;exact d3.out;rintro e w' ⟨rfl,⟨nd,rfl⟩⟩;(try exact dD))))
   go_meet
   case rel=>exact⟨_,(!d5),sD,H',⟨by first|omega|exact Nat.le_refl _⟩,⟨pB⟩⟩
  ·obtain rfl:=bN c5;rw[if_neg nF] at H
   have H':=aM H;clear H;have fl_:True:=trivial;repeat((first|clear fl_|go_quiet (first|(go_at_call 90;(with_reducible refine(Bzv.calls k _ _ l0 false _ ?_ ?_ d9.out).mono ?_);exact cB b9;exact d0.out;rintro e w' ⟨rfl,⟨nd,rfl⟩⟩;(try exact dD))));go_wp2_with (first|(go_at_call 90;(with_reducible refine(Bzv.calls k _ _ l0 false _ ?_ ?_ d9.out).mono ?_);exact cB b9;exact d0.out;rintro e w' ⟨rfl,⟨nd,rfl⟩⟩;(try exact dD))))
   go_meet
   case rel=>exact⟨_,(true),sD,H',⟨by first|omega|exact Nat.le_refl _⟩,⟨pB⟩⟩
 case rest =>
  clear d6;try clear a9
  obtain⟨kq,d8,rfl,HA,e7,HB⟩:=hcut;cases kq with
  | zero=>exact absurd HA.out (by simp [Dzv.j0])
  | succ e8 =>
   have H:=HA.out;clear HA;simp only[Dzv.j0] at H;by_cases c7:d8=true
   ·subst c7;rw[if_pos rfl] at H;obtain⟨rfl,rfl⟩:=q2 H;go_wp2
    repeat(go_quiet (fail);try go_wp2)
    go_ret2
    exact⟨_,eW,nK,pB⟩
   ·obtain rfl:=bN c7;rw[if_neg nF] at H
    obtain⟨f3,f4⟩:∃ j_:Int,(wrap64 ((wrap64 ((l0.length:Int)+(l1.length:Int)))+1))=j_:=⟨_,rfl⟩;replace H:(if 0≤(f3) then(if(f3:Int).toNat≤35184372088832 then(Dzv.l0 e8 l0 l1 (List.replicate (f3:Int).toNat 0) (l0.length:Int) 0) else(none)) else(none))=some (b3,b4):=by first|(rw[f4] at H;exact H)|(simp only[f4] at H ⊢;exact H)
    have f5:(IntKind.i64.wrap ((wrap64 ((l0.length:Int)+(l1.length:Int)))+1))=f3:=(i64_w _).trans f4;by_cases c9:0≤(f3)
    ·rw[if_pos c9] at H;have f6:=eq_true c9;have f7:=dE c9;clear c9;obtain⟨c10,H⟩:=iO H;have f8:=eq_true c10;have f9:decide ((f3:Int).toNat≤35184372088832)=true:=dE c10;clear c10;obtain⟨g6,g7⟩:∃ y_:List Int,y_=(List.replicate (f3:Int).toNat 0):=⟨_,rfl⟩;replace H:(Dzv.l0 e8 l0 l1 g6 (l0.length:Int) 0)=some (b3,b4):=yE g7 H
     have g8:=aM g7;clear g7;have H':=aM H;clear H;have fl_:True:=trivial;repeat((first|clear fl_|go_quiet (first|((with_reducible refine gate_dst (N:=25) rfl ?_);refine Kd.R_make (Kd.int .i64) _ 3 rfl (N:=25) rfl 34 _ _ rfl f3 rfl rfl Try.underlying34 (.int .i64 0) 8 info3 rfl (by decide) (by omega) 0 (ok:=fun _=>True) (okp:=fun _=>True) rfl (fun _ hk=>hk) trivial (oE aS) (Nat.le_trans (Nat.mul_le_mul_right _ (oE aS:f3.toNat≤35184372088832)) (by omega)) (Below.refl _ _) (Nat.le_refl _) ?_;intro g9 j5 j9 hb hg_ hnew_;clear hg_ hnew_;replace j9:=rY g8 j9;have l5:=rL j9;replace HB:=bB hb;clear hb j9)));go_wp2_with (first|((with_reducible refine gate_dst (N:=25) rfl ?_);refine Kd.R_make (Kd.int .i64) _ 3 rfl (N:=25) rfl 34 _ _ rfl f3 rfl rfl Try.underlying34 (.int .i64 0) 8 info3 rfl (by decide) (by omega) 0 (ok:=fun _=>True) (okp:=fun _=>True) rfl (fun _ hk=>hk) trivial (oE aS) (Nat.le_trans (Nat.mul_le_mul_right _ (oE aS:f3.toNat≤35184372088832)) (by omega)) (Below.refl _ _) (Nat.le_refl _) ?_;intro g9 j5 j9 hb hg_ hnew_;clear hg_ hnew_;replace j9:=rY g8 j9;have l5:=rL j9;replace HB:=bB hb;clear hb j9)))
     go_loopg [28] e8 (fun kq l6 w'=>∃ (l7:List Int) (l8:Int),l6=.int .i64 l8∧Aside0 (Dzv.l0 kq l0 l1 l7 (l0.length:Int) l8=some (b3,b4))∧Aside0 (kq≤e8)∧Aside0 (Kd.R (Kd.int .i64) 3 w' w.heap.size (fun _=>True) g9 l7)∧Aside0 (Below w.heap.size w w'))
     case atStart=>exact⟨(g6),(0),sD,H',⟨Nat.le_refl _⟩,⟨rX l5.out⟩,⟨pB⟩⟩
     case round =>
      clear H';try clear a9
      obtain⟨l7,l8,rfl,HA,l9,m4,HB⟩:=hrel;cases gk with
      | zero=>exact absurd HA.out (by simp [Dzv.l0])
      | succ k2 =>
       have H:=HA.out;clear HA;simp only[Dzv.l0] at H;by_cases m5:l8 < (l0.length:Int)
       ·rw[if_pos m5] at H;have m6:=dE m5;clear m5;have H':=aM H;clear H;go_wp2
        repeat(go_quiet (fail);try go_wp2)
        go_loopg [8,33] k2 (fun kq m7 m8 w'=>∃ (m9:List Int) (n0:Int) (n1:Int),m7=.int .i64 n0∧m8=.int .i64 n1∧Aside0 (Dzv.l1 kq l0 l1 m9 l8 n0 (l0.length:Int) l8 (l1.length:Int) n1=some (b3,b4))∧Aside0 (kq≤k2)∧Aside0 (Kd.R (Kd.int .i64) 3 w' w.heap.size (fun _=>True) g9 m9)∧Aside0 (Below w.heap.size w w'))
        case atStart=>exact⟨(l7),(0),(0),sD,sD,H',⟨Nat.le_refl _⟩,⟨rX m4.out⟩,⟨pB⟩⟩
        case round =>
         clear H';try clear a9
         obtain⟨m9,n0,n1,rfl,rfl,HA,n2,m4,HB⟩:=hrel;cases gk with
         | zero=>exact absurd HA.out (by simp [Dzv.l1])
         | succ k3 =>
          have H:=HA.out;clear HA;simp only[Dzv.l1] at H;by_cases n3:n1 < (l1.length:Int)
          ·rw[if_pos n3] at H;have n4:=dE n3;clear n3;obtain⟨n5,n6⟩:∃ j_:Int,(wrap64 (l8+n1))=j_:=⟨_,rfl⟩;replace H:(if 0≤(n5) then(if(n5) < (m9.length:Int) then(if 0≤l8 then(if l8 < (l0.length:Int) then(if 0≤n1 then(if n1 < (l1.length:Int) then(Dzv.l1 k3 l0 l1 (m9.set ((n5):Int).toNat (Int.tmod (wrap64 ((wrap64 ((rd m9 (n5))+(wrap64 ((rd l0 l8) * (rd l1 n1)))))+n0)) 1000000000)) l8 (wrap64 (Int.tdiv (wrap64 ((wrap64 ((rd m9 (n5))+(wrap64 ((rd l0 l8) * (rd l1 n1)))))+n0)) 1000000000)) (l0.length:Int) l8 (l1.length:Int) (wrap64 (n1+1))) else(none)) else(none)) else(none)) else(none)) else(none)) else(none))=some (b3,b4):=by first|(rw[n6] at H;exact H)|(simp only[n6] at H ⊢;exact H)
           have n7:(IntKind.i64.wrap (l8+n1))=n5:=(i64_w _).trans n6;obtain⟨n8,H⟩:=iN H;obtain⟨n9,H⟩:=iN H;obtain⟨o0,H⟩:=iN H;obtain⟨o1,H⟩:=iN H;obtain⟨o2,H⟩:=iN H;obtain⟨o3,H⟩:=iN H;obtain⟨o4,o5⟩:∃ y_:List Int,y_=(m9.set ((n5):Int).toNat (Int.tmod (wrap64 ((wrap64 ((rd m9 (n5))+(wrap64 ((rd l0 l8) * (rd l1 n1)))))+n0)) 1000000000)):=⟨_,rfl⟩;replace H:(Dzv.l1 k3 l0 l1 o4 l8 (wrap64 (Int.tdiv (wrap64 ((wrap64 ((rd m9 (n5))+(wrap64 ((rd l0 l8) * (rd l1 n1)))))+n0)) 1000000000)) (l0.length:Int) l8 (l1.length:Int) (wrap64 (n1+1)))=some (b3,b4):=yE o5 H
           have o6:=aM o5;clear o5;have H':=aM H;clear H;obtain⟨o7,o8,rfl⟩:=Kd.R_slice m4.out;obtain⟨o9,p3,p7,p9,r5⟩:=aI (Kd.R_reads' m4.out).2.2 (n5);cases p3;obtain⟨r6,r7,r8,r9,t0⟩:=aI b9.out l8;cases r7
           replace r8:=hB HB r8;obtain⟨t1,t2,t3,t4,t5⟩:=aI d1.out n1;cases t2
           replace t3:=hB HB t3;have t6:0≤((n5):Int):=oE aS
           have t7:((n5):Int) < ((m9.length:Int):Int):=oE aS
           obtain⟨t8,t9,z3,z4,z5,z6,z7⟩:=Kd.R_form m4.out (by omega)
           (first|cases z3|(injection z3 with ea_ en_ ec_;(first|subst ea_|(injection ea_ with ea_;subst ea_));subst ec_;clear en_))
           have z8:=aM z4;have z9:=aM z7;clear z4 z5 z7;(first|simp only[add_plain] at p7|skip)
           obtain⟨B0,B1⟩:=Kd.R_celln 0 m4.out ((n5):Int) t6 t7;replace t6:=eq_true t6;replace t7:=eq_true t7;have B8:=Kd.R_putg m4.out ((n5):Int) (Int.tmod (wrap64 ((wrap64 ((rd m9 (n5))+(wrap64 ((rd l0 l8) * (rd l1 n1)))))+n0)) 1000000000);have fl_:True:=trivial;repeat((first|clear fl_|go_quiet (first|((with_reducible refine gate_store (t:=3) (p:=62) rfl ?_);(try(rw[drewN_self wr];generalize hq_:World.drewN wr _=wr;have n0_:=aM (Kd.R_at hq_ m4.out);have n1_:=aM (below_at hq_ HB.out);clear hq_ m4 HB;have m4:=n0_;have HB:=n1_;clear n0_ n1_;(try(obtain⟨B0,B1⟩:=Kd.R_celln 0 m4.out ((n5):Int) (of_eq_true t6) (of_eq_true t7)));(try(have B8:=Kd.R_putg m4.out ((n5):Int) (Int.tmod (wrap64 ((wrap64 ((rd m9 (n5))+(wrap64 ((rd l0 l8) * (rd l1 n1)))))+n0)) 1000000000)))));refine store_event (t:=3) (p:=62) (v:=?vo_w25) (w1:=(wr.setCell ⟨t8,((n5):Int).toNat,none⟩ (.int .i64 (Int.tmod (wrap64 ((wrap64 ((rd m9 (n5))+(wrap64 ((rd l0 l8) * (rd l1 n1)))))+n0)) 1000000000)))) ?hg ?ho ?hn ?hr ?_;(case ho=>rfl);(case hg=>rfl);(case hn=>rfl);(case hr=>first|(go_simp;done)|(go_simp;rfl));intro C0 hw;have hg:wr.grownBy C0 (some t8):=(by rw[hw];exact B8.2);have hp_:Kd.R (Kd.int .i64) 3 C0 w.heap.size (fun _=>True) (.slice (some ⟨t8,0,none⟩) m9.length o8) o4:=(by rw[hw,o6.out];exact B8.1);clear B8;replace m4:=aM (hp_);replace HB:=aM ((by rw[hw];exact below_set (HB.out) z8.out:Below w.heap.size w C0));clear hg hw hp_)));go_wp2_with (first|((with_reducible refine gate_store (t:=3) (p:=62) rfl ?_);(try(rw[drewN_self wr];generalize hq_:World.drewN wr _=wr;have n0_:=aM (Kd.R_at hq_ m4.out);have n1_:=aM (below_at hq_ HB.out);clear hq_ m4 HB;have m4:=n0_;have HB:=n1_;clear n0_ n1_;(try(obtain⟨B0,B1⟩:=Kd.R_celln 0 m4.out ((n5):Int) (of_eq_true t6) (of_eq_true t7)));(try(have B8:=Kd.R_putg m4.out ((n5):Int) (Int.tmod (wrap64 ((wrap64 ((rd m9 (n5))+(wrap64 ((rd l0 l8) * (rd l1 n1)))))+n0)) 1000000000)))));refine store_event (t:=3) (p:=62) (v:=?vo_w25) (w1:=(wr.setCell ⟨t8,((n5):Int).toNat,none⟩ (.int .i64 (Int.tmod (wrap64 ((wrap64 ((rd m9 (n5))+(wrap64 ((rd l0 l8) * (rd l1 n1)))))+n0)) 1000000000)))) ?hg ?ho ?hn ?hr ?_;(case ho=>rfl);(case hg=>rfl);(case hn=>rfl);(case hr=>first|(go_simp;done)|(go_simp;rfl));intro C0 hw;have hg:wr.grownBy C0 (some t8):=(by rw[hw];exact B8.2);have hp_:Kd.R (Kd.int .i64) 3 C0 w.heap.size (fun _=>True) (.slice (some ⟨t8,0,none⟩) m9.length o8) o4:=(by rw[hw,o6.out];exact B8.1);clear B8;replace m4:=aM (hp_);replace HB:=aM ((by rw[hw];exact below_set (HB.out) z8.out:Below w.heap.size w C0));clear hg hw hp_)))
           go_roundg k3
           case measure=>have:=e7.out;have:=l9.out;have:=n2.out;omega
           case rel=>exact⟨(o4),(wrap64 (Int.tdiv (wrap64 ((wrap64 ((rd m9 (n5))+(wrap64 ((rd l0 l8) * (rd l1 n1)))))+n0)) 1000000000)),(wrap64 (n1+1)),(by first|rfl|(simp;done)|(simp only[← n6] <;> (first|rfl|simp))|(simp [*];done)),sD,H',⟨by have:=e7.out;have:=l9.out;have:=n2.out;omega⟩,⟨rX m4.out⟩,⟨pB⟩⟩
          ·rw[if_neg n3] at H;have n4:decide (n1 < (l1.length:Int))=false:=decide_eq_false n3;clear n3;obtain⟨C1,C2⟩:∃ j_:Int,(wrap64 (l8+(l1.length:Int)))=j_:=⟨_,rfl⟩;replace H:(if 0≤(C1) then(if(C1) < (m9.length:Int) then(Dzv.l0 k3 l0 l1 (m9.set ((C1):Int).toNat n0) (l0.length:Int) (wrap64 (l8+1))) else(none)) else(none))=some (b3,b4):=by first|(rw[C2] at H;exact H)|(simp only[C2] at H ⊢;exact H)
           have C3:(IntKind.i64.wrap (l8+(l1.length:Int)))=C1:=(i64_w _).trans C2;obtain⟨C4,H⟩:=iN H;obtain⟨C6,H⟩:=iN H;obtain⟨C7,C8⟩:∃ y_:List Int,y_=(m9.set ((C1):Int).toNat n0):=⟨_,rfl⟩;replace H:(Dzv.l0 k3 l0 l1 C7 (l0.length:Int) (wrap64 (l8+1)))=some (b3,b4):=yE C8 H
           have C9:=aM C8;clear C8;have H':=aM H;clear H;have D0:0≤((C1):Int):=oE aS
           have D1:((C1):Int) < ((m9.length:Int):Int):=oE aS
           obtain⟨D2,D3,D4,D5,D6,D7,D8⟩:=Kd.R_form m4.out (by omega)
           (first|cases D4|(injection D4 with ea_ en_ ec_;(first|subst ea_|(injection ea_ with ea_;subst ea_));subst ec_;clear en_))
           have D9:=aM D5;have E3:=aM D8;clear D5 D6 D8;obtain⟨E4,E5⟩:=Kd.R_celln 0 m4.out ((C1):Int) D0 D1;replace D0:=eq_true D0;replace D1:=eq_true D1;have E6:=Kd.R_putg m4.out ((C1):Int) n0;have fl_:True:=trivial;repeat((first|clear fl_|go_quiet (first|((with_reducible refine gate_store (t:=3) (p:=70) rfl ?_);(try(rw[drewN_self wr];generalize hq_:World.drewN wr _=wr;have n0_:=aM (Kd.R_at hq_ m4.out);have n1_:=aM (below_at hq_ HB.out);clear hq_ m4 HB;have m4:=n0_;have HB:=n1_;clear n0_ n1_;(try(obtain⟨E4,E5⟩:=Kd.R_celln 0 m4.out ((C1):Int) (of_eq_true D0) (of_eq_true D1)));(try(have E6:=Kd.R_putg m4.out ((C1):Int) n0))));refine store_event (t:=3) (p:=70) (v:=?vo_w31) (w1:=(wr.setCell ⟨D2,((C1):Int).toNat,none⟩ (.int .i64 n0))) ?hg ?ho ?hn ?hr ?_;(case ho=>rfl);(case hg=>rfl);(case hn=>rfl);(case hr=>first|(go_simp;done)|(go_simp;rfl));intro E7 hw;have hg:wr.grownBy E7 (some D2):=(by rw[hw];exact E6.2);have hp_:Kd.R (Kd.int .i64) 3 E7 w.heap.size (fun _=>True) (.slice (some ⟨D2,0,none⟩) m9.length D3) C7:=(by rw[hw,C9.out];exact E6.1);clear E6;replace m4:=aM (hp_);replace HB:=aM ((by rw[hw];exact below_set (HB.out) D9.out:Below w.heap.size w E7));clear hg hw hp_)));go_wp2_with (first|((with_reducible refine gate_store (t:=3) (p:=70) rfl ?_);(try(rw[drewN_self wr];generalize hq_:World.drewN wr _=wr;have n0_:=aM (Kd.R_at hq_ m4.out);have n1_:=aM (below_at hq_ HB.out);clear hq_ m4 HB;have m4:=n0_;have HB:=n1_;clear n0_ n1_;(try(obtain⟨E4,E5⟩:=Kd.R_celln 0 m4.out ((C1):Int) (of_eq_true D0) (of_eq_true D1)));(try(have E6:=Kd.R_putg m4.out ((C1):Int) n0))));refine store_event (t:=3) (p:=70) (v:=?vo_w31) (w1:=(wr.setCell ⟨D2,((C1):Int).toNat,none⟩ (.int .i64 n0))) ?hg ?ho ?hn ?hr ?_;(case ho=>rfl);(case hg=>rfl);(case hn=>rfl);(case hr=>first|(go_simp;done)|(go_simp;rfl));intro E7 hw;have hg:wr.grownBy E7 (some D2):=(by rw[hw];exact E6.2);have hp_:Kd.R (Kd.int .i64) 3 E7 w.heap.size (fun _=>True) (.slice (some ⟨D2,0,none⟩) m9.length D3) C7:=(by rw[hw,C9.out];exact E6.1);clear E6;replace m4:=aM (hp_);replace HB:=aM ((by rw[hw];exact below_set (HB.out) D9.out:Below w.heap.size w E7));clear hg hw hp_)))
           go_roundg k3
           case measure=>have:=e7.out;have:=l9.out;have:=n2.out;omega
           case rel=>exact⟨(C7),(wrap64 (l8+1)),sD,H',⟨by have:=e7.out;have:=l9.out;have:=n2.out;omega⟩,⟨rX m4.out⟩,⟨pB⟩⟩
       ·rw[if_neg m5] at H;have m6:decide (l8 < (l0.length:Int))=false:=decide_eq_false m5;clear m5;replace H:=bS H;obtain⟨⟨E8,E9⟩,F0,H⟩:=H;replace H:(some (E8,E9))=some (b3,b4):=H;have F1:=aM F0;clear F0;obtain⟨rfl,rfl⟩:=q2 H;obtain⟨F2,F3,rfl⟩:=Kd.R_slice m4.out;have fl_:True:=trivial;repeat((first|clear fl_|go_quiet (first|(go_at_call 95;(with_reducible refine(Gzq.calls k2 (fun k_=>some k_=(.slice F2 l7.length F3:Value).ownBlock) (.slice F2 l7.length F3) l7 E8 E9 w _ ?_ ?_ F1.out).mono ?_);exact pB;exact Kd.R_tight rfl m4.out;rintro e F4 ⟨F5,rfl,F6,hb,hkp⟩;have F7:=aM (Kd.R_mono (ok':=fun k_=>True) F6 (fun k_ hk_=>trivial));replace HB:=aM (hb);clear m4 hb hkp F6)));go_wp2_with (first|(go_at_call 95;(with_reducible refine(Gzq.calls k2 (fun k_=>some k_=(.slice F2 l7.length F3:Value).ownBlock) (.slice F2 l7.length F3) l7 E8 E9 w _ ?_ ?_ F1.out).mono ?_);exact pB;exact Kd.R_tight rfl m4.out;rintro e F4 ⟨F5,rfl,F6,hb,hkp⟩;have F7:=aM (Kd.R_mono (ok':=fun k_=>True) F6 (fun k_ hk_=>trivial));replace HB:=aM (hb);clear m4 hb hkp F6)))
        go_ret2
        exact⟨_,by first|rfl|(simp [errW_none,errW_some] <;> rfl)|(simp only[← f4];first|rfl|(simp [errW_none,errW_some] <;> rfl))|(simp [*,errW_none,errW_some] <;> rfl),rX F7.out,pB⟩
    ·rw[if_neg c9] at H;exact absurd H (by simp)


theorem goesvL_ {P:Program} {ops:Array Oper} {Q:Exit→Act→World→Prop} {rest:List Oper} {oi:Oper} {a:Act} {w:World} (N:Option Tmp) (hd:oi.dst=N) (hg:oi.guard=none) {f:FuncId} {caps:Array Value} {fn:Func} {c:Operand} {ts:Array TypeId} (hf:P.funcs[f]?=some fn) (hname:(fn.name == "runtime.NumGoroutine")=false) (hb:fn.body.isSome=true)
  (hop:oi.op=.call { callee:=.value c,args:=#[],argTypes:=ts }) (hc:a.eval c=.func (.func f) #[] caps)
  (h:Calls P f caps w fun e w'=>∃ v,e=.returned v∧wpList P ops Q rest (a.put N v) w'):wpList P ops Q (oi :: rest) a w:=by
 refine wpList_plain hg fun K hK=>?_
 have he:=enters_ hf hname hb caps w;have hrun:(execOp a.eval oi).run P w=.ok (.enter f caps) w:=by
  unfold execOp;simp [hop,resolve,hc,Deferred.ofValue,invoke,he]
 unfold Oper.wp;rw[hrun,Oper.upon_enter];refine h.mono fun e w'' hh=>?_
 obtain⟨v,rfl,hk⟩:=hh;subst hd;exact hK _ _ hk
/-- What 'products' does with functions one after the other. -/
structure Steps_ (xs:List (Nat × Array Value)) (ad:Addr) (I:Nat→World→Prop) (Q:Int→World→Prop):Prop where
 cell:∀ j W,I j W→∀ i x,xs[i]?=some x→W.cell? (ad.add i)=some (.func (.func x.1) #[] x.2)
 step:∀ j W x,I j W→xs[j]?=some x→(∃ fn,Try.prog.funcs[x.1]?=some fn∧(fn.name == "runtime.NumGoroutine")=false∧fn.body.isSome=true)∧Calls Try.prog x.1 x.2 W fun e W'=>∃ r:Int,e=.returned (.int .i64 r)∧(r=0→I (j+1) W')∧(r≠0→Q r W')
 done:∀ W,I xs.length W→Q 0 W
theorem Hzk.calls (xs:List (Nat × Array Value)) (ad:Addr) (c:Nat) (w:World) (I:Nat→World→Prop) (Q:Int→World→Prop) (hS:Steps_ xs ad I Q) (a6:I 0 w) (hn:xs.length < 4611686018427387904) :
  Calls Try.prog 62 #[.slice (some ad) xs.length c] w fun e w'=>∃ r:Int,e=.returned (.int .i64 r)∧Q r w':=by
 have HS:=aM hS;have H0:=aM a6;have HN:=aM hn;clear hS a6 hn;go_enter Try.func62,Try.ntmps62
 go_wp2
 go_loopg [8] (xs.length+1) (fun kq a7 w'=>∃ (j_:Nat),a7=.int .i64 (j_:Int)∧Aside0 (j_+kq=xs.length+1∧0 < kq)∧Aside0 (I j_ w'))
 case atStart=>exact⟨0,rfl,⟨by omega,by omega⟩,H0⟩
 case round =>
  obtain⟨j_,rfl,HJ,HI⟩:=hrel;cases gk with
  | zero=>exact absurd HJ.out.2 (by omega)
  | succ k1 =>
   by_cases c5:(j_:Int) < (xs.length:Int)
   ·have a8:=dE c5;have a9:decide (j_ < xs.length)=true:=dE (by omega)
    obtain⟨x_,hx_⟩:∃ x_,xs[j_]?=some x_:=⟨xs[j_]'(by omega),List.getElem?_eq_getElem (by omega)⟩
    have b3:=aM c5;clear c5;have b4:=HS.out.cell j_ wr HI.out j_ x_ hx_;have HX:=aM hx_;clear hx_;have b5:(0:Int)≤(j_:Int):=by omega
    obtain⟨⟨fn_,hf_,hn_,hb_⟩,hC_⟩:=HS.out.step j_ wr x_ HI.out HX.out;have HF:=aM hf_;have HNM:=aM hn_;have HBD:=aM hb_;have HC:=aM hC_;clear hf_ hn_ hb_ hC_;go_wp2_with (first|(refine goesvL_ (some 13) rfl rfl (f:=x_.1) (caps:=x_.2) HF.out HNM.out HBD.out rfl (by first|rfl|(simp [Act.eval];done)) ?_;refine HC.out.mono ?_;rintro e b6 ⟨r_,rfl,b7,b8⟩;refine⟨_,rfl,?_⟩;have b9:=aM b7;have d0:=aM b8;clear b7 b8))
    ·rename_i hr_
     go_ret
     exact⟨r_,rfl,d0.out (by simpa using hr_)⟩
    ·rename_i hr_
     go_roundg k1
     case measure=>omega
     case rel =>
      refine⟨j_+1,?_,⟨by have:=HJ.out;omega,by have:=HJ.out;have:=b3.out;omega⟩,⟨b9.out (by simpa using hr_)⟩⟩
      have e_:wrap64 ((j_:Int)+1)=((j_+1:Nat):Int):=by have:=HN.out;have:=b3.out;unfold wrap64;omega
      rw[e_]
    all_goals (exfalso;have:=b3.out;omega)
   ·have a8:decide ((j_:Int) < (xs.length:Int))=false:=decide_eq_false c5;have a9:decide (j_ < xs.length)=false:=decide_eq_false (by omega)
    have b3:=aM c5;clear c5;go_wp2
    go_ret
    refine⟨_,rfl,HS.out.done _ ?_⟩;have e_:j_=xs.length:=by have:=b3.out;have:=HJ.out;omega
    rw[← e_];exact HI.out

/-- A function value that computes a product: where it lies,and what it has captured. -/
structure Thk (W:World) (b gp:Nat) (A:Option Addr) (n c:Nat) (A':Option Addr) (n' c':Nat):Prop where
 tp:W.heap[b]?=some (.cells #[.pointer (some ⟨gp,0,none⟩)] 81 (0,0))
 fa:W.heap[b+1]?=some (.cells #[.slice A n c] 37 (0,0))
 fb:W.heap[b+2]?=some (.cells #[.slice A' n' c'] 37 (0,0))
 lt:gp < b
theorem Thk.below {W W1:World} {b gp n c n' c':Nat} {A A':Option Addr} (h:Thk W b gp A n c A' n' c') (hb:Below W.heap.size W W1):Thk W1 b gp A n c A' n' c' :=
 ⟨(hb.block _ (Array.getElem?_eq_some_iff.1 h.tp).1).trans h.tp,(hb.block _ (Array.getElem?_eq_some_iff.1 h.fa).1).trans h.fa,(hb.block _ (Array.getElem?_eq_some_iff.1 h.fb).1).trans h.fb,h.lt⟩
theorem Thk.keep {W W1:World} {b gp n c n' c':Nat} {A A':Option Addr} (h:Thk W b gp A n c A' n' c') (a6:W1.heap[b]?=W.heap[b]?) (a7:W1.heap[b+1]?=W.heap[b+1]?) (a8:W1.heap[b+2]?=W.heap[b+2]?):Thk W1 b gp A n c A' n' c' :=
 ⟨a6.trans h.tp,a7.trans h.fa,a8.trans h.fb,h.lt⟩
def thkFn (f b:Nat):Nat × Array Value:=(f,#[.pointer (some ⟨b+1,0,none⟩),.pointer (some ⟨b+2,0,none⟩),.pointer (some ⟨b,0,none⟩)])
theorem Gzw.calls (gp:Nat) (A:Option Addr) (n c:Nat) (A':Option Addr) (n' c':Nat) (w:World) (hgp:gp < w.heap.size) :
  Calls Try.prog 63 #[.pointer (some ⟨gp,0,none⟩),.slice A n c,.slice A' n' c'] w fun e w'=>∃ b,e=.returned (.func (.func (thkFn 81 b).1) #[] (thkFn 81 b).2)∧Thk w' b gp A n c A' n' c'∧w.heap.size≤b∧Below w.heap.size w w':=by
 have hmf_:∀ (fn:Fn) (first cap:Array Value) (w:World),(Instr.makeFunc fn first cap).run Try.prog w=.ok (.func fn first cap) w:=fun _ _ _ _=>rfl
 have HGP:=aM hgp;clear hgp;go_enter Try.func63,Try.ntmps63
 go_wp2
 go_ret
 refine⟨w.heap.size,rfl,⟨?_,?_,?_,HGP.out⟩,Nat.le_refl _,?_⟩
 ·exact blk_alloc (blk_alloc (blk_new w _) _) _
 ·have:=blk_alloc (blk_new (w.alloc (Obj.cells #[Value.pointer (some { block:=gp,off:=0 })] 81)) (Obj.cells #[.slice A n c] 37)) (.cells #[.slice A' n' c'] 37);simpa using this
 ·have:=blk_new (((w.alloc (Obj.cells #[Value.pointer (some { block:=gp,off:=0 })] 81)).alloc (Obj.cells #[Value.slice A n c] 37))) (Obj.cells #[.slice A' n' c'] 37);simpa using this
 ·exact(((Below.refl _ _).alloc (Nat.le_refl _) _).alloc (by simp) _).alloc (by simp;omega) _
/-- The step that computes a product. -/
theorem Hzj.calls (k b gp:Nat) (A:Option Addr) (c:Nat) (l:List Int) (A':Option Addr) (c':Nat) (l':List Int) (u:Value) (a6:List Int) (a7:Int) (w:World) (hT:Thk w b gp A l.length c A' l'.length c') (hp:w.heap[gp]?=some (.cells #[u] 37 (0,0)))
  (a8:Kd.C (Kd.int .i64) w A l.length l) (a9:l.length≤c) (b3:Kd.C (Kd.int .i64) w A' l'.length l') (b4:l'.length≤c') (h:Dzv.f k l l'=some (a6,a7)) :
  Calls Try.prog (thkFn 81 b).1 (thkFn 81 b).2 w fun e w'=>∃ (b5:World) (v:Value),e=.returned (.int .i64 a7)∧w'=b5.setCell ⟨gp,0,none⟩ v∧Kd.R (Kd.int .i64) 3 b5 w.heap.size (fun _=>True) v a6∧Below w.heap.size w b5:=by
 have HA:=aM h;have b6:=aM a8;have b7:=aM a9;have b8:=aM b3;have b9:=aM b4;have HT:=aM hT;have HP:=aM hp;have HB:=aM (Below.refl w.heap.size w);have d0:=(blk_cell hT.tp 0).trans rfl;have d1:=(blk_cell hT.fa 0).trans rfl;have d3:=(blk_cell hT.fb 0).trans rfl;clear h a8 a9 b3 b4 hT hp;show Calls Try.prog 81 #[.pointer (some ⟨b+1,0,none⟩),.pointer (some ⟨b+2,0,none⟩),.pointer (some ⟨b,0,none⟩)] w _
 go_enter Try.func81,Try.ntmps81
 go_wp2_with (first|((with_reducible refine gc 82 rfl ?_);refine gC 82 (some 9) Try.func82 #[.slice A l.length c,.slice A' l'.length c'] ?_;(with_reducible refine(Dzv.calls k _ _ l _ _ l' a6 a7 _ ?_ ?_ ?_ ?_ HA.out).mono ?_);exact b6.out;exact b7.out;exact b8.out;exact b9.out;rintro e d4 ⟨d5,rfl,d6,hb⟩;refine⟨_,rfl,?_⟩;obtain⟨Ao_,co_,eo_⟩:=Kd.R_slice d6;subst eo_;have HO:=aM d6;have d7:=kb HP hb;have d8:=(blk_cell (kB (aM HT.out.tp) hb) 0).trans rfl;have d9:=(blk_cell d7.out 0).trans rfl;have e6:=blk_frozen d7.out 0;replace HB:=aM hb;clear hb d6))
 go_ret
 exact⟨_,_,rfl,rfl,HO.out,HB.out⟩
/-- What the pure text tells of a step's making: nothing. -/
def Gzw.f (_:Unit) (_ _:List Int):Option Int:=some 0
theorem fun_lit_step {P:Program} {ops:Array Oper} {Q:Exit→Act→World→Prop} {o:Oper} {a:Act} {Kc:Act→World→Prop} {W:World} (hw:Region.wanted o (yielded ops a.tmps)=true) {N:Tmp} (_hd:o.dst=some N) {cs:Array Value} {t:TypeId} {n:Nat}
  (hrun:(execOp a.eval o).run P W=.ok (.value (.slice (some ⟨W.heap.size,0,none⟩) n n)) (W.alloc (.cells cs t (0,0))))
  (h:∀ g a6,a6.heap[g]?=some (.cells cs t (0,0))→Below W.heap.size W a6→Kc (a.put o.dst (.slice (some ⟨g,0,none⟩) n n)) a6):if Region.wanted o (yielded ops a.tmps)=true then Oper.wp P o a W Kc Q else Kc (a.put o.dst undef) W :=
 event_step hw hrun (h _ _ (blk_new W _) (below_alloc (Below.refl _ _) _))
theorem V_keptC {W W_:World} {e base n c:Nat} {ok S:Nat→Prop} {A:Option Addr} {xs:List Int} (h:Kd.V (Kd.int .i64) e W base ok (.slice A n c) xs) (hk:Kept W W_ S) (hne:∀ k,ok k→¬ S k):Kd.C (Kd.int .i64) W_ A n xs:=by
 obtain⟨hn,_,_⟩:=Kd.V_reads' h;have a6:=Kd.V_reads' (Kd.V_step h (fun k hk1 hk2=>hk.2 k hk2 (hne k hk1)))
 rw[hn];exact a6.2.2
theorem C_V {w:World} {e base n c:Nat} {A:Option Addr} {xs:List Int} (h:Kd.C (Kd.int .i64) w A n xs) (hc:n≤c):Kd.V (Kd.int .i64) e w base (fun _=>True) (.slice A n c) xs:=by
 have hn:=h.1;subst hn;refine⟨A,c,rfl,hc,fun W' hW=>⟨h.1,h.2.1,fun hp=>?_⟩⟩
 obtain⟨ad,a6,a7⟩:=h.2.2 hp;refine⟨ad,a6,fun j q hj=>?_⟩
 obtain⟨cs,a8,a9,b3⟩:=a7 j q hj;refine⟨cs,a8,a9,fun i u hu=>?_⟩
 have b4:=b3 i u hu;have b5:=hW _ trivial (World.block_lt_of_cell? w _ b4);rw[← b4];simp only[World.cell?,b5]
/-- What two steps one after the other come to. -/
def Ezx.f (k:Nat) (l1 l1' l2 l2':List Int):Option (Int × List Int × List Int):=(Dzv.f k l1 l1').bind fun x=>if x.2=0 then(Dzv.f k l2 l2').bind fun y=>some (y.2,x.1,y.1) else some (x.2,x.1,([]:List Int))
theorem Ezx.mono:∀ a6 a7 a8 a9 k,LeO (Ezx.f k a6 a7 a8 a9) (Ezx.f (k+1) a6 a7 a8 a9):=by
 intro a6 a7 a8 a9 k;unfold Ezx.f;exact LeO.bind (Dzv.mono _ _ k) (fun _=>LeO.ite (LeO.bind (Dzv.mono _ _ k) (fun _=>LeO.refl _)) (LeO.refl _))
theorem kept_far {w a6:World} {S:Nat→Prop} {B g:Nat} (h:Below B w a6) (hB:w.heap.size≤B) (hg:S g) (v:Value):Kept w (a6.setCell ⟨g,0,none⟩ v) S :=
 Kept.setCell (p:=⟨g,0,none⟩) ⟨h.size,fun i hi _=>h.block i (Nat.lt_of_lt_of_le hi hB)⟩ (.inl hg) v
theorem kept_trans {a b c:World} {S:Nat→Prop} (h:Kept a b S) (h':Kept b c S):Kept a c S :=
 ⟨Nat.le_trans h.1 h'.1,fun i hi hn=>(h'.2 i (Nat.lt_of_lt_of_le hi h.1) hn).trans (h.2 i hi hn)⟩
/-- What two products leave. -/
structure Fin2 (w0 w W:World) (gp gq:Nat) (vp vq:Value) (x y:List Int):Prop where
 p:W.heap[gp]?=some (.cells #[vp] 37 (0,0))
 q:W.heap[gq]?=some (.cells #[vq] 37 (0,0))
 rp:Kd.R (Kd.int .i64) 3 W w0.heap.size (fun k_=>w.heap.size≤k_∧some k_≠vq.ownBlock) vp x
 rq:Kd.R (Kd.int .i64) 3 W w0.heap.size (fun k_=>w.heap.size≤k_∧some k_≠vp.ownBlock) vq y
 below:Below w0.heap.size w0 W
 kept:Kept w W (fun k_=>k_=gp∨k_=gq)
theorem below_far {B:Nat} {a6 w a7:World} {g:Nat} (h:Below B a6 w) (hB:B≤w.heap.size) (a8:Below w.heap.size w a7) (hg:B≤g) (v:Value):Below B a6 (a7.setCell ⟨g,0,none⟩ v) :=
 Below.setCell (below_then h hB a8) hg v
set_option maxHeartbeats 2000000 in
theorem Ezx.calls (k a6 a7 gp gq:Nat) (a8:Option Addr) (a9:Nat) (l1:List Int) (b3:Option Addr) (b4:Nat) (b5:List Int) (b6:Option Addr) (c2:Nat) (l2:List Int) (b7:Option Addr) (b8:Nat) (b9:List Int) (d0:Int) (d1 d3:List Int) (g cg:Nat) (d4 w:World) (hB:Below d4.heap.size d4 w)
  (hg:w.heap[g]?=some (.cells #[.func (.func (thkFn 81 a6).1) #[] (thkFn 81 a6).2,.func (.func (thkFn 81 a7).1) #[] (thkFn 81 a7).2] 79 (0,0)))
  (d5:Thk w a6 gp a8 l1.length a9 b3 b5.length b4) (d6:Thk w a7 gq b6 l2.length c2 b7 b9.length b8) (hp:w.heap[gp]?=some (.cells #[.slice none 0 0] 37 (0,0))) (hq:w.heap[gq]?=some (.cells #[.slice none 0 0] 37 (0,0))) (hne:gp≠gq) (hgp:d4.heap.size≤gp) (hgq:d4.heap.size≤gq) (d7:gp < a7) (d8:gq < a6)
  (d9:∀ W_,Kept w W_ (fun k_=>k_=gp∨k_=gq)→Kd.C (Kd.int .i64) W_ a8 l1.length l1) (e6:l1.length≤a9) (e7:∀ W_,Kept w W_ (fun k_=>k_=gp∨k_=gq)→Kd.C (Kd.int .i64) W_ b3 b5.length b5) (e8:b5.length≤b4)
  (f3:∀ W_,Kept w W_ (fun k_=>k_=gp∨k_=gq)→Kd.C (Kd.int .i64) W_ b6 l2.length l2) (f4:l2.length≤c2) (f5:∀ W_,Kept w W_ (fun k_=>k_=gp∨k_=gq)→Kd.C (Kd.int .i64) W_ b7 b9.length b9) (f6:b9.length≤b8)
  (h:Ezx.f k l1 b5 l2 b9=some (d0,d1,d3)) :
  Calls Try.prog 62 #[.slice (some ⟨g,0,none⟩) 2 cg] w fun e w'=>e=.returned (.int .i64 d0)∧∃ vp vq:Value,Fin2 d4 w w' gp gq vp vq d1 d3:=by
 have hfn:∃ fn,Try.prog.funcs[81]?=some fn∧(fn.name == "runtime.NumGoroutine")=false∧fn.body.isSome=true:=⟨_,Try.func81,by kernel_rfl,rfl⟩
 have hgl:=blk_lt hg;have hgne:g≠gp∧g≠gq:=⟨blk_ne hg hp (by decide),blk_ne hg hq (by decide)⟩
 have hK1:∀ (f7:World) (v:Value),Below w.heap.size w f7→Kept w (f7.setCell ⟨gp,0,none⟩ v) (fun k_=>k_=gp∨k_=gq):=fun f7 v hb=>kept_far hb (Nat.le_refl _) (.inl rfl) v
 have hfar:∀ (W:World) (i:Nat) (o:Obj),Kept w W (fun k_=>k_=gp∨k_=gq)→i≠gp→i≠gq→w.heap[i]?=some o→W.heap[i]?=some o:=fun W i o hk f8 f9 ho=>blk_kept ho hk (fun e=>e.elim f8 f9)
 have hBs:=hB.size;let I:Nat→World→Prop:=fun j W=>Kept w W (fun k_=>k_=gp∨k_=gq)∧match j with
  | 0=>W=w
  | 1=>∃ (f7:World) (v:Value) (x:List Int),W=f7.setCell ⟨gp,0,none⟩ v∧Dzv.f k l1 b5=some (x,0)∧Kd.R (Kd.int .i64) 3 f7 w.heap.size (fun _=>True) v x∧Below w.heap.size w f7
  | _=>∃ (vp vq:Value) (x y:List Int),Fin2 d4 w W gp gq vp vq x y∧Ezx.f k l1 b5 l2 b9=some (0,x,y)
 let Qr:Int→World→Prop:=fun r W=>∃ (vp vq:Value) (x y:List Int),Fin2 d4 w W gp gq vp vq x y∧Ezx.f k l1 b5 l2 b9=some (r,x,y)
 have hS:Steps_ [thkFn 81 a6,thkFn 81 a7] ⟨g,0,none⟩ I Qr:=by
  refine⟨fun j W hI i x hx=>?_,fun j W x hI hx=>?_,fun W hI=>hI.2⟩
  ·rw[add_plain];have f8:=hfar W g _ hI.1 hgne.1 hgne.2 hg;rw[blk_cell f8 i];match i,hx with
   | 0,hx=>cases hx;rfl
   | 1,hx=>cases hx;rfl
   | i+2,hx=>simp at hx
  ·match j,hx,hI with
   | 0,hx,hI =>
    cases hx
    obtain⟨hk,hw⟩:=hI;cases hw
    refine⟨hfn,?_⟩;unfold Ezx.f at h;rw[Option.bind_eq_some_iff] at h;obtain⟨⟨x,g6⟩,hm,h⟩:=h;refine(Hzj.calls k a6 gp a8 a9 l1 b3 b4 b5 _ x g6 w d5 hp (d9 w hk) e6 (e7 w hk) e8 hm).mono ?_;rintro e W' ⟨f7,v,rfl,rfl,hR,hb⟩;refine⟨g6,rfl,fun g7=>⟨hK1 f7 v hb,f7,v,x,rfl,g7 ▸ hm,hR,hb⟩,fun g7=>?_⟩
    have hp1:f7.heap[gp]?=some (.cells #[.slice none 0 0] 37 (0,0)):=(hb.block gp (blk_lt hp)).trans hp;have hq1:f7.heap[gq]?=some (.cells #[.slice none 0 0] 37 (0,0)):=(hb.block gq (blk_lt hq)).trans hq;refine⟨v,.slice none 0 0,x,[],⟨blk_put hp1 0 v rfl,blk_far hq1 (Ne.symm hne) v,?_,Kd.R_nil _ _ _ _ _,below_far hB hBs hb hgp v,hK1 f7 v hb⟩,?_⟩
    ·refine Kd.R_mono (Kd.R_far (p:=⟨gp,0,none⟩) (ok:=fun k_=>w.heap.size≤k_) (Kd.R_lower (Kd.R_reok rfl hR (fun k_ hk_=>Kd.R_base hR k_ hk_)) hBs) (fun k_ hk_ e_=>?_) v) (fun k_ hk_=>⟨hk_,by simp [Value.ownBlock]⟩)
     have:=blk_lt hp;subst e_;omega
    ·unfold Ezx.f;rw[hm];simp only[Option.bind_some];rw[if_neg g7]
   | 1,hx,hI =>
    cases hx
    obtain⟨hk,f7,v,x,rfl,hm,hR,hb⟩:=hI;refine⟨hfn,?_⟩;unfold Ezx.f at h;rw[Option.bind_eq_some_iff] at h;obtain⟨⟨x',g6⟩,hm',h⟩:=h;rw[hm] at hm';cases hm'
    simp only[if_true] at h;rw[Option.bind_eq_some_iff] at h;obtain⟨⟨y,g8⟩,g9,h⟩:=h;have hp1:f7.heap[gp]?=some (.cells #[.slice none 0 0] 37 (0,0)):=(hb.block gp (blk_lt hp)).trans hp;have hq1:(f7.setCell ⟨gp,0,none⟩ v).heap[gq]?=some (.cells #[.slice none 0 0] 37 (0,0)):=blk_far ((hb.block gq (blk_lt hq)).trans hq) (Ne.symm hne) v;have j5:Thk (f7.setCell ⟨gp,0,none⟩ v) a7 gq b6 l2.length c2 b7 b9.length b8:=⟨hfar _ _ _ hk (by omega) (by have:=d6.lt;omega) d6.tp,hfar _ _ _ hk (by omega) (by have:=d6.lt;omega) d6.fa,hfar _ _ _ hk (by omega) (by have:=d6.lt;omega) d6.fb,d6.lt⟩
    refine(Hzj.calls k a7 gq b6 c2 l2 b7 b8 b9 _ y g8 _ j5 hq1 (f3 _ hk) f4 (f5 _ hk) f6 g9).mono ?_;rintro e W' ⟨j9,u,rfl,rfl,l5,l6⟩;have hps:gp < w.heap.size:=blk_lt hp;have hqs:gq < w.heap.size:=blk_lt hq;have l7:w.heap.size≤(f7.setCell ⟨gp,0,none⟩ v).heap.size:=hk.1;have hRv:Kd.R (Kd.int .i64) 3 (f7.setCell ⟨gp,0,none⟩ v) w.heap.size (fun k_=>w.heap.size≤k_) v x:=Kd.R_far (p:=⟨gp,0,none⟩) (Kd.R_reok rfl hR (fun k_ hk_=>Kd.R_base hR k_ hk_)) (fun k_ hk_ e_=>by subst e_;omega) v
    have hkk:Kept w (j9.setCell ⟨gq,0,none⟩ u) (fun k_=>k_=gp∨k_=gq):=kept_trans hk (kept_far l6 (Nat.le_refl _) (.inr rfl) u)
    have hFin:Fin2 d4 w (j9.setCell ⟨gq,0,none⟩ u) gp gq v u x y:=by
     refine⟨blk_far ((l6.block gp (by omega)).trans (blk_put hp1 0 v rfl)) hne u,blk_put ((l6.block gq (by omega)).trans hq1) 0 u rfl,?_,?_,below_far (below_far hB hBs hb hgp v) (by omega) l6 hgq u,hkk⟩
     ·refine Kd.R_far (p:=⟨gq,0,none⟩) ?_ (fun k_ hk_ e_=>by subst e_;omega) u
      exact Kd.R_lower (Kd.R_elder' (rX hRv) (fun k_ hk_=>Kd.R_base l5 k_ hk_) l6) hBs
     ·refine Kd.R_far (p:=⟨gq,0,none⟩) ?_ (fun k_ hk_ e_=>by subst e_;omega) u
      refine Kd.R_lower (Kd.R_reok rfl l5 (fun k_ hk_=>⟨Nat.le_trans l7 (Kd.R_base l5 k_ hk_),fun e_=>?_⟩)) (by omega)
      have:=Kd.R_lt hRv k_ e_.symm;have:=Kd.R_base l5 k_ hk_;omega
    have l8:Ezx.f k l1 b5 l2 b9=some (g8,x,y):=by
     unfold Ezx.f;rw[hm];simp only[Option.bind_some,if_true];rw[g9];rfl
    exact⟨g8,rfl,fun g7=>⟨hkk,v,u,x,y,hFin,by rw[l8,g7]⟩,fun _=>⟨v,u,x,y,hFin,l8⟩⟩
   | j+2,hx,hI=>simp at hx
 have hI0:I 0 w:=⟨⟨Nat.le_refl _,fun _ _ _=>rfl⟩,rfl⟩
 refine(Hzk.calls [thkFn 81 a6,thkFn 81 a7] ⟨g,0,none⟩ cg w I Qr hS hI0 (by simp)).mono ?_
 rintro e w' ⟨r,rfl,vp,vq,x,y,hF,hf⟩;rw[h] at hf;cases hf
 exact⟨rfl,vp,vq,hF⟩



end Go.Proofs.Ytnklckihalhlmaa.Print
