import Derived.Test.YtokkiljkgejnhaaPrint0
import Derived.Test.YtokkiljkgejnhaaPrint13
import Derived.Test.YtokkiljkgejnhaaPrint22
import Derived.Test.YtokkiljkgejnhaaPrint27
import Derived.Test.YtokkiljkgejnhaaPrint37
namespace Go.Proofs.Ytokkiljkgejnhaa.Print
open Go.RowKit Go.Proofs.YtokkiljkgejnhaaW.PrintWords Go.Proofs.YtokkiljkgejnhaaW.PrintLast Go.Proofs.YtokkiljkgejnhaaW.PrintMore
attribute [local go_sem] max2_int min2_int max_two min_two max_three min_three max_four min_four
set_option linter.unusedVariables false
set_option maxRecDepth 100000
set_option maxHeartbeats 8000000
set_option linter.unusedSimpArgs false

def Azw.l0:Nat→List Int→Int→List Int→Int→Option (List Int)
 | 0,_,_,_,_=>none
 | k+1,x0,x1,x5,x6=>if x6 < (x0.length:Int) then(if x1=0 then(if 0≤x6 then(if x5.length < 17592186044416 then(Azw.l0 k x0 x1 (x5 ++ [wrap64 (-(rd x0 x6))]) (wrap64 (x6+1))) else(none)) else(none)) else(if 0≤x6 then(if x5.length < 17592186044416 then(Azw.l0 k x0 x1 (x5 ++ [wrap64 ((rd x0 x6)+x1)]) (wrap64 (x6+1))) else(none)) else(none))) else(some x5)
def Azw.f (k:Nat) (l0:List Int) (a1:Int):Option (List Int):=Azw.l0 k l0 a1 ([]:List Int) 0
theorem Azw.mono_l:∀ k,(∀ a6 a7 a8 b4,LeO (Azw.l0 k a6 a7 a8 b4) (Azw.l0 (k+1) a6 a7 a8 b4))
 | 0=>fun _ _ _ _ r h=>by simp [Azw.l0] at h
 | k+1=>by
  have ih0:=Azw.mono_l k
  ·intro a6 a7 a8 b4;unfold Azw.l0;exact mM
theorem Azw.mono:∀ a6 a7 k,LeO (Azw.f k a6 a7) (Azw.f (k+1) a6 a7):=by
 intro a6 a7 k;have ih0:=Azw.mono_l k;unfold Azw.f;exact mM
theorem Azw.calls (k:Nat) (a6:Option Addr) (a7:Nat) (l0:List Int) (a8:Int) (r:List Int) (w:World) (b4:Kd.C (Kd.int .i64) w a6 l0.length l0) (b5:l0.length≤a7) (h:Azw.f k l0 a8=some r) :
  Calls Try.prog 22 #[.slice a6 l0.length a7,.int .i64 a8] w fun e w'=>∃ v0_:Value,e=.returned (v0_)∧Kd.R (Kd.int .i64) 3 w' w.heap.size (fun _=>True) v0_ r∧Below w.heap.size w w':=by
 have b6:=aM b4;have b7:=aM b5;clear b4 b5;have HB:=aM (Below.refl w.heap.size w);have H:(Azw.l0 k l0 a8 ([]:List Int) 0)=some r:=h;clear h;have H':=aM H;clear H;go_enter Try.func22,Try.ntmps22
 go_wp2
 go_loopg [5,6] k (fun kq b8 b9 w'=>∃ (d0:List Int) (d6:Int),b9=.int .i64 d6∧Aside0 (Azw.l0 kq l0 a8 d0 d6=some r)∧Aside0 (kq≤k)∧Aside0 (Kd.R (Kd.int .i64) 3 w' w.heap.size (fun _=>True) b8 d0)∧Aside0 (Below w.heap.size w w'))
 case atStart=>exact⟨(([]:List Int)),(0),sD,H',⟨Nat.le_refl _⟩,⟨nK⟩,⟨pB⟩⟩
 case round =>
  clear H';try clear c2
  try clear d7
  obtain⟨d0,d6,rfl,HA,d8,d9,HB⟩:=hrel;cases gk with
  | zero=>exact absurd HA.out (by simp [Azw.l0])
  | succ k1 =>
   have H:=HA.out;clear HA;simp only[Azw.l0] at H;by_cases c3:d6 < (l0.length:Int)
   ·rw[if_pos c3] at H;have e6:=dE c3;clear c3;by_cases c4:a8=0
    ·rw[if_pos c4] at H;have e7:(a8 == 0)=true:=beq_iff_eq.mpr c4;have e8:(a8 != 0)=false:=bne_eq_false_iff_eq.mpr c4;clear c4;obtain⟨e9,H⟩:=iN H;obtain⟨c6,H⟩:=iO H;have LMc6:=aM c6;clear c6;obtain⟨f3,f4⟩:∃ y_:List Int,y_=(d0 ++ [wrap64 (-(rd l0 d6))]):=⟨_,rfl⟩;replace H:(Azw.l0 k1 l0 a8 f3 (wrap64 (d6+1)))=some r:=yE f4 H
     have f6:=aM f4;clear f4;have H':=aM H;clear H;obtain⟨f9,g4,g5,g6,g7⟩:=aI b6.out d6;cases g4
     replace g5:=hB HB g5;go_wp2_with (first|((with_reducible refine gate_builtin (b:=.append) (xs:=#[.tmp 15,.tmp 21]) rfl ?_);at_builtin;refine Kd.R_append (Kd.int .i64) (w0:=w) w.heap.size rfl (.tmp 15) (.tmp 21) 22 3 (.int .i64 0) 8 rfl Try.underlying22 info3 rfl (by decide) (by omega) u5 d0 (wrap64 (-(rd l0 d6))) [.int .i64 (wrap64 (-(rd l0 d6)))] (fun _=>True) (fun _=>False) rfl rfl ?aP (fun _ hk=>hk.elim) ?aF ?aO ?aB ?aS ?aL ?_;(case aP=>exact rfl);(case aB=>exact pB);(case aF=>exact(fun _ _=>trivial));(case aO=>exact(rX d9.out));(case aS=>exact(below_size pB));(case aL=>have:=LMc6.out;omega);intro g8 g9 ho hb hg hat;rw[← f6.out] at ho;have j5:=aM (ho);replace HB:=aM (hb);clear d9;clear ho hb hg hat))
     go_roundg k1
     case measure=>have:=d8.out;omega
     case rel=>exact⟨(f3),(wrap64 (d6+1)),sD,H',⟨by have:=d8.out;omega⟩,⟨rX j5.out⟩,⟨pB⟩⟩
    ·rw[if_neg c4] at H;have e7:(a8 == 0)=false:=beq_eq_false_iff_ne.mpr c4;have e8:(a8 != 0)=true:=bne_iff_ne.mpr c4;obtain⟨j6,H⟩:=iN H;obtain⟨c9,H⟩:=iO H;have LMc9:=aM c9;clear c9;obtain⟨j7,j8⟩:∃ y_:List Int,y_=(d0 ++ [wrap64 ((rd l0 d6)+a8)]):=⟨_,rfl⟩;replace H:(Azw.l0 k1 l0 a8 j7 (wrap64 (d6+1)))=some r:=yE j8 H
     have j9:=aM j8;clear j8;have H':=aM H;clear H;obtain⟨l5,l6,l7,l8,l9⟩:=aI b6.out d6;cases l6
     replace l7:=hB HB l7;go_wp2_with (first|((with_reducible refine gate_builtin (b:=.append) (xs:=#[.tmp 23,.tmp 30]) rfl ?_);at_builtin;refine Kd.R_append (Kd.int .i64) (w0:=w) w.heap.size rfl (.tmp 23) (.tmp 30) 22 3 (.int .i64 0) 8 rfl Try.underlying22 info3 rfl (by decide) (by omega) u5 d0 (wrap64 ((rd l0 d6)+a8)) [.int .i64 (wrap64 ((rd l0 d6)+a8))] (fun _=>True) (fun _=>False) rfl rfl ?aP (fun _ hk=>hk.elim) ?aF ?aO ?aB ?aS ?aL ?_;(case aP=>exact rfl);(case aB=>exact pB);(case aF=>exact(fun _ _=>trivial));(case aO=>exact(rX d9.out));(case aS=>exact(below_size pB));(case aL=>have:=LMc9.out;omega);intro m0 m2 ho hb hg hat;rw[← j9.out] at ho;have m3:=aM (ho);replace HB:=aM (hb);clear d9;clear ho hb hg hat))
     go_roundg k1
     case measure=>have:=d8.out;omega
     case rel=>exact⟨(j7),(wrap64 (d6+1)),sD,H',⟨by have:=d8.out;omega⟩,⟨rX m3.out⟩,⟨pB⟩⟩
   ·rw[if_neg c3] at H;have e6:decide (d6 < (l0.length:Int))=false:=decide_eq_false c3;clear c3;obtain rfl:=Option.some.inj H;go_wp2
    go_ret
    exact⟨_,eW,rX d9.out,pB⟩

def Ezm.f (k:Nat) (l0:List Int):Option (Int × Int):=(Azq.f k l0).bind fun t726=>(if t726=true then(if(l0.length:Int) > 2 then(some (0,2)) else((Czw.f k l0).bind fun t727=>(if t727 > 1125899906842624 then(some (0,2)) else((Czw.f k l0).bind fun t728=>(some (t728,0)))))) else(some (0,3)))
theorem Ezm.mono:∀ a6 k,LeO (Ezm.f k a6) (Ezm.f (k+1) a6):=by
 intro a6 k;unfold Ezm.f;have i0:=@Azq.mono;have i1:=@Czw.mono;exact mM
theorem Ezm.calls (k:Nat) (a6:Option Addr) (a7:Nat) (l0:List Int) (a8:Int) (b4:Int) (w:World) (b5:Kd.C (Kd.int .i64) w a6 l0.length l0) (b6:l0.length≤a7) (h:Ezm.f k l0=some (a8,b4)) :
  Calls Try.prog 64 #[.slice a6 l0.length a7] w fun e w'=>e=.returned (.tuple #[.int .i64 a8,.int .i64 b4])∧Drawn0 w w':=by
 have b7:=aM b5;have b8:=aM b6;clear b5 b6;have H:((Azq.f k l0).bind fun b9=>(if b9=true then(if(l0.length:Int) > 2 then(some (0,2)) else((Czw.f k l0).bind fun d0=>(if d0 > 1125899906842624 then(some (0,2)) else((Czw.f k l0).bind fun d6=>(some (d6,0)))))) else(some (0,3))))=some (a8,b4):=h
 clear h;obtain⟨b9,d7,H⟩:=bT H;(try dsimp only at H);by_cases c3:b9=true
 ·subst c3;rw[if_pos rfl] at H;by_cases c4:(l0.length:Int) > 2
  ·rw[if_pos c4] at H;have d8:decide (2 < (l0.length:Int))=true:=dE c4;have d9:decide (2 < l0.length)=true:=dE (by omega)
   clear c4;obtain⟨rfl,rfl⟩:=q2 H;go_enter Try.func64,Try.ntmps64
   go_wp2_with (first|((with_reducible refine gc 65 rfl ?_);refine gC 65 (some 5) Try.func65 #[.slice a6 l0.length a7] ?_;(with_reducible refine(Azq.calls k _ _ l0 true _ ?_ ?_ d7.out).mono ?_);exact cX b7.out;exact b8.out;rintro e w' ⟨rfl,⟨nd,rfl⟩⟩;refine⟨_,rfl,?_⟩))
   go_ret2
   exact⟨sD,dR⟩
  ·rw[if_neg c4] at H;have d8:decide (2 < (l0.length:Int))=false:=decide_eq_false c4;have d9:decide (2 < l0.length)=false:=decide_eq_false (by omega)
   clear c4;obtain⟨d0,e6,H⟩:=bT H;(try dsimp only at H);by_cases c6:d0 > 1125899906842624
   ·rw[if_pos c6] at H;have e7:decide (1125899906842624 < d0)=true:=dE c6;clear c6;obtain⟨rfl,rfl⟩:=q2 H;go_enter Try.func64,Try.ntmps64
    go_wp2_with (first|((with_reducible refine gc 65 rfl ?_);refine gC 65 (some 5) Try.func65 #[.slice a6 l0.length a7] ?_;(with_reducible refine(Azq.calls k _ _ l0 true _ ?_ ?_ d7.out).mono ?_);exact cX b7.out;exact b8.out;rintro e w' ⟨rfl,⟨nd,rfl⟩⟩;refine⟨_,rfl,?_⟩)|(go_at_call 79;(with_reducible refine(Czw.calls k _ _ l0 d0 _ ?_ ?_ e6.out).mono ?_);exact cX b7.out;exact b8.out;rintro e w' ⟨rfl,⟨nd,rfl⟩⟩))
    go_ret2
    exact⟨sD,dR⟩
   ·rw[if_neg c6] at H;have e7:decide (1125899906842624 < d0)=false:=decide_eq_false c6;clear c6;replace H:=bS H;obtain⟨d6,e8,H⟩:=H;replace H:(some (d6,0))=some (a8,b4):=H;have e9:=aM e8;clear e8;obtain⟨rfl,rfl⟩:=q2 H;go_enter Try.func64,Try.ntmps64
    go_wp2_with (first|((with_reducible refine gc 65 rfl ?_);refine gC 65 (some 5) Try.func65 #[.slice a6 l0.length a7] ?_;(with_reducible refine(Azq.calls k _ _ l0 true _ ?_ ?_ d7.out).mono ?_);exact cX b7.out;exact b8.out;rintro e w' ⟨rfl,⟨nd,rfl⟩⟩;refine⟨_,rfl,?_⟩)|(go_at_call 79;(with_reducible refine(Czw.calls k _ _ l0 d0 _ ?_ ?_ e6.out).mono ?_);exact cX b7.out;exact b8.out;rintro e w' ⟨rfl,⟨nd,rfl⟩⟩)|((with_reducible refine gc 79 rfl ?_);refine gC 79 (some 16) Try.func79 #[.slice a6 l0.length a7] ?_;(with_reducible refine(Czw.calls k _ _ l0 d6 _ ?_ ?_ e9.out).mono ?_);exact cX b7.out;exact b8.out;rintro e w' ⟨rfl,⟨nd,rfl⟩⟩;refine⟨_,rfl,?_⟩))
    go_ret2
    exact⟨sD,dR⟩
 ·obtain rfl:=bN c3;rw[if_neg nF] at H
  obtain⟨rfl,rfl⟩:=q2 H;go_enter Try.func64,Try.ntmps64
  go_wp2_with (first|((with_reducible refine gc 65 rfl ?_);refine gC 65 (some 5) Try.func65 #[.slice a6 l0.length a7] ?_;(with_reducible refine(Azq.calls k _ _ l0 false _ ?_ ?_ d7.out).mono ?_);exact cX b7.out;exact b8.out;rintro e w' ⟨rfl,⟨nd,rfl⟩⟩;refine⟨_,rfl,?_⟩))
  go_ret2
  exact⟨sD,dR⟩


mutual
def Czv.j0:Nat→Int→Bool→Bool→List Int→List Int→Option (Int × Int)
 | 0,_,_,_,_,_=>none
 | k+1,x9,x37,x730000,x730001,x730002=>if x37=true then(Czv.j1 k (wrap64 (x9+1)) x730000 x730001 x730002) else(Czv.j1 k x9 x730000 x730001 x730002)
def Czv.j1:Nat→Int→Bool→List Int→List Int→Option (Int × Int)
 | 0,_,_,_,_=>none
 | k+1,x9,x730000,x730001,x730002=>if x9 > 1125899906842624 then(some (0,2)) else(if x730000=true then(some (wrap64 (-x9),0)) else(some (x9,0)))
end
def Czv.f (k:Nat) (a0_0:Bool) (l0_1:List Int) (l0_2:List Int) (a1:Bool):Option (Int × Int):=(Dzq.f k a0_0 l0_1 l0_2).bind fun t730=>(if t730=true then((Bzp.f k l0_1 l0_2).bind fun bt731=>(if bt731.2.2=0 then((Ezm.f k bt731.1).bind fun bt738=>(if bt738.2=0 then(if(bt731.2.1.length:Int) > 0 then(Czv.j0 k bt738.1 a1 a0_0 l0_1 l0_2) else(Czv.j0 k bt738.1 false a0_0 l0_1 l0_2)) else(some (0,2)))) else(some (0,bt731.2.2)))) else(some (0,3)))
theorem Czv.mono_l:∀ k,(∀ a6 a7 a8 b4 b5,LeO (Czv.j0 k a6 a7 a8 b4 b5) (Czv.j0 (k+1) a6 a7 a8 b4 b5))∧(∀ a6 a7 a8 b4,LeO (Czv.j1 k a6 a7 a8 b4) (Czv.j1 (k+1) a6 a7 a8 b4))
 | 0=>⟨fun _ _ _ _ _ r h=>by simp [Czv.j0] at h,fun _ _ _ _ r h=>by simp [Czv.j1] at h⟩
 | k+1=>by
  obtain⟨ih0,ih1⟩:=Czv.mono_l k;have i0:=@Bzp.mono;have i1:=@Ezm.mono;have i2:=@Dzq.mono;refine⟨?_,?_⟩
  ·intro a6 a7 a8 b4 b5;unfold Czv.j0;exact mM
  ·intro a6 a7 a8 b4;unfold Czv.j1;exact mM
theorem Czv.mono:∀ a6 a7 a8 b4 k,LeO (Czv.f k a6 a7 a8 b4) (Czv.f (k+1) a6 a7 a8 b4):=by
 intro a6 a7 a8 b4 k;obtain⟨ih0,ih1⟩:=Czv.mono_l k;unfold Czv.f;have i0:=@Bzp.mono;have i1:=@Ezm.mono;have i2:=@Dzq.mono;exact mM
theorem Czv.calls (k:Nat) (a6:Bool) (a7:Option Addr) (a8:Nat) (b4:List Int) (b5:Option Addr) (b6:Nat) (b7:List Int) (b8:Bool) (b9:Int) (d0:Int) (w:World) (d6:Kd.C (Kd.int .i64) w a7 b4.length b4) (d7:b4.length≤a8) (d8:Kd.C (Kd.int .i64) w b5 b7.length b7) (d9:b7.length≤b6) (h:Czv.f k a6 b4 b7 b8=some (b9,d0)) :
  Calls Try.prog 43 #[.agg #[.bool a6,.slice a7 b4.length a8,.slice b5 b7.length b6],.bool b8] w fun e w'=>e=.returned (.tuple #[.int .i64 b9,.int .i64 d0])∧Below w.heap.size w w':=by
 have hu38:=Try.underlying38;have e6:=aM d6;have e7:=aM d7;clear d6 d7;have e8:=aM d8;have e9:=aM d9;clear d8 d9;have HB:=aM (Below.refl w.heap.size w);have H:((Dzq.f k a6 b4 b7).bind fun f3=>(if f3=true then((Bzp.f k b4 b7).bind fun f4=>(if f4.2.2=0 then((Ezm.f k f4.1).bind fun f6=>(if f6.2=0 then(if(f4.2.1.length:Int) > 0 then(Czv.j0 k f6.1 b8 a6 b4 b7) else(Czv.j0 k f6.1 false a6 b4 b7)) else(some (0,2)))) else(some (0,f4.2.2)))) else(some (0,3))))=some (b9,d0):=h
 clear h;obtain⟨f3,f9,H⟩:=bT H;(try dsimp only at H);by_cases c4:f3=true
 ·subst c4;rw[if_pos rfl] at H;obtain⟨⟨g4,g5,g6⟩,g7,H⟩:=bT H;(try dsimp only at H);by_cases c6:g6=0
  ·rw[if_pos c6] at H;have g8:(g6 == 0)=true:=beq_iff_eq.mpr c6;have g9:(g6 != 0)=false:=bne_eq_false_iff_eq.mpr c6;clear c6;obtain⟨⟨j5,j6⟩,j7,H⟩:=bT H;(try dsimp only at H);by_cases c8:j6=0
   ·rw[if_pos c8] at H;have j8:(j6 == 0)=true:=beq_iff_eq.mpr c8;have j9:(j6 != 0)=false:=bne_eq_false_iff_eq.mpr c8;clear c8;have l5:=aM H;clear H;go_enter Try.func43,Try.ntmps43
    go_upto_region 9 with (first|((with_reducible refine gd 2 rfl ?_);refine bx #[.bool a6,.slice a7 b4.length a8,.slice b5 b7.length b6] 38 ?_;intro l6 hg l7 l8 hb;have l9:=gA w hg;have m0:=gA w hg;replace HB:=bB hb;clear hb hg;obtain⟨m2,m3,m4,m5,m6,m7⟩:=bk3 l8)|((with_reducible refine gc 44 rfl ?_);refine gC 44 (some 11) Try.func44 #[.agg #[.bool a6,.slice a7 b4.length a8,.slice b5 b7.length b6]] ?_;(with_reducible refine(Dzq.calls k a6 _ _ b4 _ _ b7 true _ ?_ ?_ ?_ ?_ f9.out).mono ?_);exact cB e6;exact e7.out;exact cB e8;exact e9.out;rintro e m8 ⟨rfl,hb⟩;refine⟨_,rfl,?_⟩;replace l8:=kb l8 hb;replace HB:=bB hb;clear hb;obtain⟨m9,n0,n6,n7,n8,n9⟩:=bk3 l8)|((with_reducible refine gc 63 rfl ?_);refine gC 63 (some 18) Try.func63 #[.slice a7 b4.length a8,.slice b5 b7.length b6] ?_;(with_reducible refine(Bzp.calls k _ _ b4 _ _ b7 g4 g5 g6 _ ?_ ?_ ?_ ?_ g7.out).mono ?_);exact cB e6;exact e7.out;exact cB e8;exact e9.out;rintro e o0 ⟨o8,o9,rfl,p0,p4,hb⟩;refine⟨_,rfl,?_⟩;have p5:=rL p0;have p9:=rL p4;replace l8:=kb l8 hb;replace HB:=bB hb;clear hb p0 p4;obtain⟨r5,r6,rfl⟩:=Kd.R_slice p5.out)|((with_reducible refine gc 64 rfl ?_);refine gC 64 (some 27) Try.func64 #[.slice r5 g4.length r6] ?_;(with_reducible refine(Ezm.calls k _ _ g4 j5 j6 _ ?_ ?_ j7.out).mono ?_);exact cR p5;exact lR p5;rintro e w' ⟨rfl,⟨nd,rfl⟩⟩;refine⟨_,rfl,?_⟩))
    (try simp only[Act.put,sA,sZ,sC])
    go_cut [37] (fun r7 wc=>∃ (kq:Nat) (r8:Bool),r7=.bool r8∧Aside0 (Czv.j0 kq j5 r8 a6 b4 b7=some (b9,d0))∧Aside0 (kq≤k)∧Aside0 (wc.heap[l6]?=some (.cells #[.bool a6,(.slice a7 b4.length a8),(.slice b5 b7.length b6)] 38 (0,0)))∧Aside0 (Below w.heap.size w wc))
    case first =>
     have H:=l5.out;clear l5;by_cases r9:(g5.length:Int) > 0
     ·rw[if_pos r9] at H;have t6:decide (0 < (g5.length:Int))=true:=dE r9;have t7:decide (0 < g5.length)=true:=dE (by omega)
      clear r9;(first|rw[t6]|(simp only[i64_w,i32_w];rw[t6])|skip)
      have H':=aM H;clear H;obtain⟨t8,z1,rfl⟩:=Kd.R_slice p9.out;go_wp2
      go_meet
      case rel=>exact⟨_,(b8),sD,H',⟨by first|omega|exact Nat.le_refl _⟩,⟨by exact kW l8⟩,⟨pB⟩⟩
     ·rw[if_neg r9] at H;have t6:decide (0 < (g5.length:Int))=false:=decide_eq_false r9;have t7:decide (0 < g5.length)=false:=decide_eq_false (by omega)
      clear r9;(first|rw[t6]|(simp only[i64_w,i32_w];rw[t6])|skip)
      have H':=aM H;clear H;obtain⟨z2,z6,rfl⟩:=Kd.R_slice p9.out;go_wp2
      go_meet
      case rel=>exact⟨_,(false),sD,H',⟨by first|omega|exact Nat.le_refl _⟩,⟨by exact kW l8⟩,⟨pB⟩⟩
    case rest =>
     clear l5;try clear z7
     try clear z8
     try clear c4
     try clear c6
     try clear g8
     try clear g9
     try clear c8
     try clear j8
     try clear j9
     try clear r9
     try clear t6
     try clear t7
     try clear m2
     try clear m3
     try clear m4
     try clear m9
     try clear n0
     try clear n6
     try clear m5
     try clear m6
     try clear m7
     try clear n7
     try clear n8
     try clear n9
     obtain⟨kq,r8,rfl,HA,B0,l8,HB⟩:=hcut;cases kq with
     | zero=>exact absurd HA.out (by simp [Czv.j0])
     | succ B5 =>
      have H:=HA.out;clear HA;simp only[Czv.j0] at H;have B6:=aM H;clear H;go_upto_if 37 with (fail)
      go_cut [9] (fun B8 wc=>∃ (kq:Nat) (B9:Int),B8=.int .i64 B9∧Aside0 (Czv.j1 kq B9 a6 b4 b7=some (b9,d0))∧Aside0 (kq≤B5)∧Aside0 (wc.heap[l6]?=some (.cells #[.bool a6,(.slice a7 b4.length a8),(.slice b5 b7.length b6)] 38 (0,0)))∧Aside0 (Below w.heap.size w wc))
      case first =>
       have H:=B6.out;clear B6;by_cases C0:r8=true
       ·subst C0;rw[if_pos rfl] at H;have H':=aM H;clear H;go_wp2
        go_meet
        case rel=>exact⟨_,(wrap64 (j5+1)),sD,H',⟨by have:=B0.out;first|omega|exact Nat.le_refl _⟩,⟨by exact kW l8⟩,⟨pB⟩⟩
       ·obtain rfl:=bN C0;rw[if_neg nF] at H
        have H':=aM H;clear H;go_wp2
        go_meet
        case rel=>exact⟨_,(j5),sD,H',⟨by have:=B0.out;first|omega|exact Nat.le_refl _⟩,⟨by exact kW l8⟩,⟨pB⟩⟩
      case rest =>
       clear B6;try clear z7
       try clear c2
       try clear z8
       try clear c4
       try clear c6
       try clear g8
       try clear g9
       try clear C1
       try clear c8
       try clear j8
       try clear j9
       try clear r9
       try clear t6
       try clear t7
       try clear C0
       try clear m2
       try clear m3
       try clear m4
       try clear m9
       try clear n0
       try clear n6
       try clear m5
       try clear m6
       try clear m7
       try clear n7
       try clear n8
       try clear n9
       try clear z8
       obtain⟨kq,B9,rfl,HA,C2,l8,HB⟩:=hcut;cases kq with
       | zero=>exact absurd HA.out (by simp [Czv.j1])
       | succ C3 =>
        have H:=HA.out;clear HA;simp only[Czv.j1] at H;by_cases C4:B9 > 1125899906842624
        ·rw[if_pos C4] at H;have C6:decide (1125899906842624 < B9)=true:=dE C4;clear C4;obtain⟨rfl,rfl⟩:=q2 H;go_wp2
         go_ret2
         exact⟨eW,pB⟩
        ·rw[if_neg C4] at H;have C6:decide (1125899906842624 < B9)=false:=decide_eq_false C4;clear C4;by_cases C7:a6=true
         ·subst C7;rw[if_pos rfl] at H;obtain⟨rfl,rfl⟩:=q2 H;obtain⟨C8,C9,D0,D1,D2,D3⟩:=bk3 l8;go_wp2
          go_ret2
          exact⟨eW,pB⟩
         ·obtain rfl:=bN C7;rw[if_neg nF] at H
          obtain⟨rfl,rfl⟩:=q2 H;obtain⟨D4,D5,D6,D7,D8,D9⟩:=bk3 l8;go_wp2
          go_ret2
          exact⟨eW,pB⟩
   ·rw[if_neg c8] at H;have j8:(j6 == 0)=false:=beq_eq_false_iff_ne.mpr c8;have j9:(j6 != 0)=true:=bne_iff_ne.mpr c8;obtain⟨rfl,rfl⟩:=q2 H;go_enter Try.func43,Try.ntmps43
    go_wp2_with (first|((with_reducible refine gd 2 rfl ?_);refine bx #[.bool a6,.slice a7 b4.length a8,.slice b5 b7.length b6] 38 ?_;intro l6 hg E0 l8 hb;have l9:=gA w hg;have m0:=gA w hg;replace HB:=bB hb;clear hb hg;obtain⟨E1,E2,E3,E4,E5,E6⟩:=bk3 l8)|((with_reducible refine gc 44 rfl ?_);refine gC 44 (some 11) Try.func44 #[.agg #[.bool a6,.slice a7 b4.length a8,.slice b5 b7.length b6]] ?_;(with_reducible refine(Dzq.calls k a6 _ _ b4 _ _ b7 true _ ?_ ?_ ?_ ?_ f9.out).mono ?_);exact cB e6;exact e7.out;exact cB e8;exact e9.out;rintro e E7 ⟨rfl,hb⟩;refine⟨_,rfl,?_⟩;replace l8:=kb l8 hb;replace HB:=bB hb;clear hb;obtain⟨E8,E9,F0,F1,F2,F3⟩:=bk3 l8)|((with_reducible refine gc 63 rfl ?_);refine gC 63 (some 18) Try.func63 #[.slice a7 b4.length a8,.slice b5 b7.length b6] ?_;(with_reducible refine(Bzp.calls k _ _ b4 _ _ b7 g4 g5 g6 _ ?_ ?_ ?_ ?_ g7.out).mono ?_);exact cB e6;exact e7.out;exact cB e8;exact e9.out;rintro e F4 ⟨o8,o9,rfl,p0,p4,hb⟩;refine⟨_,rfl,?_⟩;have p5:=rL p0;have p9:=rL p4;replace l8:=kb l8 hb;replace HB:=bB hb;clear hb p0 p4;obtain⟨F5,F6,rfl⟩:=Kd.R_slice p5.out)|((with_reducible refine gc 64 rfl ?_);refine gC 64 (some 27) Try.func64 #[.slice F5 g4.length F6] ?_;(with_reducible refine(Ezm.calls k _ _ g4 j5 j6 _ ?_ ?_ j7.out).mono ?_);exact cR p5;exact lR p5;rintro e w' ⟨rfl,⟨nd,rfl⟩⟩;refine⟨_,rfl,?_⟩))
    go_ret2
    exact⟨eW,pB⟩
  ·rw[if_neg c6] at H;have g8:(g6 == 0)=false:=beq_eq_false_iff_ne.mpr c6;have g9:(g6 != 0)=true:=bne_iff_ne.mpr c6;obtain⟨rfl,rfl⟩:=q2 H;go_enter Try.func43,Try.ntmps43
   go_wp2_with (first|((with_reducible refine gd 2 rfl ?_);refine bx #[.bool a6,.slice a7 b4.length a8,.slice b5 b7.length b6] 38 ?_;intro l6 hg F7 l8 hb;have l9:=gA w hg;have m0:=gA w hg;replace HB:=bB hb;clear hb hg;obtain⟨F8,F9,G0,G4,G5,G6⟩:=bk3 l8)|((with_reducible refine gc 44 rfl ?_);refine gC 44 (some 11) Try.func44 #[.agg #[.bool a6,.slice a7 b4.length a8,.slice b5 b7.length b6]] ?_;(with_reducible refine(Dzq.calls k a6 _ _ b4 _ _ b7 true _ ?_ ?_ ?_ ?_ f9.out).mono ?_);exact cB e6;exact e7.out;exact cB e8;exact e9.out;rintro e G7 ⟨rfl,hb⟩;refine⟨_,rfl,?_⟩;replace l8:=kb l8 hb;replace HB:=bB hb;clear hb;obtain⟨G8,G9,H5,H6,H7,H8⟩:=bk3 l8)|((with_reducible refine gc 63 rfl ?_);refine gC 63 (some 18) Try.func63 #[.slice a7 b4.length a8,.slice b5 b7.length b6] ?_;(with_reducible refine(Bzp.calls k _ _ b4 _ _ b7 g4 g5 g6 _ ?_ ?_ ?_ ?_ g7.out).mono ?_);exact cB e6;exact e7.out;exact cB e8;exact e9.out;rintro e H9 ⟨o8,o9,rfl,p0,p4,hb⟩;refine⟨_,rfl,?_⟩;have p5:=rL p0;have p9:=rL p4;replace l8:=kb l8 hb;replace HB:=bB hb;clear hb p0 p4))
   go_ret2
   exact⟨eW,pB⟩
 ·obtain rfl:=bN c4;rw[if_neg nF] at H
  obtain⟨rfl,rfl⟩:=q2 H;go_enter Try.func43,Try.ntmps43
  go_wp2_with (first|((with_reducible refine gd 2 rfl ?_);refine bx #[.bool a6,.slice a7 b4.length a8,.slice b5 b7.length b6] 38 ?_;intro l6 hg I0 l8 hb;have l9:=gA w hg;have m0:=gA w hg;replace HB:=bB hb;clear hb hg;obtain⟨I1,I2,I3,I4,I5,I6⟩:=bk3 l8)|((with_reducible refine gc 44 rfl ?_);refine gC 44 (some 11) Try.func44 #[.agg #[.bool a6,.slice a7 b4.length a8,.slice b5 b7.length b6]] ?_;(with_reducible refine(Dzq.calls k a6 _ _ b4 _ _ b7 false _ ?_ ?_ ?_ ?_ f9.out).mono ?_);exact cB e6;exact e7.out;exact cB e8;exact e9.out;rintro e I7 ⟨rfl,hb⟩;refine⟨_,rfl,?_⟩;replace l8:=kb l8 hb;replace HB:=bB hb;clear hb))
  go_ret2
  exact⟨eW,pB⟩

def Ezz.f (k:Nat) (a0_0:Bool) (l0_1:List Int) (l0_2:List Int):Option (Int × Int):=(Czv.f k a0_0 l0_1 l0_2 a0_0).bind fun bt741=>(some (bt741.1,bt741.2))
theorem Ezz.mono:∀ a6 a7 a8 k,LeO (Ezz.f k a6 a7 a8) (Ezz.f (k+1) a6 a7 a8):=by
 intro a6 a7 a8 k;unfold Ezz.f;have i0:=@Czv.mono;exact mM
theorem Ezz.calls (k:Nat) (a6:Bool) (a7:Option Addr) (a8:Nat) (b4:List Int) (b5:Option Addr) (b6:Nat) (b7:List Int) (b8:Int) (b9:Int) (w:World) (d0:Kd.C (Kd.int .i64) w a7 b4.length b4) (d6:b4.length≤a8) (d7:Kd.C (Kd.int .i64) w b5 b7.length b7) (d8:b7.length≤b6) (h:Ezz.f k a6 b4 b7=some (b8,b9)) :
  Calls Try.prog 24 #[.agg #[.bool a6,.slice a7 b4.length a8,.slice b5 b7.length b6]] w fun e w'=>e=.returned (.tuple #[.int .i64 b8,.int .i64 b9])∧Below w.heap.size w w':=by
 have hu38:=Try.underlying38;have d9:=aM d0;have e6:=aM d6;clear d0 d6;have e7:=aM d7;have e8:=aM d8;clear d7 d8;have HB:=aM (Below.refl w.heap.size w);have H:((Czv.f k a6 b4 b7 a6).bind fun e9=>(some (e9.1,e9.2)))=some (b8,b9):=h
 clear h;replace H:=bS H;obtain⟨⟨f3,f4⟩,f6,H⟩:=H;replace H:(some (f3,f4))=some (b8,b9):=H;have f9:=aM f6;clear f6;obtain⟨rfl,rfl⟩:=q2 H;go_enter Try.func24,Try.ntmps24
 go_wp2_with (first|((with_reducible refine gd 1 rfl ?_);refine bx #[.bool a6,.slice a7 b4.length a8,.slice b5 b7.length b6] 38 ?_;intro g4 hg g5 g6 hb;have g7:=gA w hg;have g8:=gA w hg;replace HB:=bB hb;clear hb hg;obtain⟨g9,j5,j6,j7,j8,j9⟩:=bk3 g6)|((with_reducible refine gc 43 rfl ?_);refine gC 43 (some 7) Try.func43 #[.agg #[.bool a6,.slice a7 b4.length a8,.slice b5 b7.length b6],.bool a6] ?_;(with_reducible refine(Czv.calls k a6 _ _ b4 _ _ b7 a6 f3 f4 _ ?_ ?_ ?_ ?_ f9.out).mono ?_);exact cB d9;exact e6.out;exact cB e7;exact e8.out;rintro e l5 ⟨rfl,hb⟩;refine⟨_,rfl,?_⟩;replace g6:=kb g6 hb;replace HB:=bB hb;clear hb))
 go_ret2
 exact⟨eW,pB⟩


def Ezx.f (k:Nat) (a0_0:Bool) (l0_1:List Int) (l0_2:List Int):Option (Int × Int):=(Czv.f k a0_0 l0_1 l0_2 (!a0_0)).bind fun bt744=>(some (bt744.1,bt744.2))
theorem Ezx.mono:∀ a6 a7 a8 k,LeO (Ezx.f k a6 a7 a8) (Ezx.f (k+1) a6 a7 a8):=by
 intro a6 a7 a8 k;unfold Ezx.f;have i0:=@Czv.mono;exact mM
theorem Ezx.calls (k:Nat) (a6:Bool) (a7:Option Addr) (a8:Nat) (b4:List Int) (b5:Option Addr) (b6:Nat) (b7:List Int) (b8:Int) (b9:Int) (w:World) (d0:Kd.C (Kd.int .i64) w a7 b4.length b4) (d6:b4.length≤a8) (d7:Kd.C (Kd.int .i64) w b5 b7.length b7) (d8:b7.length≤b6) (h:Ezx.f k a6 b4 b7=some (b8,b9)) :
  Calls Try.prog 25 #[.agg #[.bool a6,.slice a7 b4.length a8,.slice b5 b7.length b6]] w fun e w'=>e=.returned (.tuple #[.int .i64 b8,.int .i64 b9])∧Below w.heap.size w w':=by
 have hu38:=Try.underlying38;have d9:=aM d0;have e6:=aM d6;clear d0 d6;have e7:=aM d7;have e8:=aM d8;clear d7 d8;have HB:=aM (Below.refl w.heap.size w);have H:((Czv.f k a6 b4 b7 (!a6)).bind fun e9=>(some (e9.1,e9.2)))=some (b8,b9):=h
 clear h;replace H:=bS H;obtain⟨⟨f3,f4⟩,f6,H⟩:=H;replace H:(some (f3,f4))=some (b8,b9):=H;have f9:=aM f6;clear f6;obtain⟨rfl,rfl⟩:=q2 H;go_enter Try.func25,Try.ntmps25
 go_wp2_with (first|((with_reducible refine gd 1 rfl ?_);refine bx #[.bool a6,.slice a7 b4.length a8,.slice b5 b7.length b6] 38 ?_;intro g4 hg g5 g6 hb;have g7:=gA w hg;have g8:=gA w hg;replace HB:=bB hb;clear hb hg;obtain⟨g9,j5,j6,j7,j8,j9⟩:=bk3 g6)|((with_reducible refine gc 43 rfl ?_);refine gC 43 (some 8) Try.func43 #[.agg #[.bool a6,.slice a7 b4.length a8,.slice b5 b7.length b6],.bool (!a6)] ?_;(with_reducible refine(Czv.calls k a6 _ _ b4 _ _ b7 (!a6) f3 f4 _ ?_ ?_ ?_ ?_ f9.out).mono ?_);exact cB d9;exact e6.out;exact cB e7;exact e8.out;rintro e l5 ⟨rfl,hb⟩;refine⟨_,rfl,?_⟩;replace g6:=kb g6 hb;replace HB:=bB hb;clear hb))
 go_ret2
 exact⟨eW,pB⟩

def Ezp.f (k:Nat) (a0_0:Bool) (l0_1:List Int) (l0_2:List Int):Option (Bool × List Int × List Int × Int):=(Dzq.f k a0_0 l0_1 l0_2).bind fun t748=>(if t748=true then((Dzx.f a0_0 l0_1 l0_2).bind fun bt749=>(some (bt749.1,bt749.2.1,bt749.2.2,0))) else(some (false,([]:List Int),([]:List Int),3)))
theorem Ezp.mono:∀ a6 a7 a8 k,LeO (Ezp.f k a6 a7 a8) (Ezp.f (k+1) a6 a7 a8):=by
 intro a6 a7 a8 k;unfold Ezp.f;have i0:=@Dzq.mono;exact mM
theorem Ezp.calls (k:Nat) (a6:Bool) (a7:Option Addr) (a8:Nat) (b4:List Int) (b5:Option Addr) (b6:Nat) (b7:List Int) (b8:Bool) (b9:List Int) (d0:List Int) (d6:Int) (w:World) (d7:Kd.C (Kd.int .i64) w a7 b4.length b4) (d8:b4.length≤a8) (d9:Kd.C (Kd.int .i64) w b5 b7.length b7) (e6:b7.length≤b6) (h:Ezp.f k a6 b4 b7=some (b8,b9,d0,d6)) :
  Calls Try.prog 26 #[.agg #[.bool a6,.slice a7 b4.length a8,.slice b5 b7.length b6]] w fun e w'=>∃ v1_ v2_:Value,e=.returned (.tuple #[.agg #[.bool b8,v1_,v2_],.int .i64 d6])∧Kd.R (Kd.int .i64) 3 w' w.heap.size (fun k_=>some k_≠(v2_:Value).ownBlock) v1_ b9∧Kd.R (Kd.int .i64) 3 w' w.heap.size (fun k_=>some k_≠(v1_:Value).ownBlock) v2_ d0∧Below w.heap.size w w':=by
 have hu38:=Try.underlying38;have e7:=aM d7;have e8:=aM d8;clear d7 d8;have e9:=aM d9;have f3:=aM e6;clear d9 e6;have HB:=aM (Below.refl w.heap.size w);have H:((Dzq.f k a6 b4 b7).bind fun f4=>(if f4=true then((Dzx.f a6 b4 b7).bind fun f6=>(some (f6.1,f6.2.1,f6.2.2,0))) else(some (false,([]:List Int),([]:List Int),3))))=some (b8,b9,d0,d6):=h
 clear h;obtain⟨f4,f9,H⟩:=bT H;(try dsimp only at H);by_cases c3:f4=true
 ·subst c3;rw[if_pos rfl] at H;replace H:=bS H;obtain⟨⟨g4,g5,g6⟩,g7,H⟩:=H;replace H:(some (g4,g5,g6,0))=some (b8,b9,d0,d6):=H;have g8:=aM g7;clear g7;obtain⟨rfl,rfl,rfl,rfl⟩:=q4 H;go_enter Try.func26,Try.ntmps26
  go_wp2_with (first|((with_reducible refine gd 1 rfl ?_);refine bx #[.bool a6,.slice a7 b4.length a8,.slice b5 b7.length b6] 38 ?_;intro g9 hg j5 j6 hb;have j7:=gA w hg;have j8:=gA w hg;replace HB:=bB hb;clear hb hg)|((with_reducible refine gd 2 rfl ?_);refine bx #[.bool false,.slice none 0 0,.slice none 0 0] 38 ?_;intro j9 hg l5 l6 hb;have l7:=gA w hg;have l8:=gA w hg;have l9:=nl hg j6;have m0:=ng hg j6;replace j6:=kb j6 hb;replace HB:=bB hb;clear hb hg;have m2:=l9.out;have m3:=m0.out;obtain⟨m4,m5,m6,m7,m8,m9⟩:=bk3 j6)|((with_reducible refine gc 44 rfl ?_);refine gC 44 (some 5) Try.func44 #[.agg #[.bool a6,.slice a7 b4.length a8,.slice b5 b7.length b6]] ?_;(with_reducible refine(Dzq.calls k a6 _ _ b4 _ _ b7 true _ ?_ ?_ ?_ ?_ f9.out).mono ?_);exact cB e7;exact e8.out;exact cB e9;exact f3.out;rintro e n0 ⟨rfl,hb⟩;refine⟨_,rfl,?_⟩;replace j6:=kb j6 hb;replace l6:=kb l6 hb;replace HB:=bB hb;clear hb;obtain⟨n6,n7,n8,n9,o0,o8⟩:=bk3 j6)|((with_reducible refine gc 45 rfl ?_);refine gC 45 (some 9) Try.func45 #[.agg #[.bool a6,.slice a7 b4.length a8,.slice b5 b7.length b6]] ?_;(with_reducible refine(Dzx.calls a6 _ _ b4 _ _ b7 g4 g5 g6 _ ?_ ?_ ?_ ?_ g8.out).mono ?_);exact cB e7;exact e8.out;exact cB e9;exact f3.out;rintro e o9 ⟨p0,p4,rfl,p5,p9,hb⟩;refine⟨_,rfl,?_⟩;have r5:=rL p5;have r6:=rL p9;replace j6:=kb j6 hb;replace l6:=kb l6 hb;replace HB:=bB hb;clear hb p5 p9;obtain⟨r7,r8,r9,t6,t7,t8⟩:=bk3 l6;obtain⟨z1,z2,rfl⟩:=Kd.R_slice r5.out;obtain⟨z6,z7,rfl⟩:=Kd.R_slice r6.out))
  refine bodyPost_ret (results_ct rfl _ _ j9 38 #[.bool g4,.slice z1 g5.length z2,.slice z6 g6.length z7] (0,0) _ rfl (kQ l6) Try.underlying38 rfl (by kernel_rfl)) rfl ?_
  exact⟨_,_,eW,by exact Kd.R_mono (rT r5 l6) (fun _ hk=>hk),by exact Kd.R_mono (rT r6 l6) (fun _ hk=>hk),pB⟩
 ·obtain rfl:=bN c3;rw[if_neg nF] at H
  obtain⟨rfl,rfl,rfl,rfl⟩:=q4 H;go_enter Try.func26,Try.ntmps26
  go_wp2_with (first|((with_reducible refine gd 1 rfl ?_);refine bx #[.bool a6,.slice a7 b4.length a8,.slice b5 b7.length b6] 38 ?_;intro g9 hg z8 j6 hb;have j7:=gA w hg;have j8:=gA w hg;replace HB:=bB hb;clear hb hg)|((with_reducible refine gd 2 rfl ?_);refine bx #[.bool false,.slice none 0 0,.slice none 0 0] 38 ?_;intro j9 hg B0 l6 hb;have l7:=gA w hg;have l8:=gA w hg;have l9:=nl hg j6;have m0:=ng hg j6;replace j6:=kb j6 hb;replace HB:=bB hb;clear hb hg;have B5:=l9.out;have B6:=m0.out;obtain⟨B8,B9,C0,C1,C2,C3⟩:=bk3 j6)|((with_reducible refine gc 44 rfl ?_);refine gC 44 (some 5) Try.func44 #[.agg #[.bool a6,.slice a7 b4.length a8,.slice b5 b7.length b6]] ?_;(with_reducible refine(Dzq.calls k a6 _ _ b4 _ _ b7 false _ ?_ ?_ ?_ ?_ f9.out).mono ?_);exact cB e7;exact e8.out;exact cB e9;exact f3.out;rintro e C4 ⟨rfl,hb⟩;refine⟨_,rfl,?_⟩;replace j6:=kb j6 hb;replace l6:=kb l6 hb;replace HB:=bB hb;clear hb;obtain⟨C6,C7,C8,C9,D0,D1⟩:=bk3 l6))
  refine bodyPost_ret (results_ct rfl _ _ j9 38 #[.bool false,.slice none 0 0,.slice none 0 0] (0,0) _ rfl (kQ l6) Try.underlying38 rfl (by kernel_rfl)) rfl ?_
  exact⟨_,_,eW,nK,nK,pB⟩

end Go.Proofs.Ytokkiljkgejnhaa.Print
