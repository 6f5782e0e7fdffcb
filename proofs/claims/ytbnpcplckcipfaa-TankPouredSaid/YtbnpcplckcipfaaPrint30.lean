import Derived.Test.YtbnpcplckcipfaaPrint0
import Derived.Test.YtbnpcplckcipfaaPrint10
import Derived.Test.YtbnpcplckcipfaaPrint25
import Derived.Test.YtbnpcplckcipfaaPrint27
import Derived.Test.YtbnpcplckcipfaaPrint12
import Derived.Test.YtbnpcplckcipfaaPrint17
namespace Go.Proofs.Ytbnpcplckcipfaa.Print
open Go.RowKit Go.Proofs.YtbnpcplckcipfaaW.PrintWords Go.Proofs.YtbnpcplckcipfaaW.PrintLast Go.Proofs.YtbnpcplckcipfaaW.PrintMore
attribute [local go_sem] dF dG eB eD dm dn dH dI
set_option linter.unusedVariables false
set_option maxRecDepth 100000
set_option maxHeartbeats 8000000
set_option linter.unusedSimpArgs false

def Fzk.f (k:Nat) (a0_0:Int) (l0_1:List (S33)):Option (Bool × List Int × List Int × Int):=(Azb.f k a0_0 l0_1).bind fun t432=>(if t432=0 then((Ezx.f k l0_1).bind fun bt433=>(some (bt433.1,bt433.2.1,bt433.2.2.1,bt433.2.2.2))) else(some (false,([]:List Int),([]:List Int),t432)))
theorem Fzk.mono:∀ a6 a7 k,LeO (Fzk.f k a6 a7) (Fzk.f (k+1) a6 a7):=by
 intro a6 a7 k;unfold Fzk.f;have i0:=@Ezx.mono;have i1:=@Azb.mono;exact mM
theorem Fzk.calls (k:Nat) (a6:Int) (a7:Option Addr) (a8:Nat) (a9:List (S33)) (b4:Bool) (b5:List Int) (b6:List Int) (b7:Int) (w:World) (b8:Kd.C k33 w a7 a9.length a9) (b9:a9.length≤a8) (h:Fzk.f k a6 a9=some (b4,b5,b6,b7)) :
  Calls Try.prog 14 #[.agg #[.int .i64 a6,.slice a7 a9.length a8]] w fun e w'=>∃ v1_ v2_:Value,e=.returned (.tuple #[.agg #[.bool b4,v1_,v2_],.int .i64 b7])∧rI w' w (oV v2_) v1_ b5∧rI w' w (oV v1_) v2_ b6∧bw w w':=by
 have hu24:=Try.underlying24;have hu33:=Try.underlying33;have d6:=aM b8;have d7:=aM b9;clear b8 b9;have HB:=aM (Below.refl w.heap.size w);have H:((Azb.f k a6 a9).bind fun d8=>(if d8=0 then((Ezx.f k a9).bind fun d9=>(some (d9.1,d9.2.1,d9.2.2.1,d9.2.2.2))) else(some (false,([]:List Int),([]:List Int),d8))))=some (b4,b5,b6,b7):=h
 clear h;obtain⟨d8,e6,H⟩:=bT H;(try dsimp only at H);have e7:=aM H;clear H;go_enter Try.func14,Try.ntmps14
 go_upto_if 8 with (first|((with_reducible refine gd 1 rfl ?_);refine bx #[.int .i64 a6,.slice a7 a9.length a8] 24 ?_;intro f6 hg f7 f8 hb;have g5:=gA w hg;replace HB:=bB hb;clear hb hg)|((with_reducible refine gd 2 rfl ?_);refine bz 33 ?_;intro g9 hg j3 j4 hb;have j5:=gA w hg;have j7:=nl hg f8;have j8:=ng hg f8;replace f8:=kb f8 hb;replace HB:=bB hb;clear hb hg;have j9:=j7.out;have l5:=j8.out;obtain⟨l6,l7,l8,l9⟩:=bk2 f8)|((with_reducible refine gc 17 rfl ?_);refine gC 17 (some 6) Try.func17 #[.agg #[.int .i64 a6,.slice a7 a9.length a8]] ?_;(with_reducible refine(Azb.calls k a6 _ _ a9 d8 _ ?_ ?_ e6.out).mono ?_);exact cB d6;exact d7.out;rintro e m0 ⟨rfl,hb⟩;refine⟨_,rfl,?_⟩;replace f8:=kb f8 hb;replace j4:=kb j4 hb;replace HB:=bB hb;clear hb))
 have H:=e7.out;clear e7;replace H:=iE H;rcases H with⟨m4,m5,H⟩|⟨c9,m4,m5,H⟩
 ·(first|rw[m4]|(simp only[aH,bg];rw[m4])|skip)
  replace H:=bS H;obtain⟨⟨m6,m7,m8,m9⟩,n0,H⟩:=H;replace H:(some (m6,m7,m8,m9))=some (b4,b5,b6,b7):=H;have n7:=aM n0;clear n0;obtain⟨rfl,rfl,rfl,rfl⟩:=q4 H;have n8:=j7.out;have n9:=j8.out;obtain⟨o0,o8,o9,p9⟩:=bk2 f8;go_wp2_with (first|((with_reducible refine gc 36 rfl ?_);refine gC 36 (some 13) Try.func36 #[.slice a7 a9.length a8] ?_;(with_reducible refine(Ezx.calls k _ _ a9 m6 m7 m8 m9 _ ?_ ?_ n7.out).mono ?_);exact cB d6;exact d7.out;rintro e r6 ⟨r7,r8,rfl,r9,t4,hb⟩;refine⟨_,rfl,?_⟩;have t5:=rL r9;have t6:=rL t4;replace f8:=kb f8 hb;replace j4:=kb j4 hb;replace HB:=bB hb;clear hb r9 t4;obtain⟨t7,t8,t9,z3,z4,z5⟩:=bk3 j4;obtain⟨z6,z7,rfl⟩:=Kd.aj t5.out;obtain⟨z8,z9,rfl⟩:=Kd.aj t6.out))
  refine rC g9 33 #[.bool m6,.slice z6 m7.length z7,.slice z8 m8.length z9] (kQ j4) Try.underlying33 ?_
  exact⟨_,_,eW,by exact Kd.ah (rT t5 j4) (fun _ hk=>hk),by exact Kd.ah (rT t6 j4) (fun _ hk=>hk),pB⟩
 ·(first|rw[m4]|(simp only[aH,bg];rw[m4])|skip)
  obtain⟨rfl,rfl,rfl,rfl⟩:=q4 H;have B0:=j8.out;have B5:=j7.out;obtain⟨B9,C0,C1,C2,C3,C4⟩:=bk3 j4;go_wp2
  refine rC g9 33 #[.bool false,.slice none 0 0,.slice none 0 0] (kQ j4) Try.underlying33 ?_
  exact⟨_,_,eW,nK,nK,pB⟩

def Gzf.f (k:Nat) (l0:List Int):Option (Int × Int):=(Azv.f k l0).bind fun t441=>(if t441=true then(if(l0.length:Int) > 2 then(some (0,2)) else((Dzv.f k l0).bind fun t442=>(if t442 > 1125899906842624 then(some (0,2)) else((Dzv.f k l0).bind fun t443=>(some (t443,0)))))) else(some (0,3)))
theorem Gzf.mono:∀ a6 k,LeO (Gzf.f k a6) (Gzf.f (k+1) a6):=by
 intro a6 k;unfold Gzf.f;have i0:=@Azv.mono;have i1:=@Dzv.mono;exact mM
theorem Gzf.calls (k:Nat) (a6:Option Addr) (a7:Nat) (l0:List Int) (a8:Int) (a9:Int) (w:World) (b4:cI w a6 l0) (b5:l0.length≤a7) (h:Gzf.f k l0=some (a8,a9)) :
  Calls Try.prog 103 #[.slice a6 l0.length a7] w fun e w'=>e=.returned (.tuple #[.int .i64 a8,.int .i64 a9])∧dC w w':=by
 have b6:=aM b4;have b7:=aM b5;clear b4 b5;have H:((Azv.f k l0).bind fun b8=>(if b8=true then(if(l0.length:Int) > 2 then(some (0,2)) else((Dzv.f k l0).bind fun b9=>(if b9 > 1125899906842624 then(some (0,2)) else((Dzv.f k l0).bind fun d6=>(some (d6,0)))))) else(some (0,3))))=some (a8,a9):=h
 clear h;obtain⟨b8,d7,H⟩:=bT H;(try dsimp only at H);have d8:=aM H;clear H;go_enter Try.func103,Try.ntmps103
 go_upto_if 6 with (first|((with_reducible refine gc 65 rfl ?_);refine gC 65 (some 5) Try.func65 #[.slice a6 l0.length a7] ?_;(with_reducible refine(Azv.calls k _ _ l0 b8 _ ?_ ?_ d7.out).mono ?_);exact cX b6.out;exact b7.out;rintro e w' ⟨rfl,⟨nd,rfl⟩⟩;refine⟨_,rfl,?_⟩))
 have H:=d8.out;clear d8;by_cases c4:b8=true
 ·subst c4;rw[if_pos rfl] at H;by_cases c5:(l0.length:Int) > 2
  ·rw[if_pos c5] at H;have d9:decide (2 < (l0.length:Int))=true:=dE c5;have e6:decide (2 < l0.length)=true:=dE (by omega)
   clear c5;(first|rw[d9]|(simp only[aH,bg];rw[d9])|skip)
   obtain⟨rfl,rfl⟩:=q2 H;go_wp2
   go_ret2
   exact⟨sD,dR⟩
  ·rw[if_neg c5] at H;have d9:decide (2 < (l0.length:Int))=false:=decide_eq_false c5;have e6:decide (2 < l0.length)=false:=decide_eq_false (by omega)
   clear c5;(first|rw[d9]|(simp only[aH,bg];rw[d9])|skip)
   obtain⟨b9,e7,H⟩:=bT H;(try dsimp only at H);have f6:=aM H;clear H;go_upto_if 14 with (first|(go_at_call 94;(with_reducible refine(Dzv.calls k _ _ l0 b9 _ ?_ ?_ e7.out).mono ?_);exact cX b6.out;exact b7.out;rintro e w' ⟨rfl,⟨nd,rfl⟩⟩))
   have H:=f6.out;clear f6;by_cases c8:b9 > 1125899906842624
   ·rw[if_pos c8] at H;have f7:decide (1125899906842624 < b9)=true:=dE c8;clear c8;(first|rw[f7]|(simp only[aH,bg];rw[f7])|skip)
    obtain⟨rfl,rfl⟩:=q2 H;go_wp2
    go_ret2
    exact⟨sD,dR⟩
   ·rw[if_neg c8] at H;have f7:decide (1125899906842624 < b9)=false:=decide_eq_false c8;clear c8;(first|rw[f7]|(simp only[aH,bg];rw[f7])|skip)
    replace H:=bS H;obtain⟨d6,f8,H⟩:=H;replace H:(some (d6,0))=some (a8,a9):=H;have g5:=aM f8;clear f8;obtain⟨rfl,rfl⟩:=q2 H;go_wp2_with (first|((with_reducible refine gc 94 rfl ?_);refine gC 94 (some 16) Try.func94 #[.slice a6 l0.length a7] ?_;(with_reducible refine(Dzv.calls k _ _ l0 d6 _ ?_ ?_ g5.out).mono ?_);exact cX b6.out;exact b7.out;rintro e w' ⟨rfl,⟨nd,rfl⟩⟩;refine⟨_,rfl,?_⟩))
    go_ret2
    exact⟨sD,dR⟩
 ·obtain rfl:=bN c4;rw[if_neg nF] at H
  obtain⟨rfl,rfl⟩:=q2 H;go_wp2
  go_ret2
  exact⟨sD,dR⟩


mutual
def Dzp.j0:Nat→Int→Bool→Bool→List Int→List Int→Option (Int × Int)
 | 0,_,_,_,_,_=>none
 | k+1,x9,x37,x445000,x445001,x445002=>if x37=true then(Dzp.j1 k (wrap64 (x9+1)) x445000 x445001 x445002) else(Dzp.j1 k x9 x445000 x445001 x445002)
def Dzp.j1:Nat→Int→Bool→List Int→List Int→Option (Int × Int)
 | 0,_,_,_,_=>none
 | k+1,x9,x445000,x445001,x445002=>if x9 > 1125899906842624 then(some (0,2)) else(if x445000=true then(some (wrap64 (-x9),0)) else(some (x9,0)))
end
def Dzp.f (k:Nat) (a0_0:Bool) (l0_1:List Int) (l0_2:List Int) (a1:Bool):Option (Int × Int):=(Ezm.f k a0_0 l0_1 l0_2).bind fun t445=>(if t445=true then((Dzw.f k l0_1 l0_2).bind fun bt446=>(if bt446.2.2=0 then((Gzf.f k bt446.1).bind fun bt453=>(if bt453.2=0 then(if(bt446.2.1.length:Int) > 0 then(Dzp.j0 k bt453.1 a1 a0_0 l0_1 l0_2) else(Dzp.j0 k bt453.1 false a0_0 l0_1 l0_2)) else(some (0,2)))) else(some (0,bt446.2.2)))) else(some (0,3)))
theorem Dzp.mono_l:∀ k,(∀ a6 a7 a8 a9 b4,LeO (Dzp.j0 k a6 a7 a8 a9 b4) (Dzp.j0 (k+1) a6 a7 a8 a9 b4))∧(∀ a6 a7 a8 a9,LeO (Dzp.j1 k a6 a7 a8 a9) (Dzp.j1 (k+1) a6 a7 a8 a9))
 | 0=>⟨fun _ _ _ _ _ r h=>by simp [Dzp.j0] at h,fun _ _ _ _ r h=>by simp [Dzp.j1] at h⟩
 | k+1=>by
  obtain⟨ih0,ih1⟩:=Dzp.mono_l k;have i0:=@Dzw.mono;have i1:=@Gzf.mono;have i2:=@Ezm.mono;refine⟨?_,?_⟩
  ·intro a6 a7 a8 a9 b4;unfold Dzp.j0;exact mM
  ·intro a6 a7 a8 a9;unfold Dzp.j1;exact mM
theorem Dzp.mono:∀ a6 a7 a8 a9 k,LeO (Dzp.f k a6 a7 a8 a9) (Dzp.f (k+1) a6 a7 a8 a9):=by
 intro a6 a7 a8 a9 k;obtain⟨ih0,ih1⟩:=Dzp.mono_l k;unfold Dzp.f;have i0:=@Dzw.mono;have i1:=@Gzf.mono;have i2:=@Ezm.mono;exact mM
theorem Dzp.calls (k:Nat) (a6:Bool) (a7:Option Addr) (a8:Nat) (a9:List Int) (b4:Option Addr) (b5:Nat) (b6:List Int) (b7:Bool) (b8:Int) (b9:Int) (w:World) (d6:cI w a7 a9) (d7:a9.length≤a8) (d8:cI w b4 b6) (d9:b6.length≤b5) (h:Dzp.f k a6 a9 b6 b7=some (b8,b9)) :
  Calls Try.prog 78 #[.agg #[.bool a6,.slice a7 a9.length a8,.slice b4 b6.length b5],.bool b7] w fun e w'=>e=.returned (.tuple #[.int .i64 b8,.int .i64 b9])∧bw w w':=by
 have hu33:=Try.underlying33;have e6:=aM d6;have e7:=aM d7;clear d6 d7;have f6:=aM d8;have f7:=aM d9;clear d8 d9;have HB:=aM (Below.refl w.heap.size w);have H:((Ezm.f k a6 a9 b6).bind fun f8=>(if f8=true then((Dzw.f k a9 b6).bind fun g5=>(if g5.2.2=0 then((Gzf.f k g5.1).bind fun g8=>(if g8.2=0 then(if(g5.2.1.length:Int) > 0 then(Dzp.j0 k g8.1 b7 a6 a9 b6) else(Dzp.j0 k g8.1 false a6 a9 b6)) else(some (0,2)))) else(some (0,g5.2.2)))) else(some (0,3))))=some (b8,b9):=h
 clear h;obtain⟨f8,g9,H⟩:=bT H;(try dsimp only at H);have j3:=aM H;clear H;go_enter Try.func78,Try.ntmps78
 go_upto_if 12 with (first|((with_reducible refine gd 2 rfl ?_);refine bx #[.bool a6,.slice a7 a9.length a8,.slice b4 b6.length b5] 33 ?_;intro j4 hg j5 j6 hb;have j7:=gA w hg;replace HB:=bB hb;clear hb hg;obtain⟨j9,l5,l6,l7,l8,l9⟩:=bk3 j6)|((with_reducible refine gc 37 rfl ?_);refine gC 37 (some 11) Try.func37 #[.agg #[.bool a6,.slice a7 a9.length a8,.slice b4 b6.length b5]] ?_;(with_reducible refine(Ezm.calls k a6 _ _ a9 _ _ b6 f8 _ ?_ ?_ ?_ ?_ g9.out).mono ?_);exact cB e6;exact e7.out;exact cB f6;exact f7.out;rintro e m0 ⟨rfl,hb⟩;refine⟨_,rfl,?_⟩;replace j6:=kb j6 hb;replace HB:=bB hb;clear hb))
 have H:=j3.out;clear j3;by_cases c8:f8=true
 ·subst c8;rw[if_pos rfl] at H;obtain⟨⟨m4,m5,m6⟩,m7,H⟩:=bT H;(try dsimp only at H);replace H:=iE H;rcases H with⟨m8,m9,H⟩|⟨c10,m8,m9,H⟩
  ·(first|rw[m8]|(simp only[aH,bg];rw[m8])|skip)
   obtain⟨⟨n0,n7⟩,n8,H⟩:=bT H;(try dsimp only at H);have n9:=aM H;clear H;obtain⟨o0,o8,o9,p9,r6,r7⟩:=bk3 j6;go_upto_if 31 with (first|((with_reducible refine gc 102 rfl ?_);refine gC 102 (some 18) Try.func102 #[.slice a7 a9.length a8,.slice b4 b6.length b5] ?_;(with_reducible refine(Dzw.calls k _ _ a9 _ _ b6 m4 m5 m6 _ ?_ ?_ ?_ ?_ m7.out).mono ?_);exact cB e6;exact e7.out;exact cB f6;exact f7.out;rintro e r8 ⟨r9,t4,rfl,t5,t6,hb⟩;refine⟨_,rfl,?_⟩;have t7:=rL t5;have t8:=rL t6;replace j6:=kb j6 hb;replace HB:=bB hb;clear hb t5 t6;obtain⟨t9,z3,rfl⟩:=Kd.aj t7.out)|((with_reducible refine gc 103 rfl ?_);refine gC 103 (some 27) Try.func103 #[.slice t9 m4.length z3] ?_;(with_reducible refine(Gzf.calls k _ _ m4 n0 n7 _ ?_ ?_ n8.out).mono ?_);exact cR t7;exact lR t7;rintro e w' ⟨rfl,⟨nd,rfl⟩⟩;refine⟨_,rfl,?_⟩))
   have H:=n9.out;clear n9;replace H:=iE H;rcases H with⟨z5,z6,H⟩|⟨z4,z5,z6,H⟩
   ·(first|rw[z5]|(simp only[aH,bg];rw[z5])|skip)
    have z7:=aM H;clear H;go_upto_region 9 with (fail)
    go_cut [37] (fun z8 wc=>∃ (kq:Nat) (z9:Bool),z8=.bool z9∧ae (Dzp.j0 kq n0 z9 a6 a9 b6=some (b8,b9))∧ae (kq≤k)∧ae (wc.heap[j4]?=some (.cells #[.bool a6,(.slice a7 a9.length a8),(.slice b4 b6.length b5)] 33 (0,0)))∧ae (bw w wc))
    case first =>
     have H:=z7.out;clear z7;by_cases B0:(m5.length:Int) > 0
     ·rw[if_pos B0] at H;have B5:decide (0 < (m5.length:Int))=true:=dE B0;have B9:decide (0 < m5.length)=true:=dE (by omega)
      clear B0;(first|rw[B5]|(simp only[aH,bg];rw[B5])|skip)
      have H':=aM H;clear H;obtain⟨C0,C1,rfl⟩:=Kd.aj t8.out;go_wp2
      go_meet
      case rel=>exact⟨_,(b7),sD,H',⟨by first|omega|exact Nat.le_refl _⟩,⟨by exact kW j6⟩,⟨pB⟩⟩
     ·rw[if_neg B0] at H;have B5:decide (0 < (m5.length:Int))=false:=decide_eq_false B0;have B9:decide (0 < m5.length)=false:=decide_eq_false (by omega)
      clear B0;(first|rw[B5]|(simp only[aH,bg];rw[B5])|skip)
      have H':=aM H;clear H;obtain⟨C2,C3,rfl⟩:=Kd.aj t8.out;go_wp2
      go_meet
      case rel=>exact⟨_,(false),sD,H',⟨by first|omega|exact Nat.le_refl _⟩,⟨by exact kW j6⟩,⟨pB⟩⟩
    case rest =>
     clear z7;try clear C4
     obtain⟨kq,z9,rfl,HA,C6,j6,HB⟩:=hcut;cases kq with
     | zero=>exact absurd HA.out (by simp [Dzp.j0])
     | succ C7 =>
      have H:=HA.out;clear HA;simp only[Dzp.j0] at H;have C8:=aM H;clear H;go_upto_if 37 with (fail)
      go_cut [9] (fun C9 wc=>∃ (kq:Nat) (D4:Int),C9=.int .i64 D4∧ae (Dzp.j1 kq D4 a6 a9 b6=some (b8,b9))∧ae (kq≤C7)∧ae (wc.heap[j4]?=some (.cells #[.bool a6,(.slice a7 a9.length a8),(.slice b4 b6.length b5)] 33 (0,0)))∧ae (bw w wc))
      case first =>
       have H:=C8.out;clear C8;by_cases D5:z9=true
       ·subst D5;rw[if_pos rfl] at H;have H':=aM H;clear H;go_wp2
        go_meet
        case rel=>exact⟨_,(wrap64 (n0+1)),sD,H',⟨by have:=C6.out;first|omega|exact Nat.le_refl _⟩,⟨by exact kW j6⟩,⟨pB⟩⟩
       ·obtain rfl:=bN D5;rw[if_neg nF] at H
        have H':=aM H;clear H;go_wp2
        go_meet
        case rel=>exact⟨_,(n0),sD,H',⟨by have:=C6.out;first|omega|exact Nat.le_refl _⟩,⟨by exact kW j6⟩,⟨pB⟩⟩
      case rest =>
       clear C8;try clear C4
       obtain⟨kq,D4,rfl,HA,D6,j6,HB⟩:=hcut;cases kq with
       | zero=>exact absurd HA.out (by simp [Dzp.j1])
       | succ D7 =>
        have H:=HA.out;clear HA;simp only[Dzp.j1] at H;by_cases D8:D4 > 1125899906842624
        ·rw[if_pos D8] at H;have D9:decide (1125899906842624 < D4)=true:=dE D8;clear D8;obtain⟨rfl,rfl⟩:=q2 H;go_wp2
         go_ret2
         exact⟨eW,pB⟩
        ·rw[if_neg D8] at H;have D9:decide (1125899906842624 < D4)=false:=decide_eq_false D8;clear D8;by_cases E0:a6=true
         ·subst E0;rw[if_pos rfl] at H;obtain⟨rfl,rfl⟩:=q2 H;obtain⟨E1,E2,E3,E4,E5,E6⟩:=bk3 j6;go_wp2
          go_ret2
          exact⟨eW,pB⟩
         ·obtain rfl:=bN E0;rw[if_neg nF] at H
          obtain⟨rfl,rfl⟩:=q2 H;obtain⟨E7,E8,E9,F0,F2,F3⟩:=bk3 j6;go_wp2
          go_ret2
          exact⟨eW,pB⟩
   ·(first|rw[z5]|(simp only[aH,bg];rw[z5])|skip)
    obtain⟨rfl,rfl⟩:=q2 H;go_wp2
    go_ret2
    exact⟨eW,pB⟩
  ·(first|rw[m8]|(simp only[aH,bg];rw[m8])|skip)
   obtain⟨rfl,rfl⟩:=q2 H;obtain⟨F4,F5,F6,F7,F8,F9⟩:=bk3 j6;go_wp2_with (first|((with_reducible refine gc 102 rfl ?_);refine gC 102 (some 18) Try.func102 #[.slice a7 a9.length a8,.slice b4 b6.length b5] ?_;(with_reducible refine(Dzw.calls k _ _ a9 _ _ b6 m4 m5 m6 _ ?_ ?_ ?_ ?_ m7.out).mono ?_);exact cB e6;exact e7.out;exact cB f6;exact f7.out;rintro e G5 ⟨r9,t4,rfl,t5,t6,hb⟩;refine⟨_,rfl,?_⟩;have t7:=rL t5;have t8:=rL t6;replace j6:=kb j6 hb;replace HB:=bB hb;clear hb t5 t6))
   go_ret2
   exact⟨eW,pB⟩
 ·obtain rfl:=bN c8;rw[if_neg nF] at H
  obtain⟨rfl,rfl⟩:=q2 H;go_wp2
  go_ret2
  exact⟨eW,pB⟩

def Hzz.f (k:Nat) (a0_0:Bool) (l0_1:List Int) (l0_2:List Int):Option (Int × Int):=(Dzp.f k a0_0 l0_1 l0_2 a0_0).bind fun bt456=>(some (bt456.1,bt456.2))
theorem Hzz.mono:∀ a6 a7 a8 k,LeO (Hzz.f k a6 a7 a8) (Hzz.f (k+1) a6 a7 a8):=by
 intro a6 a7 a8 k;unfold Hzz.f;have i0:=@Dzp.mono;exact mM
theorem Hzz.calls (k:Nat) (a6:Bool) (a7:Option Addr) (a8:Nat) (a9:List Int) (b4:Option Addr) (b5:Nat) (b6:List Int) (b7:Int) (b8:Int) (w:World) (b9:cI w a7 a9) (d6:a9.length≤a8) (d7:cI w b4 b6) (d8:b6.length≤b5) (h:Hzz.f k a6 a9 b6=some (b7,b8)) :
  Calls Try.prog 47 #[.agg #[.bool a6,.slice a7 a9.length a8,.slice b4 b6.length b5]] w fun e w'=>e=.returned (.tuple #[.int .i64 b7,.int .i64 b8])∧bw w w':=by
 have hu33:=Try.underlying33;have d9:=aM b9;have e6:=aM d6;clear b9 d6;have e7:=aM d7;have f6:=aM d8;clear d7 d8;have HB:=aM (Below.refl w.heap.size w);have H:((Dzp.f k a6 a9 b6 a6).bind fun f7=>(some (f7.1,f7.2)))=some (b7,b8):=h
 clear h;replace H:=bS H;obtain⟨⟨f8,g5⟩,g8,H⟩:=H;replace H:(some (f8,g5))=some (b7,b8):=H;have g9:=aM g8;clear g8;obtain⟨rfl,rfl⟩:=q2 H;go_enter Try.func47,Try.ntmps47
 go_wp2_with (first|((with_reducible refine gd 1 rfl ?_);refine bx #[.bool a6,.slice a7 a9.length a8,.slice b4 b6.length b5] 33 ?_;intro j3 hg j4 j5 hb;have j6:=gA w hg;replace HB:=bB hb;clear hb hg;obtain⟨j8,j9,l5,l6,l7,l8⟩:=bk3 j5)|((with_reducible refine gc 78 rfl ?_);refine gC 78 (some 7) Try.func78 #[.agg #[.bool a6,.slice a7 a9.length a8,.slice b4 b6.length b5],.bool a6] ?_;(with_reducible refine(Dzp.calls k a6 _ _ a9 _ _ b6 a6 f8 g5 _ ?_ ?_ ?_ ?_ g9.out).mono ?_);exact cB d9;exact e6.out;exact cB e7;exact f6.out;rintro e l9 ⟨rfl,hb⟩;refine⟨_,rfl,?_⟩;replace j5:=kb j5 hb;replace HB:=bB hb;clear hb))
 go_ret2
 exact⟨eW,pB⟩


def Hzk.f (a0_0:Bool) (l0_1:List Int) (l0_2:List Int):Option (Bool × List Int × List Int):=if([]:List Int).length+l0_1.length < 17592186044416 then(if([]:List Int).length+l0_2.length < 17592186044416 then(some (a0_0,(([]:List Int) ++ l0_1),(([]:List Int) ++ l0_2))) else(none)) else(none)
theorem Hzk.calls (a6:Bool) (a7:Option Addr) (a8:Nat) (a9:List Int) (b4:Option Addr) (b5:Nat) (b6:List Int) (b7:Bool) (b8:List Int) (b9:List Int) (w:World) (d6:cI w a7 a9) (d7:a9.length≤a8) (d8:cI w b4 b6) (d9:b6.length≤b5) (h:Hzk.f a6 a9 b6=some (b7,b8,b9)) :
  Calls Try.prog 50 #[.agg #[.bool a6,.slice a7 a9.length a8,.slice b4 b6.length b5]] w fun e w'=>∃ v1_ v2_:Value,e=.returned (.agg #[.bool b7,v1_,v2_])∧rI w' w (oV v2_) v1_ b8∧rI w' w (oV v1_) v2_ b9∧bw w w':=by
 have hu33:=Try.underlying33;have e6:=aM d6;have e7:=aM d7;clear d6 d7;have f6:=aM d8;have f7:=aM d9;clear d8 d9;have HB:=aM (Below.refl w.heap.size w);have H:(if([]:List Int).length+a9.length < 17592186044416 then(if([]:List Int).length+b6.length < 17592186044416 then(some (a6,(([]:List Int) ++ a9),(([]:List Int) ++ b6))) else(none)) else(none))=some (b7,b8,b9):=h
 clear h;by_cases c2:([]:List Int).length+a9.length < 17592186044416
 ·rw[if_pos c2] at H;have LMc2:=aM c2;clear c2;obtain⟨f8,g5⟩:∃ y_:List Int,y_=(([]:List Int) ++ a9):=⟨_,rfl⟩;replace H:(if([]:List Int).length+b6.length < 17592186044416 then(some (a6,f8,(([]:List Int) ++ b6))) else(none))=some (b7,b8,b9):=yE g5 H
  have g8:=aM g5;clear g5;obtain⟨c3,H⟩:=iO H;have LMc3:=aM c3;clear c3;obtain⟨g9,j3⟩:∃ y_:List Int,y_=(([]:List Int) ++ b6):=⟨_,rfl⟩;replace H:(some (a6,f8,g9))=some (b7,b8,b9):=yE j3 H
  have j4:=aM j3;clear j3;obtain⟨rfl,rfl,rfl⟩:=q3 H;go_enter Try.func50,Try.ntmps50
  go_wp2_with (first|((with_reducible refine gd 1 rfl ?_);refine bx #[.bool a6,.slice a7 a9.length a8,.slice b4 b6.length b5] 33 ?_;intro j5 hg j6 j7 hb;have j8:=gA w hg;replace HB:=bB hb;clear hb hg)|((with_reducible refine gd 2 rfl ?_);refine bz 33 ?_;intro l5 hg l6 l7 hb;have l8:=gA w hg;have m0:=nl hg j7;have m4:=ng hg j7;replace j7:=kb j7 hb;replace HB:=bB hb;clear hb hg;have m5:=m0.out;have m6:=m4.out;obtain⟨m7,m8,m9,n0,n7,n8⟩:=bk3 j7)|((with_reducible refine dw (b:=.append) (xs:=#[.const (.slice none 0 0),.tmp 4]) rfl ?_);at_builtin;refine Kd.gH (Kd.int .i64) (w0:=w) w.heap.size rfl (.const (.slice none 0 0)) (.tmp 4) 31 3 (.int .i64 0) 8 rfl Try.underlying31 info3 rfl (by decide) (by omega) (.slice none 0 0) ([]:List Int) a9 _ _ _ (fun _=>True) (fun _=>False) rfl rfl ?aO ?aR (fun _ _ h=>h) (fun _ h=>h.elim) ?aF ?aB ?aS ?aL ?_;(case aR=>exact cB e6);(case aB=>exact pB);(case aF=>exact(fun _ _=>trivial));(case aO=>exact((Kd.iX _ _ _ _ (fun _=>True))));(case aS=>exact(ay pB));(case aL=>have:=LMc2.out;omega);intro n9 o0 ho hb hg hat;rw[← g8.out] at ho;have o8:=aM (ho);replace j7:=aM (fC (g:=j5) (o:=.cells #[.bool a6,.slice a7 a9.length a8,.slice b4 b6.length b5] 33 (0,0)) (kW j7) hg (by simp [Value.ownBlock]));replace l7:=aM (fC (g:=l5) (o:=.cells #[.bool false,.slice none 0 0,.slice none 0 0] 33 (0,0)) (kW l7) hg (by simp [Value.ownBlock]));replace HB:=aM (hb);clear ho hb hg hat;obtain⟨o9,p9,rfl⟩:=Kd.aj o8.out;obtain⟨r6,r7,r8,r9,t4,t5⟩:=bk3 j7)|((with_reducible refine dw (b:=.append) (xs:=#[.const (.slice none 0 0),.tmp 8]) rfl ?_);at_builtin;refine Kd.gH (Kd.int .i64) (w0:=w) w.heap.size rfl (.const (.slice none 0 0)) (.tmp 8) 31 3 (.int .i64 0) 8 rfl Try.underlying31 info3 rfl (by decide) (by omega) (.slice none 0 0) ([]:List Int) b6 _ _ _ (fun k_=>oN o9 f8.length p9 k_) (fun _=>False) rfl rfl ?aO ?aR (fun _ _ h=>h) (fun _ h=>h.elim) ?aF ?aB ?aS ?aL ?_;(case aR=>exact Kd.aT f6.out pB);(case aB=>exact pB);(case aF=>exact(fun k_ hk=>Kd.fresh' (Kd.dS (rT o8 j7)) k_ hk));(case aO=>exact((Kd.iX _ _ _ _ (fun k_=>oN o9 f8.length p9 k_))));(case aS=>exact(ay pB));(case aL=>have:=LMc3.out;omega);intro t6 t7 ho hb hg hat;rw[← j4.out] at ho;have t8:=aM (ho);replace l7:=aM (fC (g:=l5) (o:=.cells #[.bool false,.slice none 0 0,.slice none 0 0] 33 (0,0)) (kf l7 m4) hg (by simp [Value.ownBlock]));replace o8:=aM (Kd.iC (Kd.kT (rT o8 j7)) hg hat);replace j7:=aM (fC (g:=j5) (o:=.cells #[.bool a6,.slice o9 f8.length p9,.slice b4 b6.length b5] 33 (0,0)) (kQ j7) hg (by simp [Value.ownBlock]));replace HB:=aM (hb);clear ho hb hg hat;obtain⟨t9,z3,rfl⟩:=Kd.aj t8.out;obtain⟨z4,z5,z6,z7,z8,z9⟩:=bk3 j7;obtain⟨B0,B5,B9,C0,C1,C2⟩:=bk3 l7))
  refine bodyPost_ret (results_cell_row rfl _ _ l5 33 #[.bool a6,.slice o9 f8.length p9,.slice t9 g9.length z3] (0,0) _ rfl (by refine bD ?_;refine au (cs:=#[.bool a6,.slice o9 f8.length p9,.slice none 0 0]) ?_ 2 _ rfl;refine bD ?_;refine au (cs:=#[.bool a6,.slice none 0 0,.slice none 0 0]) ?_ 1 _ rfl;refine bD ?_;refine au (cs:=#[.bool false,.slice none 0 0,.slice none 0 0]) ?_ 0 _ rfl;refine bD ?_;refine av ?_ m4.out _;(with_reducible repeat(first|refine cK ?_ _|refine az ?_|refine aK ?_ _));exact l7.out) Try.underlying33 rfl (by kernel_rfl)) rfl ?_
  exact⟨_,_,eW,by exact rX (Kd.ah (Kd.bF (p:=⟨l5,2,none⟩) (Kd.bF (p:=⟨l5,1,none⟩) (Kd.bF (p:=⟨l5,0,none⟩) (Kd.bF (p:=⟨j5,2,none⟩) (Kd.aA (Kd.aA o8.out j7.out (by decide)) l7.out (by decide)) (fun _ hk=>hk.1.2) (.slice t9 g9.length z3)) (fun _ hk=>hk.2) (.bool a6)) (fun _ hk=>hk.2) (.slice o9 f8.length p9)) (fun _ hk=>hk.2) (.slice t9 g9.length z3)) (fun _ hk=>hk.1.1.2)),by exact rX (Kd.ah (Kd.bF (p:=⟨l5,2,none⟩) (Kd.bF (p:=⟨l5,1,none⟩) (Kd.bF (p:=⟨l5,0,none⟩) (Kd.bF (p:=⟨j5,2,none⟩) (Kd.aA (Kd.aA t8.out j7.out (by decide)) l7.out (by decide)) (fun _ hk=>hk.1.2) (.slice t9 g9.length z3)) (fun _ hk=>hk.2) (.bool a6)) (fun _ hk=>hk.2) (.slice o9 f8.length p9)) (fun _ hk=>hk.2) (.slice t9 g9.length z3)) (fun _ hk=>hk.1.1)),pB⟩
 ·rw[if_neg c2] at H;exact absurd H (by simp)

end Go.Proofs.Ytbnpcplckcipfaa.Print
