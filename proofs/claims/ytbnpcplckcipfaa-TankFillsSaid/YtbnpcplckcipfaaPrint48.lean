import Derived.Test.YtbnpcplckcipfaaPrint0
import Derived.Test.YtbnpcplckcipfaaPrint39
import Derived.Test.YtbnpcplckcipfaaPrint45
import Derived.Test.YtbnpcplckcipfaaPrint47
import Derived.Test.YtbnpcplckcipfaaPrint42
namespace Go.Proofs.Ytbnpcplckcipfaa.Print
open Go.RowKit Go.Proofs.YtbnpcplckcipfaaW.PrintWords Go.Proofs.YtbnpcplckcipfaaW.PrintLast Go.Proofs.YtbnpcplckcipfaaW.PrintMore
attribute [local go_sem] max2_int min2_int max_two min_two max_three min_three max_four min_four
set_option linter.unusedVariables false
set_option maxRecDepth 100000
set_option maxHeartbeats 8000000
set_option linter.unusedSimpArgs false

def Azw.j0:Nat→Bool→Bool→List Int→List Int→Option (Bool)
 | 0,_,_,_,_=>none
 | k+1,x30,x790000,x790001,x790002=>if x30=true then(some false) else((Azp.f k x790001 x790002).bind fun bt792=>(if bt792.2=0 then((Czv.f k bt792.1 (([1]:List Int))).bind fun t799=>(some t799)) else(some false)))
def Azw.f (k:Nat) (a0_0:Bool) (l0_1:List Int) (l0_2:List Int):Option (Bool):=(Azz.f k l0_1).bind fun t790=>(if t790=true then((Azz.f k l0_2).bind fun t791=>(if t791=true then(if(l0_2.length:Int)=0 then(Azw.j0 k true a0_0 l0_1 l0_2) else(if(l0_1.length:Int)=0 then(Azw.j0 k a0_0 a0_0 l0_1 l0_2) else(Azw.j0 k false a0_0 l0_1 l0_2))) else(Azw.j0 k true a0_0 l0_1 l0_2))) else(Azw.j0 k true a0_0 l0_1 l0_2))
theorem Azw.mono_l:∀ k,(∀ a6 a7 a8 a9,LeO (Azw.j0 k a6 a7 a8 a9) (Azw.j0 (k+1) a6 a7 a8 a9))
 | 0=>fun _ _ _ _ r h=>by simp [Azw.j0] at h
 | k+1=>by
  have ih0:=Azw.mono_l k
  ·intro a6 a7 a8 a9;unfold Azw.j0;have i0:=@Azp.mono;have i1:=@Azz.mono;have i2:=@Czv.mono;exact mM
theorem Azw.mono:∀ a6 a7 a8 k,LeO (Azw.f k a6 a7 a8) (Azw.f (k+1) a6 a7 a8):=by
 intro a6 a7 a8 k;have ih0:=Azw.mono_l k;unfold Azw.f;have i0:=@Azp.mono;have i1:=@Azz.mono;have i2:=@Czv.mono;exact mM
theorem Azw.calls (k:Nat) (a6:Bool) (a7:Option Addr) (a8:Nat) (a9:List Int) (b4:Option Addr) (b5:Nat) (b6:List Int) (r:Bool) (w:World) (b7:cI w a7 a9) (b8:a9.length≤a8) (b9:cI w b4 b6) (d6:b6.length≤b5) (h:Azw.f k a6 a9 b6=some r) :
  Calls Try.prog 39 #[.agg #[.bool a6,.slice a7 a9.length a8,.slice b4 b6.length b5]] w fun e w'=>e=.returned (.bool r)∧bw w w':=by
 have hu33:=Try.underlying33;have d7:=aM b7;have d8:=aM b8;clear b7 b8;have d9:=aM b9;have e6:=aM d6;clear b9 d6;have HB:=aM (Below.refl w.heap.size w);have H:((Azz.f k a9).bind fun e7=>(if e7=true then((Azz.f k b6).bind fun e8=>(if e8=true then(if(b6.length:Int)=0 then(Azw.j0 k true a6 a9 b6) else(if(a9.length:Int)=0 then(Azw.j0 k a6 a6 a9 b6) else(Azw.j0 k false a6 a9 b6))) else(Azw.j0 k true a6 a9 b6))) else(Azw.j0 k true a6 a9 b6)))=some r:=h
 clear h;have e9:=aM H;clear H;go_enter Try.func39,Try.ntmps39
 go_upto_region 1 with (first|((with_reducible refine gd 1 rfl ?_);refine bxg #[.bool a6,.slice a7 a9.length a8,.slice b4 b6.length b5] 33 ?_;intro f3 hg f4 f5 hb;have f6:=gA w hg;replace HB:=bB hb;clear hb hg))
 (try simp only[Act.put,sA,sZ,sC])
 go_cut [30] (fun f8 wc=>∃ (kq:Nat) (f9:Bool),f8=.bool f9∧Aside0 (Azw.j0 kq f9 a6 a9 b6=some r)∧Aside0 (kq≤k)∧Aside0 (wc.heap[f3]?=some (.cells #[.bool a6,(.slice a7 a9.length a8),(.slice b4 b6.length b5)] 33 (0,0)))∧Aside0 (bw w wc))
 case first =>
  have H:=e9.out;clear e9;obtain⟨e7,g4,H⟩:=bT H;(try dsimp only at H);by_cases c5:e7=true
  ·subst c5;rw[if_pos rfl] at H;obtain⟨e8,g5,H⟩:=bT H;(try dsimp only at H);by_cases c7:e8=true
   ·subst c7;rw[if_pos rfl] at H;replace H:=iE H;rcases H with⟨g6,g7,H⟩|⟨c8,g6,g7,H⟩
    ·(first|rw[g6]|(simp only[i64_w,i32_w];rw[g6])|skip)
     have H':=aM H;clear H;obtain⟨g8,g9,j3,j4,j5,j6⟩:=bk3 f5;go_wp2_with (first|((with_reducible refine gc 70 rfl ?_);refine gC 70 (some 7) Try.func70 #[.slice a7 a9.length a8] ?_;(with_reducible refine(Azz.calls k _ _ a9 true _ ?_ ?_ g4.out).mono ?_);exact cB d7;exact d8.out;rintro e w' ⟨rfl,⟨nd,rfl⟩⟩;refine⟨_,rfl,?_⟩)|(go_at_call 70;(with_reducible refine(Azz.calls k _ _ b6 true _ ?_ ?_ g5.out).mono ?_);exact cB d9;exact e6.out;rintro e w' ⟨rfl,⟨nd,rfl⟩⟩))
     go_meet
     case rel=>exact⟨_,(true),sD,H',⟨by first|omega|exact Nat.le_refl _⟩,⟨by exact kW f5⟩,⟨pB⟩⟩
    ·have j7:¬ (b6=[]):=fun h_=>c8 (by rw[h_];rfl)
     (first|rw[g6]|(simp only[i64_w,i32_w];rw[g6])|skip)
     replace H:=iE H;rcases H with⟨j8,j9,H⟩|⟨c10,j8,j9,H⟩
     ·have H':=aM H;clear H;obtain⟨l5,l6,l7,l8,l9,m0⟩:=bk3 f5;go_wp2_with (first|((with_reducible refine gc 70 rfl ?_);refine gC 70 (some 7) Try.func70 #[.slice a7 a9.length a8] ?_;(with_reducible refine(Azz.calls k _ _ a9 true _ ?_ ?_ g4.out).mono ?_);exact cB d7;exact d8.out;rintro e w' ⟨rfl,⟨nd,rfl⟩⟩;refine⟨_,rfl,?_⟩)|(go_at_call 70;(with_reducible refine(Azz.calls k _ _ b6 true _ ?_ ?_ g5.out).mono ?_);exact cB d9;exact e6.out;rintro e w' ⟨rfl,⟨nd,rfl⟩⟩))
      go_meet
      case rel=>exact⟨_,(a6),sD,H',⟨by first|omega|exact Nat.le_refl _⟩,⟨by exact kW f5⟩,⟨pB⟩⟩
     ·have m4:¬ (a9=[]):=fun h_=>c10 (by rw[h_];rfl)
      have H':=aM H;clear H;obtain⟨m5,m6,m7,m8,m9,n0⟩:=bk3 f5;go_wp2_with (first|((with_reducible refine gc 70 rfl ?_);refine gC 70 (some 7) Try.func70 #[.slice a7 a9.length a8] ?_;(with_reducible refine(Azz.calls k _ _ a9 true _ ?_ ?_ g4.out).mono ?_);exact cB d7;exact d8.out;rintro e w' ⟨rfl,⟨nd,rfl⟩⟩;refine⟨_,rfl,?_⟩)|(go_at_call 70;(with_reducible refine(Azz.calls k _ _ b6 true _ ?_ ?_ g5.out).mono ?_);exact cB d9;exact e6.out;rintro e w' ⟨rfl,⟨nd,rfl⟩⟩))
      go_meet
      case rel=>exact⟨_,(false),sD,H',⟨by first|omega|exact Nat.le_refl _⟩,⟨by exact kW f5⟩,⟨pB⟩⟩
   ·obtain rfl:=bN c7;rw[if_neg nF] at H
    have H':=aM H;clear H;obtain⟨n7,n8,n9,o0,o8,o9⟩:=bk3 f5;go_wp2_with (first|((with_reducible refine gc 70 rfl ?_);refine gC 70 (some 7) Try.func70 #[.slice a7 a9.length a8] ?_;(with_reducible refine(Azz.calls k _ _ a9 true _ ?_ ?_ g4.out).mono ?_);exact cB d7;exact d8.out;rintro e w' ⟨rfl,⟨nd,rfl⟩⟩;refine⟨_,rfl,?_⟩)|(go_at_call 70;(with_reducible refine(Azz.calls k _ _ b6 false _ ?_ ?_ g5.out).mono ?_);exact cB d9;exact e6.out;rintro e w' ⟨rfl,⟨nd,rfl⟩⟩))
    go_meet
    case rel=>exact⟨_,(true),sD,H',⟨by first|omega|exact Nat.le_refl _⟩,⟨by exact kW f5⟩,⟨pB⟩⟩
  ·obtain rfl:=bN c5;rw[if_neg nF] at H
   have H':=aM H;clear H;obtain⟨p0,p4,p7,p9,r5,r6⟩:=bk3 f5;go_wp2_with (first|((with_reducible refine gc 70 rfl ?_);refine gC 70 (some 7) Try.func70 #[.slice a7 a9.length a8] ?_;(with_reducible refine(Azz.calls k _ _ a9 false _ ?_ ?_ g4.out).mono ?_);exact cB d7;exact d8.out;rintro e w' ⟨rfl,⟨nd,rfl⟩⟩;refine⟨_,rfl,?_⟩))
   go_meet
   case rel=>exact⟨_,(true),sD,H',⟨by first|omega|exact Nat.le_refl _⟩,⟨by exact kW f5⟩,⟨pB⟩⟩
 case rest =>
  clear e9;try clear r7
  obtain⟨kq,f9,rfl,HA,r8,f5,HB⟩:=hcut;cases kq with
  | zero=>exact absurd HA.out (by simp [Azw.j0])
  | succ r9 =>
   have H:=HA.out;clear HA;simp only[Azw.j0] at H;by_cases t4:f9=true
   ·subst t4;rw[if_pos rfl] at H;obtain rfl:=Option.some.inj H;go_wp2
    go_ret
    exact⟨eW,pB⟩
   ·obtain rfl:=bN t4;rw[if_neg nF] at H
    obtain⟨⟨t5,t6⟩,t7,H⟩:=bT H;(try dsimp only at H);replace H:=iE H;rcases H with⟨t9,z3,H⟩|⟨t8,t9,z3,H⟩
    ·obtain⟨z4,z5⟩:∃ y_:List Int,y_=(([1]:List Int)):=⟨_,rfl⟩;replace H:((Czv.f r9 t5 z4).bind fun z6=>(some z6))=some r:=yE z5 H
     have z7:=aM z5;clear z5;replace H:=bS H;obtain⟨z6,z8,H⟩:=H;replace H:(some z6)=some r:=H;have z9:=aM z8;clear z8;obtain rfl:=Option.some.inj H;obtain⟨B0,B5,B9,C0,C1,C2⟩:=bk3 f5;go_wp2_with (first|((with_reducible refine gc 71 rfl ?_);refine gC 71 (some 36) Try.func71 #[.slice a7 a9.length a8,.slice b4 b6.length b5] ?_;(with_reducible refine(Azp.calls r9 _ _ a9 (fun k_=>k_ < w.heap.size) _ _ b6 t5 t6 _ ?_ ?_ ?_ t7.out).mono ?_);exact cB d7;exact d8.out;exact Kd.V_mk e6.out (Kd.F_below (Kd.C_F (Kd.heap_int .i64) d9.out) pB);rintro e C3 ⟨C4,rfl,C6,hb⟩;refine⟨_,rfl,?_⟩;have C7:=rL (Kd.R_mono (ok':=fun k_=>True) C6 (fun _ hk_=>trivial));replace f5:=kb f5 hb;replace HB:=bB hb;clear hb C6)|((with_reducible refine gd 43 rfl ?_);refine iLg 43 [1] ?_;intro C8 C9 D2 hb;replace D2:=rY z7 D2;have D3:=rL (rn D2 C7);replace C7:=rE C7 D2 hb;replace f5:=kb f5 hb;replace HB:=bB hb;clear hb D2;obtain⟨D4,D5,rfl⟩:=Kd.R_slice C7.out;obtain⟨D6,D7,rfl⟩:=Kd.R_slice D3.out)|(go_at_call 72;(with_reducible refine(Czv.calls r9 _ _ t5 _ _ z4 z6 _ ?_ ?_ ?_ ?_ z9.out).mono ?_);exact cR C7;exact lR C7;exact cR D3;exact lR D3;rintro e w' ⟨rfl,⟨nd,rfl⟩⟩))
     go_ret
     exact⟨eW,pB⟩
    ·obtain rfl:=Option.some.inj H;obtain⟨D8,D9,E0,E1,E2,E3⟩:=bk3 f5;go_wp2_with (first|((with_reducible refine gc 71 rfl ?_);refine gC 71 (some 36) Try.func71 #[.slice a7 a9.length a8,.slice b4 b6.length b5] ?_;(with_reducible refine(Azp.calls r9 _ _ a9 (fun k_=>k_ < w.heap.size) _ _ b6 t5 t6 _ ?_ ?_ ?_ t7.out).mono ?_);exact cB d7;exact d8.out;exact Kd.V_mk e6.out (Kd.F_below (Kd.C_F (Kd.heap_int .i64) d9.out) pB);rintro e E4 ⟨C4,rfl,C6,hb⟩;refine⟨_,rfl,?_⟩;have C7:=rL (Kd.R_mono (ok':=fun k_=>True) C6 (fun _ hk_=>trivial));replace f5:=kb f5 hb;replace HB:=bB hb;clear hb C6))
     go_ret
     exact⟨eW,pB⟩

def Bzy.j0:Nat→List Int→List Int→Bool→Option (List Int × Int)
 | 0,_,_,_=>none
 | k+1,x0,x1,x13=>if x13=true then(some (([]:List Int),3)) else((Azj.f k x0 x1).bind fun t802=>((Bzz.f k t802).bind fun bt805=>(some (bt805.1,bt805.2))))
def Bzy.f (k:Nat) (l0:List Int) (l1:List Int):Option (List Int × Int):=(Azz.f k l0).bind fun t800=>(if t800=true then((Azz.f k l1).bind fun t801=>(Bzy.j0 k l0 l1 (!t801))) else(Bzy.j0 k l0 l1 true))
theorem Bzy.mono_l:∀ k,(∀ a6 a7 a8,LeO (Bzy.j0 k a6 a7 a8) (Bzy.j0 (k+1) a6 a7 a8))
 | 0=>fun _ _ _ r h=>by simp [Bzy.j0] at h
 | k+1=>by
  have ih0:=Bzy.mono_l k
  ·intro a6 a7 a8;unfold Bzy.j0;have i0:=@Azz.mono;have i1:=@Bzz.mono;have i2:=@Azj.mono;exact mM
theorem Bzy.mono:∀ a6 a7 k,LeO (Bzy.f k a6 a7) (Bzy.f (k+1) a6 a7):=by
 intro a6 a7 k;have ih0:=Bzy.mono_l k;unfold Bzy.f;have i0:=@Azz.mono;have i1:=@Bzz.mono;have i2:=@Azj.mono;exact mM
theorem Bzy.calls (k:Nat) (a6:Option Addr) (a7:Nat) (l0:List Int) (a8:Option Addr) (a9:Nat) (l1:List Int) (b4:List Int) (b5:Int) (w:World) (b6:cI w a6 l0) (b7:l0.length≤a7) (b8:cI w a8 l1) (b9:l1.length≤a9) (h:Bzy.f k l0 l1=some (b4,b5)) :
  Calls Try.prog 56 #[.slice a6 l0.length a7,.slice a8 l1.length a9] w fun e w'=>∃ v0_:Value,e=.returned (.tuple #[v0_,.int .i64 b5])∧rI w' w (fun _=>True) v0_ b4∧bw w w':=by
 have d6:=aM b6;have d7:=aM b7;clear b6 b7;have d8:=aM b8;have d9:=aM b9;clear b8 b9;have HB:=aM (Below.refl w.heap.size w);have H:((Azz.f k l0).bind fun e6=>(if e6=true then((Azz.f k l1).bind fun e7=>(Bzy.j0 k l0 l1 (!e7))) else(Bzy.j0 k l0 l1 true)))=some (b4,b5):=h
 clear h;have e8:=aM H;clear H;go_enter Try.func56,Try.ntmps56
 go_upto_region 1 with (fail)
 go_cut [13] (fun e9 wc=>∃ (kq:Nat) (f3:Bool),e9=.bool f3∧Aside0 (Bzy.j0 kq l0 l1 f3=some (b4,b5))∧Aside0 (kq≤k)∧Aside0 (bw w wc))
 case first =>
  have H:=e8.out;clear e8;obtain⟨e6,f4,H⟩:=bT H;(try dsimp only at H);by_cases c5:e6=true
  ·subst c5;rw[if_pos rfl] at H;obtain⟨e7,f5,H⟩:=bT H;(try dsimp only at H);have H':=aM H;clear H;go_wp2_with (first|((with_reducible refine gc 70 rfl ?_);refine gC 70 (some 7) Try.func70 #[.slice a6 l0.length a7] ?_;(with_reducible refine(Azz.calls k _ _ l0 true _ ?_ ?_ f4.out).mono ?_);exact cB d6;exact d7.out;rintro e w' ⟨rfl,⟨nd,rfl⟩⟩;refine⟨_,rfl,?_⟩)|(go_at_call 70;(with_reducible refine(Azz.calls k _ _ l1 e7 _ ?_ ?_ f5.out).mono ?_);exact cB d8;exact d9.out;rintro e w' ⟨rfl,⟨nd,rfl⟩⟩))
   go_meet
   case rel=>exact⟨_,(!e7),sD,H',⟨by first|omega|exact Nat.le_refl _⟩,⟨pB⟩⟩
  ·obtain rfl:=bN c5;rw[if_neg nF] at H
   have H':=aM H;clear H;go_wp2_with (first|((with_reducible refine gc 70 rfl ?_);refine gC 70 (some 7) Try.func70 #[.slice a6 l0.length a7] ?_;(with_reducible refine(Azz.calls k _ _ l0 false _ ?_ ?_ f4.out).mono ?_);exact cB d6;exact d7.out;rintro e w' ⟨rfl,⟨nd,rfl⟩⟩;refine⟨_,rfl,?_⟩))
   go_meet
   case rel=>exact⟨_,(true),sD,H',⟨by first|omega|exact Nat.le_refl _⟩,⟨pB⟩⟩
 case rest =>
  clear e8;try clear a9
  obtain⟨kq,f3,rfl,HA,f6,HB⟩:=hcut;cases kq with
  | zero=>exact absurd HA.out (by simp [Bzy.j0])
  | succ f7 =>
   have H:=HA.out;clear HA;simp only[Bzy.j0] at H;by_cases c7:f3=true
   ·subst c7;rw[if_pos rfl] at H;obtain⟨rfl,rfl⟩:=q2 H;go_wp2
    go_ret2
    exact⟨_,eW,nK,pB⟩
   ·obtain rfl:=bN c7;rw[if_neg nF] at H
    obtain⟨f8,f9,H⟩:=bT H;(try dsimp only at H);replace H:=bS H;obtain⟨⟨g4,g5⟩,g6,H⟩:=H;replace H:(some (g4,g5))=some (b4,b5):=H;have g7:=aM g6;clear g6;obtain⟨rfl,rfl⟩:=q2 H;go_wp2_with (first|((with_reducible refine gc 83 rfl ?_);refine gC 83 (some 16) Try.func83 #[.slice a6 l0.length a7,.slice a8 l1.length a9] ?_;(with_reducible refine(Azj.calls f7 _ _ l0 _ _ l1 f8 _ ?_ ?_ ?_ ?_ f9.out).mono ?_);exact cB d6;exact d7.out;exact cB d8;exact d9.out;rintro e g8 ⟨g9,rfl,j3,hb⟩;refine⟨_,rfl,?_⟩;have j4:=rL j3;replace HB:=bB hb;clear hb j3;obtain⟨j5,j6,rfl⟩:=Kd.R_slice j4.out)|((with_reducible refine gc 82 rfl ?_);refine gC 82 (some 17) Try.func82 #[.slice j5 f8.length j6] ?_;(with_reducible refine(Bzz.calls f7 _ _ f8 g4 g5 _ ?_ ?_ g7.out).mono ?_);exact cR j4;exact lR j4;rintro e j7 ⟨j8,rfl,j3,hb⟩;refine⟨_,rfl,?_⟩;have j9:=rL (rn j3 j4);replace j4:=rE j4 j3 hb;replace HB:=bB hb;clear hb j3))
    go_ret2
    exact⟨_,eW,by exact rX (Kd.R_mono j9.out (fun _ hk=>trivial)),pB⟩


def Ezv.f (k:Nat) (l0:List Int) (l1:List Int):Option (Int × Int):=(Azz.f k l0).bind fun t809=>(if t809=true then((Azz.f k l1).bind fun t810=>(if t810=true then((Bzq.f k l0 l1).bind fun t811=>(some (t811,0))) else(some (0,3)))) else(some (0,3)))
theorem Ezv.mono:∀ a6 a7 k,LeO (Ezv.f k a6 a7) (Ezv.f (k+1) a6 a7):=by
 intro a6 a7 k;unfold Ezv.f;have i0:=@Azz.mono;have i1:=@Bzq.mono;exact mM
theorem Ezv.calls (k:Nat) (a6:Option Addr) (a7:Nat) (l0:List Int) (a8:Option Addr) (a9:Nat) (l1:List Int) (b4:Int) (b5:Int) (w:World) (b6:cI w a6 l0) (b7:l0.length≤a7) (b8:cI w a8 l1) (b9:l1.length≤a9) (h:Ezv.f k l0 l1=some (b4,b5)) :
  Calls Try.prog 73 #[.slice a6 l0.length a7,.slice a8 l1.length a9] w fun e w'=>e=.returned (.tuple #[.int .i64 b4,.int .i64 b5])∧Drawn0 w w':=by
 have d6:=aM b6;have d7:=aM b7;clear b6 b7;have d8:=aM b8;have d9:=aM b9;clear b8 b9;have H:((Azz.f k l0).bind fun e6=>(if e6=true then((Azz.f k l1).bind fun e7=>(if e7=true then((Bzq.f k l0 l1).bind fun e8=>(some (e8,0))) else(some (0,3)))) else(some (0,3))))=some (b4,b5):=h
 clear h;obtain⟨e6,e9,H⟩:=bT H;(try dsimp only at H);by_cases c4:e6=true
 ·subst c4;rw[if_pos rfl] at H;obtain⟨e7,f3,H⟩:=bT H;(try dsimp only at H);have f4:=aM H;clear H;go_enter Try.func73,Try.ntmps73
  go_upto_if 13 with (first|((with_reducible refine gc 70 rfl ?_);refine gC 70 (some 7) Try.func70 #[.slice a6 l0.length a7] ?_;(with_reducible refine(Azz.calls k _ _ l0 true _ ?_ ?_ e9.out).mono ?_);exact cX d6.out;exact d7.out;rintro e w' ⟨rfl,⟨nd,rfl⟩⟩;refine⟨_,rfl,?_⟩)|(go_at_call 70;(with_reducible refine(Azz.calls k _ _ l1 e7 _ ?_ ?_ f3.out).mono ?_);exact cX d8.out;exact d9.out;rintro e w' ⟨rfl,⟨nd,rfl⟩⟩))
  have H:=f4.out;clear f4;by_cases c7:e7=true
  ·subst c7;rw[if_pos rfl] at H;replace H:=bS H;obtain⟨e8,f5,H⟩:=H;replace H:(some (e8,0))=some (b4,b5):=H;have f6:=aM f5;clear f5;obtain⟨rfl,rfl⟩:=q2 H;go_wp2_with (first|((with_reducible refine gc 99 rfl ?_);refine gC 99 (some 16) Try.func99 #[.slice a6 l0.length a7,.slice a8 l1.length a9] ?_;(with_reducible refine(Bzq.calls k _ _ l0 _ _ l1 e8 _ ?_ ?_ ?_ ?_ f6.out).mono ?_);exact cX d6.out;exact d7.out;exact cX d8.out;exact d9.out;rintro e w' ⟨rfl,⟨nd,rfl⟩⟩;refine⟨_,rfl,?_⟩))
   go_ret2
   exact⟨sD,dR⟩
  ·obtain rfl:=bN c7;rw[if_neg nF] at H
   obtain⟨rfl,rfl⟩:=q2 H;go_wp2
   go_ret2
   exact⟨sD,dR⟩
 ·obtain rfl:=bN c4;rw[if_neg nF] at H
  obtain⟨rfl,rfl⟩:=q2 H;go_enter Try.func73,Try.ntmps73
  go_wp2_with (first|((with_reducible refine gc 70 rfl ?_);refine gC 70 (some 7) Try.func70 #[.slice a6 l0.length a7] ?_;(with_reducible refine(Azz.calls k _ _ l0 false _ ?_ ?_ e9.out).mono ?_);exact cX d6.out;exact d7.out;rintro e w' ⟨rfl,⟨nd,rfl⟩⟩;refine⟨_,rfl,?_⟩))
  go_ret2
  exact⟨sD,dR⟩

mutual
def Azx.j0:Nat→List Int→List Int→Bool→Option (List Int × Int)
 | 0,_,_,_=>none
 | k+1,x0,x1,x17=>if x17=true then(some (([]:List Int),3)) else(Azx.l0 k x0 x1 ([]:List Int) 0 0)
def Azx.l0:Nat→List Int→List Int→List Int→Int→Int→Option (List Int × Int)
 | 0,_,_,_,_,_=>none
 | k+1,x0,x1,x6,x7,x8=>if x8 < (x0.length:Int) then(Azx.j2 k x0 x1 x6 x7 x8 true) else(if x8 < (x1.length:Int) then(Azx.j2 k x0 x1 x6 x7 x8 true) else(Azx.j2 k x0 x1 x6 x7 x8 (decide (x7 > 0))))
def Azx.j2:Nat→List Int→List Int→List Int→Int→Int→Bool→Option (List Int × Int)
 | 0,_,_,_,_,_,_=>none
 | k+1,x0,x1,x6,x7,x8,x31=>if x31=true then((Ezj.f x0 x8).bind fun t814=>((Ezj.f x1 x8).bind fun t815=>(if x6.length < 17592186044416 then(Azx.l0 k x0 x1 (x6 ++ [Int.tmod (wrap64 ((wrap64 (t814+t815))+x7)) 1000000000]) (wrap64 (Int.tdiv (wrap64 ((wrap64 (t814+t815))+x7)) 1000000000)) (wrap64 (x8+1))) else(none)))) else((Bzz.f k x6).bind fun bt819=>(some (bt819.1,bt819.2)))
end
def Azx.f (k:Nat) (l0:List Int) (l1:List Int):Option (List Int × Int):=(Azz.f k l0).bind fun t812=>(if t812=true then((Azz.f k l1).bind fun t813=>(Azx.j0 k l0 l1 (!t813))) else(Azx.j0 k l0 l1 true))
theorem Azx.mono_l:∀ k,(∀ a6 a7 a8,LeO (Azx.j0 k a6 a7 a8) (Azx.j0 (k+1) a6 a7 a8))∧(∀ a6 a7 a8 a9 b4,LeO (Azx.l0 k a6 a7 a8 a9 b4) (Azx.l0 (k+1) a6 a7 a8 a9 b4))∧(∀ a6 a7 a8 a9 b4 b5,LeO (Azx.j2 k a6 a7 a8 a9 b4 b5) (Azx.j2 (k+1) a6 a7 a8 a9 b4 b5))
 | 0=>⟨fun _ _ _ r h=>by simp [Azx.j0] at h,fun _ _ _ _ _ r h=>by simp [Azx.l0] at h,fun _ _ _ _ _ _ r h=>by simp [Azx.j2] at h⟩
 | k+1=>by
  obtain⟨ih0,ih1,ih2⟩:=Azx.mono_l k;have i0:=@Azz.mono;have i1:=@Bzz.mono;refine⟨?_,?_,?_⟩
  ·intro a6 a7 a8;unfold Azx.j0;exact mM
  ·intro a6 a7 a8 a9 b4;unfold Azx.l0;exact mM
  ·intro a6 a7 a8 a9 b4 b5;unfold Azx.j2;exact mM
theorem Azx.mono:∀ a6 a7 k,LeO (Azx.f k a6 a7) (Azx.f (k+1) a6 a7):=by
 intro a6 a7 k;obtain⟨ih0,ih1,ih2⟩:=Azx.mono_l k;unfold Azx.f;have i0:=@Azz.mono;have i1:=@Bzz.mono;exact mM
theorem Azx.calls (k:Nat) (a6:Option Addr) (a7:Nat) (l0:List Int) (a8:Option Addr) (a9:Nat) (l1:List Int) (b4:List Int) (b5:Int) (w:World) (b6:cI w a6 l0) (b7:l0.length≤a7) (b8:cI w a8 l1) (b9:l1.length≤a9) (h:Azx.f k l0 l1=some (b4,b5)) :
  Calls Try.prog 84 #[.slice a6 l0.length a7,.slice a8 l1.length a9] w fun e w'=>∃ v0_:Value,e=.returned (.tuple #[v0_,.int .i64 b5])∧rI w' w (fun _=>True) v0_ b4∧bw w w':=by
 have d6:=aM b6;have d7:=aM b7;clear b6 b7;have d8:=aM b8;have d9:=aM b9;clear b8 b9;have HB:=aM (Below.refl w.heap.size w);have H:((Azz.f k l0).bind fun e6=>(if e6=true then((Azz.f k l1).bind fun e7=>(Azx.j0 k l0 l1 (!e7))) else(Azx.j0 k l0 l1 true)))=some (b4,b5):=h
 clear h;have e8:=aM H;clear H;go_enter Try.func84,Try.ntmps84
 go_upto_region 1 with (fail)
 go_cut [17] (fun e9 wc=>∃ (kq:Nat) (f3:Bool),e9=.bool f3∧Aside0 (Azx.j0 kq l0 l1 f3=some (b4,b5))∧Aside0 (kq≤k)∧Aside0 (bw w wc))
 case first =>
  have H:=e8.out;clear e8;obtain⟨e6,f4,H⟩:=bT H;(try dsimp only at H);by_cases c5:e6=true
  ·subst c5;rw[if_pos rfl] at H;obtain⟨e7,f5,H⟩:=bT H;(try dsimp only at H);have H':=aM H;clear H;go_wp2_with (first|((with_reducible refine gc 70 rfl ?_);refine gC 70 (some 11) Try.func70 #[.slice a6 l0.length a7] ?_;(with_reducible refine(Azz.calls k _ _ l0 true _ ?_ ?_ f4.out).mono ?_);exact cB d6;exact d7.out;rintro e w' ⟨rfl,⟨nd,rfl⟩⟩;refine⟨_,rfl,?_⟩)|(go_at_call 70;(with_reducible refine(Azz.calls k _ _ l1 e7 _ ?_ ?_ f5.out).mono ?_);exact cB d8;exact d9.out;rintro e w' ⟨rfl,⟨nd,rfl⟩⟩))
   go_meet
   case rel=>exact⟨_,(!e7),sD,H',⟨by first|omega|exact Nat.le_refl _⟩,⟨pB⟩⟩
  ·obtain rfl:=bN c5;rw[if_neg nF] at H
   have H':=aM H;clear H;go_wp2_with (first|((with_reducible refine gc 70 rfl ?_);refine gC 70 (some 11) Try.func70 #[.slice a6 l0.length a7] ?_;(with_reducible refine(Azz.calls k _ _ l0 false _ ?_ ?_ f4.out).mono ?_);exact cB d6;exact d7.out;rintro e w' ⟨rfl,⟨nd,rfl⟩⟩;refine⟨_,rfl,?_⟩))
   go_meet
   case rel=>exact⟨_,(true),sD,H',⟨by first|omega|exact Nat.le_refl _⟩,⟨pB⟩⟩
 case rest =>
  clear e8;try clear a9
  obtain⟨kq,f3,rfl,HA,f6,HB⟩:=hcut;cases kq with
  | zero=>exact absurd HA.out (by simp [Azx.j0])
  | succ f7 =>
   have H:=HA.out;clear HA;simp only[Azx.j0] at H;by_cases c7:f3=true
   ·subst c7;rw[if_pos rfl] at H;obtain⟨rfl,rfl⟩:=q2 H;go_wp2
    go_ret2
    exact⟨_,eW,nK,pB⟩
   ·obtain rfl:=bN c7;rw[if_neg nF] at H
    have H':=aM H;clear H;go_wp2
    go_loopg [6,7,8] f7 (fun kq f8 f9 g4 w'=>∃ (g5:List Int) (g6:Int) (g7:Int),f9=.int .i64 g6∧g4=.int .i64 g7∧Aside0 (Azx.l0 kq l0 l1 g5 g6 g7=some (b4,b5))∧Aside0 (kq≤f7)∧Aside0 (rI w' w (fun _=>True) f8 g5)∧Aside0 (bw w w'))
    case atStart=>exact⟨(([]:List Int)),(0),(0),sD,sD,H',⟨Nat.le_refl _⟩,⟨nK⟩,⟨pB⟩⟩
    case round =>
     clear H';try clear a9
     obtain⟨g5,g6,g7,rfl,rfl,HA,g8,g9,HB⟩:=hrel;cases gk with
     | zero=>exact absurd HA.out (by simp [Azx.l0])
     | succ k2 =>
      have H:=HA.out;clear HA;simp only[Azx.l0] at H;have j3:=aM H;clear H;go_upto_region 6 with (fail)
      go_cut [31] (fun j4 wc=>∃ (kq:Nat) (j5:Bool),j4=.bool j5∧Aside0 (Azx.j2 kq l0 l1 g5 g6 g7 j5=some (b4,b5))∧Aside0 (kq≤k2)∧Aside0 (rI wc w (fun _=>True) u6 g5)∧Aside0 (bw w wc))
      case first =>
       have H:=j3.out;clear j3;replace H:=iD H;rcases H with⟨j6,H⟩|⟨j6,H⟩
       ·(first|rw[j6]|(simp only[i64_w,i32_w];rw[j6])|skip)
        have H':=aM H;clear H;go_wp2
        go_meet
        case rel=>exact⟨_,(true),sD,H',⟨by have:=f6.out;have:=g8.out;first|omega|exact Nat.le_refl _⟩,⟨rX g9.out⟩,⟨pB⟩⟩
       ·(first|rw[j6]|(simp only[i64_w,i32_w];rw[j6])|skip)
        replace H:=iD H;rcases H with⟨j7,H⟩|⟨j7,H⟩
        ·have H':=aM H;clear H;go_wp2
         go_meet
         case rel=>exact⟨_,(true),sD,H',⟨by have:=f6.out;have:=g8.out;first|omega|exact Nat.le_refl _⟩,⟨rX g9.out⟩,⟨pB⟩⟩
        ·have H':=aM H;clear H;go_wp2
         go_meet
         case rel=>exact⟨_,(decide (g6 > 0)),sD,H',⟨by have:=f6.out;have:=g8.out;first|omega|exact Nat.le_refl _⟩,⟨rX g9.out⟩,⟨pB⟩⟩
      case rest =>
       clear j3;try clear a9
       obtain⟨kq,j5,rfl,HA,j8,g9,HB⟩:=hcut;cases kq with
       | zero=>exact absurd HA.out (by simp [Azx.j2])
       | succ j9 =>
        have H:=HA.out;clear HA;simp only[Azx.j2] at H;by_cases l5:j5=true
        ·subst l5;rw[if_pos rfl] at H;obtain⟨l6,l7,H⟩:=bT H;(try dsimp only at H);obtain⟨l8,l9,H⟩:=bT H;(try dsimp only at H);obtain⟨m0,H⟩:=iO H;have LMc14:=aM m0;clear m0;obtain⟨m4,m5⟩:∃ y_:List Int,y_=(g5 ++ [Int.tmod (wrap64 ((wrap64 (l6+l8))+g6)) 1000000000]):=⟨_,rfl⟩;replace H:(Azx.l0 j9 l0 l1 m4 (wrap64 (Int.tdiv (wrap64 ((wrap64 (l6+l8))+g6)) 1000000000)) (wrap64 (g7+1)))=some (b4,b5):=yE m5 H
         have m6:=aM m5;clear m5;have H':=aM H;clear H;go_wp2_with (first|((with_reducible refine gc 105 rfl ?_);refine gC 105 (some 36) Try.func105 #[.slice a6 l0.length a7,.int .i64 g7] ?_;(with_reducible refine(Ezj.calls _ _ l0 g7 l6 _ ?_ ?_ l7.out).mono ?_);exact cB d6;exact d7.out;rintro e w' ⟨rfl,⟨nd,rfl⟩⟩;refine⟨_,rfl,?_⟩)|((with_reducible refine gc 105 rfl ?_);refine gC 105 (some 39) Try.func105 #[.slice a8 l1.length a9,.int .i64 g7] ?_;(with_reducible refine(Ezj.calls _ _ l1 g7 l8 _ ?_ ?_ l9.out).mono ?_);exact cB d8;exact d9.out;rintro e w' ⟨rfl,⟨nd,rfl⟩⟩;refine⟨_,rfl,?_⟩)|((with_reducible refine gate_builtin (b:=.append) (xs:=#[.tmp 43,.tmp 46]) rfl ?_);(try(refine gate_guard (by rfl) ?_;dsimp only));at_builtin;refine Kd.R_append (Kd.int .i64) (w0:=w) w.heap.size rfl (.tmp 43) (.tmp 46) 31 3 (.int .i64 0) 8 rfl Try.underlying31 info3 rfl (by decide) (by omega) u6 g5 (Int.tmod (wrap64 ((wrap64 (l6+l8))+g6)) 1000000000) [.int .i64 (Int.tmod (wrap64 ((wrap64 (l6+l8))+g6)) 1000000000)] (fun _=>True) (fun _=>False) rfl rfl ?aP (fun _ hk=>hk.elim) ?aF ?aO ?aB ?aS ?aL ?_;(case aP=>exact rfl);(case aB=>exact pB);(case aF=>exact(fun _ _=>trivial));(case aO=>exact(rX g9.out));(case aS=>exact(below_size pB));(case aL=>have:=LMc14.out;omega);intro m7 m8 ho hb hg hat;rw[← m6.out] at ho;have m9:=aM (ho);replace HB:=aM (hb);clear g9 ho hb hg hat))
         go_roundg j9
         case measure=>have:=f6.out;have:=g8.out;have:=j8.out;omega
         case rel=>exact⟨(m4),(wrap64 (Int.tdiv (wrap64 ((wrap64 (l6+l8))+g6)) 1000000000)),(wrap64 (g7+1)),sD,sD,H',⟨by have:=f6.out;have:=g8.out;have:=j8.out;omega⟩,⟨rX m9.out⟩,⟨pB⟩⟩
        ·obtain rfl:=bN l5;rw[if_neg nF] at H
         replace H:=bS H;obtain⟨⟨n0,n7⟩,n8,H⟩:=H;replace H:(some (n0,n7))=some (b4,b5):=H;have n9:=aM n8;clear n8;obtain⟨rfl,rfl⟩:=q2 H;obtain⟨o0,o8,rfl⟩:=Kd.R_slice g9.out;go_wp2_with (first|((with_reducible refine gc 82 rfl ?_);refine gC 82 (some 51) Try.func82 #[.slice o0 g5.length o8] ?_;(with_reducible refine(Bzz.calls j9 _ _ g5 n0 n7 _ ?_ ?_ n9.out).mono ?_);exact cR g9;exact lR g9;rintro e o9 ⟨p0,rfl,p4,hb⟩;refine⟨_,rfl,?_⟩;have p7:=rL (rn p4 g9);replace g9:=rE g9 p4 hb;replace HB:=bB hb;clear hb p4))
         go_ret2
         exact⟨_,eW,by exact rX (Kd.R_mono p7.out (fun _ hk=>trivial)),pB⟩


def Czw.j0:Nat→List Int→List Int→Bool→Option (List Int × Int)
 | 0,_,_,_=>none
 | k+1,x0,x1,x13=>if x13=true then(some (([]:List Int),3)) else((Bzq.f k x0 x1).bind fun t825=>(if t825 < 0 then(some (([]:List Int),1)) else((Bzv.f k x0 x1).bind fun t826=>(some (t826,0)))))
def Czw.f (k:Nat) (l0:List Int) (l1:List Int):Option (List Int × Int):=(Azz.f k l0).bind fun t823=>(if t823=true then((Azz.f k l1).bind fun t824=>(Czw.j0 k l0 l1 (!t824))) else(Czw.j0 k l0 l1 true))
theorem Czw.mono_l:∀ k,(∀ a6 a7 a8,LeO (Czw.j0 k a6 a7 a8) (Czw.j0 (k+1) a6 a7 a8))
 | 0=>fun _ _ _ r h=>by simp [Czw.j0] at h
 | k+1=>by
  have ih0:=Czw.mono_l k
  ·intro a6 a7 a8;unfold Czw.j0;have i0:=@Azz.mono;have i1:=@Bzq.mono;have i2:=@Bzv.mono;exact mM
theorem Czw.mono:∀ a6 a7 k,LeO (Czw.f k a6 a7) (Czw.f (k+1) a6 a7):=by
 intro a6 a7 k;have ih0:=Czw.mono_l k;unfold Czw.f;have i0:=@Azz.mono;have i1:=@Bzq.mono;have i2:=@Bzv.mono;exact mM
theorem Czw.calls (k:Nat) (a6:Option Addr) (a7:Nat) (l0:List Int) (a8:Option Addr) (a9:Nat) (l1:List Int) (b4:List Int) (b5:Int) (w:World) (b6:cI w a6 l0) (b7:l0.length≤a7) (b8:cI w a8 l1) (b9:l1.length≤a9) (h:Czw.f k l0 l1=some (b4,b5)) :
  Calls Try.prog 85 #[.slice a6 l0.length a7,.slice a8 l1.length a9] w fun e w'=>∃ v0_:Value,e=.returned (.tuple #[v0_,.int .i64 b5])∧rI w' w (fun _=>True) v0_ b4∧bw w w':=by
 have d6:=aM b6;have d7:=aM b7;clear b6 b7;have d8:=aM b8;have d9:=aM b9;clear b8 b9;have HB:=aM (Below.refl w.heap.size w);have H:((Azz.f k l0).bind fun e6=>(if e6=true then((Azz.f k l1).bind fun e7=>(Czw.j0 k l0 l1 (!e7))) else(Czw.j0 k l0 l1 true)))=some (b4,b5):=h
 clear h;have e8:=aM H;clear H;go_enter Try.func85,Try.ntmps85
 go_upto_region 1 with (fail)
 go_cut [13] (fun e9 wc=>∃ (kq:Nat) (f3:Bool),e9=.bool f3∧Aside0 (Czw.j0 kq l0 l1 f3=some (b4,b5))∧Aside0 (kq≤k)∧Aside0 (bw w wc))
 case first =>
  have H:=e8.out;clear e8;obtain⟨e6,f4,H⟩:=bT H;(try dsimp only at H);by_cases c5:e6=true
  ·subst c5;rw[if_pos rfl] at H;obtain⟨e7,f5,H⟩:=bT H;(try dsimp only at H);have H':=aM H;clear H;go_wp2_with (first|((with_reducible refine gc 70 rfl ?_);refine gC 70 (some 7) Try.func70 #[.slice a6 l0.length a7] ?_;(with_reducible refine(Azz.calls k _ _ l0 true _ ?_ ?_ f4.out).mono ?_);exact cB d6;exact d7.out;rintro e w' ⟨rfl,⟨nd,rfl⟩⟩;refine⟨_,rfl,?_⟩)|(go_at_call 70;(with_reducible refine(Azz.calls k _ _ l1 e7 _ ?_ ?_ f5.out).mono ?_);exact cB d8;exact d9.out;rintro e w' ⟨rfl,⟨nd,rfl⟩⟩))
   go_meet
   case rel=>exact⟨_,(!e7),sD,H',⟨by first|omega|exact Nat.le_refl _⟩,⟨pB⟩⟩
  ·obtain rfl:=bN c5;rw[if_neg nF] at H
   have H':=aM H;clear H;go_wp2_with (first|((with_reducible refine gc 70 rfl ?_);refine gC 70 (some 7) Try.func70 #[.slice a6 l0.length a7] ?_;(with_reducible refine(Azz.calls k _ _ l0 false _ ?_ ?_ f4.out).mono ?_);exact cB d6;exact d7.out;rintro e w' ⟨rfl,⟨nd,rfl⟩⟩;refine⟨_,rfl,?_⟩))
   go_meet
   case rel=>exact⟨_,(true),sD,H',⟨by first|omega|exact Nat.le_refl _⟩,⟨pB⟩⟩
 case rest =>
  clear e8;try clear a9
  obtain⟨kq,f3,rfl,HA,f6,HB⟩:=hcut;cases kq with
  | zero=>exact absurd HA.out (by simp [Czw.j0])
  | succ f7 =>
   have H:=HA.out;clear HA;simp only[Czw.j0] at H;by_cases c7:f3=true
   ·subst c7;rw[if_pos rfl] at H;obtain⟨rfl,rfl⟩:=q2 H;go_wp2
    go_ret2
    exact⟨_,eW,nK,pB⟩
   ·obtain rfl:=bN c7;rw[if_neg nF] at H
    obtain⟨f8,f9,H⟩:=bT H;(try dsimp only at H);have g4:=aM H;clear H;go_upto_if 17 with (first|((with_reducible refine gc 99 rfl ?_);refine gC 99 (some 16) Try.func99 #[.slice a6 l0.length a7,.slice a8 l1.length a9] ?_;(with_reducible refine(Bzq.calls f7 _ _ l0 _ _ l1 f8 _ ?_ ?_ ?_ ?_ f9.out).mono ?_);exact cB d6;exact d7.out;exact cB d8;exact d9.out;rintro e w' ⟨rfl,⟨nd,rfl⟩⟩;refine⟨_,rfl,?_⟩))
    have H:=g4.out;clear g4;replace H:=iD H;rcases H with⟨g5,H⟩|⟨g5,H⟩
    ·(first|rw[g5]|(simp only[i64_w,i32_w];rw[g5])|skip)
     obtain⟨rfl,rfl⟩:=q2 H;go_wp2
     go_ret2
     exact⟨_,eW,nK,pB⟩
    ·(first|rw[g5]|(simp only[i64_w,i32_w];rw[g5])|skip)
     replace H:=bS H;obtain⟨g6,g7,H⟩:=H;replace H:(some (g6,0))=some (b4,b5):=H;have g8:=aM g7;clear g7;obtain⟨rfl,rfl⟩:=q2 H;go_wp2_with (first|((with_reducible refine gc 106 rfl ?_);refine gC 106 (some 20) Try.func106 #[.slice a6 l0.length a7,.slice a8 l1.length a9] ?_;(with_reducible refine(Bzv.calls f7 _ _ l0 _ _ l1 g6 _ ?_ ?_ ?_ ?_ g8.out).mono ?_);exact cB d6;exact d7.out;exact cB d8;exact d9.out;rintro e g9 ⟨j3,rfl,j4,hb⟩;refine⟨_,rfl,?_⟩;have j5:=rL j4;replace HB:=bB hb;clear hb j4))
     go_ret2
     exact⟨_,eW,rX j5.out,pB⟩

def Ezf.f (k:Nat) (a0:Bool) (l1:List Int) (a2:Bool) (l3:List Int):Option (Bool × List Int × Int):=if(a0 == a2)=true then((Azx.f k l1 l3).bind fun bt829=>(some (a0,bt829.1,bt829.2))) else((Ezv.f k l1 l3).bind fun bt833=>(if bt833.1≥0 then((Czw.f k l1 l3).bind fun bt835=>(some (a0,bt835.1,bt835.2))) else((Czw.f k l3 l1).bind fun bt839=>(some (a2,bt839.1,bt839.2)))))
theorem Ezf.mono:∀ a6 a7 a8 a9 k,LeO (Ezf.f k a6 a7 a8 a9) (Ezf.f (k+1) a6 a7 a8 a9):=by
 intro a6 a7 a8 a9 k;unfold Ezf.f;have i0:=@Azx.mono;have i1:=@Ezv.mono;have i2:=@Czw.mono;exact mM
theorem Ezf.calls (k:Nat) (a6:Bool) (a7:Option Addr) (a8:Nat) (l1:List Int) (a9:Bool) (b4:Option Addr) (c3:Nat) (b5:List Int) (b6:Bool) (b7:List Int) (b8:Int) (w:World) (b9:cI w a7 l1) (d6:l1.length≤a8) (d7:cI w b4 b5) (d8:b5.length≤c3) (h:Ezf.f k a6 l1 a9 b5=some (b6,b7,b8)) :
  Calls Try.prog 57 #[.bool a6,.slice a7 l1.length a8,.bool a9,.slice b4 b5.length c3] w fun e w'=>∃ v1_:Value,e=.returned (.tuple #[.bool b6,v1_,.int .i64 b8])∧rI w' w (fun _=>True) v1_ b7∧bw w w':=by
 have d9:=aM b9;have e6:=aM d6;clear b9 d6;have e7:=aM d7;have e8:=aM d8;clear d7 d8;have HB:=aM (Below.refl w.heap.size w);have H:(if(a6 == a9)=true then((Azx.f k l1 b5).bind fun e9=>(some (a6,e9.1,e9.2))) else((Ezv.f k l1 b5).bind fun f3=>(if f3.1≥0 then((Czw.f k l1 b5).bind fun f4=>(some (a6,f4.1,f4.2))) else((Czw.f k b5 l1).bind fun f5=>(some (a9,f5.1,f5.2))))))=some (b6,b7,b8):=h
 clear h;by_cases c5:(a6 == a9)=true
 ·rw[if_pos c5] at H;have f6:(a6 == a9)=true:=c5;(try(have f7:decide (a6=a9)=true:=by simpa using c5))
  (try(have f8:(a6 == a9)=true:=by simpa using c5))
  clear c5;replace H:=bS H;obtain⟨⟨f9,g4⟩,g5,H⟩:=H;replace H:(some (a6,f9,g4))=some (b6,b7,b8):=H;have g6:=aM g5;clear g5;obtain⟨rfl,rfl,rfl⟩:=q3 H;go_enter Try.func57,Try.ntmps57
  go_wp2_with (first|((with_reducible refine gc 84 rfl ?_);refine gC 84 (some 25) Try.func84 #[.slice a7 l1.length a8,.slice b4 b5.length c3] ?_;(with_reducible refine(Azx.calls k _ _ l1 _ _ b5 f9 g4 _ ?_ ?_ ?_ ?_ g6.out).mono ?_);exact cX d9.out;exact e6.out;exact cX e7.out;exact e8.out;rintro e g7 ⟨g8,rfl,g9,hb⟩;refine⟨_,rfl,?_⟩;have j3:=rL g9;replace HB:=bB hb;clear hb g9))
  go_ret3
  exact⟨_,eW,rX j3.out,pB⟩
 ·rw[if_neg c5] at H;have f6:(a6 == a9)=false:=by simpa using c5
  (try(have f7:decide (a6=a9)=false:=by simpa using c5))
  (try(have f8:(a6 == a9)=false:=by simpa using c5))
  (try(have j4:¬ (a6=a9):=by simpa using c5))
  clear c5;obtain⟨⟨j5,j6⟩,j7,H⟩:=bT H;(try dsimp only at H);have j8:=aM H;clear H;go_enter Try.func57,Try.ntmps57
  go_upto_if 38 with (first|((with_reducible refine gc 73 rfl ?_);refine gC 73 (some 34) Try.func73 #[.slice a7 l1.length a8,.slice b4 b5.length c3] ?_;(with_reducible refine(Ezv.calls k _ _ l1 _ _ b5 j5 j6 _ ?_ ?_ ?_ ?_ j7.out).mono ?_);exact cX d9.out;exact e6.out;exact cX e7.out;exact e8.out;rintro e w' ⟨rfl,⟨nd,rfl⟩⟩;refine⟨_,rfl,?_⟩))
  have H:=j8.out;clear j8;by_cases c10:j5≥0
  ·rw[if_pos c10] at H;have j9:decide (0≤j5)=true:=dE c10;clear c10;(first|rw[j9]|(simp only[i64_w,i32_w];rw[j9])|skip)
   replace H:=bS H;obtain⟨⟨l5,l6⟩,l7,H⟩:=H;replace H:(some (a6,l5,l6))=some (b6,b7,b8):=H;have l8:=aM l7;clear l7;obtain⟨rfl,rfl,rfl⟩:=q3 H;go_wp2_with (first|((with_reducible refine gc 85 rfl ?_);refine gC 85 (some 42) Try.func85 #[.slice a7 l1.length a8,.slice b4 b5.length c3] ?_;(with_reducible refine(Czw.calls k _ _ l1 _ _ b5 l5 l6 _ ?_ ?_ ?_ ?_ l8.out).mono ?_);exact cB d9;exact e6.out;exact cB e7;exact e8.out;rintro e l9 ⟨m0,rfl,g9,hb⟩;refine⟨_,rfl,?_⟩;have m4:=rL g9;replace HB:=bB hb;clear hb g9))
   go_ret3
   exact⟨_,eW,rX m4.out,pB⟩
  ·rw[if_neg c10] at H;have j9:decide (0≤j5)=false:=decide_eq_false c10;clear c10;(first|rw[j9]|(simp only[i64_w,i32_w];rw[j9])|skip)
   replace H:=bS H;obtain⟨⟨m5,m6⟩,m7,H⟩:=H;replace H:(some (a9,m5,m6))=some (b6,b7,b8):=H;have m8:=aM m7;clear m7;obtain⟨rfl,rfl,rfl⟩:=q3 H;go_wp2_with (first|((with_reducible refine gc 85 rfl ?_);refine gC 85 (some 51) Try.func85 #[.slice b4 b5.length c3,.slice a7 l1.length a8] ?_;(with_reducible refine(Czw.calls k _ _ b5 _ _ l1 m5 m6 _ ?_ ?_ ?_ ?_ m8.out).mono ?_);exact cB e7;exact e8.out;exact cB d9;exact e6.out;rintro e m9 ⟨n0,rfl,g9,hb⟩;refine⟨_,rfl,?_⟩;have n7:=rL g9;replace HB:=bB hb;clear hb g9))
   go_ret3
   exact⟨_,eW,rX n7.out,pB⟩

end Go.Proofs.Ytbnpcplckcipfaa.Print
