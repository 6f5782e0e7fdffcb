import Derived.Test.YtbnpcplckcipfaaPrint0
import Derived.Test.YtbnpcplckcipfaaPrint39
import Derived.Test.YtbnpcplckcipfaaPrint45
import Derived.Test.YtbnpcplckcipfaaPrint47
import Derived.Test.YtbnpcplckcipfaaPrint42
namespace Go.Proofs.Ytbnpcplckcipfaa.Print
open Go.RowKit Go.Proofs.YtbnpcplckcipfaaW.PrintWords Go.Proofs.YtbnpcplckcipfaaW.PrintLast Go.Proofs.YtbnpcplckcipfaaW.PrintMore
attribute [local go_sem] dF dG eB eD dm dn dH dI
set_option linter.unusedVariables false
set_option maxRecDepth 100000
set_option maxHeartbeats 8000000
set_option linter.unusedSimpArgs false

def Azx.j0:Nat→Bool→Bool→List Int→List Int→Option (Bool)
 | 0,_,_,_,_=>none
 | k+1,x30,x790000,x790001,x790002=>if x30=true then(some false) else((Azp.f k x790001 x790002).bind fun bt792=>(if bt792.2=0 then((Czz.f k bt792.1 (([1]:List Int))).bind fun t799=>(some t799)) else(some false)))
def Azx.f (k:Nat) (a0_0:Bool) (l0_1:List Int) (l0_2:List Int):Option (Bool):=(Azz.f k l0_1).bind fun t790=>(if t790=true then((Azz.f k l0_2).bind fun t791=>(if t791=true then(if(l0_2.length:Int)=0 then(Azx.j0 k true a0_0 l0_1 l0_2) else(if(l0_1.length:Int)=0 then(Azx.j0 k a0_0 a0_0 l0_1 l0_2) else(Azx.j0 k false a0_0 l0_1 l0_2))) else(Azx.j0 k true a0_0 l0_1 l0_2))) else(Azx.j0 k true a0_0 l0_1 l0_2))
theorem Azx.mono_l:∀ k,(∀ a6 a7 a8 a9,LeO (Azx.j0 k a6 a7 a8 a9) (Azx.j0 (k+1) a6 a7 a8 a9))
 | 0=>fun _ _ _ _ r h=>by simp [Azx.j0] at h
 | k+1=>by
  have ih0:=Azx.mono_l k
  ·intro a6 a7 a8 a9;unfold Azx.j0;have i0:=@Azp.mono;have i1:=@Azz.mono;have i2:=@Czz.mono;exact mM
theorem Azx.mono:∀ a6 a7 a8 k,LeO (Azx.f k a6 a7 a8) (Azx.f (k+1) a6 a7 a8):=by
 intro a6 a7 a8 k;have ih0:=Azx.mono_l k;unfold Azx.f;have i0:=@Azp.mono;have i1:=@Azz.mono;have i2:=@Czz.mono;exact mM
theorem Azx.calls (k:Nat) (a6:Bool) (a7:Option Addr) (a8:Nat) (a9:List Int) (b4:Option Addr) (b5:Nat) (b6:List Int) (r:Bool) (w:World) (b7:cI w a7 a9) (b8:a9.length≤a8) (b9:cI w b4 b6) (d6:b6.length≤b5) (h:Azx.f k a6 a9 b6=some r) :
  Calls Try.prog 39 #[.agg #[.bool a6,.slice a7 a9.length a8,.slice b4 b6.length b5]] w fun e w'=>e=.returned (.bool r)∧bw w w':=by
 have hu33:=Try.underlying33;have d7:=aM b7;have d8:=aM b8;clear b7 b8;have d9:=aM b9;have e6:=aM d6;clear b9 d6;have HB:=aM (Below.refl w.heap.size w);have H:((Azz.f k a9).bind fun e7=>(if e7=true then((Azz.f k b6).bind fun f6=>(if f6=true then(if(b6.length:Int)=0 then(Azx.j0 k true a6 a9 b6) else(if(a9.length:Int)=0 then(Azx.j0 k a6 a6 a9 b6) else(Azx.j0 k false a6 a9 b6))) else(Azx.j0 k true a6 a9 b6))) else(Azx.j0 k true a6 a9 b6)))=some r:=h
 clear h;have f7:=aM H;clear H;go_enter Try.func39,Try.ntmps39
 go_upto_region 1 with (first|((with_reducible refine gd 1 rfl ?_);refine bxg #[.bool a6,.slice a7 a9.length a8,.slice b4 b6.length b5] 33 ?_;intro f8 hg g5 g8 hb;have g9:=gA w hg;replace HB:=bB hb;clear hb hg))
 (try simp only[Act.put,sA,sZ,sC])
 go_cut [30] (fun j4 wc=>∃ (kq:Nat) (j5:Bool),j4=.bool j5∧ae (Azx.j0 kq j5 a6 a9 b6=some r)∧ae (kq≤k)∧ae (wc.heap[f8]?=some (.cells #[.bool a6,(.slice a7 a9.length a8),(.slice b4 b6.length b5)] 33 (0,0)))∧ae (bw w wc))
 case first =>
  have H:=f7.out;clear f7;obtain⟨e7,j6,H⟩:=bT H;(try dsimp only at H);by_cases c5:e7=true
  ·subst c5;rw[if_pos rfl] at H;obtain⟨f6,j7,H⟩:=bT H;(try dsimp only at H);by_cases c7:f6=true
   ·subst c7;rw[if_pos rfl] at H;replace H:=iE H;rcases H with⟨j8,j9,H⟩|⟨c8,j8,j9,H⟩
    ·(first|rw[j8]|(simp only[aH,bg];rw[j8])|skip)
     have H':=aM H;clear H;obtain⟨l5,l6,l7,l8,l9,m0⟩:=bk3 g8;go_wp2_with (first|((with_reducible refine gc 70 rfl ?_);refine gC 70 (some 7) Try.func70 #[.slice a7 a9.length a8] ?_;(with_reducible refine(Azz.calls k _ _ a9 true _ ?_ ?_ j6.out).mono ?_);exact cB d7;exact d8.out;rintro e w' ⟨rfl,⟨nd,rfl⟩⟩;refine⟨_,rfl,?_⟩)|(go_at_call 70;(with_reducible refine(Azz.calls k _ _ b6 true _ ?_ ?_ j7.out).mono ?_);exact cB d9;exact e6.out;rintro e w' ⟨rfl,⟨nd,rfl⟩⟩))
     go_meet
     case rel=>exact⟨_,(true),sD,H',⟨by first|omega|exact Nat.le_refl _⟩,⟨by exact kW g8⟩,⟨pB⟩⟩
    ·have m4:¬ (b6=[]):=fun h_=>c8 (by rw[h_];rfl)
     (first|rw[j8]|(simp only[aH,bg];rw[j8])|skip)
     replace H:=iE H;rcases H with⟨m5,m6,H⟩|⟨c10,m5,m6,H⟩
     ·have H':=aM H;clear H;obtain⟨m7,m8,m9,n0,n7,n8⟩:=bk3 g8;go_wp2_with (first|((with_reducible refine gc 70 rfl ?_);refine gC 70 (some 7) Try.func70 #[.slice a7 a9.length a8] ?_;(with_reducible refine(Azz.calls k _ _ a9 true _ ?_ ?_ j6.out).mono ?_);exact cB d7;exact d8.out;rintro e w' ⟨rfl,⟨nd,rfl⟩⟩;refine⟨_,rfl,?_⟩)|(go_at_call 70;(with_reducible refine(Azz.calls k _ _ b6 true _ ?_ ?_ j7.out).mono ?_);exact cB d9;exact e6.out;rintro e w' ⟨rfl,⟨nd,rfl⟩⟩))
      go_meet
      case rel=>exact⟨_,(a6),sD,H',⟨by first|omega|exact Nat.le_refl _⟩,⟨by exact kW g8⟩,⟨pB⟩⟩
     ·have n9:¬ (a9=[]):=fun h_=>c10 (by rw[h_];rfl)
      have H':=aM H;clear H;obtain⟨o0,o8,o9,p9,r6,r7⟩:=bk3 g8;go_wp2_with (first|((with_reducible refine gc 70 rfl ?_);refine gC 70 (some 7) Try.func70 #[.slice a7 a9.length a8] ?_;(with_reducible refine(Azz.calls k _ _ a9 true _ ?_ ?_ j6.out).mono ?_);exact cB d7;exact d8.out;rintro e w' ⟨rfl,⟨nd,rfl⟩⟩;refine⟨_,rfl,?_⟩)|(go_at_call 70;(with_reducible refine(Azz.calls k _ _ b6 true _ ?_ ?_ j7.out).mono ?_);exact cB d9;exact e6.out;rintro e w' ⟨rfl,⟨nd,rfl⟩⟩))
      go_meet
      case rel=>exact⟨_,(false),sD,H',⟨by first|omega|exact Nat.le_refl _⟩,⟨by exact kW g8⟩,⟨pB⟩⟩
   ·obtain rfl:=bN c7;rw[if_neg nF] at H
    have H':=aM H;clear H;obtain⟨r8,r9,t4,t5,t6,t7⟩:=bk3 g8;go_wp2_with (first|((with_reducible refine gc 70 rfl ?_);refine gC 70 (some 7) Try.func70 #[.slice a7 a9.length a8] ?_;(with_reducible refine(Azz.calls k _ _ a9 true _ ?_ ?_ j6.out).mono ?_);exact cB d7;exact d8.out;rintro e w' ⟨rfl,⟨nd,rfl⟩⟩;refine⟨_,rfl,?_⟩)|(go_at_call 70;(with_reducible refine(Azz.calls k _ _ b6 false _ ?_ ?_ j7.out).mono ?_);exact cB d9;exact e6.out;rintro e w' ⟨rfl,⟨nd,rfl⟩⟩))
    go_meet
    case rel=>exact⟨_,(true),sD,H',⟨by first|omega|exact Nat.le_refl _⟩,⟨by exact kW g8⟩,⟨pB⟩⟩
  ·obtain rfl:=bN c5;rw[if_neg nF] at H
   have H':=aM H;clear H;obtain⟨t8,t9,z3,z4,z5,z6⟩:=bk3 g8;go_wp2_with (first|((with_reducible refine gc 70 rfl ?_);refine gC 70 (some 7) Try.func70 #[.slice a7 a9.length a8] ?_;(with_reducible refine(Azz.calls k _ _ a9 false _ ?_ ?_ j6.out).mono ?_);exact cB d7;exact d8.out;rintro e w' ⟨rfl,⟨nd,rfl⟩⟩;refine⟨_,rfl,?_⟩))
   go_meet
   case rel=>exact⟨_,(true),sD,H',⟨by first|omega|exact Nat.le_refl _⟩,⟨by exact kW g8⟩,⟨pB⟩⟩
 case rest =>
  clear f7;try clear z7
  obtain⟨kq,j5,rfl,HA,z8,g8,HB⟩:=hcut;cases kq with
  | zero=>exact absurd HA.out (by simp [Azx.j0])
  | succ z9 =>
   have H:=HA.out;clear HA;simp only[Azx.j0] at H;by_cases B0:j5=true
   ·subst B0;rw[if_pos rfl] at H;obtain rfl:=Option.some.inj H;go_wp2
    go_ret
    exact⟨eW,pB⟩
   ·obtain rfl:=bN B0;rw[if_neg nF] at H
    obtain⟨⟨B5,B9⟩,C0,H⟩:=bT H;(try dsimp only at H);have C1:=aM H;clear H;obtain⟨C2,C3,C4,C6,C7,C8⟩:=bk3 g8;go_upto_region 4 with (first|((with_reducible refine gc 71 rfl ?_);refine gC 71 (some 36) Try.func71 #[.slice a7 a9.length a8,.slice b4 b6.length b5] ?_;(with_reducible refine(Azp.calls z9 _ _ a9 (fun k_=>k_ < w.heap.size) _ _ b6 B5 B9 _ ?_ ?_ ?_ C0.out).mono ?_);exact cB d7;exact d8.out;exact Kd.jI e6.out (Kd.eX (Kd.C_F (Kd.dZ .i64) d9.out) pB);rintro e C9 ⟨D4,rfl,D5,hb⟩;refine⟨_,rfl,?_⟩;have D6:=rL (Kd.ah (ok':=fun k_=>True) D5 (fun _ hk_=>trivial));replace g8:=kb g8 hb;replace HB:=bB hb;clear hb D5))
    have H:=C1.out;clear C1;replace H:=iE H;rcases H with⟨D8,D9,H⟩|⟨D7,D8,D9,H⟩
    ·obtain⟨E0,E1⟩:∃ y_:List Int,y_=(([1]:List Int)):=⟨_,rfl⟩;replace H:((Czz.f z9 B5 E0).bind fun E2=>(some E2))=some r:=yE E1 H
     have E3:=aM E1;clear E1;replace H:=bS H;obtain⟨E2,E4,H⟩:=H;replace H:(some E2)=some r:=H;have E5:=aM E4;clear E4;obtain rfl:=Option.some.inj H;go_wp2_with (first|((with_reducible refine gd 43 rfl ?_);refine iLg 43 [1] ?_;intro E6 E7 E8 hb;replace E8:=rY E3 E8;have E9:=rL (rn E8 D6);replace D6:=rE D6 E8 hb;replace g8:=kb g8 hb;replace HB:=bB hb;clear hb E8;obtain⟨F0,F2,rfl⟩:=Kd.aj D6.out;obtain⟨F3,F4,rfl⟩:=Kd.aj E9.out)|(go_at_call 72;(with_reducible refine(Czz.calls z9 _ _ B5 _ _ E0 E2 _ ?_ ?_ ?_ ?_ E5.out).mono ?_);exact cR D6;exact lR D6;exact cR E9;exact lR E9;rintro e w' ⟨rfl,⟨nd,rfl⟩⟩))
     go_ret
     exact⟨eW,pB⟩
    ·obtain rfl:=Option.some.inj H;go_wp2
     go_ret
     exact⟨eW,pB⟩

def Bzx.l0:Nat→List (S33)→Int→Option (Bool)
 | 0,_,_=>none
 | k+1,x0,x3=>if x3 < (x0.length:Int) then(if 0≤x3 then((Azx.f k ((ag x0 x3).f0) ((ag x0 x3).f1) ((ag x0 x3).f2)).bind fun t801=>(if t801=true then(Bzx.l0 k x0 (wrap64 (x3+1))) else(some false))) else(none)) else(some true)
def Bzx.f (k:Nat) (l0:List (S33)):Option (Bool):=Bzx.l0 k l0 0
theorem Bzx.mono_l:∀ k,(∀ a6 a7,LeO (Bzx.l0 k a6 a7) (Bzx.l0 (k+1) a6 a7))
 | 0=>fun _ _ r h=>by simp [Bzx.l0] at h
 | k+1=>by
  have ih0:=Bzx.mono_l k
  ·intro a6 a7;unfold Bzx.l0;have i0:=@Azx.mono;exact mM
theorem Bzx.mono:∀ a6 k,LeO (Bzx.f k a6) (Bzx.f (k+1) a6):=by
 intro a6 k;have ih0:=Bzx.mono_l k;unfold Bzx.f;have i0:=@Azx.mono;exact mM
theorem Bzx.calls (k:Nat) (a6:Option Addr) (a7:Nat) (l0:List (S33)) (r:Bool) (w:World) (a8:Kd.C k33 w a6 l0.length l0) (a9:l0.length≤a7) (h:Bzx.f k l0=some r) :
  Calls Try.prog 28 #[.slice a6 l0.length a7] w fun e w'=>e=.returned (.bool r)∧bw w w':=by
 have hu33:=Try.underlying33;have b4:=aM a8;have b5:=aM a9;clear a8 a9;have HB:=aM (Below.refl w.heap.size w);have H:(Bzx.l0 k l0 0)=some r:=h;clear h;have H':=aM H;clear H;go_enter Try.func28,Try.ntmps28
 go_wp2
 go_loopg [3] k (fun kq b6 w'=>∃ (b7:Int),b6=.int .i64 b7∧ae (Bzx.l0 kq l0 b7=some r)∧ae (kq≤k)∧ae (bw w w'))
 case atStart=>exact⟨(0),sD,H',⟨Nat.le_refl _⟩,⟨pB⟩⟩
 case round =>
  clear H';obtain⟨b7,rfl,HA,b8,HB⟩:=hrel;cases gk with
  | zero=>exact absurd HA.out (by simp [Bzx.l0])
  | succ k1 =>
   have H:=HA.out;clear HA;simp only[Bzx.l0] at H;replace H:=iD H;rcases H with⟨b9,H⟩|⟨b9,H⟩
   ·obtain⟨d6,H⟩:=iN H;obtain⟨d7,d8,H⟩:=bT H;(try dsimp only at H);have d9:=aM H;clear H;obtain⟨e6,e7,f6,f7,f8,g5,g8,g9,j3,j4,j5,j6,j7⟩:=gT b4.out b7 (oE aS) (oE aS);cases g5
    replace g8:=hB HB g8;replace g9:=hB HB g9;replace j3:=hB HB j3;have j8:=aM j5;have j9:=aM j4;clear j5 j4;have l5:=aM j7;have l6:=aM j6;clear j7 j6;have l7:=eT (b7);have l8:=eU (b7) l0.length;go_upto_if 15 with (first|((with_reducible refine gc 39 rfl ?_);refine gC 39 (some 14) Try.func39 #[.agg #[.bool ((ag l0 b7).f0),.slice e7 ((ag l0 b7).f1).length f6,.slice f7 ((ag l0 b7).f2).length f8]] ?_;(with_reducible refine(Azx.calls k1 ((ag l0 b7).f0) _ _ ((ag l0 b7).f1) _ _ ((ag l0 b7).f2) d7 _ ?_ ?_ ?_ ?_ d8.out).mono ?_);exact cB j8;exact j9.out;exact cB l5;exact l6.out;rintro e l9 ⟨rfl,hb⟩;refine⟨_,rfl,?_⟩;replace HB:=bB hb;clear hb))
    have H:=d9.out;clear d9;by_cases c7:d7=true
    ·subst c7;rw[if_pos rfl] at H;have H':=aM H;clear H;go_wp2
     go_roundg k1
     case measure=>have:=b8.out;omega
     case rel=>exact⟨(wrap64 (b7+1)),sD,H',⟨by have:=b8.out;omega⟩,⟨pB⟩⟩
    ·obtain rfl:=bN c7;rw[if_neg nF] at H
     obtain rfl:=Option.some.inj H;go_wp2
     go_ret
     exact⟨eW,pB⟩
   ·obtain rfl:=Option.some.inj H;go_wp2
    go_ret
    exact⟨eW,pB⟩


def Bzp.j0:Nat→List Int→List Int→Bool→Option (List Int × Int)
 | 0,_,_,_=>none
 | k+1,x0,x1,x13=>if x13=true then(some (([]:List Int),3)) else((Azw.f k x0 x1).bind fun t804=>((Bzz.f k t804).bind fun bt807=>(some (bt807.1,bt807.2))))
def Bzp.f (k:Nat) (l0:List Int) (l1:List Int):Option (List Int × Int):=(Azz.f k l0).bind fun t802=>(if t802=true then((Azz.f k l1).bind fun t803=>(Bzp.j0 k l0 l1 (!t803))) else(Bzp.j0 k l0 l1 true))
theorem Bzp.mono_l:∀ k,(∀ a6 a7 a8,LeO (Bzp.j0 k a6 a7 a8) (Bzp.j0 (k+1) a6 a7 a8))
 | 0=>fun _ _ _ r h=>by simp [Bzp.j0] at h
 | k+1=>by
  have ih0:=Bzp.mono_l k
  ·intro a6 a7 a8;unfold Bzp.j0;have i0:=@Azz.mono;have i1:=@Bzz.mono;have i2:=@Azw.mono;exact mM
theorem Bzp.mono:∀ a6 a7 k,LeO (Bzp.f k a6 a7) (Bzp.f (k+1) a6 a7):=by
 intro a6 a7 k;have ih0:=Bzp.mono_l k;unfold Bzp.f;have i0:=@Azz.mono;have i1:=@Bzz.mono;have i2:=@Azw.mono;exact mM
theorem Bzp.calls (k:Nat) (a6:Option Addr) (a7:Nat) (l0:List Int) (a8:Option Addr) (a9:Nat) (l1:List Int) (b4:List Int) (b5:Int) (w:World) (b6:cI w a6 l0) (b7:l0.length≤a7) (b8:cI w a8 l1) (b9:l1.length≤a9) (h:Bzp.f k l0 l1=some (b4,b5)) :
  Calls Try.prog 56 #[.slice a6 l0.length a7,.slice a8 l1.length a9] w fun e w'=>∃ v0_:Value,e=.returned (.tuple #[v0_,.int .i64 b5])∧rI w' w (fun _=>True) v0_ b4∧bw w w':=by
 have d6:=aM b6;have d7:=aM b7;clear b6 b7;have d8:=aM b8;have d9:=aM b9;clear b8 b9;have HB:=aM (Below.refl w.heap.size w);have H:((Azz.f k l0).bind fun e6=>(if e6=true then((Azz.f k l1).bind fun e7=>(Bzp.j0 k l0 l1 (!e7))) else(Bzp.j0 k l0 l1 true)))=some (b4,b5):=h
 clear h;have f6:=aM H;clear H;go_enter Try.func56,Try.ntmps56
 go_upto_region 1 with (fail)
 go_cut [13] (fun f7 wc=>∃ (kq:Nat) (f8:Bool),f7=.bool f8∧ae (Bzp.j0 kq l0 l1 f8=some (b4,b5))∧ae (kq≤k)∧ae (bw w wc))
 case first =>
  have H:=f6.out;clear f6;obtain⟨e6,g5,H⟩:=bT H;(try dsimp only at H);by_cases c5:e6=true
  ·subst c5;rw[if_pos rfl] at H;obtain⟨e7,g8,H⟩:=bT H;(try dsimp only at H);have H':=aM H;clear H;go_wp2_with (first|((with_reducible refine gc 70 rfl ?_);refine gC 70 (some 7) Try.func70 #[.slice a6 l0.length a7] ?_;(with_reducible refine(Azz.calls k _ _ l0 true _ ?_ ?_ g5.out).mono ?_);exact cB d6;exact d7.out;rintro e w' ⟨rfl,⟨nd,rfl⟩⟩;refine⟨_,rfl,?_⟩)|(go_at_call 70;(with_reducible refine(Azz.calls k _ _ l1 e7 _ ?_ ?_ g8.out).mono ?_);exact cB d8;exact d9.out;rintro e w' ⟨rfl,⟨nd,rfl⟩⟩))
   go_meet
   case rel=>exact⟨_,(!e7),sD,H',⟨by first|omega|exact Nat.le_refl _⟩,⟨pB⟩⟩
  ·obtain rfl:=bN c5;rw[if_neg nF] at H
   have H':=aM H;clear H;go_wp2_with (first|((with_reducible refine gc 70 rfl ?_);refine gC 70 (some 7) Try.func70 #[.slice a6 l0.length a7] ?_;(with_reducible refine(Azz.calls k _ _ l0 false _ ?_ ?_ g5.out).mono ?_);exact cB d6;exact d7.out;rintro e w' ⟨rfl,⟨nd,rfl⟩⟩;refine⟨_,rfl,?_⟩))
   go_meet
   case rel=>exact⟨_,(true),sD,H',⟨by first|omega|exact Nat.le_refl _⟩,⟨pB⟩⟩
 case rest =>
  clear f6;try clear a9
  obtain⟨kq,f8,rfl,HA,g9,HB⟩:=hcut;cases kq with
  | zero=>exact absurd HA.out (by simp [Bzp.j0])
  | succ j3 =>
   have H:=HA.out;clear HA;simp only[Bzp.j0] at H;by_cases c7:f8=true
   ·subst c7;rw[if_pos rfl] at H;obtain⟨rfl,rfl⟩:=q2 H;go_wp2
    go_ret2
    exact⟨_,eW,nK,pB⟩
   ·obtain rfl:=bN c7;rw[if_neg nF] at H
    obtain⟨j4,j5,H⟩:=bT H;(try dsimp only at H);replace H:=bS H;obtain⟨⟨j6,j7⟩,j8,H⟩:=H;replace H:(some (j6,j7))=some (b4,b5):=H;have j9:=aM j8;clear j8;obtain⟨rfl,rfl⟩:=q2 H;go_wp2_with (first|((with_reducible refine gc 83 rfl ?_);refine gC 83 (some 16) Try.func83 #[.slice a6 l0.length a7,.slice a8 l1.length a9] ?_;(with_reducible refine(Azw.calls j3 _ _ l0 _ _ l1 j4 _ ?_ ?_ ?_ ?_ j5.out).mono ?_);exact cB d6;exact d7.out;exact cB d8;exact d9.out;rintro e l5 ⟨l6,rfl,l7,hb⟩;refine⟨_,rfl,?_⟩;have l8:=rL l7;replace HB:=bB hb;clear hb l7;obtain⟨l9,m0,rfl⟩:=Kd.aj l8.out)|((with_reducible refine gc 82 rfl ?_);refine gC 82 (some 17) Try.func82 #[.slice l9 j4.length m0] ?_;(with_reducible refine(Bzz.calls j3 _ _ j4 j6 j7 _ ?_ ?_ j9.out).mono ?_);exact cR l8;exact lR l8;rintro e m4 ⟨m5,rfl,l7,hb⟩;refine⟨_,rfl,?_⟩;have m6:=rL (rn l7 l8);replace l8:=rE l8 l7 hb;replace HB:=bB hb;clear hb l7))
    go_ret2
    exact⟨_,eW,by exact rX (Kd.ah m6.out (fun _ hk=>trivial)),pB⟩

def Ezf.f (k:Nat) (l0:List Int) (l1:List Int):Option (Int × Int):=(Azz.f k l0).bind fun t811=>(if t811=true then((Azz.f k l1).bind fun t812=>(if t812=true then((Bzq.f k l0 l1).bind fun t813=>(some (t813,0))) else(some (0,3)))) else(some (0,3)))
theorem Ezf.mono:∀ a6 a7 k,LeO (Ezf.f k a6 a7) (Ezf.f (k+1) a6 a7):=by
 intro a6 a7 k;unfold Ezf.f;have i0:=@Azz.mono;have i1:=@Bzq.mono;exact mM
theorem Ezf.calls (k:Nat) (a6:Option Addr) (a7:Nat) (l0:List Int) (a8:Option Addr) (a9:Nat) (l1:List Int) (b4:Int) (b5:Int) (w:World) (b6:cI w a6 l0) (b7:l0.length≤a7) (b8:cI w a8 l1) (b9:l1.length≤a9) (h:Ezf.f k l0 l1=some (b4,b5)) :
  Calls Try.prog 73 #[.slice a6 l0.length a7,.slice a8 l1.length a9] w fun e w'=>e=.returned (.tuple #[.int .i64 b4,.int .i64 b5])∧dC w w':=by
 have d6:=aM b6;have d7:=aM b7;clear b6 b7;have d8:=aM b8;have d9:=aM b9;clear b8 b9;have H:((Azz.f k l0).bind fun e6=>(if e6=true then((Azz.f k l1).bind fun e7=>(if e7=true then((Bzq.f k l0 l1).bind fun f6=>(some (f6,0))) else(some (0,3)))) else(some (0,3))))=some (b4,b5):=h
 clear h;obtain⟨e6,f7,H⟩:=bT H;(try dsimp only at H);by_cases c4:e6=true
 ·subst c4;rw[if_pos rfl] at H;obtain⟨e7,f8,H⟩:=bT H;(try dsimp only at H);have g5:=aM H;clear H;go_enter Try.func73,Try.ntmps73
  go_upto_if 13 with (first|((with_reducible refine gc 70 rfl ?_);refine gC 70 (some 7) Try.func70 #[.slice a6 l0.length a7] ?_;(with_reducible refine(Azz.calls k _ _ l0 true _ ?_ ?_ f7.out).mono ?_);exact cX d6.out;exact d7.out;rintro e w' ⟨rfl,⟨nd,rfl⟩⟩;refine⟨_,rfl,?_⟩)|(go_at_call 70;(with_reducible refine(Azz.calls k _ _ l1 e7 _ ?_ ?_ f8.out).mono ?_);exact cX d8.out;exact d9.out;rintro e w' ⟨rfl,⟨nd,rfl⟩⟩))
  have H:=g5.out;clear g5;by_cases c7:e7=true
  ·subst c7;rw[if_pos rfl] at H;replace H:=bS H;obtain⟨f6,g8,H⟩:=H;replace H:(some (f6,0))=some (b4,b5):=H;have g9:=aM g8;clear g8;obtain⟨rfl,rfl⟩:=q2 H;go_wp2_with (first|((with_reducible refine gc 99 rfl ?_);refine gC 99 (some 16) Try.func99 #[.slice a6 l0.length a7,.slice a8 l1.length a9] ?_;(with_reducible refine(Bzq.calls k _ _ l0 _ _ l1 f6 _ ?_ ?_ ?_ ?_ g9.out).mono ?_);exact cX d6.out;exact d7.out;exact cX d8.out;exact d9.out;rintro e w' ⟨rfl,⟨nd,rfl⟩⟩;refine⟨_,rfl,?_⟩))
   go_ret2
   exact⟨sD,dR⟩
  ·obtain rfl:=bN c7;rw[if_neg nF] at H
   obtain⟨rfl,rfl⟩:=q2 H;go_wp2
   go_ret2
   exact⟨sD,dR⟩
 ·obtain rfl:=bN c4;rw[if_neg nF] at H
  obtain⟨rfl,rfl⟩:=q2 H;go_enter Try.func73,Try.ntmps73
  go_wp2_with (first|((with_reducible refine gc 70 rfl ?_);refine gC 70 (some 7) Try.func70 #[.slice a6 l0.length a7] ?_;(with_reducible refine(Azz.calls k _ _ l0 false _ ?_ ?_ f7.out).mono ?_);exact cX d6.out;exact d7.out;rintro e w' ⟨rfl,⟨nd,rfl⟩⟩;refine⟨_,rfl,?_⟩))
  go_ret2
  exact⟨sD,dR⟩


mutual
def Azk.j0:Nat→List Int→List Int→Bool→Option (List Int × Int)
 | 0,_,_,_=>none
 | k+1,x0,x1,x17=>if x17=true then(some (([]:List Int),3)) else(Azk.l0 k x0 x1 ([]:List Int) 0 0)
def Azk.l0:Nat→List Int→List Int→List Int→Int→Int→Option (List Int × Int)
 | 0,_,_,_,_,_=>none
 | k+1,x0,x1,x6,x7,x8=>if x8 < (x0.length:Int) then(Azk.j2 k x0 x1 x6 x7 x8 true) else(if x8 < (x1.length:Int) then(Azk.j2 k x0 x1 x6 x7 x8 true) else(Azk.j2 k x0 x1 x6 x7 x8 (decide (x7 > 0))))
def Azk.j2:Nat→List Int→List Int→List Int→Int→Int→Bool→Option (List Int × Int)
 | 0,_,_,_,_,_,_=>none
 | k+1,x0,x1,x6,x7,x8,x31=>if x31=true then((Dzb.f x0 x8).bind fun t816=>((Dzb.f x1 x8).bind fun t817=>(if x6.length < 17592186044416 then(Azk.l0 k x0 x1 (x6 ++ [Int.tmod (wrap64 ((wrap64 (t816+t817))+x7)) 1000000000]) (wrap64 (Int.tdiv (wrap64 ((wrap64 (t816+t817))+x7)) 1000000000)) (wrap64 (x8+1))) else(none)))) else((Bzz.f k x6).bind fun bt821=>(some (bt821.1,bt821.2)))
end
def Azk.f (k:Nat) (l0:List Int) (l1:List Int):Option (List Int × Int):=(Azz.f k l0).bind fun t814=>(if t814=true then((Azz.f k l1).bind fun t815=>(Azk.j0 k l0 l1 (!t815))) else(Azk.j0 k l0 l1 true))
theorem Azk.mono_l:∀ k,(∀ a6 a7 a8,LeO (Azk.j0 k a6 a7 a8) (Azk.j0 (k+1) a6 a7 a8))∧(∀ a6 a7 a8 a9 b4,LeO (Azk.l0 k a6 a7 a8 a9 b4) (Azk.l0 (k+1) a6 a7 a8 a9 b4))∧(∀ a6 a7 a8 a9 b4 b5,LeO (Azk.j2 k a6 a7 a8 a9 b4 b5) (Azk.j2 (k+1) a6 a7 a8 a9 b4 b5))
 | 0=>⟨fun _ _ _ r h=>by simp [Azk.j0] at h,fun _ _ _ _ _ r h=>by simp [Azk.l0] at h,fun _ _ _ _ _ _ r h=>by simp [Azk.j2] at h⟩
 | k+1=>by
  obtain⟨ih0,ih1,ih2⟩:=Azk.mono_l k;have i0:=@Azz.mono;have i1:=@Bzz.mono;refine⟨?_,?_,?_⟩
  ·intro a6 a7 a8;unfold Azk.j0;exact mM
  ·intro a6 a7 a8 a9 b4;unfold Azk.l0;exact mM
  ·intro a6 a7 a8 a9 b4 b5;unfold Azk.j2;exact mM
theorem Azk.mono:∀ a6 a7 k,LeO (Azk.f k a6 a7) (Azk.f (k+1) a6 a7):=by
 intro a6 a7 k;obtain⟨ih0,ih1,ih2⟩:=Azk.mono_l k;unfold Azk.f;have i0:=@Azz.mono;have i1:=@Bzz.mono;exact mM
theorem Azk.calls (k:Nat) (a6:Option Addr) (a7:Nat) (l0:List Int) (a8:Option Addr) (a9:Nat) (l1:List Int) (b4:List Int) (b5:Int) (w:World) (b6:cI w a6 l0) (b7:l0.length≤a7) (b8:cI w a8 l1) (b9:l1.length≤a9) (h:Azk.f k l0 l1=some (b4,b5)) :
  Calls Try.prog 84 #[.slice a6 l0.length a7,.slice a8 l1.length a9] w fun e w'=>∃ v0_:Value,e=.returned (.tuple #[v0_,.int .i64 b5])∧rI w' w (fun _=>True) v0_ b4∧bw w w':=by
 have d6:=aM b6;have d7:=aM b7;clear b6 b7;have d8:=aM b8;have d9:=aM b9;clear b8 b9;have HB:=aM (Below.refl w.heap.size w);have H:((Azz.f k l0).bind fun e6=>(if e6=true then((Azz.f k l1).bind fun e7=>(Azk.j0 k l0 l1 (!e7))) else(Azk.j0 k l0 l1 true)))=some (b4,b5):=h
 clear h;have f6:=aM H;clear H;go_enter Try.func84,Try.ntmps84
 go_upto_region 1 with (fail)
 go_cut [17] (fun f7 wc=>∃ (kq:Nat) (f8:Bool),f7=.bool f8∧ae (Azk.j0 kq l0 l1 f8=some (b4,b5))∧ae (kq≤k)∧ae (bw w wc))
 case first =>
  have H:=f6.out;clear f6;obtain⟨e6,g5,H⟩:=bT H;(try dsimp only at H);by_cases c5:e6=true
  ·subst c5;rw[if_pos rfl] at H;obtain⟨e7,g8,H⟩:=bT H;(try dsimp only at H);have H':=aM H;clear H;go_wp2_with (first|((with_reducible refine gc 70 rfl ?_);refine gC 70 (some 11) Try.func70 #[.slice a6 l0.length a7] ?_;(with_reducible refine(Azz.calls k _ _ l0 true _ ?_ ?_ g5.out).mono ?_);exact cB d6;exact d7.out;rintro e w' ⟨rfl,⟨nd,rfl⟩⟩;refine⟨_,rfl,?_⟩)|(go_at_call 70;(with_reducible refine(Azz.calls k _ _ l1 e7 _ ?_ ?_ g8.out).mono ?_);exact cB d8;exact d9.out;rintro e w' ⟨rfl,⟨nd,rfl⟩⟩))
   go_meet
   case rel=>exact⟨_,(!e7),sD,H',⟨by first|omega|exact Nat.le_refl _⟩,⟨pB⟩⟩
  ·obtain rfl:=bN c5;rw[if_neg nF] at H
   have H':=aM H;clear H;go_wp2_with (first|((with_reducible refine gc 70 rfl ?_);refine gC 70 (some 11) Try.func70 #[.slice a6 l0.length a7] ?_;(with_reducible refine(Azz.calls k _ _ l0 false _ ?_ ?_ g5.out).mono ?_);exact cB d6;exact d7.out;rintro e w' ⟨rfl,⟨nd,rfl⟩⟩;refine⟨_,rfl,?_⟩))
   go_meet
   case rel=>exact⟨_,(true),sD,H',⟨by first|omega|exact Nat.le_refl _⟩,⟨pB⟩⟩
 case rest =>
  clear f6;try clear a9
  obtain⟨kq,f8,rfl,HA,g9,HB⟩:=hcut;cases kq with
  | zero=>exact absurd HA.out (by simp [Azk.j0])
  | succ j3 =>
   have H:=HA.out;clear HA;simp only[Azk.j0] at H;by_cases c7:f8=true
   ·subst c7;rw[if_pos rfl] at H;obtain⟨rfl,rfl⟩:=q2 H;go_wp2
    go_ret2
    exact⟨_,eW,nK,pB⟩
   ·obtain rfl:=bN c7;rw[if_neg nF] at H
    have H':=aM H;clear H;go_wp2
    go_loopg [6,7,8] j3 (fun kq j4 j5 j6 w'=>∃ (j7:List Int) (j8:Int) (j9:Int),j5=.int .i64 j8∧j6=.int .i64 j9∧ae (Azk.l0 kq l0 l1 j7 j8 j9=some (b4,b5))∧ae (kq≤j3)∧ae (rI w' w (fun _=>True) j4 j7)∧ae (bw w w'))
    case atStart=>exact⟨(([]:List Int)),(0),(0),sD,sD,H',⟨Nat.le_refl _⟩,⟨nK⟩,⟨pB⟩⟩
    case round =>
     clear H';try clear a9
     obtain⟨j7,j8,j9,rfl,rfl,HA,l5,l6,HB⟩:=hrel;cases gk with
     | zero=>exact absurd HA.out (by simp [Azk.l0])
     | succ k2 =>
      have H:=HA.out;clear HA;simp only[Azk.l0] at H;have l7:=aM H;clear H;go_upto_region 6 with (fail)
      go_cut [31] (fun l8 wc=>∃ (kq:Nat) (l9:Bool),l8=.bool l9∧ae (Azk.j2 kq l0 l1 j7 j8 j9 l9=some (b4,b5))∧ae (kq≤k2)∧ae (rI wc w (fun _=>True) u6 j7)∧ae (bw w wc))
      case first =>
       have H:=l7.out;clear l7;replace H:=iD H;rcases H with⟨m0,H⟩|⟨m0,H⟩
       ·(first|rw[m0]|(simp only[aH,bg];rw[m0])|skip)
        have H':=aM H;clear H;go_wp2
        go_meet
        case rel=>exact⟨_,(true),sD,H',⟨by have:=g9.out;have:=l5.out;first|omega|exact Nat.le_refl _⟩,⟨rX l6.out⟩,⟨pB⟩⟩
       ·(first|rw[m0]|(simp only[aH,bg];rw[m0])|skip)
        replace H:=iD H;rcases H with⟨m4,H⟩|⟨m4,H⟩
        ·have H':=aM H;clear H;go_wp2
         go_meet
         case rel=>exact⟨_,(true),sD,H',⟨by have:=g9.out;have:=l5.out;first|omega|exact Nat.le_refl _⟩,⟨rX l6.out⟩,⟨pB⟩⟩
        ·have H':=aM H;clear H;go_wp2
         go_meet
         case rel=>exact⟨_,(decide (j8 > 0)),sD,H',⟨by have:=g9.out;have:=l5.out;first|omega|exact Nat.le_refl _⟩,⟨rX l6.out⟩,⟨pB⟩⟩
      case rest =>
       clear l7;try clear a9
       obtain⟨kq,l9,rfl,HA,m5,l6,HB⟩:=hcut;cases kq with
       | zero=>exact absurd HA.out (by simp [Azk.j2])
       | succ m6 =>
        have H:=HA.out;clear HA;simp only[Azk.j2] at H;by_cases m7:l9=true
        ·subst m7;rw[if_pos rfl] at H;obtain⟨m8,m9,H⟩:=bT H;(try dsimp only at H);obtain⟨n0,n7,H⟩:=bT H;(try dsimp only at H);obtain⟨n8,H⟩:=iO H;have LMc14:=aM n8;clear n8;obtain⟨n9,o0⟩:∃ y_:List Int,y_=(j7 ++ [Int.tmod (wrap64 ((wrap64 (m8+n0))+j8)) 1000000000]):=⟨_,rfl⟩;replace H:(Azk.l0 m6 l0 l1 n9 (wrap64 (Int.tdiv (wrap64 ((wrap64 (m8+n0))+j8)) 1000000000)) (wrap64 (j9+1)))=some (b4,b5):=yE o0 H
         have o8:=aM o0;clear o0;have H':=aM H;clear H;go_wp2_with (first|((with_reducible refine gc 105 rfl ?_);refine gC 105 (some 36) Try.func105 #[.slice a6 l0.length a7,.int .i64 j9] ?_;(with_reducible refine(Dzb.calls _ _ l0 j9 m8 _ ?_ ?_ m9.out).mono ?_);exact cB d6;exact d7.out;rintro e w' ⟨rfl,⟨nd,rfl⟩⟩;refine⟨_,rfl,?_⟩)|((with_reducible refine gc 105 rfl ?_);refine gC 105 (some 39) Try.func105 #[.slice a8 l1.length a9,.int .i64 j9] ?_;(with_reducible refine(Dzb.calls _ _ l1 j9 n0 _ ?_ ?_ n7.out).mono ?_);exact cB d8;exact d9.out;rintro e w' ⟨rfl,⟨nd,rfl⟩⟩;refine⟨_,rfl,?_⟩)|((with_reducible refine dw (b:=.append) (xs:=#[.tmp 43,.tmp 46]) rfl ?_);(try(refine jP (by rfl) ?_;dsimp only));at_builtin;refine Kd.jy (Kd.int .i64) (w0:=w) w.heap.size rfl (.tmp 43) (.tmp 46) 31 3 (.int .i64 0) 8 rfl Try.underlying31 info3 rfl (by decide) (by omega) u6 j7 (Int.tmod (wrap64 ((wrap64 (m8+n0))+j8)) 1000000000) [.int .i64 (Int.tmod (wrap64 ((wrap64 (m8+n0))+j8)) 1000000000)] (fun _=>True) (fun _=>False) rfl rfl ?aP (fun _ hk=>hk.elim) ?aF ?aO ?aB ?aS ?aL ?_;(case aP=>exact rfl);(case aB=>exact pB);(case aF=>exact(fun _ _=>trivial));(case aO=>exact(rX l6.out));(case aS=>exact(ay pB));(case aL=>have:=LMc14.out;omega);intro o9 p9 ho hb hg hat;rw[← o8.out] at ho;have r6:=aM (ho);replace HB:=aM (hb);clear l6 ho hb hg hat))
         go_roundg m6
         case measure=>have:=g9.out;have:=l5.out;have:=m5.out;omega
         case rel=>exact⟨(n9),(wrap64 (Int.tdiv (wrap64 ((wrap64 (m8+n0))+j8)) 1000000000)),(wrap64 (j9+1)),sD,sD,H',⟨by have:=g9.out;have:=l5.out;have:=m5.out;omega⟩,⟨rX r6.out⟩,⟨pB⟩⟩
        ·obtain rfl:=bN m7;rw[if_neg nF] at H
         replace H:=bS H;obtain⟨⟨r7,r8⟩,r9,H⟩:=H;replace H:(some (r7,r8))=some (b4,b5):=H;have t4:=aM r9;clear r9;obtain⟨rfl,rfl⟩:=q2 H;obtain⟨t5,t6,rfl⟩:=Kd.aj l6.out;go_wp2_with (first|((with_reducible refine gc 82 rfl ?_);refine gC 82 (some 51) Try.func82 #[.slice t5 j7.length t6] ?_;(with_reducible refine(Bzz.calls m6 _ _ j7 r7 r8 _ ?_ ?_ t4.out).mono ?_);exact cR l6;exact lR l6;rintro e t7 ⟨t8,rfl,t9,hb⟩;refine⟨_,rfl,?_⟩;have z3:=rL (rn t9 l6);replace l6:=rE l6 t9 hb;replace HB:=bB hb;clear hb t9))
         go_ret2
         exact⟨_,eW,by exact rX (Kd.ah z3.out (fun _ hk=>trivial)),pB⟩


def Bzf.j0:Nat→List Int→List Int→Bool→Option (List Int × Int)
 | 0,_,_,_=>none
 | k+1,x0,x1,x13=>if x13=true then(some (([]:List Int),3)) else((Bzq.f k x0 x1).bind fun t827=>(if t827 < 0 then(some (([]:List Int),1)) else((Bzw.f k x0 x1).bind fun t828=>(some (t828,0)))))
def Bzf.f (k:Nat) (l0:List Int) (l1:List Int):Option (List Int × Int):=(Azz.f k l0).bind fun t825=>(if t825=true then((Azz.f k l1).bind fun t826=>(Bzf.j0 k l0 l1 (!t826))) else(Bzf.j0 k l0 l1 true))
theorem Bzf.mono_l:∀ k,(∀ a6 a7 a8,LeO (Bzf.j0 k a6 a7 a8) (Bzf.j0 (k+1) a6 a7 a8))
 | 0=>fun _ _ _ r h=>by simp [Bzf.j0] at h
 | k+1=>by
  have ih0:=Bzf.mono_l k
  ·intro a6 a7 a8;unfold Bzf.j0;have i0:=@Azz.mono;have i1:=@Bzq.mono;have i2:=@Bzw.mono;exact mM
theorem Bzf.mono:∀ a6 a7 k,LeO (Bzf.f k a6 a7) (Bzf.f (k+1) a6 a7):=by
 intro a6 a7 k;have ih0:=Bzf.mono_l k;unfold Bzf.f;have i0:=@Azz.mono;have i1:=@Bzq.mono;have i2:=@Bzw.mono;exact mM
theorem Bzf.calls (k:Nat) (a6:Option Addr) (a7:Nat) (l0:List Int) (a8:Option Addr) (a9:Nat) (l1:List Int) (b4:List Int) (b5:Int) (w:World) (b6:cI w a6 l0) (b7:l0.length≤a7) (b8:cI w a8 l1) (b9:l1.length≤a9) (h:Bzf.f k l0 l1=some (b4,b5)) :
  Calls Try.prog 85 #[.slice a6 l0.length a7,.slice a8 l1.length a9] w fun e w'=>∃ v0_:Value,e=.returned (.tuple #[v0_,.int .i64 b5])∧rI w' w (fun _=>True) v0_ b4∧bw w w':=by
 have d6:=aM b6;have d7:=aM b7;clear b6 b7;have d8:=aM b8;have d9:=aM b9;clear b8 b9;have HB:=aM (Below.refl w.heap.size w);have H:((Azz.f k l0).bind fun e6=>(if e6=true then((Azz.f k l1).bind fun e7=>(Bzf.j0 k l0 l1 (!e7))) else(Bzf.j0 k l0 l1 true)))=some (b4,b5):=h
 clear h;have f6:=aM H;clear H;go_enter Try.func85,Try.ntmps85
 go_upto_region 1 with (fail)
 go_cut [13] (fun f7 wc=>∃ (kq:Nat) (f8:Bool),f7=.bool f8∧ae (Bzf.j0 kq l0 l1 f8=some (b4,b5))∧ae (kq≤k)∧ae (bw w wc))
 case first =>
  have H:=f6.out;clear f6;obtain⟨e6,g5,H⟩:=bT H;(try dsimp only at H);by_cases c5:e6=true
  ·subst c5;rw[if_pos rfl] at H;obtain⟨e7,g8,H⟩:=bT H;(try dsimp only at H);have H':=aM H;clear H;go_wp2_with (first|((with_reducible refine gc 70 rfl ?_);refine gC 70 (some 7) Try.func70 #[.slice a6 l0.length a7] ?_;(with_reducible refine(Azz.calls k _ _ l0 true _ ?_ ?_ g5.out).mono ?_);exact cB d6;exact d7.out;rintro e w' ⟨rfl,⟨nd,rfl⟩⟩;refine⟨_,rfl,?_⟩)|(go_at_call 70;(with_reducible refine(Azz.calls k _ _ l1 e7 _ ?_ ?_ g8.out).mono ?_);exact cB d8;exact d9.out;rintro e w' ⟨rfl,⟨nd,rfl⟩⟩))
   go_meet
   case rel=>exact⟨_,(!e7),sD,H',⟨by first|omega|exact Nat.le_refl _⟩,⟨pB⟩⟩
  ·obtain rfl:=bN c5;rw[if_neg nF] at H
   have H':=aM H;clear H;go_wp2_with (first|((with_reducible refine gc 70 rfl ?_);refine gC 70 (some 7) Try.func70 #[.slice a6 l0.length a7] ?_;(with_reducible refine(Azz.calls k _ _ l0 false _ ?_ ?_ g5.out).mono ?_);exact cB d6;exact d7.out;rintro e w' ⟨rfl,⟨nd,rfl⟩⟩;refine⟨_,rfl,?_⟩))
   go_meet
   case rel=>exact⟨_,(true),sD,H',⟨by first|omega|exact Nat.le_refl _⟩,⟨pB⟩⟩
 case rest =>
  clear f6;try clear a9
  obtain⟨kq,f8,rfl,HA,g9,HB⟩:=hcut;cases kq with
  | zero=>exact absurd HA.out (by simp [Bzf.j0])
  | succ j3 =>
   have H:=HA.out;clear HA;simp only[Bzf.j0] at H;by_cases c7:f8=true
   ·subst c7;rw[if_pos rfl] at H;obtain⟨rfl,rfl⟩:=q2 H;go_wp2
    go_ret2
    exact⟨_,eW,nK,pB⟩
   ·obtain rfl:=bN c7;rw[if_neg nF] at H
    obtain⟨j4,j5,H⟩:=bT H;(try dsimp only at H);have j6:=aM H;clear H;go_upto_if 17 with (first|((with_reducible refine gc 99 rfl ?_);refine gC 99 (some 16) Try.func99 #[.slice a6 l0.length a7,.slice a8 l1.length a9] ?_;(with_reducible refine(Bzq.calls j3 _ _ l0 _ _ l1 j4 _ ?_ ?_ ?_ ?_ j5.out).mono ?_);exact cB d6;exact d7.out;exact cB d8;exact d9.out;rintro e w' ⟨rfl,⟨nd,rfl⟩⟩;refine⟨_,rfl,?_⟩))
    have H:=j6.out;clear j6;replace H:=iD H;rcases H with⟨j7,H⟩|⟨j7,H⟩
    ·(first|rw[j7]|(simp only[aH,bg];rw[j7])|skip)
     obtain⟨rfl,rfl⟩:=q2 H;go_wp2
     go_ret2
     exact⟨_,eW,nK,pB⟩
    ·(first|rw[j7]|(simp only[aH,bg];rw[j7])|skip)
     replace H:=bS H;obtain⟨j8,j9,H⟩:=H;replace H:(some (j8,0))=some (b4,b5):=H;have l5:=aM j9;clear j9;obtain⟨rfl,rfl⟩:=q2 H;go_wp2_with (first|((with_reducible refine gc 106 rfl ?_);refine gC 106 (some 20) Try.func106 #[.slice a6 l0.length a7,.slice a8 l1.length a9] ?_;(with_reducible refine(Bzw.calls j3 _ _ l0 _ _ l1 j8 _ ?_ ?_ ?_ ?_ l5.out).mono ?_);exact cB d6;exact d7.out;exact cB d8;exact d9.out;rintro e l6 ⟨l7,rfl,l8,hb⟩;refine⟨_,rfl,?_⟩;have l9:=rL l8;replace HB:=bB hb;clear hb l8))
     go_ret2
     exact⟨_,eW,rX l9.out,pB⟩

def Ezv.f (k:Nat) (a0:Bool) (l1:List Int) (a2:Bool) (l3:List Int):Option (Bool × List Int × Int):=if(a0 == a2)=true then((Azk.f k l1 l3).bind fun bt831=>(some (a0,bt831.1,bt831.2))) else((Ezf.f k l1 l3).bind fun bt835=>(if bt835.1≥0 then((Bzf.f k l1 l3).bind fun bt837=>(some (a0,bt837.1,bt837.2))) else((Bzf.f k l3 l1).bind fun bt841=>(some (a2,bt841.1,bt841.2)))))
theorem Ezv.mono:∀ a6 a7 a8 a9 k,LeO (Ezv.f k a6 a7 a8 a9) (Ezv.f (k+1) a6 a7 a8 a9):=by
 intro a6 a7 a8 a9 k;unfold Ezv.f;have i0:=@Azk.mono;have i1:=@Ezf.mono;have i2:=@Bzf.mono;exact mM
theorem Ezv.calls (k:Nat) (a6:Bool) (a7:Option Addr) (a8:Nat) (l1:List Int) (a9:Bool) (b4:Option Addr) (c3:Nat) (b5:List Int) (b6:Bool) (b7:List Int) (b8:Int) (w:World) (b9:cI w a7 l1) (d6:l1.length≤a8) (d7:cI w b4 b5) (d8:b5.length≤c3) (h:Ezv.f k a6 l1 a9 b5=some (b6,b7,b8)) :
  Calls Try.prog 57 #[.bool a6,.slice a7 l1.length a8,.bool a9,.slice b4 b5.length c3] w fun e w'=>∃ v1_:Value,e=.returned (.tuple #[.bool b6,v1_,.int .i64 b8])∧rI w' w (fun _=>True) v1_ b7∧bw w w':=by
 have d9:=aM b9;have e6:=aM d6;clear b9 d6;have e7:=aM d7;have f6:=aM d8;clear d7 d8;have HB:=aM (Below.refl w.heap.size w);have H:(if(a6 == a9)=true then((Azk.f k l1 b5).bind fun f7=>(some (a6,f7.1,f7.2))) else((Ezf.f k l1 b5).bind fun f8=>(if f8.1≥0 then((Bzf.f k l1 b5).bind fun g5=>(some (a6,g5.1,g5.2))) else((Bzf.f k b5 l1).bind fun g8=>(some (a9,g8.1,g8.2))))))=some (b6,b7,b8):=h
 clear h;by_cases c5:(a6 == a9)=true
 ·rw[if_pos c5] at H;have g9:(a6 == a9)=true:=c5;(try(have j3:decide (a6=a9)=true:=by simpa using c5))
  (try(have j4:(a6 == a9)=true:=by simpa using c5))
  clear c5;replace H:=bS H;obtain⟨⟨j5,j6⟩,j7,H⟩:=H;replace H:(some (a6,j5,j6))=some (b6,b7,b8):=H;have j8:=aM j7;clear j7;obtain⟨rfl,rfl,rfl⟩:=q3 H;go_enter Try.func57,Try.ntmps57
  go_wp2_with (first|((with_reducible refine gc 84 rfl ?_);refine gC 84 (some 25) Try.func84 #[.slice a7 l1.length a8,.slice b4 b5.length c3] ?_;(with_reducible refine(Azk.calls k _ _ l1 _ _ b5 j5 j6 _ ?_ ?_ ?_ ?_ j8.out).mono ?_);exact cX d9.out;exact e6.out;exact cX e7.out;exact f6.out;rintro e j9 ⟨l5,rfl,l6,hb⟩;refine⟨_,rfl,?_⟩;have l7:=rL l6;replace HB:=bB hb;clear hb l6))
  go_ret3
  exact⟨_,eW,rX l7.out,pB⟩
 ·rw[if_neg c5] at H;have g9:(a6 == a9)=false:=by simpa using c5
  (try(have j3:decide (a6=a9)=false:=by simpa using c5))
  (try(have j4:(a6 == a9)=false:=by simpa using c5))
  (try(have l8:¬ (a6=a9):=by simpa using c5))
  clear c5;obtain⟨⟨l9,m0⟩,m4,H⟩:=bT H;(try dsimp only at H);have m5:=aM H;clear H;go_enter Try.func57,Try.ntmps57
  go_upto_if 38 with (first|((with_reducible refine gc 73 rfl ?_);refine gC 73 (some 34) Try.func73 #[.slice a7 l1.length a8,.slice b4 b5.length c3] ?_;(with_reducible refine(Ezf.calls k _ _ l1 _ _ b5 l9 m0 _ ?_ ?_ ?_ ?_ m4.out).mono ?_);exact cX d9.out;exact e6.out;exact cX e7.out;exact f6.out;rintro e w' ⟨rfl,⟨nd,rfl⟩⟩;refine⟨_,rfl,?_⟩))
  have H:=m5.out;clear m5;by_cases c10:l9≥0
  ·rw[if_pos c10] at H;have m6:decide (0≤l9)=true:=dE c10;clear c10;(first|rw[m6]|(simp only[aH,bg];rw[m6])|skip)
   replace H:=bS H;obtain⟨⟨m7,m8⟩,m9,H⟩:=H;replace H:(some (a6,m7,m8))=some (b6,b7,b8):=H;have n0:=aM m9;clear m9;obtain⟨rfl,rfl,rfl⟩:=q3 H;go_wp2_with (first|((with_reducible refine gc 85 rfl ?_);refine gC 85 (some 42) Try.func85 #[.slice a7 l1.length a8,.slice b4 b5.length c3] ?_;(with_reducible refine(Bzf.calls k _ _ l1 _ _ b5 m7 m8 _ ?_ ?_ ?_ ?_ n0.out).mono ?_);exact cB d9;exact e6.out;exact cB e7;exact f6.out;rintro e n7 ⟨n8,rfl,l6,hb⟩;refine⟨_,rfl,?_⟩;have n9:=rL l6;replace HB:=bB hb;clear hb l6))
   go_ret3
   exact⟨_,eW,rX n9.out,pB⟩
  ·rw[if_neg c10] at H;have m6:decide (0≤l9)=false:=decide_eq_false c10;clear c10;(first|rw[m6]|(simp only[aH,bg];rw[m6])|skip)
   replace H:=bS H;obtain⟨⟨o0,o8⟩,o9,H⟩:=H;replace H:(some (a9,o0,o8))=some (b6,b7,b8):=H;have p9:=aM o9;clear o9;obtain⟨rfl,rfl,rfl⟩:=q3 H;go_wp2_with (first|((with_reducible refine gc 85 rfl ?_);refine gC 85 (some 51) Try.func85 #[.slice b4 b5.length c3,.slice a7 l1.length a8] ?_;(with_reducible refine(Bzf.calls k _ _ b5 _ _ l1 o0 o8 _ ?_ ?_ ?_ ?_ p9.out).mono ?_);exact cB e7;exact f6.out;exact cB d9;exact e6.out;rintro e r6 ⟨r7,rfl,l6,hb⟩;refine⟨_,rfl,?_⟩;have r8:=rL l6;replace HB:=bB hb;clear hb l6))
   go_ret3
   exact⟨_,eW,rX r8.out,pB⟩

end Go.Proofs.Ytbnpcplckcipfaa.Print
