import Derived.Test.YtnklckihalhlmaaPrint0
import Derived.Test.YtnklckihalhlmaaPrint45
import Derived.Test.YtnklckihalhlmaaPrint34
import Derived.Test.YtnklckihalhlmaaPrint37
import Derived.Test.YtnklckihalhlmaaPrint40
import Derived.Test.YtnklckihalhlmaaPrint42
namespace Go.Proofs.Ytnklckihalhlmaa.Print
open Go.RowKit Go.Proofs.YtnklckihalhlmaaW.PrintWords Go.Proofs.YtnklckihalhlmaaW.PrintLast Go.Proofs.YtnklckihalhlmaaW.PrintMore
attribute [local go_sem] max2_int min2_int max_two min_two max_three min_three max_four min_four
set_option linter.unusedVariables false
set_option maxRecDepth 100000
set_option maxHeartbeats 8000000
set_option linter.unusedSimpArgs false

def Fzj.f (k:Nat) (a0:Int) (l1:List Int):Option (List Int × Int):=(Bzz.f k a0 l1).bind fun bt704=>(some (bt704.1,bt704.2))
theorem Fzj.mono:∀ a6 a7 k,LeO (Fzj.f k a6 a7) (Fzj.f (k+1) a6 a7):=by
 intro a6 a7 k;unfold Fzj.f;have i0:=@Bzz.mono;exact mM
theorem Fzj.calls (k:Nat) (a6:Int) (a7:Option Addr) (a8:Nat) (l1:List Int) (a9:List Int) (b3:Int) (w:World) (b4:Kd.C (Kd.int .i64) w a7 l1.length l1) (b5:l1.length≤a8) (h:Fzj.f k a6 l1=some (a9,b3)) :
  Calls Try.prog 19 #[.int .i64 a6,.slice a7 l1.length a8] w fun e w'=>∃ v0_:Value,e=.returned (.tuple #[v0_,.int .i64 b3])∧Kd.R (Kd.int .i64) 3 w' w.heap.size (fun _=>True) v0_ a9∧Below w.heap.size w w':=by
 have b6:=aM b4;have b7:=aM b5;clear b4 b5;have HB:=aM (Below.refl w.heap.size w);have H:((Bzz.f k a6 l1).bind fun b8=>(some (b8.1,b8.2)))=some (a9,b3):=h
 clear h;replace H:=bS H;obtain⟨⟨b9,d0⟩,d1,H⟩:=H;replace H:(some (b9,d0))=some (a9,b3):=H;have d3:=aM d1;clear d1;obtain⟨rfl,rfl⟩:=q2 H;go_enter Try.func19,Try.ntmps19
 go_wp2_with (first|((with_reducible refine gc 37 rfl ?_);refine gC 37 (some 8) Try.func37 #[.int .i64 a6,.slice a7 l1.length a8] ?_;(with_reducible refine(Bzz.calls k a6 _ _ l1 b9 d0 _ ?_ ?_ d3.out).mono ?_);exact cX b6.out;exact b7.out;rintro e d4 ⟨d5,rfl,d6,hb⟩;refine⟨_,rfl,?_⟩;have d7:=rL d6;replace HB:=bB hb;clear hb d6))
 go_ret2
 exact⟨_,eW,rX d7.out,pB⟩

def Czb.l0:Nat→List Int→List Int→Int→Option (Bool)
 | 0,_,_,_=>none
 | k+1,x0,x1,x5=>if x5 < (x0.length:Int) then(if 0≤x5 then(if x5 < (x1.length:Int) then(if(rd x0 x5)=(rd x1 x5) then(Czb.l0 k x0 x1 (wrap64 (x5+1))) else(some false)) else(none)) else(none)) else(some true)
def Czb.f (k:Nat) (l0:List Int) (l1:List Int):Option (Bool):=if(l0.length:Int)=(l1.length:Int) then(Czb.l0 k l0 l1 0) else(some false)
theorem Czb.mono_l:∀ k,(∀ a6 a7 a8,LeO (Czb.l0 k a6 a7 a8) (Czb.l0 (k+1) a6 a7 a8))
 | 0=>fun _ _ _ r h=>by simp [Czb.l0] at h
 | k+1=>by
  have ih0:=Czb.mono_l k
  ·intro a6 a7 a8;unfold Czb.l0;exact mM
theorem Czb.mono:∀ a6 a7 k,LeO (Czb.f k a6 a7) (Czb.f (k+1) a6 a7):=by
 intro a6 a7 k;have ih0:=Czb.mono_l k;unfold Czb.f;exact mM
theorem Czb.calls (k:Nat) (a6:Option Addr) (a7:Nat) (l0:List Int) (a8:Option Addr) (a9:Nat) (l1:List Int) (r:Bool) (w:World) (b3:Kd.C (Kd.int .i64) w a6 l0.length l0) (b4:l0.length≤a7) (b5:Kd.C (Kd.int .i64) w a8 l1.length l1) (b6:l1.length≤a9) (h:Czb.f k l0 l1=some r) :
  Calls Try.prog 44 #[.slice a6 l0.length a7,.slice a8 l1.length a9] w fun e w'=>e=.returned (.bool r)∧Drawn0 w w':=by
 have b7:=aM b3;have b8:=aM b4;clear b3 b4;have b9:=aM b5;have d0:=aM b6;clear b5 b6;have H:(if(l0.length:Int)=(l1.length:Int) then(Czb.l0 k l0 l1 0) else(some false))=some r:=h
 clear h;by_cases c3:(l0.length:Int)=(l1.length:Int)
 ·rw[if_pos c3] at H;obtain⟨d1,d3⟩:=bE c3;have d4:(l0.length == l1.length)=true:=by first|simpa using c3|(simp at c3 ⊢;omega)
  clear c3;have H':=aM H;clear H;go_enter Try.func44,Try.ntmps44
  go_wp2
  repeat(go_quiet (fail);try go_wp2)
  go_loopg [5] k (fun kq d5 w'=>∃ (d6:Int),d5=.int .i64 d6∧Aside0 (Czb.l0 kq l0 l1 d6=some r)∧Aside0 (kq≤k)∧Drawn0 w w')
  case atStart=>exact⟨(0),sD,H',⟨Nat.le_refl _⟩,dR⟩
  case round =>
   clear H';try clear a9
   obtain⟨d6,rfl,HA,d7,⟨d8,rfl⟩⟩:=hrel;cases gk with
   | zero=>exact absurd HA.out (by simp [Czb.l0])
   | succ k1 =>
    have H:=HA.out;clear HA;simp only[Czb.l0] at H;by_cases c4:d6 < (l0.length:Int)
    ·rw[if_pos c4] at H;have d9:=dE c4;clear c4;obtain⟨e6,H⟩:=iN H;obtain⟨e7,H⟩:=iN H;by_cases c7:(rd l0 d6)=(rd l1 d6)
     ·rw[if_pos c7] at H;obtain⟨e8,f3⟩:=bE c7;clear c7;have H':=aM H;clear H;obtain⟨f4,f5,f6,f7,f8⟩:=aI b7.out d6;cases f5;obtain⟨f9,g6,g7,g8,g9⟩:=aI b9.out d6;cases g6;go_wp2
      repeat(go_quiet (fail);try go_wp2)
      go_roundg k1
      case measure=>have:=d7.out;omega
      case rel=>exact⟨(wrap64 (d6+1)),sD,H',⟨by have:=d7.out;omega⟩,dR⟩
     ·rw[if_neg c7] at H;obtain⟨e8,f3⟩:=bI c7;obtain rfl:=Option.some.inj H;obtain⟨f4,f5,f6,f7,f8⟩:=aI b7.out d6;cases f5;obtain⟨f9,g6,g7,g8,g9⟩:=aI b9.out d6;cases g6;go_wp2
      repeat(go_quiet (fail);try go_wp2)
      go_ret
      exact⟨sD,dR⟩
    ·rw[if_neg c4] at H;have d9:decide (d6 < (l0.length:Int))=false:=decide_eq_false c4;clear c4;obtain rfl:=Option.some.inj H;go_wp2
     repeat(go_quiet (fail);try go_wp2)
     go_ret
     exact⟨sD,dR⟩
 ·rw[if_neg c3] at H;obtain⟨d1,d3⟩:=bI c3;have d4:(l0.length == l1.length)=false:=by first|simpa using c3|(simp at c3 ⊢;omega)
  obtain rfl:=Option.some.inj H;go_enter Try.func44,Try.ntmps44
  go_wp2
  repeat(go_quiet (fail);try go_wp2)
  go_ret
  exact⟨sD,dR⟩


def Bzk.j0:Nat→Bool→Bool→List Int→List Int→Option (Bool)
 | 0,_,_,_,_=>none
 | k+1,x30,x711000,x711001,x711002=>if x30=true then(some false) else((Bzj.f k x711001 x711002).bind fun bt713=>(if bt713.2=0 then((Czb.f k bt713.1 (([1]:List Int))).bind fun t720=>(some t720)) else(some false)))
def Bzk.f (k:Nat) (a0_0:Bool) (l0_1:List Int) (l0_2:List Int):Option (Bool):=(Azy.f k l0_1).bind fun t711=>(if t711=true then((Azy.f k l0_2).bind fun t712=>(if t712=true then(if(l0_2.length:Int)=0 then(Bzk.j0 k true a0_0 l0_1 l0_2) else(if(l0_1.length:Int)=0 then(Bzk.j0 k a0_0 a0_0 l0_1 l0_2) else(Bzk.j0 k false a0_0 l0_1 l0_2))) else(Bzk.j0 k true a0_0 l0_1 l0_2))) else(Bzk.j0 k true a0_0 l0_1 l0_2))
theorem Bzk.mono_l:∀ k,(∀ a6 a7 a8 a9,LeO (Bzk.j0 k a6 a7 a8 a9) (Bzk.j0 (k+1) a6 a7 a8 a9))
 | 0=>fun _ _ _ _ r h=>by simp [Bzk.j0] at h
 | k+1=>by
  have ih0:=Bzk.mono_l k
  ·intro a6 a7 a8 a9;unfold Bzk.j0;have i0:=@Bzj.mono;have i1:=@Azy.mono;have i2:=@Czb.mono;exact mM
theorem Bzk.mono:∀ a6 a7 a8 k,LeO (Bzk.f k a6 a7 a8) (Bzk.f (k+1) a6 a7 a8):=by
 intro a6 a7 a8 k;have ih0:=Bzk.mono_l k;unfold Bzk.f;have i0:=@Bzj.mono;have i1:=@Azy.mono;have i2:=@Czb.mono;exact mM
theorem Bzk.calls (k:Nat) (a6:Bool) (a7:Option Addr) (a8:Nat) (a9:List Int) (b3:Option Addr) (b4:Nat) (b5:List Int) (r:Bool) (w:World) (b6:Kd.C (Kd.int .i64) w a7 a9.length a9) (b7:a9.length≤a8) (b8:Kd.C (Kd.int .i64) w b3 b5.length b5) (b9:b5.length≤b4) (h:Bzk.f k a6 a9 b5=some r) :
  Calls Try.prog 24 #[.agg #[.bool a6,.slice a7 a9.length a8,.slice b3 b5.length b4]] w fun e w'=>e=.returned (.bool r)∧Below w.heap.size w w':=by
 have hu39:=Try.underlying39;have d0:=aM b6;have d1:=aM b7;clear b6 b7;have d3:=aM b8;have d4:=aM b9;clear b8 b9;have HB:=aM (Below.refl w.heap.size w);have H:((Azy.f k a9).bind fun d5=>(if d5=true then((Azy.f k b5).bind fun d6=>(if d6=true then(if(b5.length:Int)=0 then(Bzk.j0 k true a6 a9 b5) else(if(a9.length:Int)=0 then(Bzk.j0 k a6 a6 a9 b5) else(Bzk.j0 k false a6 a9 b5))) else(Bzk.j0 k true a6 a9 b5))) else(Bzk.j0 k true a6 a9 b5)))=some r:=h
 clear h;have d7:=aM H;clear H;go_enter Try.func24,Try.ntmps24
 go_upto_region 1 with (first|((with_reducible refine gd 1 rfl ?_);refine bxg #[.bool a6,.slice a7 a9.length a8,.slice b3 b5.length b4] 39 ?_;intro d8 hg d9 e6 hb;have e7:=gA w hg;have e8:=gA w hg;replace HB:=bB hb;clear hb hg))
 (try simp only[Act.put,sA,sZ,sC])
 go_cut [30] (fun f3 wc=>∃ (kq:Nat) (f4:Bool),f3=.bool f4∧Aside0 (Bzk.j0 kq f4 a6 a9 b5=some r)∧Aside0 (kq≤k)∧Aside0 (wc.heap[d8]?=some (.cells #[.bool a6,(.slice a7 a9.length a8),(.slice b3 b5.length b4)] 39 (0,0)))∧Aside0 (Below w.heap.size w wc))
 case first =>
  have H:=d7.out;clear d7;obtain⟨d5,f5,H⟩:=bT H;(try dsimp only at H);by_cases c5:d5=true
  ·subst c5;rw[if_pos rfl] at H;obtain⟨d6,f6,H⟩:=bT H;(try dsimp only at H);by_cases c7:d6=true
   ·subst c7;rw[if_pos rfl] at H;by_cases c8:(b5.length:Int)=0
    ·rw[if_pos c8] at H;obtain⟨f7,f8⟩:=bE c8;clear c8;(first|rw[f7]|(simp only[i64_w,i32_w];rw[f7])|skip)
     have H':=aM H;clear H;obtain⟨f9,g6,g7,g8,g9,j5⟩:=bk3 e6;go_wp2_with (first|((with_reducible refine gc 42 rfl ?_);refine gC 42 (some 7) Try.func42 #[.slice a7 a9.length a8] ?_;(with_reducible refine(Azy.calls k _ _ a9 true _ ?_ ?_ f5.out).mono ?_);exact cB d0;exact d1.out;rintro e w' ⟨rfl,⟨nd,rfl⟩⟩;refine⟨_,rfl,?_⟩)|(go_at_call 42;(with_reducible refine(Azy.calls k _ _ b5 true _ ?_ ?_ f6.out).mono ?_);exact cB d3;exact d4.out;rintro e w' ⟨rfl,⟨nd,rfl⟩⟩))
     go_meet
     case rel=>exact⟨_,(true),sD,H',⟨by first|omega|exact Nat.le_refl _⟩,⟨by exact kW e6⟩,⟨pB⟩⟩
    ·rw[if_neg c8] at H;obtain⟨f7,f8⟩:=bI c8;have j9:¬ (b5=[]):=fun h_=>c8 (by rw[h_];rfl)
     (first|rw[f7]|(simp only[i64_w,i32_w];rw[f7])|skip)
     by_cases c10:(a9.length:Int)=0
     ·rw[if_pos c10] at H;obtain⟨l5,l6⟩:=bE c10;clear c10;have H':=aM H;clear H;obtain⟨l7,l8,l9,m4,m5,m6⟩:=bk3 e6;go_wp2_with (first|((with_reducible refine gc 42 rfl ?_);refine gC 42 (some 7) Try.func42 #[.slice a7 a9.length a8] ?_;(with_reducible refine(Azy.calls k _ _ a9 true _ ?_ ?_ f5.out).mono ?_);exact cB d0;exact d1.out;rintro e w' ⟨rfl,⟨nd,rfl⟩⟩;refine⟨_,rfl,?_⟩)|(go_at_call 42;(with_reducible refine(Azy.calls k _ _ b5 true _ ?_ ?_ f6.out).mono ?_);exact cB d3;exact d4.out;rintro e w' ⟨rfl,⟨nd,rfl⟩⟩))
      go_meet
      case rel=>exact⟨_,(a6),sD,H',⟨by first|omega|exact Nat.le_refl _⟩,⟨by exact kW e6⟩,⟨pB⟩⟩
     ·rw[if_neg c10] at H;obtain⟨l5,l6⟩:=bI c10;have m7:¬ (a9=[]):=fun h_=>c10 (by rw[h_];rfl)
      have H':=aM H;clear H;obtain⟨m8,m9,n0,n1,n2,n3⟩:=bk3 e6;go_wp2_with (first|((with_reducible refine gc 42 rfl ?_);refine gC 42 (some 7) Try.func42 #[.slice a7 a9.length a8] ?_;(with_reducible refine(Azy.calls k _ _ a9 true _ ?_ ?_ f5.out).mono ?_);exact cB d0;exact d1.out;rintro e w' ⟨rfl,⟨nd,rfl⟩⟩;refine⟨_,rfl,?_⟩)|(go_at_call 42;(with_reducible refine(Azy.calls k _ _ b5 true _ ?_ ?_ f6.out).mono ?_);exact cB d3;exact d4.out;rintro e w' ⟨rfl,⟨nd,rfl⟩⟩))
      go_meet
      case rel=>exact⟨_,(false),sD,H',⟨by first|omega|exact Nat.le_refl _⟩,⟨by exact kW e6⟩,⟨pB⟩⟩
   ·obtain rfl:=bN c7;rw[if_neg nF] at H
    have H':=aM H;clear H;obtain⟨n4,n5,n6,n7,n8,n9⟩:=bk3 e6;go_wp2_with (first|((with_reducible refine gc 42 rfl ?_);refine gC 42 (some 7) Try.func42 #[.slice a7 a9.length a8] ?_;(with_reducible refine(Azy.calls k _ _ a9 true _ ?_ ?_ f5.out).mono ?_);exact cB d0;exact d1.out;rintro e w' ⟨rfl,⟨nd,rfl⟩⟩;refine⟨_,rfl,?_⟩)|(go_at_call 42;(with_reducible refine(Azy.calls k _ _ b5 false _ ?_ ?_ f6.out).mono ?_);exact cB d3;exact d4.out;rintro e w' ⟨rfl,⟨nd,rfl⟩⟩))
    go_meet
    case rel=>exact⟨_,(true),sD,H',⟨by first|omega|exact Nat.le_refl _⟩,⟨by exact kW e6⟩,⟨pB⟩⟩
  ·obtain rfl:=bN c5;rw[if_neg nF] at H
   have H':=aM H;clear H;obtain⟨o0,o1,o2,o3,o4,o5⟩:=bk3 e6;go_wp2_with (first|((with_reducible refine gc 42 rfl ?_);refine gC 42 (some 7) Try.func42 #[.slice a7 a9.length a8] ?_;(with_reducible refine(Azy.calls k _ _ a9 false _ ?_ ?_ f5.out).mono ?_);exact cB d0;exact d1.out;rintro e w' ⟨rfl,⟨nd,rfl⟩⟩;refine⟨_,rfl,?_⟩))
   go_meet
   case rel=>exact⟨_,(true),sD,H',⟨by first|omega|exact Nat.le_refl _⟩,⟨by exact kW e6⟩,⟨pB⟩⟩
 case rest =>
  clear d7;try clear o6
  obtain⟨kq,f4,rfl,HA,o7,e6,HB⟩:=hcut;cases kq with
  | zero=>exact absurd HA.out (by simp [Bzk.j0])
  | succ o8 =>
   have H:=HA.out;clear HA;simp only[Bzk.j0] at H;by_cases o9:f4=true
   ·subst o9;rw[if_pos rfl] at H;obtain rfl:=Option.some.inj H;go_wp2
    go_ret
    exact⟨eW,pB⟩
   ·obtain rfl:=bN o9;rw[if_neg nF] at H
    obtain⟨⟨p3,p7⟩,p9,H⟩:=bT H;(try dsimp only at H);by_cases r5:p7=0
    ·rw[if_pos r5] at H;obtain⟨r6,r7⟩:=bE r5;clear r5;obtain⟨r8,r9⟩:∃ y_:List Int,y_=(([1]:List Int)):=⟨_,rfl⟩;replace H:((Czb.f o8 p3 r8).bind fun t0=>(some t0))=some r:=yE r9 H
     have t1:=aM r9;clear r9;replace H:=bS H;obtain⟨t0,t2,H⟩:=H;replace H:(some t0)=some r:=H;have t3:=aM t2;clear t2;obtain rfl:=Option.some.inj H;obtain⟨t4,t5,t6,t7,t8,t9⟩:=bk3 e6;go_wp2_with (first|((with_reducible refine gc 43 rfl ?_);refine gC 43 (some 36) Try.func43 #[.slice a7 a9.length a8,.slice b3 b5.length b4] ?_;(with_reducible refine(Bzj.calls o8 _ _ a9 (fun k_=>k_ < w.heap.size) _ _ b5 p3 p7 _ ?_ ?_ ?_ p9.out).mono ?_);exact cB d0;exact d1.out;exact Kd.V_mk d4.out (Kd.F_below (Kd.C_F (Kd.heap_int .i64) d3.out) pB);rintro e z3 ⟨z4,rfl,z5,hb⟩;refine⟨_,rfl,?_⟩;have z6:=rL (Kd.R_mono (ok':=fun k_=>True) z5 (fun _ hk_=>trivial));replace e6:=kb e6 hb;replace HB:=bB hb;clear hb z5)|((with_reducible refine gd 43 rfl ?_);refine iLg 43 [1] ?_;intro z7 z8 z9 hb;replace z9:=rY t1 z9;have B0:=rL (rn z9 z6);replace z6:=rE z6 z9 hb;replace e6:=kb e6 hb;replace HB:=bB hb;clear hb z9;obtain⟨B1,B8,rfl⟩:=Kd.R_slice z6.out;obtain⟨C0,C1,rfl⟩:=Kd.R_slice B0.out)|(go_at_call 44;(with_reducible refine(Czb.calls o8 _ _ p3 _ _ r8 t0 _ ?_ ?_ ?_ ?_ t3.out).mono ?_);exact cR z6;exact lR z6;exact cR B0;exact lR B0;rintro e w' ⟨rfl,⟨nd,rfl⟩⟩))
     go_ret
     exact⟨eW,pB⟩
    ·rw[if_neg r5] at H;obtain⟨r6,r7⟩:=bI r5;obtain rfl:=Option.some.inj H;obtain⟨C2,C3,C4,C6,C7,C8⟩:=bk3 e6;go_wp2_with (first|((with_reducible refine gc 43 rfl ?_);refine gC 43 (some 36) Try.func43 #[.slice a7 a9.length a8,.slice b3 b5.length b4] ?_;(with_reducible refine(Bzj.calls o8 _ _ a9 (fun k_=>k_ < w.heap.size) _ _ b5 p3 p7 _ ?_ ?_ ?_ p9.out).mono ?_);exact cB d0;exact d1.out;exact Kd.V_mk d4.out (Kd.F_below (Kd.C_F (Kd.heap_int .i64) d3.out) pB);rintro e C9 ⟨z4,rfl,z5,hb⟩;refine⟨_,rfl,?_⟩;have z6:=rL (Kd.R_mono (ok':=fun k_=>True) z5 (fun _ hk_=>trivial));replace e6:=kb e6 hb;replace HB:=bB hb;clear hb z5))
     go_ret
     exact⟨eW,pB⟩

def Czy.j0:Nat→List Int→List Int→Bool→Option (List Int × Int)
 | 0,_,_,_=>none
 | k+1,x0,x1,x13=>if x13=true then(some (([]:List Int),3)) else((Azp.f k x0 x1).bind fun t723=>((Bzb.f k t723).bind fun bt726=>(some (bt726.1,bt726.2))))
def Czy.f (k:Nat) (l0:List Int) (l1:List Int):Option (List Int × Int):=(Azy.f k l0).bind fun t721=>(if t721=true then((Azy.f k l1).bind fun t722=>(Czy.j0 k l0 l1 (!t722))) else(Czy.j0 k l0 l1 true))
theorem Czy.mono_l:∀ k,(∀ a6 a7 a8,LeO (Czy.j0 k a6 a7 a8) (Czy.j0 (k+1) a6 a7 a8))
 | 0=>fun _ _ _ r h=>by simp [Czy.j0] at h
 | k+1=>by
  have ih0:=Czy.mono_l k
  ·intro a6 a7 a8;unfold Czy.j0;have i0:=@Azy.mono;have i1:=@Bzb.mono;have i2:=@Azp.mono;exact mM
theorem Czy.mono:∀ a6 a7 k,LeO (Czy.f k a6 a7) (Czy.f (k+1) a6 a7):=by
 intro a6 a7 k;have ih0:=Czy.mono_l k;unfold Czy.f;have i0:=@Azy.mono;have i1:=@Bzb.mono;have i2:=@Azp.mono;exact mM
theorem Czy.calls (k:Nat) (a6:Option Addr) (a7:Nat) (l0:List Int) (a8:Option Addr) (a9:Nat) (l1:List Int) (b3:List Int) (b4:Int) (w:World) (b5:Kd.C (Kd.int .i64) w a6 l0.length l0) (b6:l0.length≤a7) (b7:Kd.C (Kd.int .i64) w a8 l1.length l1) (b8:l1.length≤a9) (h:Czy.f k l0 l1=some (b3,b4)) :
  Calls Try.prog 47 #[.slice a6 l0.length a7,.slice a8 l1.length a9] w fun e w'=>∃ v0_:Value,e=.returned (.tuple #[v0_,.int .i64 b4])∧Kd.R (Kd.int .i64) 3 w' w.heap.size (fun _=>True) v0_ b3∧Below w.heap.size w w':=by
 have b9:=aM b5;have d0:=aM b6;clear b5 b6;have d1:=aM b7;have d3:=aM b8;clear b7 b8;have HB:=aM (Below.refl w.heap.size w);have H:((Azy.f k l0).bind fun d4=>(if d4=true then((Azy.f k l1).bind fun d5=>(Czy.j0 k l0 l1 (!d5))) else(Czy.j0 k l0 l1 true)))=some (b3,b4):=h
 clear h;have d6:=aM H;clear H;go_enter Try.func47,Try.ntmps47
 go_upto_region 1 with (fail)
 go_cut [13] (fun d7 wc=>∃ (kq:Nat) (d8:Bool),d7=.bool d8∧Aside0 (Czy.j0 kq l0 l1 d8=some (b3,b4))∧Aside0 (kq≤k)∧Aside0 (Below w.heap.size w wc))
 case first =>
  have H:=d6.out;clear d6;obtain⟨d4,d9,H⟩:=bT H;(try dsimp only at H);by_cases c5:d4=true
  ·subst c5;rw[if_pos rfl] at H;obtain⟨d5,e6,H⟩:=bT H;(try dsimp only at H);have H':=aM H;clear H;go_wp2_with (first|((with_reducible refine gc 42 rfl ?_);refine gC 42 (some 7) Try.func42 #[.slice a6 l0.length a7] ?_;(with_reducible refine(Azy.calls k _ _ l0 true _ ?_ ?_ d9.out).mono ?_);exact cB b9;exact d0.out;rintro e w' ⟨rfl,⟨nd,rfl⟩⟩;refine⟨_,rfl,?_⟩)|(go_at_call 42;(with_reducible refine(Azy.calls k _ _ l1 d5 _ ?_ ?_ e6.out).mono ?_);exact cB d1;exact d3.out;rintro e w' ⟨rfl,⟨nd,rfl⟩⟩))
   go_meet
   case rel=>exact⟨_,(!d5),sD,H',⟨by first|omega|exact Nat.le_refl _⟩,⟨pB⟩⟩
  ·obtain rfl:=bN c5;rw[if_neg nF] at H
   have H':=aM H;clear H;go_wp2_with (first|((with_reducible refine gc 42 rfl ?_);refine gC 42 (some 7) Try.func42 #[.slice a6 l0.length a7] ?_;(with_reducible refine(Azy.calls k _ _ l0 false _ ?_ ?_ d9.out).mono ?_);exact cB b9;exact d0.out;rintro e w' ⟨rfl,⟨nd,rfl⟩⟩;refine⟨_,rfl,?_⟩))
   go_meet
   case rel=>exact⟨_,(true),sD,H',⟨by first|omega|exact Nat.le_refl _⟩,⟨pB⟩⟩
 case rest =>
  clear d6;try clear a9
  obtain⟨kq,d8,rfl,HA,e7,HB⟩:=hcut;cases kq with
  | zero=>exact absurd HA.out (by simp [Czy.j0])
  | succ e8 =>
   have H:=HA.out;clear HA;simp only[Czy.j0] at H;by_cases c7:d8=true
   ·subst c7;rw[if_pos rfl] at H;obtain⟨rfl,rfl⟩:=q2 H;go_wp2
    go_ret2
    exact⟨_,eW,nK,pB⟩
   ·obtain rfl:=bN c7;rw[if_neg nF] at H
    obtain⟨f3,f4,H⟩:=bT H;(try dsimp only at H);replace H:=bS H;obtain⟨⟨f5,f6⟩,f7,H⟩:=H;replace H:(some (f5,f6))=some (b3,b4):=H;have f8:=aM f7;clear f7;obtain⟨rfl,rfl⟩:=q2 H;go_wp2_with (first|((with_reducible refine gc 66 rfl ?_);refine gC 66 (some 16) Try.func66 #[.slice a6 l0.length a7,.slice a8 l1.length a9] ?_;(with_reducible refine(Azp.calls e8 _ _ l0 _ _ l1 f3 _ ?_ ?_ ?_ ?_ f4.out).mono ?_);exact cB b9;exact d0.out;exact cB d1;exact d3.out;rintro e f9 ⟨g6,rfl,g7,hb⟩;refine⟨_,rfl,?_⟩;have g8:=rL g7;replace HB:=bB hb;clear hb g7;obtain⟨g9,j5,rfl⟩:=Kd.R_slice g8.out)|((with_reducible refine gc 65 rfl ?_);refine gC 65 (some 17) Try.func65 #[.slice g9 f3.length j5] ?_;(with_reducible refine(Bzb.calls e8 _ _ f3 f5 f6 _ ?_ ?_ f8.out).mono ?_);exact cR g8;exact lR g8;rintro e j9 ⟨l5,rfl,g7,hb⟩;refine⟨_,rfl,?_⟩;have l6:=rL (rn g7 g8);replace g8:=rE g8 g7 hb;replace HB:=bB hb;clear hb g7))
    go_ret2
    exact⟨_,eW,by exact rX (Kd.R_mono l6.out (fun _ hk=>trivial)),pB⟩


def Dzz.j0:Nat→Bool→Bool→List Int→List Int→Bool→List Int→List Int→Option (Bool × List Int × List Int × Int)
 | 0,_,_,_,_,_,_,_=>none
 | k+1,x17,x731000,x731001,x731002,x732000,x732001,x732002=>if x17=true then(some (false,([]:List Int),([]:List Int),3)) else((Czy.f k x731001 x732001).bind fun bt735=>((Czy.f k x731002 x732002).bind fun bt739=>(if bt735.2=0 then(if bt739.2=0 then((Dzp.f k (x731000 != x732000) bt735.1 bt739.1).bind fun bt743=>(some (bt743.1,bt743.2.1,bt743.2.2,0))) else(some (false,([]:List Int),([]:List Int),2))) else(some (false,([]:List Int),([]:List Int),2)))))
def Dzz.f (k:Nat) (a0_0:Bool) (l0_1:List Int) (l0_2:List Int) (a1_0:Bool) (l1_1:List Int) (l1_2:List Int):Option (Bool × List Int × List Int × Int):=(Bzk.f k a0_0 l0_1 l0_2).bind fun t733=>(if t733=true then((Bzk.f k a1_0 l1_1 l1_2).bind fun t734=>(Dzz.j0 k (!t734) a0_0 l0_1 l0_2 a1_0 l1_1 l1_2)) else(Dzz.j0 k true a0_0 l0_1 l0_2 a1_0 l1_1 l1_2))
theorem Dzz.mono_l:∀ k,(∀ a6 a7 a8 a9 b3 b4 b5,LeO (Dzz.j0 k a6 a7 a8 a9 b3 b4 b5) (Dzz.j0 (k+1) a6 a7 a8 a9 b3 b4 b5))
 | 0=>fun _ _ _ _ _ _ _ r h=>by simp [Dzz.j0] at h
 | k+1=>by
  have ih0:=Dzz.mono_l k
  ·intro a6 a7 a8 a9 b3 b4 b5;unfold Dzz.j0;have i0:=@Czy.mono;have i1:=@Dzp.mono;have i2:=@Bzk.mono;exact mM
theorem Dzz.mono:∀ a6 a7 a8 a9 b3 b4 k,LeO (Dzz.f k a6 a7 a8 a9 b3 b4) (Dzz.f (k+1) a6 a7 a8 a9 b3 b4):=by
 intro a6 a7 a8 a9 b3 b4 k;have ih0:=Dzz.mono_l k;unfold Dzz.f;have i0:=@Czy.mono;have i1:=@Dzp.mono;have i2:=@Bzk.mono;exact mM
theorem Dzz.calls (k:Nat) (a6:Bool) (a7:Option Addr) (a8:Nat) (a9:List Int) (b3:Option Addr) (b4:Nat) (b5:List Int) (b6:Bool) (b7:Option Addr) (b8:Nat) (b9:List Int) (d0:Option Addr) (d1:Nat) (d3:List Int) (d4:Bool) (d5:List Int) (d6:List Int) (d7:Int) (w:World) (d8:Kd.C (Kd.int .i64) w a7 a9.length a9) (d9:a9.length≤a8) (e6:Kd.C (Kd.int .i64) w b3 b5.length b5) (e7:b5.length≤b4) (e8:Kd.C (Kd.int .i64) w b7 b9.length b9) (f3:b9.length≤b8) (f4:Kd.C (Kd.int .i64) w d0 d3.length d3) (f5:d3.length≤d1) (h:Dzz.f k a6 a9 b5 b6 b9 d3=some (d4,d5,d6,d7)) :
  Calls Try.prog 26 #[.agg #[.bool a6,.slice a7 a9.length a8,.slice b3 b5.length b4],.agg #[.bool b6,.slice b7 b9.length b8,.slice d0 d3.length d1]] w fun e w'=>∃ v1_ v2_:Value,e=.returned (.tuple #[.agg #[.bool d4,v1_,v2_],.int .i64 d7])∧Kd.R (Kd.int .i64) 3 w' w.heap.size (fun k_=>some k_≠(v2_:Value).ownBlock) v1_ d5∧Kd.R (Kd.int .i64) 3 w' w.heap.size (fun k_=>some k_≠(v1_:Value).ownBlock) v2_ d6∧Below w.heap.size w w':=by
 have hu39:=Try.underlying39;have f6:=aM d8;have f7:=aM d9;clear d8 d9;have f8:=aM e6;have f9:=aM e7;clear e6 e7;have g6:=aM e8;have g7:=aM f3;clear e8 f3;have g8:=aM f4;have g9:=aM f5;clear f4 f5;have HB:=aM (Below.refl w.heap.size w);have H:((Bzk.f k a6 a9 b5).bind fun j5=>(if j5=true then((Bzk.f k b6 b9 d3).bind fun j9=>(Dzz.j0 k (!j9) a6 a9 b5 b6 b9 d3)) else(Dzz.j0 k true a6 a9 b5 b6 b9 d3)))=some (d4,d5,d6,d7):=h
 clear h;have l5:=aM H;clear H;go_enter Try.func26,Try.ntmps26
 go_upto_region 1 with (first|((with_reducible refine gd 2 rfl ?_);refine bx #[.bool a6,.slice a7 a9.length a8,.slice b3 b5.length b4] 39 ?_;intro l6 hg l7 l8 hb;have l9:=gA w hg;have m4:=gA w hg;replace HB:=bB hb;clear hb hg)|((with_reducible refine gd 3 rfl ?_);refine bx #[.bool b6,.slice b7 b9.length b8,.slice d0 d3.length d1] 39 ?_;intro m5 hg m6 m7 hb;have m8:=gA w hg;have m9:=gA w hg;have n0:=nl hg l8;have n1:=ng hg l8;replace l8:=kb l8 hb;replace HB:=bB hb;clear hb hg)|((with_reducible refine gd 4 rfl ?_);refine bx #[.bool false,.slice none 0 0,.slice none 0 0] 39 ?_;intro n2 hg n3 n4 hb;have n5:=gA w hg;have n6:=gA w hg;have n7:=nl hg l8;have n8:=ng hg l8;have n9:=nl hg m7;have o0:=ng hg m7;replace l8:=kb l8 hb;replace m7:=kb m7 hb;replace HB:=bB hb;clear hb hg))
 (try simp only[Act.put,sA,sZ,sC])
 go_cut [17] (fun o1 wc=>∃ (kq:Nat) (o2:Bool),o1=.bool o2∧Aside0 (Dzz.j0 kq o2 a6 a9 b5 b6 b9 d3=some (d4,d5,d6,d7))∧Aside0 (kq≤k)∧Aside0 (wc.heap[l6]?=some (.cells #[.bool a6,(.slice a7 a9.length a8),(.slice b3 b5.length b4)] 39 (0,0)))∧Aside0 (wc.heap[m5]?=some (.cells #[.bool b6,(.slice b7 b9.length b8),(.slice d0 d3.length d1)] 39 (0,0)))∧Aside0 (wc.heap[n2]?=some (.cells #[.bool false,(.slice none 0 0),(.slice none 0 0)] 39 (0,0)))∧Aside0 (Below w.heap.size w wc))
 case first =>
  have H:=l5.out;clear l5;obtain⟨j5,o3,H⟩:=bT H;(try dsimp only at H);by_cases c8:j5=true
  ·subst c8;rw[if_pos rfl] at H;obtain⟨j9,o4,H⟩:=bT H;(try dsimp only at H);have H':=aM H;clear H;have o5:=n0.out;have o6:=n1.out;have o7:=n7.out;have o8:=n8.out;obtain⟨o9,p3,p7,p9,r5,r6⟩:=bk3 l8;go_wp2_with (first|((with_reducible refine gc 24 rfl ?_);refine gC 24 (some 11) Try.func24 #[.agg #[.bool a6,.slice a7 a9.length a8,.slice b3 b5.length b4]] ?_;(with_reducible refine(Bzk.calls k a6 _ _ a9 _ _ b5 true _ ?_ ?_ ?_ ?_ o3.out).mono ?_);exact cB f6;exact f7.out;exact cB f8;exact f9.out;rintro e r7 ⟨rfl,hb⟩;refine⟨_,rfl,?_⟩;replace l8:=kb l8 hb;replace m7:=kb m7 hb;replace n4:=kb n4 hb;replace HB:=bB hb;clear hb;have r8:=n9.out;have r9:=o0.out;obtain⟨t0,t1,t2,t3,t4,t5⟩:=bk3 m7)|(go_at_call 24;(with_reducible refine(Bzk.calls k b6 _ _ b9 _ _ d3 j9 _ ?_ ?_ ?_ ?_ o4.out).mono ?_);exact cB g6;exact g7.out;exact cB g8;exact g9.out;rintro e t6 ⟨rfl,hb⟩;replace l8:=kb l8 hb;replace m7:=kb m7 hb;replace n4:=kb n4 hb;replace HB:=bB hb;clear hb))
   go_meet
   case rel=>exact⟨_,(!j9),sD,H',⟨by first|omega|exact Nat.le_refl _⟩,⟨by exact kW l8⟩,⟨by exact kW m7⟩,⟨by exact kW n4⟩,⟨pB⟩⟩
  ·obtain rfl:=bN c8;rw[if_neg nF] at H
   have H':=aM H;clear H;have t7:=n0.out;have t8:=n1.out;have t9:=n7.out;have z3:=n8.out;obtain⟨z4,z5,z6,z7,z8,z9⟩:=bk3 l8;go_wp2_with (first|((with_reducible refine gc 24 rfl ?_);refine gC 24 (some 11) Try.func24 #[.agg #[.bool a6,.slice a7 a9.length a8,.slice b3 b5.length b4]] ?_;(with_reducible refine(Bzk.calls k a6 _ _ a9 _ _ b5 false _ ?_ ?_ ?_ ?_ o3.out).mono ?_);exact cB f6;exact f7.out;exact cB f8;exact f9.out;rintro e B0 ⟨rfl,hb⟩;refine⟨_,rfl,?_⟩;replace l8:=kb l8 hb;replace m7:=kb m7 hb;replace n4:=kb n4 hb;replace HB:=bB hb;clear hb))
   go_meet
   case rel=>exact⟨_,(true),sD,H',⟨by first|omega|exact Nat.le_refl _⟩,⟨by exact kW l8⟩,⟨by exact kW m7⟩,⟨by exact kW n4⟩,⟨pB⟩⟩
 case rest =>
  clear l5;try clear B1
  obtain⟨kq,o2,rfl,HA,B8,l8,m7,n4,HB⟩:=hcut;cases kq with
  | zero=>exact absurd HA.out (by simp [Dzz.j0])
  | succ C0 =>
   have H:=HA.out;clear HA;simp only[Dzz.j0] at H;by_cases C1:o2=true
   ·subst C1;rw[if_pos rfl] at H;obtain⟨rfl,rfl,rfl,rfl⟩:=q4 H;have C2:=n8.out;have C3:=n7.out;have C4:=o0.out;have C6:=n9.out;obtain⟨C7,C8,C9,D0,D1,D2⟩:=bk3 n4;go_wp2
    refine bodyPost_ret (results_ct rfl _ _ n2 39 #[.bool false,.slice none 0 0,.slice none 0 0] (0,0) _ rfl (kQ n4) Try.underlying39 rfl (by kernel_rfl)) rfl ?_
    exact⟨_,_,eW,nK,nK,pB⟩
   ·obtain rfl:=bN C1;rw[if_neg nF] at H
    obtain⟨⟨D3,D4⟩,D5,H⟩:=bT H;(try dsimp only at H);obtain⟨⟨D6,D7⟩,D8,H⟩:=bT H;(try dsimp only at H);by_cases D9:D4=0
    ·rw[if_pos D9] at H;obtain⟨E3,E4⟩:=bE D9;clear D9;by_cases E5:D7=0
     ·rw[if_pos E5] at H;obtain⟨E6,E7⟩:=bE E5;clear E5;replace H:=bS H;obtain⟨⟨E8,E9,F0⟩,F1,H⟩:=H;replace H:(some (E8,E9,F0,0))=some (d4,d5,d6,d7):=H;have F2:=aM F1;clear F1;obtain⟨rfl,rfl,rfl,rfl⟩:=q4 H;have F3:=n0.out;have F4:=n1.out;have F5:=n7.out;have F6:=n8.out;obtain⟨F7,F8,F9,G0,G1,G2⟩:=bk3 l8;have G3:=n9.out;have G4:=o0.out;obtain⟨G5,G6,G7,G8,G9,H1⟩:=bk3 m7;go_wp2_with (first|((with_reducible refine gc 47 rfl ?_);refine gC 47 (some 24) Try.func47 #[.slice a7 a9.length a8,.slice b7 b9.length b8] ?_;(with_reducible refine(Czy.calls C0 _ _ a9 _ _ b9 D3 D4 _ ?_ ?_ ?_ ?_ D5.out).mono ?_);exact cB f6;exact f7.out;exact cB g6;exact g7.out;rintro e H2 ⟨H3,rfl,H4,hb⟩;refine⟨_,rfl,?_⟩;have H5:=rL H4;replace l8:=kb l8 hb;replace m7:=kb m7 hb;replace n4:=kb n4 hb;replace HB:=bB hb;clear hb H4;obtain⟨H6,H7,H8,H9,I0,I1⟩:=bk3 l8;obtain⟨I2,I3,I4,I5,I6,I7⟩:=bk3 m7)|((with_reducible refine gc 47 rfl ?_);refine gC 47 (some 32) Try.func47 #[.slice b3 b5.length b4,.slice d0 d3.length d1] ?_;(with_reducible refine(Czy.calls C0 _ _ b5 _ _ d3 D6 D7 _ ?_ ?_ ?_ ?_ D8.out).mono ?_);exact cB f8;exact f9.out;exact cB g8;exact g9.out;rintro e I8 ⟨I9,rfl,H4,hb⟩;refine⟨_,rfl,?_⟩;have J0:=rL (rn H4 H5);replace H5:=rE H5 H4 hb;replace l8:=kb l8 hb;replace m7:=kb m7 hb;replace n4:=kb n4 hb;replace HB:=bB hb;clear hb H4;obtain⟨J1,J2,J3,J4,J5,J6⟩:=bk3 l8;obtain⟨J7,J8,J9,K0,K1,K2⟩:=bk3 m7;obtain⟨K3,K4,rfl⟩:=Kd.R_slice H5.out;obtain⟨K5,K6,rfl⟩:=Kd.R_slice J0.out)|((with_reducible refine gc 46 rfl ?_);refine gC 46 (some 49) Try.func46 #[.bool (a6 != b6),.slice K3 D3.length K4,.slice K5 D6.length K6] ?_;(with_reducible refine(Dzp.calls C0 (a6 != b6) _ _ D3 _ _ D6 E8 E9 F0 _ ?_ ?_ ?_ ?_ F2.out).mono ?_);exact cR H5;exact lR H5;exact cR J0;exact lR J0;rintro e K7 ⟨K8,K9,rfl,H4,L0,hb⟩;refine⟨_,rfl,?_⟩;have L3:=rL (rn (rn H4 H5) J0);have L4:=rL (rn (rn L0 H5) J0);replace H5:=rO H5 hb H4 L0;replace J0:=rO J0 hb H4 L0;replace l8:=kb l8 hb;replace m7:=kb m7 hb;replace n4:=kb n4 hb;replace HB:=bB hb;clear hb H4 L0;obtain⟨L5,L6,L7,L8,L9,M0⟩:=bk3 n4;obtain⟨M1,M2,rfl⟩:=Kd.R_slice L3.out;obtain⟨M3,M4,rfl⟩:=Kd.R_slice L4.out))
      refine bodyPost_ret (results_ct rfl _ _ n2 39 #[.bool E8,.slice M1 E9.length M2,.slice M3 F0.length M4] (0,0) _ rfl (kQ n4) Try.underlying39 rfl (by kernel_rfl)) rfl ?_
      exact⟨_,_,eW,by exact Kd.R_mono (rT L3 n4) (fun _ hk=>hk.1.1),by exact Kd.R_mono (rT L4 n4) (fun _ hk=>hk.1.1),pB⟩
     ·rw[if_neg E5] at H;obtain⟨E6,E7⟩:=bI E5;obtain⟨rfl,rfl,rfl,rfl⟩:=q4 H;have M5:=n0.out;have M6:=n1.out;have M7:=n7.out;have M8:=n8.out;obtain⟨M9,N0,N1,N2,N3,N4⟩:=bk3 l8;have N5:=n9.out;have N6:=o0.out;obtain⟨N7,N8,N9,O0,O1,O2⟩:=bk3 m7;go_wp2_with (first|((with_reducible refine gc 47 rfl ?_);refine gC 47 (some 24) Try.func47 #[.slice a7 a9.length a8,.slice b7 b9.length b8] ?_;(with_reducible refine(Czy.calls C0 _ _ a9 _ _ b9 D3 D4 _ ?_ ?_ ?_ ?_ D5.out).mono ?_);exact cB f6;exact f7.out;exact cB g6;exact g7.out;rintro e O3 ⟨H3,rfl,H4,hb⟩;refine⟨_,rfl,?_⟩;have H5:=rL H4;replace l8:=kb l8 hb;replace m7:=kb m7 hb;replace n4:=kb n4 hb;replace HB:=bB hb;clear hb H4;obtain⟨O4,O5,O6,O7,O8,O9⟩:=bk3 l8;obtain⟨P2,P3,P4,P5,P6,P7⟩:=bk3 m7)|((with_reducible refine gc 47 rfl ?_);refine gC 47 (some 32) Try.func47 #[.slice b3 b5.length b4,.slice d0 d3.length d1] ?_;(with_reducible refine(Czy.calls C0 _ _ b5 _ _ d3 D6 D7 _ ?_ ?_ ?_ ?_ D8.out).mono ?_);exact cB f8;exact f9.out;exact cB g8;exact g9.out;rintro e P8 ⟨I9,rfl,H4,hb⟩;refine⟨_,rfl,?_⟩;have J0:=rL (rn H4 H5);replace H5:=rE H5 H4 hb;replace l8:=kb l8 hb;replace m7:=kb m7 hb;replace n4:=kb n4 hb;replace HB:=bB hb;clear hb H4;obtain⟨P9,Q2,Q3,Q4,Q5,Q6⟩:=bk3 n4))
      refine bodyPost_ret (results_ct rfl _ _ n2 39 #[.bool false,.slice none 0 0,.slice none 0 0] (0,0) _ rfl (kQ n4) Try.underlying39 rfl (by kernel_rfl)) rfl ?_
      exact⟨_,_,eW,nK,nK,pB⟩
    ·rw[if_neg D9] at H;obtain⟨E3,E4⟩:=bI D9;obtain⟨rfl,rfl,rfl,rfl⟩:=q4 H;have Q7:=n0.out;have Q8:=n1.out;have Q9:=n7.out;have R0:=n8.out;obtain⟨R1,R2,R3,R4,R5,R6⟩:=bk3 l8;have R7:=n9.out;have R8:=o0.out;obtain⟨R9,U0,U1,U2,U3,U4⟩:=bk3 m7;go_wp2_with (first|((with_reducible refine gc 47 rfl ?_);refine gC 47 (some 24) Try.func47 #[.slice a7 a9.length a8,.slice b7 b9.length b8] ?_;(with_reducible refine(Czy.calls C0 _ _ a9 _ _ b9 D3 D4 _ ?_ ?_ ?_ ?_ D5.out).mono ?_);exact cB f6;exact f7.out;exact cB g6;exact g7.out;rintro e U5 ⟨H3,rfl,H4,hb⟩;refine⟨_,rfl,?_⟩;have H5:=rL H4;replace l8:=kb l8 hb;replace m7:=kb m7 hb;replace n4:=kb n4 hb;replace HB:=bB hb;clear hb H4;obtain⟨U6,U7,U8,U9,V0,V1⟩:=bk3 l8;obtain⟨V2,V3,V4,V5,V6,V7⟩:=bk3 m7)|((with_reducible refine gc 47 rfl ?_);refine gC 47 (some 32) Try.func47 #[.slice b3 b5.length b4,.slice d0 d3.length d1] ?_;(with_reducible refine(Czy.calls C0 _ _ b5 _ _ d3 D6 D7 _ ?_ ?_ ?_ ?_ D8.out).mono ?_);exact cB f8;exact f9.out;exact cB g8;exact g9.out;rintro e V8 ⟨I9,rfl,H4,hb⟩;refine⟨_,rfl,?_⟩;have J0:=rL (rn H4 H5);replace H5:=rE H5 H4 hb;replace l8:=kb l8 hb;replace m7:=kb m7 hb;replace n4:=kb n4 hb;replace HB:=bB hb;clear hb H4;obtain⟨V9,W0,W3,W4,W5,W6⟩:=bk3 n4))
     refine bodyPost_ret (results_ct rfl _ _ n2 39 #[.bool false,.slice none 0 0,.slice none 0 0] (0,0) _ rfl (kQ n4) Try.underlying39 rfl (by kernel_rfl)) rfl ?_
     exact⟨_,_,eW,nK,nK,pB⟩

def Fzx.f (k:Nat) (a0:Int):Option (Bool × List Int × List Int × Int):=(Bzy.f k a0 1).bind fun bt751=>(some (bt751.1,bt751.2.1,bt751.2.2.1,bt751.2.2.2))
theorem Fzx.mono:∀ a6 k,LeO (Fzx.f k a6) (Fzx.f (k+1) a6):=by
 intro a6 k;unfold Fzx.f;have i0:=@Bzy.mono;exact mM
theorem Fzx.calls (k:Nat) (a6:Int) (a7:Bool) (a8:List Int) (a9:List Int) (b3:Int) (w:World) (h:Fzx.f k a6=some (a7,a8,a9,b3)) :
  Calls Try.prog 27 #[.int .i64 a6] w fun e w'=>∃ v1_ v2_:Value,e=.returned (.tuple #[.agg #[.bool a7,v1_,v2_],.int .i64 b3])∧Kd.R (Kd.int .i64) 3 w' w.heap.size (fun k_=>some k_≠(v2_:Value).ownBlock) v1_ a8∧Kd.R (Kd.int .i64) 3 w' w.heap.size (fun k_=>some k_≠(v1_:Value).ownBlock) v2_ a9∧Below w.heap.size w w':=by
 have hu39:=Try.underlying39;have HB:=aM (Below.refl w.heap.size w);have H:((Bzy.f k a6 1).bind fun b4=>(some (b4.1,b4.2.1,b4.2.2.1,b4.2.2.2)))=some (a7,a8,a9,b3):=h
 clear h;replace H:=bS H;obtain⟨⟨b5,b6,b7,b8⟩,b9,H⟩:=H;replace H:(some (b5,b6,b7,b8))=some (a7,a8,a9,b3):=H;have d0:=aM b9;clear b9;obtain⟨rfl,rfl,rfl,rfl⟩:=q4 H;go_enter Try.func27,Try.ntmps27
 go_wp2_with (first|((with_reducible refine gd 2 rfl ?_);refine bx #[.bool false,.slice none 0 0,.slice none 0 0] 39 ?_;intro d1 hg d3 d4 hb;have d5:=gA w hg;have d6:=gA w hg;replace HB:=bB hb;clear hb hg)|((with_reducible refine gc 25 rfl ?_);refine gC 25 (some 5) Try.func25 #[.int .i64 a6,.int .i64 1] ?_;(with_reducible refine(Bzy.calls k a6 1 b5 b6 b7 b8 _ d0.out).mono ?_);rintro e d7 ⟨d8,d9,rfl,e6,e7,hb⟩;refine⟨_,rfl,?_⟩;have e8:=rL e6;have f3:=rL e7;replace d4:=kb d4 hb;replace HB:=bB hb;clear hb e6 e7;obtain⟨f4,f5,f6,f7,f8,f9⟩:=bk3 d4;obtain⟨g6,g7,rfl⟩:=Kd.R_slice e8.out;obtain⟨g8,g9,rfl⟩:=Kd.R_slice f3.out))
 refine bodyPost_ret (results_ct rfl _ _ d1 39 #[.bool b5,.slice g6 b6.length g7,.slice g8 b7.length g9] (0,0) _ rfl (kQ d4) Try.underlying39 rfl (by kernel_rfl)) rfl ?_
 exact⟨_,_,eW,by exact Kd.R_mono (rT e8 d4) (fun _ hk=>hk),by exact Kd.R_mono (rT f3 d4) (fun _ hk=>hk),pB⟩

end Go.Proofs.Ytnklckihalhlmaa.Print
