import Derived.Test.YtnklckihalhlmaaPrint0
import Derived.Test.YtnklckihalhlmaaPrint4
import Derived.Test.YtnklckihalhlmaaPrint5
namespace Go.Proofs.Ytnklckihalhlmaa.Print
open Go.RowKit Go.Proofs.YtnklckihalhlmaaW.PrintWords Go.Proofs.YtnklckihalhlmaaW.PrintLast Go.Proofs.YtnklckihalhlmaaW.PrintMore
attribute [local go_sem] max2_int min2_int max_two min_two max_three min_three max_four min_four
set_option linter.unusedVariables false
set_option maxRecDepth 100000
set_option maxHeartbeats 8000000
set_option linter.unusedSimpArgs false

def Bzq.l0:Nat→List Int→Int→Int→Option (Int)
 | 0,_,_,_=>none
 | k+1,x0,x7,x8=>if x8 < x7 then(if 0≤x8 then(if x8 < (x0.length:Int) then((Gzp.f (rd x0 x8)).bind fun t133=>(if t133=true then(some x8) else(Bzq.l0 k x0 x7 (wrap64 (x8+1))))) else(none)) else(none)) else(some (-1))
def Bzq.f (k:Nat) (l0:List Int)  : Option (Int):=Bzq.l0 k l0 (l0.length:Int) 0
theorem Bzq.mono_l:∀ k,(∀ a6 a7 a8,LeO (Bzq.l0 k a6 a7 a8) (Bzq.l0 (k+1) a6 a7 a8))
 | 0=>fun _ _ _ r h=>by simp [Bzq.l0] at h
 | k+1=>by
  have ih0:=Bzq.mono_l k
  ·intro a6 a7 a8;unfold Bzq.l0;exact mM
theorem Bzq.mono:∀ a6 k,LeO (Bzq.f k a6) (Bzq.f (k+1) a6):=by
 intro a6 k;have ih0:=Bzq.mono_l k;unfold Bzq.f;exact mM
theorem Bzq.calls (k:Nat) (a6:Option Addr) (a7:Nat) (l0:List Int)  (r:Int) (w:World) (a8:Kd.C (Kd.int .i64) w a6 l0.length l0) (a9:l0.length≤a7) (h:Bzq.f k l0=some r) :
  Calls Try.prog 86 #[.slice a6 l0.length a7,.func (.func 74) #[] #[]] w fun e w'=>e=.returned (.int .i64 r)∧Drawn0 w w':=by
 have b3:=aM a8;have b4:=aM a9;clear a8 a9;have H:(Bzq.l0 k l0 (l0.length:Int) 0)=some r:=h;clear h;have H':=aM H;clear H;go_enter Try.func86,Try.ntmps86
 go_wp2
 go_loopg [8] k (fun kq b5 w'=>∃ (b6:Int),b5=.int .i64 b6∧Aside0 (Bzq.l0 kq l0 (l0.length:Int) b6=some r)∧Aside0 (kq≤k)∧Drawn0 w w')
 case atStart=>exact⟨(0),sD,H',⟨Nat.le_refl _⟩,dR⟩
 case round =>
  clear H';try clear p2
  obtain⟨b6,rfl,HA,b7,⟨b8,rfl⟩⟩:=hrel;cases gk with
  | zero=>exact absurd HA.out (by simp [Bzq.l0])
  | succ k1 =>
   have H:=HA.out;clear HA;simp only[Bzq.l0] at H;by_cases c3:b6 < (l0.length:Int)
   ·rw[if_pos c3] at H;have b9:=dE c3;clear c3;obtain⟨d0,H⟩:=iN H;obtain⟨d1,H⟩:=iN H;obtain⟨d3,d4,H⟩:=bT H;(try dsimp only at H);by_cases c7:d3=true
    ·subst c7;rw[if_pos rfl] at H;obtain rfl:=Option.some.inj H;obtain⟨d5,d6,d7,d8,d9⟩:=aI b3.out b6;cases d6;go_wp2_with (first|(go_at_call 74;(with_reducible refine(Gzp.calls (rd l0 b6) true _ d4.out).mono ?_);rintro e w' ⟨rfl,⟨nd,rfl⟩⟩))
     go_ret
     exact⟨sD,dR⟩
    ·obtain rfl:=bN c7;rw[if_neg nF] at H
     have H':=aM H;clear H;obtain⟨d5,d6,d7,d8,d9⟩:=aI b3.out b6;cases d6;go_wp2_with (first|(go_at_call 74;(with_reducible refine(Gzp.calls (rd l0 b6) false _ d4.out).mono ?_);rintro e w' ⟨rfl,⟨nd,rfl⟩⟩))
     go_roundg k1
     case measure=>have:=b7.out;omega
     case rel=>exact⟨(wrap64 (b6+1)),sD,H',⟨by have:=b7.out;omega⟩,dR⟩
   ·rw[if_neg c3] at H;have b9:decide (b6 < (l0.length:Int))=false:=decide_eq_false c3;clear c3;obtain rfl:=Option.some.inj H;go_wp2
    go_ret
    exact⟨sD,dR⟩

def Bzf.f (k:Nat) (l0:List Int)  : Option (Bool):=(Bzq.f k l0).bind fun t134=>(some (decide (t134≥0)))
theorem Bzf.mono:∀ a6 k,LeO (Bzf.f k a6) (Bzf.f (k+1) a6):=by
 intro a6 k;unfold Bzf.f;have i0:=@Bzq.mono;exact mM
theorem Bzf.calls (k:Nat) (a6:Option Addr) (a7:Nat) (l0:List Int)  (r:Bool) (w:World) (a8:Kd.C (Kd.int .i64) w a6 l0.length l0) (a9:l0.length≤a7) (h:Bzf.f k l0=some r) :
  Calls Try.prog 73 #[.slice a6 l0.length a7,.func (.func 74) #[] #[]] w fun e w'=>e=.returned (.bool r)∧Drawn0 w w':=by
 have b3:=aM a8;have b4:=aM a9;clear a8 a9;have H:((Bzq.f k l0).bind fun b5=>(some (decide (b5≥0))))=some r:=h
 clear h;replace H:=bS H;obtain⟨b5,b6,H⟩:=H;replace H:(some (decide (b5≥0)))=some r:=H;have b7:=aM b6;clear b6;obtain rfl:=Option.some.inj H;go_enter Try.func73,Try.ntmps73
 go_wp2_with (first|((with_reducible refine gc 86 rfl ?_);refine gC 86 (some 7) Try.func86 #[.slice a6 l0.length a7,.func (.func 74) #[] #[]] ?_;(with_reducible refine(Bzq.calls k _ _ l0  b5 _ ?_ ?_ b7.out).mono ?_);exact cX b3.out;exact b4.out;rintro e w' ⟨rfl,⟨nd,rfl⟩⟩;refine⟨_,rfl,?_⟩))
 go_ret
 exact⟨sD,dR⟩

def Ezz.j0:Nat→Int→List Int→Bool→Option (Int × Int)
 | 0,_,_,_=>none
 | k+1,x0,x1,x8=>if x8=true then(some (0,1)) else(if(x1.length:Int)=0 then(some (0,10)) else(if(x1.length:Int) > 512 then(some (0,8)) else((Bzf.f k x1).bind fun t135=>(if t135=true then(some (0,1)) else((Fzv.f k x1).bind fun bt136=>(if bt136.2=0 then(if bt136.1=0 then(if x0 > 0 then(some (0,16)) else(some (bt136.1,0))) else(some (bt136.1,0))) else(some (0,2))))))))
def Ezz.f (k:Nat) (a0:Int) (l1:List Int):Option (Int × Int):=if a0 < 0 then(Ezz.j0 k a0 l1 true) else(Ezz.j0 k a0 l1 (decide (a0 > 1125899906842624)))
theorem Ezz.mono_l:∀ k,(∀ a6 a7 a8,LeO (Ezz.j0 k a6 a7 a8) (Ezz.j0 (k+1) a6 a7 a8))
 | 0=>fun _ _ _ r h=>by simp [Ezz.j0] at h
 | k+1=>by
  have ih0:=Ezz.mono_l k
  ·intro a6 a7 a8;unfold Ezz.j0;have i0:=@Fzv.mono;have i1:=@Bzf.mono;exact mM
theorem Ezz.mono:∀ a6 a7 k,LeO (Ezz.f k a6 a7) (Ezz.f (k+1) a6 a7):=by
 intro a6 a7 k;have ih0:=Ezz.mono_l k;unfold Ezz.f;have i0:=@Fzv.mono;have i1:=@Bzf.mono;exact mM
theorem Ezz.calls (k:Nat) (a6:Int) (a7:Option Addr) (a8:Nat) (l1:List Int) (a9:Int) (b3:Int) (w:World) (b4:Kd.C (Kd.int .i64) w a7 l1.length l1) (b5:l1.length≤a8) (h:Ezz.f k a6 l1=some (a9,b3)) :
  Calls Try.prog 52 #[.int .i64 a6,.slice a7 l1.length a8] w fun e w'=>e=.returned (.tuple #[.int .i64 a9,.int .i64 b3])∧Below w.heap.size w w':=by
 have b6:=aM b4;have b7:=aM b5;clear b4 b5;have HB:=aM (Below.refl w.heap.size w);have H:(if a6 < 0 then(Ezz.j0 k a6 l1 true) else(Ezz.j0 k a6 l1 (decide (a6 > 1125899906842624))))=some (a9,b3):=h
 clear h;have b8:=aM H;clear H;go_enter Try.func52,Try.ntmps52
 go_upto_region 1 with (fail)
 go_cut [8] (fun b9 wc=>∃ (kq:Nat) (d0:Bool),b9=.bool d0∧Aside0 (Ezz.j0 kq a6 l1 d0=some (a9,b3))∧Aside0 (kq≤k)∧Aside0 (Below w.heap.size w wc))
 case first =>
  have H:=b8.out;clear b8;by_cases c4:a6 < 0
  ·rw[if_pos c4] at H;have d1:=dE c4;clear c4;(first|rw[d1]|(simp only[i64_w,i32_w];rw[d1])|skip)
   have H':=aM H;clear H;go_wp2
   go_meet
   case rel=>exact⟨_,(true),sD,H',⟨by first|omega|exact Nat.le_refl _⟩,⟨pB⟩⟩
  ·rw[if_neg c4] at H;have d1:decide (a6 < 0)=false:=decide_eq_false c4;clear c4;(first|rw[d1]|(simp only[i64_w,i32_w];rw[d1])|skip)
   have H':=aM H;clear H;go_wp2
   go_meet
   case rel=>exact⟨_,(decide (a6 > 1125899906842624)),sD,H',⟨by first|omega|exact Nat.le_refl _⟩,⟨pB⟩⟩
 case rest =>
  clear b8;try clear a8
  obtain⟨kq,d0,rfl,HA,d3,HB⟩:=hcut;cases kq with
  | zero=>exact absurd HA.out (by simp [Ezz.j0])
  | succ d4 =>
   have H:=HA.out;clear HA;simp only[Ezz.j0] at H;by_cases c5:d0=true
   ·subst c5;rw[if_pos rfl] at H;obtain⟨rfl,rfl⟩:=q2 H;go_wp2
    go_ret2
    exact⟨eW,pB⟩
   ·obtain rfl:=bN c5;rw[if_neg nF] at H
    by_cases c6:(l1.length:Int)=0
    ·rw[if_pos c6] at H;obtain⟨d5,d6⟩:=bE c6;clear c6;obtain⟨rfl,rfl⟩:=q2 H;go_wp2
     go_ret2
     exact⟨eW,pB⟩
    ·rw[if_neg c6] at H;obtain⟨d5,d6⟩:=bI c6;have d7:¬ (l1=[]):=fun h_=>c6 (by rw[h_];rfl)
     by_cases c7:(l1.length:Int) > 512
     ·rw[if_pos c7] at H;have d8:decide (512 < (l1.length:Int))=true:=dE c7;have d9:decide (512 < l1.length)=true:=dE (by omega)
      clear c7;obtain⟨rfl,rfl⟩:=q2 H;go_wp2
      go_ret2
      exact⟨eW,pB⟩
     ·rw[if_neg c7] at H;have d8:decide (512 < (l1.length:Int))=false:=decide_eq_false c7;have d9:decide (512 < l1.length)=false:=decide_eq_false (by omega)
      clear c7;obtain⟨e6,e7,H⟩:=bT H;(try dsimp only at H);by_cases c9:e6=true
      ·subst c9;rw[if_pos rfl] at H;obtain⟨rfl,rfl⟩:=q2 H;go_wp2_with (first|((with_reducible refine gc 73 rfl ?_);refine gC 73 (some 25) Try.func73 #[.slice a7 l1.length a8,.func (.func 74) #[] #[]] ?_;(with_reducible refine(Bzf.calls d4 _ _ l1  true _ ?_ ?_ e7.out).mono ?_);exact cB b6;exact b7.out;rintro e w' ⟨rfl,⟨nd,rfl⟩⟩;refine⟨_,rfl,?_⟩))
       go_ret2
       exact⟨eW,pB⟩
      ·obtain rfl:=bN c9;rw[if_neg nF] at H
       obtain⟨⟨e8,f3⟩,f4,H⟩:=bT H;(try dsimp only at H);by_cases f5:f3=0
       ·rw[if_pos f5] at H;obtain⟨f6,f7⟩:=bE f5;clear f5;by_cases f8:e8=0
        ·rw[if_pos f8] at H;obtain⟨f9,g6⟩:=bE f8;clear f8;by_cases g7:a6 > 0
         ·rw[if_pos g7] at H;have g8:decide (0 < a6)=true:=dE g7;clear g7;obtain⟨rfl,rfl⟩:=q2 H;go_wp2_with (first|((with_reducible refine gc 73 rfl ?_);refine gC 73 (some 25) Try.func73 #[.slice a7 l1.length a8,.func (.func 74) #[] #[]] ?_;(with_reducible refine(Bzf.calls d4 _ _ l1  false _ ?_ ?_ e7.out).mono ?_);exact cB b6;exact b7.out;rintro e w' ⟨rfl,⟨nd,rfl⟩⟩;refine⟨_,rfl,?_⟩)|((with_reducible refine gc 75 rfl ?_);refine gC 75 (some 28) Try.func75 #[.slice a7 l1.length a8] ?_;(with_reducible refine(Fzv.calls d4 _ _ l1 e8 f3 _ ?_ ?_ f4.out).mono ?_);exact cB b6;exact b7.out;rintro e g9 ⟨rfl,hb⟩;refine⟨_,rfl,?_⟩;replace HB:=bB hb;clear hb))
          go_ret2
          exact⟨eW,pB⟩
         ·rw[if_neg g7] at H;have g8:decide (0 < a6)=false:=decide_eq_false g7;clear g7;obtain⟨rfl,rfl⟩:=q2 H;go_wp2_with (first|((with_reducible refine gc 73 rfl ?_);refine gC 73 (some 25) Try.func73 #[.slice a7 l1.length a8,.func (.func 74) #[] #[]] ?_;(with_reducible refine(Bzf.calls d4 _ _ l1  false _ ?_ ?_ e7.out).mono ?_);exact cB b6;exact b7.out;rintro e w' ⟨rfl,⟨nd,rfl⟩⟩;refine⟨_,rfl,?_⟩)|((with_reducible refine gc 75 rfl ?_);refine gC 75 (some 28) Try.func75 #[.slice a7 l1.length a8] ?_;(with_reducible refine(Fzv.calls d4 _ _ l1 e8 f3 _ ?_ ?_ f4.out).mono ?_);exact cB b6;exact b7.out;rintro e j5 ⟨rfl,hb⟩;refine⟨_,rfl,?_⟩;replace HB:=bB hb;clear hb))
          go_ret2
          exact⟨eW,pB⟩
        ·rw[if_neg f8] at H;obtain⟨f9,g6⟩:=bI f8;obtain⟨rfl,rfl⟩:=q2 H;go_wp2_with (first|((with_reducible refine gc 73 rfl ?_);refine gC 73 (some 25) Try.func73 #[.slice a7 l1.length a8,.func (.func 74) #[] #[]] ?_;(with_reducible refine(Bzf.calls d4 _ _ l1  false _ ?_ ?_ e7.out).mono ?_);exact cB b6;exact b7.out;rintro e w' ⟨rfl,⟨nd,rfl⟩⟩;refine⟨_,rfl,?_⟩)|((with_reducible refine gc 75 rfl ?_);refine gC 75 (some 28) Try.func75 #[.slice a7 l1.length a8] ?_;(with_reducible refine(Fzv.calls d4 _ _ l1 e8 f3 _ ?_ ?_ f4.out).mono ?_);exact cB b6;exact b7.out;rintro e j9 ⟨rfl,hb⟩;refine⟨_,rfl,?_⟩;replace HB:=bB hb;clear hb))
         go_ret2
         exact⟨eW,pB⟩
       ·rw[if_neg f5] at H;obtain⟨f6,f7⟩:=bI f5;obtain⟨rfl,rfl⟩:=q2 H;go_wp2_with (first|((with_reducible refine gc 73 rfl ?_);refine gC 73 (some 25) Try.func73 #[.slice a7 l1.length a8,.func (.func 74) #[] #[]] ?_;(with_reducible refine(Bzf.calls d4 _ _ l1  false _ ?_ ?_ e7.out).mono ?_);exact cB b6;exact b7.out;rintro e w' ⟨rfl,⟨nd,rfl⟩⟩;refine⟨_,rfl,?_⟩)|((with_reducible refine gc 75 rfl ?_);refine gC 75 (some 28) Try.func75 #[.slice a7 l1.length a8] ?_;(with_reducible refine(Fzv.calls d4 _ _ l1 e8 f3 _ ?_ ?_ f4.out).mono ?_);exact cB b6;exact b7.out;rintro e l5 ⟨rfl,hb⟩;refine⟨_,rfl,?_⟩;replace HB:=bB hb;clear hb))
        go_ret2
        exact⟨eW,pB⟩

def Gzf.f (a0:Int) (a1:Int) (a2:Int):Option (Int × Int):=if a2=0 then(some (0,0)) else((Azj.f a0 a1 a2 0).bind fun bt138=>(some (bt138.1,wrap64 ((wrap64 (a0 * a1)) - (wrap64 (bt138.1 * a2))))))
theorem Gzf.calls (a6:Int) (a7:Int) (a8:Int) (a9:Int) (b3:Int) (w:World) (h:Gzf.f a6 a7 a8=some (a9,b3)) :
  Calls Try.prog 53 #[.int .i64 a6,.int .i64 a7,.int .i64 a8] w fun e w'=>e=.returned (.tuple #[.int .i64 a9,.int .i64 b3])∧Below w.heap.size w w':=by
 have HB:=aM (Below.refl w.heap.size w);have H:(if a8=0 then(some (0,0)) else((Azj.f a6 a7 a8 0).bind fun b4=>(some (b4.1,wrap64 ((wrap64 (a6 * a7)) - (wrap64 (b4.1 * a8)))))))=some (a9,b3):=h
 clear h;by_cases c4:a8=0
 ·rw[if_pos c4] at H;obtain⟨b5,b6⟩:=bE c4;clear c4;obtain⟨rfl,rfl⟩:=q2 H;go_enter Try.func53,Try.ntmps53
  go_wp2
  go_ret2
  exact⟨eW,pB⟩
 ·rw[if_neg c4] at H;obtain⟨b5,b6⟩:=bI c4;replace H:=bS H;obtain⟨⟨b7,b8⟩,b9,H⟩:=H;replace H:(some (b7,wrap64 ((wrap64 (a6 * a7)) - (wrap64 (b7 * a8)))))=some (a9,b3):=H;have d0:=aM b9;clear b9;obtain⟨rfl,rfl⟩:=q2 H;go_enter Try.func53,Try.ntmps53
  go_wp2_with (first|((with_reducible refine gc 50 rfl ?_);refine gC 50 (some 16) Try.func50 #[.int .i64 a6,.int .i64 a7,.int .i64 a8,.int .i64 0] ?_;(with_reducible refine(Azj.calls a6 a7 a8 0 b7 b8 _ d0.out).mono ?_);rintro e d1 ⟨rfl,hb⟩;refine⟨_,rfl,?_⟩;replace HB:=bB hb;clear hb))
  go_ret2
  exact⟨eW,pB⟩








def Ezb.f (a0:Int) (a1:Int) (l2:List (List Int)):Option (Int):=if 0 < (l2.length:Int) then(if 0≤a1 then(if a1 < ((rd_L6 l2 0).length:Int) then(if 0≤a0 then(if a0 < ((rd_L6 l2 0).length:Int) then(some (wrap64 ((rd (rd_L6 l2 0) a1) - (rd (rd_L6 l2 0) a0)))) else(none)) else(none)) else(none)) else(none)) else(none)
theorem Ezb.calls (a6:Int) (a7:Int) (a8:Option Addr) (c2:Nat) (l2:List (List Int)) (r:Int) (w:World) (a9:Kd.C (Kd.slice 3 (Kd.int .i64)) w a8 l2.length l2) (b3:l2.length≤c2) (h:Ezb.f a6 a7 l2=some r) :
  Calls Try.prog 55 #[.int .i64 a6,.int .i64 a7,.pointer a8] w fun e w'=>e=.returned (.int .i64 r)∧Drawn0 w w':=by
 have b4:=aM a9;have b5:=aM b3;clear a9 b3;have H:(if 0 < (l2.length:Int) then(if 0≤a7 then(if a7 < ((rd_L6 l2 0).length:Int) then(if 0≤a6 then(if a6 < ((rd_L6 l2 0).length:Int) then(some (wrap64 ((rd (rd_L6 l2 0) a7) - (rd (rd_L6 l2 0) a6)))) else(none)) else(none)) else(none)) else(none)) else(none))=some r:=h
 clear h;by_cases c4:0 < (l2.length:Int)
 ·rw[if_pos c4] at H;have b6:=dE c4;have b7:decide (0 < l2.length)=true:=dE (by omega)
  clear c4;obtain⟨b8,H⟩:=iN H;obtain⟨b9,H⟩:=iN H;obtain⟨d0,H⟩:=iN H;obtain⟨d1,H⟩:=iN H;obtain rfl:=Option.some.inj H;have d3:0≤(0:Int):=(by omega)
  have d4:0 < (l2.length:Int):=oE aS
  obtain⟨d5,d6,d7,d8,d9,e6,e7⟩:=at_L6 b4.out 0 d3 d4;cases d8
  have e8:(0 < l2.length)=True:=eq_true (by omega)
  (try rw[show((0:Int)).toNat=0 from rfl] at d9)
  (try rw[Addr.add_zero'] at d9)
  have f3:=aM e7;have f4:=aM e6;clear e7 e6;replace d3:=eq_true d3;replace d4:=eq_true d4;obtain⟨f5,f6,f7,f8,f9⟩:=aI f3.out a7;cases f6;have g6:0≤(0:Int):=(by omega)
  have g7:0 < (l2.length:Int):=oE aS
  obtain⟨g8,g9,j5,j9,l5,l6,l7⟩:=at_L6 b4.out 0 g6 g7;obtain rfl:d5=g8:=(by injection j9)
  have l8:(0 < l2.length)=True:=eq_true (by omega)
  (try rw[show((0:Int)).toNat=0 from rfl] at l5)
  (try rw[Addr.add_zero'] at l5)
  have l9:=aM l7;have m4:=aM l6;clear l7 l6;replace g6:=eq_true g6;replace g7:=eq_true g7;have ea_:=Option.some.inj (d9.symm.trans l5);injection ea_ with ea_ en_ ec_
  subst ea_;subst ec_;clear en_;obtain⟨m5,m6,m7,m8,m9⟩:=aI l9.out a6;cases m6;go_enter Try.func55,Try.ntmps55
  go_wp2
  repeat(go_quiet (fail);try go_wp2)
  go_ret
  exact⟨sD,dR⟩
 ·rw[if_neg c4] at H;exact absurd H (by simp)


mutual
def Azq.l0:Nat→List Int→Int→Int→Int→List (List Int)→Option (List Int)
 | 0,_,_,_,_,_=>none
 | k+1,x0,x1,x2,x8,x930=>if x8 < x2 then(Azq.l1 k x0 x1 x2 x8 x8 x930) else(some x0)
def Azq.l1:Nat→List Int→Int→Int→Int→Int→List (List Int)→Option (List Int)
 | 0,_,_,_,_,_,_=>none
 | k+1,x0,x1,x2,x8,x9,x930=>if x9 > x1 then(if 0≤x9 then(if x9 < (x0.length:Int) then(if 0≤(wrap64 (x9 - 1)) then(if(wrap64 (x9 - 1)) < (x0.length:Int) then((Ezb.f (rd x0 x9) (rd x0 (wrap64 (x9 - 1))) x930).bind fun t165=>(if t165 < 0 then(Azq.l1 k ((x0.set (x9:Int).toNat (rd x0 (wrap64 (x9 - 1)))).set ((wrap64 (x9 - 1)):Int).toNat (rd x0 x9)) x1 x2 x8 (wrap64 (x9 - 1)) x930) else(Azq.l0 k x0 x1 x2 (wrap64 (x8+1)) x930))) else(none)) else(none)) else(none)) else(none)) else(Azq.l0 k x0 x1 x2 (wrap64 (x8+1)) x930)
end
def Azq.f (k:Nat) (l0:List Int) (a1:Int) (a2:Int) (l3_0:List (List Int)):Option (List Int):=Azq.l0 k l0 a1 a2 (wrap64 (a1+1)) l3_0
theorem Azq.mono_l:∀ k,(∀ a6 a7 a8 a9 b3,LeO (Azq.l0 k a6 a7 a8 a9 b3) (Azq.l0 (k+1) a6 a7 a8 a9 b3))∧(∀ a6 a7 a8 a9 b3 b4,LeO (Azq.l1 k a6 a7 a8 a9 b3 b4) (Azq.l1 (k+1) a6 a7 a8 a9 b3 b4))
 | 0=>⟨fun _ _ _ _ _ r h=>by simp [Azq.l0] at h,fun _ _ _ _ _ _ r h=>by simp [Azq.l1] at h⟩
 | k+1=>by
  obtain⟨ih0,ih1⟩:=Azq.mono_l k;refine⟨?_,?_⟩
  ·intro a6 a7 a8 a9 b3;unfold Azq.l0;exact mM
  ·intro a6 a7 a8 a9 b3 b4;unfold Azq.l1;exact mM
theorem Azq.mono:∀ a6 a7 a8 a9 k,LeO (Azq.f k a6 a7 a8 a9) (Azq.f (k+1) a6 a7 a8 a9):=by
 intro a6 a7 a8 a9 k;obtain⟨ih0,ih1⟩:=Azq.mono_l k;unfold Azq.f;exact mM
def Azq.T4:Bool × List (List Nat × List Nat):=(true,[([],[]),([],[]),([0,1],[0,1]),([2],[2]),([3],[3]),([3],[3]),([3],[3]),([5,6,3],[3,5,6]),([7,3],[3,7]),([3],[3]),([3],[3]),([10,3],[3,10]),([9,11,3],[3,9,11]),([12,3],[3,12]),([4,8,13,3,3],[3,4,8,13]),([14,3],[3,14]),([3,15],[3,15])])
def Azq.B4:List Nat:=[0,0,3,7,15,15,15,111,239,15,15,1039,3599,7695,16383,32767,65535]
theorem Azq.tab4:rtab .any (opsOf Try.f88 4)=Azq.T4:=by kernel_rfl
theorem Azq.bits4:waitsOk Azq.T4.2 Azq.B4=true:=by kernel_rfl
def Azq.T6:Bool × List (List Nat × List Nat):=(true,[([],[]),([],[]),([],[]),([],[]),([3],[3]),([],[]),([],[]),([6],[6]),([5,7],[5,7]),([8],[8]),([],[]),([],[]),([10,11],[10,11]),([12],[12]),([0,1,0,1,5,6,7,8,9,13],[0,1]),([14,9,0,1,5,6,7,8,9,13],[9,14]),([2,4,0,1,2,3,4,5,6,7,8,9,10,11,12,13,14,15],[2,4]),([16,13,15,0,1,2,3,4,5,6,7,8,9,10,11,12,13,14,15],[13,16])])
def Azq.B6:List Nat:=[0,0,0,0,8,0,0,64,224,480,0,0,3072,7168,16355,32739,65535,131071]
theorem Azq.tab6:rtab .any (opsOf Try.f88 6)=Azq.T6:=by kernel_rfl
theorem Azq.bits6:waitsOk Azq.T6.2 Azq.B6=true:=by kernel_rfl
theorem Azq.calls (k:Nat) (a6:Nat→Prop) (u9000_:Value) (l0:List Int) (a7:Int) (a8:Int) (a9:Option Addr) (b3:Nat) (b4:List (List Int)) (r:List Int) (b5 w:World) (hB:Below b5.heap.size b5 w) (b6:Kd.R (Kd.int .i64) 3 w b5.heap.size a6 u9000_ l0) (b7:∀ W_,Kept w W_ (fun k_=>a6 k_)→Kd.C (Kd.slice 3 (Kd.int .i64)) W_ a9 b4.length b4) (b8:b4.length≤b3) (h:Azq.f k l0 a7 a8 b4=some r) :
  Calls Try.prog 88 #[u9000_,.int .i64 a7,.int .i64 a8,.func (.func 55) #[] #[.pointer a9]] w fun e w'=>e=.returned (.tuple #[])∧Kd.R (Kd.int .i64) 3 w' b5.heap.size (fun k_=>(a6 k_∨w.heap.size≤k_)) u9000_ r∧Below b5.heap.size b5 w'∧Kept w w' (fun k_=>a6 k_):=by
 have b9:=aM (show Kd.R (Kd.int .i64) 3 w b5.heap.size (fun k_=>(a6 k_∨w.heap.size≤k_)) u9000_ l0 from Kd.R_mono b6 (fun k_ hk=>(.inl hk)))
 have d0:=aM b7;have d1:=aM b8;clear b7 b8;have HK:=aM (Kept.refl w (fun k_=>a6 k_))
 have HW0:=aM hB.size;have HB:=aM hB;clear hB;have H:(Azq.l0 k l0 a7 a8 (wrap64 (a7+1)) b4)=some r:=h;clear h;have H':=aM H;clear H;go_enter Try.func88,Try.ntmps88
 go_wp2
 go_loopg [8] k (fun kq d3 w'=>∃ (d4:List Int) (d5:Int),d3=.int .i64 d5∧Aside0 (Azq.l0 kq d4 a7 a8 d5 b4=some r)∧Aside0 (kq≤k)∧Aside0 (Kd.R (Kd.int .i64) 3 w' b5.heap.size (fun k_=>(a6 k_∨w.heap.size≤k_)) u9000_ d4)∧Aside0 (Kept w w' (fun k_=>a6 k_))∧Aside0 (Below b5.heap.size b5 w'))
 case atStart=>exact⟨(l0),(wrap64 (a7+1)),sD,H',⟨Nat.le_refl _⟩,⟨rX b9.out⟩,⟨kK HK⟩,⟨pB⟩⟩
 case round =>
  clear H';try clear p2
  obtain⟨d4,d5,rfl,HA,d6,d7,HK,HB⟩:=hrel;cases gk with
  | zero=>exact absurd HA.out (by simp [Azq.l0])
  | succ k1 =>
   have H:=HA.out;clear HA;simp only[Azq.l0] at H;by_cases c5:d5 < a8
   ·rw[if_pos c5] at H;have d8:=dE c5;clear c5;have H':=aM H;clear H;go_wp2
    go_loopg [9] k1 (fun kq d9 w'=>∃ (e6:List Int) (e7:Int),d9=.int .i64 e7∧Aside0 (Azq.l1 kq e6 a7 a8 d5 e7 b4=some r)∧Aside0 (kq≤k1)∧Aside0 (Kd.R (Kd.int .i64) 3 w' b5.heap.size (fun k_=>(a6 k_∨w.heap.size≤k_)) u9000_ e6)∧Aside0 (Kept w w' (fun k_=>a6 k_))∧Aside0 (Below b5.heap.size b5 w'))
    case atStart=>exact⟨(d4),(d5),sD,H',⟨Nat.le_refl _⟩,⟨rX d7.out⟩,⟨kK HK⟩,⟨pB⟩⟩
    case round =>
     clear H';try clear p2
     obtain⟨e6,e7,rfl,HA,e8,d7,HK,HB⟩:=hrel;cases gk with
     | zero=>exact absurd HA.out (by simp [Azq.l1])
     | succ k2 =>
      have H:=HA.out;clear HA;simp only[Azq.l1] at H;by_cases c6:e7 > a7
      ·rw[if_pos c6] at H;have f3:decide (a7 < e7)=true:=dE c6;clear c6;obtain⟨f4,H⟩:=iN H;obtain⟨f5,H⟩:=iN H;obtain⟨f6,f7⟩:∃ j_:Int,(wrap64 (e7 - 1))=j_:=⟨_,rfl⟩;replace H:(if 0≤(f6) then(if(f6) < (e6.length:Int) then((Ezb.f (rd e6 e7) (rd e6 (f6)) b4).bind fun f8=>(if f8 < 0 then(Azq.l1 k2 ((e6.set (e7:Int).toNat (rd e6 (f6))).set ((f6):Int).toNat (rd e6 e7)) a7 a8 d5 f6 b4) else(Azq.l0 k2 e6 a7 a8 (wrap64 (d5+1)) b4))) else(none)) else(none))=some r:=by first|(rw[f7] at H;exact H)|(simp only[f7] at H ⊢;exact H)
       have f9:(IntKind.i64.wrap (e7 - 1))=f6:=(i64_w _).trans f7;obtain⟨g6,H⟩:=iN H;obtain⟨g7,H⟩:=iN H;obtain⟨f8,g8,H⟩:=bT H;(try dsimp only at H);by_cases g9:f8 < 0
       ·rw[if_pos g9] at H;have j5:=dE g9;clear g9;obtain⟨j9,l5⟩:∃ y_:List Int,y_=(e6.set (e7:Int).toNat (rd e6 (f6))):=⟨_,rfl⟩;replace H:(Azq.l1 k2 (j9.set ((f6):Int).toNat (rd e6 e7)) a7 a8 d5 f6 b4)=some r:=yE l5 H
        have l6:=aM l5;clear l5;obtain⟨l7,l8⟩:∃ y_:List Int,y_=(j9.set ((f6):Int).toNat (rd e6 e7)):=⟨_,rfl⟩;replace H:(Azq.l1 k2 l7 a7 a8 d5 f6 b4)=some r:=yE l8 H
        have l9:=aM l8;clear l8;have H':=aM H;clear H;try go_wp2
        have n0_:=aM (Kd.R_drew d7.out);have n1_:=aM (Kept.drew HK.out);have n2_:=aM (below_drew1 HB.out);clear d7 HK HB;have d7:=n0_;have HK:=n1_;have HB:=n2_;clear n0_ n1_ n2_;obtain⟨m4,m5,m6⟩:=Kd.R_slice d7.out;(first|subst m6|(injection m6 with f1_ f2_ f3_;have f4_:=f1_.symm;have f5_:=f3_.symm;clear f1_ f2_ f3_;subst f4_;subst f5_))
        obtain⟨m7,m8,m9,n0,n1⟩:=aI (Kd.R_reads' d7.out).2.2 e7;cases m8;obtain⟨n2,n3,n4,n5,n6⟩:=aI (Kd.R_reads' d7.out).2.2 (f6);obtain rfl:m7=n2:=(by injection n3);refine start_ (n:=17) (S:=fun w'=>w'.cell? (m7.add (e7).toNat)=some (.int .i64 (rd e6 e7))∧w'.cell? (m7.add ((f6)).toNat)=some (.int .i64 (rd e6 (f6)))) (ds:=[]) (bA 17 0) (by kernel_rfl) rfl rfl ⟨m9,n4⟩ (fun hHeld=>?_);refine with_tabW Azq.tab4 Azq.bits4 (fun HT_ HW_=>?_)
        generalize wr.drew=n7 at d7 HK HB m9 n4 hHeld ⊢;refine pS 0 18 HT_ ?_;refine pS 1 19 HT_ ?_;refine pS 2 20 HT_ ?_;refine pS 3 21 HT_ ?_;refine pS 4 22 HT_ ?_;refine pS 5 23 HT_ ?_;refine pS 6 24 HT_ ?_;refine pS 7 25 HT_ ?_;refine pS 9 27 HT_ ?_;refine pS 10 28 HT_ ?_;refine pS 11 29 HT_ ?_;refine pS 12 30 HT_ ?_;refine tU 8 26 HT_ HW_ hHeld ?_;refine tU 13 31 HT_ HW_ hHeld ?_;refine oU 14 (some 32) HT_ fun K hK=>?_
        refine goesv_ Try.func55 (by kernel_rfl) rfl #[.int .i64 (rd e6 e7),.int .i64 (rd e6 (f6)),.pointer a9] (by rfl) rfl rfl (by(try simp only[List.map_toArray,List.map_cons,List.map_nil]);first|done|(simp only[f7];rfl)|rfl|(simp only[List.length_drop,List.length_take];rfl)) ?_
        with_reducible refine(Ezb.calls (rd e6 e7) (rd e6 (f6)) _ b3 b4 f8 _ ?side1 ?side2 g8.out).mono ?_
        (case side1=>exact Kd.C_kept_now d0.out (kK HK))
        (case side2=>exact d1.out)
        rintro e w' ⟨rfl,⟨nd,rfl⟩⟩;refine⟨_,rfl,?_⟩;refine hK.out _ _ ⟨hHeld.1,hHeld.2⟩ (fun hHeld=>?_)
        clear hK K;refine nm 32 ?_;refine pS 15 33 HT_ ?_;refine pS 16 34 HT_ ?_;refine done_ (done_of HT_.out (by kernel_rfl)) ?_
        try go_wp2
        (try(rw[drewN_self n7];generalize hq_:World.drewN n7 _=n7;have n0_:Aside0 (Kd.R (Kd.int .i64) 3 n7 b5.heap.size (fun k_=>(a6 k_∨w.heap.size≤k_)) (.slice (some m7) e6.length m5) e6):=⟨by rw[← hq_];exact(rX d7.out)⟩;have n1_:Aside0 (Kept w n7 (fun k_=>a6 k_)):=⟨by rw[← hq_];exact(kK HK)⟩;have n2_:Aside0 (Below b5.heap.size b5 n7):=⟨by rw[← hq_];exact pB⟩;clear d7 HK HB hq_;have d7:=n0_;have HK:=n1_;have HB:=n2_;clear n0_ n1_ n2_))
        have n0_:=aM (Kd.R_drew d7.out);have n1_:=aM (Kept.drew HK.out);have n2_:=aM (below_drew1 HB.out);clear d7 HK HB;have d7:=n0_;have HK:=n1_;have HB:=n2_;clear n0_ n1_ n2_;obtain⟨n8,n9,o0,o1,o2⟩:=aI (Kd.R_reads' d7.out).2.2 (f6);obtain rfl:m7=n8:=(by injection n9);obtain⟨o3,o4,o5,o6,o7⟩:=aI (Kd.R_reads' d7.out).2.2 e7;obtain rfl:m7=o3:=(by injection o4);have o8:0≤(e7:Int):=oE aS
        have o9:(e7:Int) < ((e6.length:Int):Int):=oE aS
        obtain⟨p3,p7,p9,r5,r6,r7,r8⟩:=Kd.R_form d7.out (by omega)
        (first|cases p9|(injection p9 with ea_ en_ ec_;(first|subst ea_|(injection ea_ with ea_;subst ea_));subst ec_;clear en_))
        have r9:=aM r5;have t0:=aM r8;clear r5 r6 r8;have HMgo14:=aM (show(a6 p3∨w.heap.size≤p3) from(d7.out.1 _ rfl))
        (first|simp only[add_plain] at m9|skip)
        (first|simp only[add_plain] at n4|skip)
        (first|simp only[add_plain] at o0|skip)
        (first|simp only[add_plain] at o5|skip)
        obtain⟨t1,t2⟩:=Kd.R_celln 0 d7.out (e7:Int) o8 o9;replace o8:=eq_true o8;replace o9:=eq_true o9;have t3:=Kd.R_putn d7.out (e7:Int) (rd e6 (f6));rw[← l6.out] at t3;have t4:=aM t3;clear t3;obtain⟨t5,t6⟩:=Kd.R_celln 0 t4.out ((f6):Int) (oE aS) (oE aS);have t7:=eT ((f6));have t8:=eU ((f6)) e6.length;have t9:=Kd.R_putn t4.out ((f6):Int) (rd e6 e7);rw[← l9.out] at t9;have z3:=aM t9;clear t9;refine start_ (n:=18) (S:=fun w'=>w'.cell? ⟨p3,((f6)).toNat,none⟩=some (.int .i64 (rd e6 (f6)))∧w'.cell? ⟨p3,(e7).toNat,none⟩=some (.int .i64 (rd e6 e7))) (ds:=[15,17]) (bA 18 0) (by kernel_rfl) rfl rfl ⟨o0,o5⟩ (fun hHeld=>?_);refine with_tabW Azq.tab6 Azq.bits6 (fun HT_ HW_=>?_)
        generalize n7.drew=z4 at d7 HK HB t0 t4 z3 t2 t6 t1 t5 m9 n4 o0 o5 hHeld ⊢;refine pS 0 37 HT_ ?_;refine pS 1 38 HT_ ?_;refine pS 2 39 HT_ ?_;refine pS 3 40 HT_ ?_;refine pS 4 41 HT_ ?_;refine pS 5 42 HT_ ?_;refine pS 6 43 HT_ ?_;refine pS 7 44 HT_ ?_;refine pS 8 45 HT_ ?_;refine pS 10 47 HT_ ?_;refine pS 11 48 HT_ ?_;refine pS 12 49 HT_ ?_;refine tU 9 46 HT_ HW_ hHeld ?_;refine tU 13 50 HT_ HW_ hHeld ?_;refine pS 14 51 HT_ ?_;refine lU 15 none HT_ fun K hK=>?_
        refine skip_ (w1:=?_) (by rfl) rfl ?_ ?_
        rotate_left
        ·go_simp
         rfl
        refine hK.out _ _ ?_;clear hK K;refine pS 16 52 HT_ ?_;refine lU 17 none HT_ fun K hK=>?_
        refine skip_ (w1:=?_) (by rfl) rfl ?_ ?_
        rotate_left
        ·go_simp
         rfl
        refine hK.out _ _ ?_;clear hK K;refine done_ (done_of HT_.out (by kernel_rfl)) ?_
        try go_wp2
        go_roundg k2
        case measure=>have:=d6.out;have:=e8.out;omega
        case rel=>exact⟨(l7),(f6),(by first|rfl|(simp;done)|(simp only[← f7] <;> (first|rfl|simp))|(simp [*];done)),H',⟨by have:=d6.out;have:=e8.out;omega⟩,⟨rX z3.out⟩,⟨by repeat(first|(with_reducible first|exact HK.out|apply Kept.alloc|apply Kept.drewN|apply Kept.drew|refine Kept.setCell ?_ HMgo14.out _|refine Kept.setCell ?_ HMgo14.out _)|exact HK.out)⟩,⟨pB⟩⟩
       ·rw[if_neg g9] at H;have j5:decide (f8 < 0)=false:=decide_eq_false g9;clear g9;have H':=aM H;clear H;try go_wp2
        have n0_:=aM (Kd.R_drew d7.out);have n1_:=aM (Kept.drew HK.out);have n2_:=aM (below_drew1 HB.out);clear d7 HK HB;have d7:=n0_;have HK:=n1_;have HB:=n2_;clear n0_ n1_ n2_;obtain⟨z5,z6,z7⟩:=Kd.R_slice d7.out;(first|subst z7|(injection z7 with f1_ f2_ f3_;have f4_:=f1_.symm;have f5_:=f3_.symm;clear f1_ f2_ f3_;subst f4_;subst f5_))
        obtain⟨m7,m8,m9,n0,n1⟩:=aI (Kd.R_reads' d7.out).2.2 e7;cases m8;obtain⟨n2,n3,n4,n5,n6⟩:=aI (Kd.R_reads' d7.out).2.2 (f6);obtain rfl:m7=n2:=(by injection n3);refine start_ (n:=17) (S:=fun w'=>w'.cell? (m7.add (e7).toNat)=some (.int .i64 (rd e6 e7))∧w'.cell? (m7.add ((f6)).toNat)=some (.int .i64 (rd e6 (f6)))) (ds:=[]) (bA 17 0) (by kernel_rfl) rfl rfl ⟨m9,n4⟩ (fun hHeld=>?_);refine with_tabW Azq.tab4 Azq.bits4 (fun HT_ HW_=>?_)
        generalize wr.drew=z8 at d7 HK HB m9 n4 hHeld ⊢;refine pS 0 18 HT_ ?_;refine pS 1 19 HT_ ?_;refine pS 2 20 HT_ ?_;refine pS 3 21 HT_ ?_;refine pS 4 22 HT_ ?_;refine pS 5 23 HT_ ?_;refine pS 6 24 HT_ ?_;refine pS 7 25 HT_ ?_;refine pS 9 27 HT_ ?_;refine pS 10 28 HT_ ?_;refine pS 11 29 HT_ ?_;refine pS 12 30 HT_ ?_;refine tU 8 26 HT_ HW_ hHeld ?_;refine tU 13 31 HT_ HW_ hHeld ?_;refine oU 14 (some 32) HT_ fun K hK=>?_
        refine goesv_ Try.func55 (by kernel_rfl) rfl #[.int .i64 (rd e6 e7),.int .i64 (rd e6 (f6)),.pointer a9] (by rfl) rfl rfl (by(try simp only[List.map_toArray,List.map_cons,List.map_nil]);first|done|(simp only[f7];rfl)|rfl|(simp only[List.length_drop,List.length_take];rfl)) ?_
        with_reducible refine(Ezb.calls (rd e6 e7) (rd e6 (f6)) _ b3 b4 f8 _ ?side1 ?side2 g8.out).mono ?_
        (case side1=>exact Kd.C_kept_now d0.out (kK HK))
        (case side2=>exact d1.out)
        rintro e w' ⟨rfl,⟨nd,rfl⟩⟩;refine⟨_,rfl,?_⟩;refine hK.out _ _ ⟨hHeld.1,hHeld.2⟩ (fun hHeld=>?_)
        clear hK K;refine nm 32 ?_;refine pS 15 33 HT_ ?_;refine pS 16 34 HT_ ?_;refine done_ (done_of HT_.out (by kernel_rfl)) ?_
        try go_wp2
        go_roundg k2
        case measure=>have:=d6.out;have:=e8.out;omega
        case rel=>exact⟨(e6),(wrap64 (d5+1)),sD,H',⟨by have:=d6.out;have:=e8.out;omega⟩,⟨rX d7.out⟩,⟨kK HK⟩,⟨pB⟩⟩
      ·rw[if_neg c6] at H;have f3:decide (a7 < e7)=false:=decide_eq_false c6;clear c6;have H':=aM H;clear H;try go_wp2
       have n0_:=aM (Kd.R_drew d7.out);have n1_:=aM (Kept.drew HK.out);have n2_:=aM (below_drew1 HB.out);clear d7 HK HB;have d7:=n0_;have HK:=n1_;have HB:=n2_;clear n0_ n1_ n2_;refine start_ (n:=17) (S:=fun w'=>True) (ds:=[]) (bA 17 0) (by kernel_rfl) rfl rfl trivial (fun hHeld=>?_);refine with_tabW Azq.tab4 Azq.bits4 (fun HT_ HW_=>?_)
       generalize wr.drew=z9 at d7 HK HB hHeld ⊢;refine pS 0 18 HT_ ?_;refine pS 1 19 HT_ ?_;refine pS 2 20 HT_ ?_;refine pS 3 21 HT_ ?_;refine pN 4 22 HT_ ?_;refine pN 5 23 HT_ ?_;refine pN 6 24 HT_ ?_;refine pN 7 25 HT_ ?_;refine pN 8 26 HT_ ?_;refine pN 9 27 HT_ ?_;refine pN 10 28 HT_ ?_;refine pN 11 29 HT_ ?_;refine pN 12 30 HT_ ?_;refine pN 13 31 HT_ ?_;refine pN 14 32 HT_ ?_;refine pN 15 33 HT_ ?_;refine pS 16 34 HT_ ?_;refine done_ (done_of HT_.out (by kernel_rfl)) ?_
       try go_wp2
       go_roundg k2
       case measure=>have:=d6.out;have:=e8.out;omega
       case rel=>exact⟨(e6),(wrap64 (d5+1)),sD,H',⟨by have:=d6.out;have:=e8.out;omega⟩,⟨rX d7.out⟩,⟨kK HK⟩,⟨pB⟩⟩
   ·rw[if_neg c5] at H;have d8:decide (d5 < a8)=false:=decide_eq_false c5;clear c5;obtain rfl:=Option.some.inj H;go_wp2
    first|go_end0|((try simp only[Exit.inBlock,Exit.then]);refine bodyPost_ret (results_none rfl _ _ _) rfl ?_)
    exact⟨eW,rX d7.out,pB,kK HK⟩

end Go.Proofs.Ytnklckihalhlmaa.Print
