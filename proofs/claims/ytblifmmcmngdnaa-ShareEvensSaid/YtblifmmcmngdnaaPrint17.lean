import Derived.Test.YtblifmmcmngdnaaPrint0
import Derived.Test.YtblifmmcmngdnaaPrint10
import Derived.Test.YtblifmmcmngdnaaPrint5
namespace Go.Proofs.Ytblifmmcmngdnaa.Print
open Go.RowKit Go.Proofs.YtblifmmcmngdnaaW.PrintWords Go.Proofs.YtblifmmcmngdnaaW.PrintLast Go.Proofs.YtblifmmcmngdnaaW.PrintMore
attribute [local go_sem] max2_int min2_int max_two min_two max_three min_three max_four min_four
set_option linter.unusedVariables false
set_option maxRecDepth 100000
set_option maxHeartbeats 8000000
set_option linter.unusedSimpArgs false

mutual
def Bzw.j0:Nat→Int→Int→Bool→Option (List Int × Int)
 | 0,_,_,_=>none
 | k+1,x0,x1,x21=>if x21=true then(some (([]:List Int),1)) else(Bzw.l0 k x0 x1 ([]:List Int) 0)
def Bzw.l0:Nat→Int→Int→List Int→Int→Option (List Int × Int)
 | 0,_,_,_,_=>none
 | k+1,x0,x1,x6,x7=>if x7 < x1 then(if x6.length < 17592186044416 then(Bzw.l0 k x0 x1 (x6 ++ [1]) (wrap64 (x7+1))) else(none)) else((Azm.f k x0 x6).bind fun bt263=>(some (bt263.1,bt263.2)))
end
def Bzw.f (k:Nat) (a0:Int) (a1:Int):Option (List Int × Int):=if a0 < 0 then(Bzw.j0 k a0 a1 true) else(if a0 > 1125899906842624 then(Bzw.j0 k a0 a1 true) else(if a1 < 1 then(Bzw.j0 k a0 a1 true) else(Bzw.j0 k a0 a1 (decide (a1 > 512)))))
theorem Bzw.mono_l:∀ k,(∀ a5 a6 a7,LeO (Bzw.j0 k a5 a6 a7) (Bzw.j0 (k+1) a5 a6 a7))∧(∀ a5 a6 a7 a8,LeO (Bzw.l0 k a5 a6 a7 a8) (Bzw.l0 (k+1) a5 a6 a7 a8))
 | 0=>⟨fun _ _ _ r h=>by simp [Bzw.j0] at h,fun _ _ _ _ r h=>by simp [Bzw.l0] at h⟩
 | k+1=>by
  obtain⟨ih0,ih1⟩:=Bzw.mono_l k;have i0:=@Azm.mono;refine⟨?_,?_⟩
  ·intro a5 a6 a7;unfold Bzw.j0;exact mM
  ·intro a5 a6 a7 a8;unfold Bzw.l0;exact mM
theorem Bzw.mono:∀ a5 a6 k,LeO (Bzw.f k a5 a6) (Bzw.f (k+1) a5 a6):=by
 intro a5 a6 k;obtain⟨ih0,ih1⟩:=Bzw.mono_l k;unfold Bzw.f;have i0:=@Azm.mono;exact mM
theorem Bzw.calls (k:Nat) (a5:Int) (a6:Int) (a7:List Int) (a8:Int) (w:World) (h:Bzw.f k a5 a6=some (a7,a8)) :
  Calls Try.prog 5 #[.int .i64 a5,.int .i64 a6] w fun e w'=>∃ v0_:Value,e=.returned (.tuple #[v0_,.int .i64 a8])∧rI w' w (fun _=>True) v0_ a7∧bw w w':=by
 have HB:=aM (Below.refl w.heap.size w);have H:(if a5 < 0 then(Bzw.j0 k a5 a6 true) else(if a5 > 1125899906842624 then(Bzw.j0 k a5 a6 true) else(if a6 < 1 then(Bzw.j0 k a5 a6 true) else(Bzw.j0 k a5 a6 (decide (a6 > 512))))))=some (a7,a8):=h
 clear h;have a9:=aM H;clear H;go_enter Try.func5,Try.ntmps5
 go_upto_region 1 with (fail)
 go_cut [21] (fun b3 wc=>∃ (kq:Nat) (b4:Bool),b3=.bool b4∧Aside0 (Bzw.j0 kq a5 a6 b4=some (a7,a8))∧Aside0 (kq≤k)∧Aside0 (bw w wc))
 case first =>
  have H:=a9.out;clear a9;replace H:=iD H;rcases H with⟨b5,H⟩|⟨b5,H⟩
  ·(first|rw[b5]|(simp only[i64_w,i32_w];rw[b5])|skip)
   have H':=aM H;clear H;go_wp2
   go_meet
   case rel=>exact⟨_,(true),sD,H',⟨by first|omega|exact Nat.le_refl _⟩,⟨pB⟩⟩
  ·(first|rw[b5]|(simp only[i64_w,i32_w];rw[b5])|skip)
   by_cases c5:a5 > 1125899906842624
   ·rw[if_pos c5] at H;have b6:decide (1125899906842624 < a5)=true:=dE c5;clear c5;have H':=aM H;clear H;go_wp2
    go_meet
    case rel=>exact⟨_,(true),sD,H',⟨by first|omega|exact Nat.le_refl _⟩,⟨pB⟩⟩
   ·rw[if_neg c5] at H;have b6:decide (1125899906842624 < a5)=false:=decide_eq_false c5;clear c5;replace H:=iD H;rcases H with⟨b7,H⟩|⟨b7,H⟩
    ·have H':=aM H;clear H;go_wp2
     go_meet
     case rel=>exact⟨_,(true),sD,H',⟨by first|omega|exact Nat.le_refl _⟩,⟨pB⟩⟩
    ·have H':=aM H;clear H;go_wp2
     go_meet
     case rel=>exact⟨_,(decide (a6 > 512)),sD,H',⟨by first|omega|exact Nat.le_refl _⟩,⟨pB⟩⟩
 case rest =>
  clear a9;try clear p2
  obtain⟨kq,b4,rfl,HA,b8,HB⟩:=hcut;cases kq with
  | zero=>exact absurd HA.out (by simp [Bzw.j0])
  | succ b9 =>
   have H:=HA.out;clear HA;simp only[Bzw.j0] at H;by_cases c7:b4=true
   ·subst c7;rw[if_pos rfl] at H;obtain⟨rfl,rfl⟩:=q2 H;go_wp2
    go_ret2
    exact⟨_,eW,nK,pB⟩
   ·obtain rfl:=bN c7;rw[if_neg nF] at H
    have H':=aM H;clear H;go_wp2
    go_loopg [6,7] b9 (fun kq d0 d3 w'=>∃ (d4:List Int) (d5:Int),d3=.int .i64 d5∧Aside0 (Bzw.l0 kq a5 a6 d4 d5=some (a7,a8))∧Aside0 (kq≤b9)∧Aside0 (rI w' w (fun _=>True) d0 d4)∧Aside0 (bw w w'))
    case atStart=>exact⟨(([]:List Int)),(0),sD,H',⟨Nat.le_refl _⟩,⟨nK⟩,⟨pB⟩⟩
    case round =>
     clear H';try clear p2
     obtain⟨d4,d5,rfl,HA,d6,d7,HB⟩:=hrel;cases gk with
     | zero=>exact absurd HA.out (by simp [Bzw.l0])
     | succ k2 =>
      have H:=HA.out;clear HA;simp only[Bzw.l0] at H;replace H:=iD H;rcases H with⟨d8,H⟩|⟨d8,H⟩
      ·obtain⟨c9,H⟩:=iO H;have LMc9:=aM c9;clear c9;obtain⟨d9,e0⟩:∃ y_:List Int,y_=(d4 ++ [1]):=⟨_,rfl⟩;replace H:(Bzw.l0 k2 a5 a6 d9 (wrap64 (d5+1)))=some (a7,a8):=yE e0 H
       have e8:=aM e0;clear e0;have H':=aM H;clear H;go_wp2_with (first|((with_reducible refine gate_builtin (b:=.append) (xs:=#[.tmp 27,.tmp 28]) rfl ?_);at_builtin;refine Kd.R_append (Kd.int .i64) (w0:=w) w.heap.size rfl (.tmp 27) (.tmp 28) 22 3 (.int .i64 0) 8 rfl Try.underlying22 info3 rfl (by decide) (by omega) u6 d4 1 [.int .i64 1] (fun _=>True) (fun _=>False) rfl rfl ?aP (fun _ hk=>hk.elim) ?aF ?aO ?aB ?aS ?aL ?_;(case aP=>exact rfl);(case aB=>exact pB);(case aF=>exact(fun _ _=>trivial));(case aO=>exact(rX d7.out));(case aS=>exact(below_size pB));(case aL=>have:=LMc9.out;omega);intro f2 f3 ho hb hg hat;rw[← e8.out] at ho;have f4:=aM (ho);replace HB:=aM (hb);clear d7 ho hb hg hat))
       go_roundg k2
       case measure=>have:=b8.out;have:=d6.out;omega
       case rel=>exact⟨(d9),(wrap64 (d5+1)),sD,H',⟨by have:=b8.out;have:=d6.out;omega⟩,⟨rX f4.out⟩,⟨pB⟩⟩
      ·replace H:=bS H;obtain⟨⟨f5,f6⟩,f7,H⟩:=H;replace H:(some (f5,f6))=some (a7,a8):=H;have f9:=aM f7;clear f7;obtain⟨rfl,rfl⟩:=q2 H;obtain⟨g4,g5,rfl⟩:=Kd.R_slice d7.out;go_wp2_with (first|((with_reducible refine gc 10 rfl ?_);refine gC 10 (some 32) Try.func10 #[.int .i64 a5,.slice g4 d4.length g5] ?_;(with_reducible refine(Azm.calls k2 a5 _ _ d4 f5 f6 _ ?_ ?_ f9.out).mono ?_);exact cR d7;exact lR d7;rintro e g6 ⟨g7,rfl,g8,hb⟩;refine⟨_,rfl,?_⟩;have g9:=rL (rn g8 d7);replace d7:=rE d7 g8 hb;replace HB:=bB hb;clear hb g8))
       go_ret2
       exact⟨_,eW,by exact rX (Kd.R_mono g9.out (fun _ hk=>trivial)),pB⟩

def Bzq.l0:Nat→List Int→List Int→Int→Option (Bool)
 | 0,_,_,_=>none
 | k+1,x0,x1,x5=>if x5 < (x0.length:Int) then(if 0≤x5 then(if x5 < (x1.length:Int) then(if(rd x0 x5)=(rd x1 x5) then(Bzq.l0 k x0 x1 (wrap64 (x5+1))) else(some false)) else(none)) else(none)) else(some true)
def Bzq.f (k:Nat) (l0:List Int) (l1:List Int):Option (Bool):=if(l0.length:Int)=(l1.length:Int) then(Bzq.l0 k l0 l1 0) else(some false)
theorem Bzq.mono_l:∀ k,(∀ a5 a6 a7,LeO (Bzq.l0 k a5 a6 a7) (Bzq.l0 (k+1) a5 a6 a7))
 | 0=>fun _ _ _ r h=>by simp [Bzq.l0] at h
 | k+1=>by
  have ih0:=Bzq.mono_l k
  ·intro a5 a6 a7;unfold Bzq.l0;exact mM
theorem Bzq.mono:∀ a5 a6 k,LeO (Bzq.f k a5 a6) (Bzq.f (k+1) a5 a6):=by
 intro a5 a6 k;have ih0:=Bzq.mono_l k;unfold Bzq.f;exact mM
theorem Bzq.calls (k:Nat) (a5:Option Addr) (a6:Nat) (l0:List Int) (a7:Option Addr) (a8:Nat) (l1:List Int) (r:Bool) (w:World) (a9:cI w a5 l0) (b3:l0.length≤a6) (b4:cI w a7 l1) (b5:l1.length≤a8) (h:Bzq.f k l0 l1=some r) :
  Calls Try.prog 6 #[.slice a5 l0.length a6,.slice a7 l1.length a8] w fun e w'=>e=.returned (.bool r)∧Drawn0 w w':=by
 have b6:=aM a9;have b7:=aM b3;clear a9 b3;have b8:=aM b4;have b9:=aM b5;clear b4 b5;have H:(if(l0.length:Int)=(l1.length:Int) then(Bzq.l0 k l0 l1 0) else(some false))=some r:=h
 clear h;by_cases c3:(l0.length:Int)=(l1.length:Int)
 ·rw[if_pos c3] at H;obtain⟨d0,d3⟩:=bE c3;have d4:(l0.length == l1.length)=true:=by first|simpa using c3|(simp at c3 ⊢;omega)
  clear c3;have H':=aM H;clear H;go_enter Try.func6,Try.ntmps6
  go_wp2
  repeat(go_quiet (fail);try go_wp2)
  go_loopg [5] k (fun kq d5 w'=>∃ (d6:Int),d5=.int .i64 d6∧Aside0 (Bzq.l0 kq l0 l1 d6=some r)∧Aside0 (kq≤k)∧Drawn0 w w')
  case atStart=>exact⟨(0),sD,H',⟨Nat.le_refl _⟩,dR⟩
  case round =>
   clear H';try clear a8
   obtain⟨d6,rfl,HA,d7,⟨d8,rfl⟩⟩:=hrel;cases gk with
   | zero=>exact absurd HA.out (by simp [Bzq.l0])
   | succ k1 =>
    have H:=HA.out;clear HA;simp only[Bzq.l0] at H;replace H:=iD H;rcases H with⟨d9,H⟩|⟨d9,H⟩
    ·obtain⟨e0,H⟩:=iN H;obtain⟨e8,H⟩:=iN H;replace H:=iE H;rcases H with⟨f2,f3,H⟩|⟨c7,f2,f3,H⟩
     ·have H':=aM H;clear H;obtain⟨f4,f5,f6,f7,f9⟩:=aI b6.out d6;cases f5;obtain⟨g4,g5,g6,g7,g8⟩:=aI b8.out d6;cases g5;go_wp2
      repeat(go_quiet (fail);try go_wp2)
      go_roundg k1
      case measure=>have:=d7.out;omega
      case rel=>exact⟨(wrap64 (d6+1)),sD,H',⟨by have:=d7.out;omega⟩,dR⟩
     ·obtain rfl:=Option.some.inj H;obtain⟨f4,f5,f6,f7,f9⟩:=aI b6.out d6;cases f5;obtain⟨g4,g5,g6,g7,g8⟩:=aI b8.out d6;cases g5;go_wp2
      repeat(go_quiet (fail);try go_wp2)
      go_ret
      exact⟨sD,dR⟩
    ·obtain rfl:=Option.some.inj H;go_wp2
     repeat(go_quiet (fail);try go_wp2)
     go_ret
     exact⟨sD,dR⟩
 ·rw[if_neg c3] at H;obtain⟨d0,d3⟩:=bI c3;have d4:(l0.length == l1.length)=false:=by first|simpa using c3|(simp at c3 ⊢;omega)
  obtain rfl:=Option.some.inj H;go_enter Try.func6,Try.ntmps6
  go_wp2
  repeat(go_quiet (fail);try go_wp2)
  go_ret
  exact⟨sD,dR⟩


def Czz.l0:Nat→Int→Int→List Int→Int→List Int→Int→Int→Option (List Int × Int)
 | 0,_,_,_,_,_,_,_=>none
 | k+1,x0,x6,x8,x9,x23,x24,x25=>if x25 < x24 then(if 0≤x25 then(if x25 < (x23.length:Int) then((Czk.f x0 (wrap64 (x9+(rd x23 x25))) x6).bind fun bt272=>(if x8.length < 17592186044416 then(Czz.l0 k x0 x6 (x8 ++ [bt272.1]) (wrap64 (x9+(rd x23 x25))) x23 x24 (wrap64 (x25+1))) else(none))) else(none)) else(none)) else(some (x8,0))
def Czz.f (k:Nat) (a0:Int) (l1:List Int):Option (List Int × Int):=(Bzf.f k a0 l1).bind fun bt269=>(if bt269.2=0 then(Czz.l0 k a0 bt269.1 ([]:List Int) 0 l1 (l1.length:Int) 0) else(some (([]:List Int),bt269.2)))
theorem Czz.mono_l:∀ k,(∀ a5 a6 a7 a8 a9 b3 b4,LeO (Czz.l0 k a5 a6 a7 a8 a9 b3 b4) (Czz.l0 (k+1) a5 a6 a7 a8 a9 b3 b4))
 | 0=>fun _ _ _ _ _ _ _ r h=>by simp [Czz.l0] at h
 | k+1=>by
  have ih0:=Czz.mono_l k
  ·intro a5 a6 a7 a8 a9 b3 b4;unfold Czz.l0;have i0:=@Bzf.mono;exact mM
theorem Czz.mono:∀ a5 a6 k,LeO (Czz.f k a5 a6) (Czz.f (k+1) a5 a6):=by
 intro a5 a6 k;have ih0:=Czz.mono_l k;unfold Czz.f;have i0:=@Bzf.mono;exact mM
theorem Czz.calls (k:Nat) (a5:Int) (a6:Option Addr) (a7:Nat) (l1:List Int) (a8:List Int) (a9:Int) (w:World) (b3:cI w a6 l1) (b4:l1.length≤a7) (h:Czz.f k a5 l1=some (a8,a9)) :
  Calls Try.prog 11 #[.int .i64 a5,.slice a6 l1.length a7] w fun e w'=>∃ v0_:Value,e=.returned (.tuple #[v0_,.int .i64 a9])∧rI w' w (fun _=>True) v0_ a8∧bw w w':=by
 have b5:=aM b3;have b6:=aM b4;clear b3 b4;have HB:=aM (Below.refl w.heap.size w);have H:((Bzf.f k a5 l1).bind fun b7=>(if b7.2=0 then(Czz.l0 k a5 b7.1 ([]:List Int) 0 l1 (l1.length:Int) 0) else(some (([]:List Int),b7.2))))=some (a8,a9):=h
 clear h;obtain⟨⟨b8,b9⟩,d0,H⟩:=bT H;(try dsimp only at H);replace H:=iE H;rcases H with⟨d3,d4,H⟩|⟨c4,d3,d4,H⟩
 ·have H':=aM H;clear H;go_enter Try.func11,Try.ntmps11
  go_wp2_with (first|((with_reducible refine gc 13 rfl ?_);refine gC 13 (some 17) Try.func13 #[.int .i64 a5,.slice a6 l1.length a7] ?_;(with_reducible refine(Bzf.calls k a5 _ _ l1 b8 b9 _ ?_ ?_ d0.out).mono ?_);exact cX b5.out;exact b6.out;rintro e d5 ⟨rfl,hb⟩;refine⟨_,rfl,?_⟩;replace HB:=bB hb;clear hb))
  try simp only[Act.put,sA,sZ,sC]
  go_loopg [8,9,25] k (fun kq d6 d7 d8 w'=>∃ (d9:List Int) (e0:Int) (e8:Int),d7=.int .i64 e0∧d8=.int .i64 e8∧Aside0 (Czz.l0 kq a5 b8 d9 e0 l1 (l1.length:Int) e8=some (a8,a9))∧Aside0 (kq≤k)∧Aside0 (rI w' w (fun _=>True) d6 d9)∧Aside0 (bw w w'))
  case atStart=>exact⟨(([]:List Int)),(0),(0),sD,sD,H',⟨Nat.le_refl _⟩,⟨nK⟩,⟨pB⟩⟩
  case round =>
   clear H';try clear a7
   obtain⟨d9,e0,e8,rfl,rfl,HA,f2,f3,HB⟩:=hrel;cases gk with
   | zero=>exact absurd HA.out (by simp [Czz.l0])
   | succ k1 =>
    have H:=HA.out;clear HA;simp only[Czz.l0] at H;replace H:=iD H;rcases H with⟨f4,H⟩|⟨f4,H⟩
    ·obtain⟨f5,H⟩:=iN H;obtain⟨f6,H⟩:=iN H;obtain⟨⟨f7,f9⟩,g4,H⟩:=bT H;(try dsimp only at H);obtain⟨c10,H⟩:=iO H;have LMc10:=aM c10;clear c10;obtain⟨g5,g6⟩:∃ y_:List Int,y_=(d9 ++ [f7]):=⟨_,rfl⟩;replace H:(Czz.l0 k1 a5 b8 g5 (wrap64 (e0+(rd l1 e8))) l1 (l1.length:Int) (wrap64 (e8+1)))=some (a8,a9):=yE g6 H
     have g7:=aM g6;clear g6;have H':=aM H;clear H;obtain⟨g8,g9,j2,j3,j5⟩:=aI b5.out e8;cases g9
     replace j2:=hB HB j2;go_wp2_with (first|((with_reducible refine gc 14 rfl ?_);refine gC 14 (some 36) Try.func14 #[.int .i64 a5,.int .i64 (wrap64 (e0+(rd l1 e8))),.int .i64 b8] ?_;(with_reducible refine(Czk.calls a5 (wrap64 (e0+(rd l1 e8))) b8 f7 f9 _ g4.out).mono ?_);rintro e j9 ⟨rfl,hb⟩;refine⟨_,rfl,?_⟩;replace f3:=rB f3 hb;replace HB:=bB hb;clear hb)|((with_reducible refine gate_builtin (b:=.append) (xs:=#[.tmp 39,.tmp 41]) rfl ?_);at_builtin;refine Kd.R_append (Kd.int .i64) (w0:=w) w.heap.size rfl (.tmp 39) (.tmp 41) 22 3 (.int .i64 0) 8 rfl Try.underlying22 info3 rfl (by decide) (by omega) u8 d9 f7 [.int .i64 f7] (fun _=>True) (fun _=>False) rfl rfl ?aP (fun _ hk=>hk.elim) ?aF ?aO ?aB ?aS ?aL ?_;(case aP=>exact rfl);(case aB=>exact pB);(case aF=>exact(fun _ _=>trivial));(case aO=>exact(rX f3.out));(case aS=>exact(below_size pB));(case aL=>have:=LMc10.out;omega);intro l5 l6 ho hb hg hat;rw[← g7.out] at ho;have l7:=aM (ho);replace HB:=aM (hb);clear f3 ho hb hg hat))
     go_roundg k1
     case measure=>have:=f2.out;omega
     case rel=>exact⟨(g5),(wrap64 (e0+(rd l1 e8))),(wrap64 (e8+1)),sD,sD,H',⟨by have:=f2.out;omega⟩,⟨rX l7.out⟩,⟨pB⟩⟩
    ·obtain⟨rfl,rfl⟩:=q2 H;go_wp2
     go_ret2
     exact⟨_,eW,rX f3.out,pB⟩
 ·obtain⟨rfl,rfl⟩:=q2 H;go_enter Try.func11,Try.ntmps11
  go_wp2_with (first|((with_reducible refine gc 13 rfl ?_);refine gC 13 (some 17) Try.func13 #[.int .i64 a5,.slice a6 l1.length a7] ?_;(with_reducible refine(Bzf.calls k a5 _ _ l1 b8 b9 _ ?_ ?_ d0.out).mono ?_);exact cX b5.out;exact b6.out;rintro e l8 ⟨rfl,hb⟩;refine⟨_,rfl,?_⟩;replace HB:=bB hb;clear hb))
  go_ret2
  exact⟨_,eW,nK,pB⟩

def Czp.f (a0:Int):Option (Bool):=some (decide (a0 < 0))
theorem Czp.calls (a5:Int) (r:Bool) (w:World) (h:Czp.f a5=some r) :
  Calls Try.prog 21 #[.int .i64 a5] w fun e w'=>e=.returned (.bool r)∧Drawn0 w w':=by
 have H:(some (decide (a5 < 0)))=some r:=h;clear h;obtain rfl:=Option.some.inj H;go_enter Try.func21,Try.ntmps21
 go_wp2
 go_ret
 exact⟨sD,dR⟩

def Bzx.l0:Nat→List Int→List Int→Int→Int→Option (Bool)
 | 0,_,_,_,_=>none
 | k+1,x0,x1,x12,x13=>if x13 < x12 then(if 0≤x13 then(if x13 < (x0.length:Int) then(if x13 < (x1.length:Int) then(if(rd x0 x13)=(rd x1 x13) then(Bzx.l0 k x0 x1 x12 (wrap64 (x13+1))) else(some false)) else(none)) else(none)) else(none)) else(some true)
def Bzx.f (k:Nat) (l0:List Int) (l1:List Int):Option (Bool):=if(l0.length:Int)=(l1.length:Int) then(Bzx.l0 k l0 l1 (l0.length:Int) 0) else(some false)
theorem Bzx.mono_l:∀ k,(∀ a5 a6 a7 a8,LeO (Bzx.l0 k a5 a6 a7 a8) (Bzx.l0 (k+1) a5 a6 a7 a8))
 | 0=>fun _ _ _ _ r h=>by simp [Bzx.l0] at h
 | k+1=>by
  have ih0:=Bzx.mono_l k
  ·intro a5 a6 a7 a8;unfold Bzx.l0;exact mM
theorem Bzx.mono:∀ a5 a6 k,LeO (Bzx.f k a5 a6) (Bzx.f (k+1) a5 a6):=by
 intro a5 a6 k;have ih0:=Bzx.mono_l k;unfold Bzx.f;exact mM
theorem Bzx.calls (k:Nat) (a5:Option Addr) (a6:Nat) (l0:List Int) (a7:Option Addr) (a8:Nat) (l1:List Int) (r:Bool) (w:World) (a9:cI w a5 l0) (b3:l0.length≤a6) (b4:cI w a7 l1) (b5:l1.length≤a8) (h:Bzx.f k l0 l1=some r) :
  Calls Try.prog 23 #[.slice a5 l0.length a6,.slice a7 l1.length a8] w fun e w'=>e=.returned (.bool r)∧Drawn0 w w':=by
 have b6:=aM a9;have b7:=aM b3;clear a9 b3;have b8:=aM b4;have b9:=aM b5;clear b4 b5;have H:(if(l0.length:Int)=(l1.length:Int) then(Bzx.l0 k l0 l1 (l0.length:Int) 0) else(some false))=some r:=h
 clear h;by_cases c3:(l0.length:Int)=(l1.length:Int)
 ·rw[if_pos c3] at H;obtain⟨d0,d3⟩:=bE c3;have d4:(l0.length == l1.length)=true:=by first|simpa using c3|(simp at c3 ⊢;omega)
  clear c3;have H':=aM H;clear H;go_enter Try.func23,Try.ntmps23
  go_wp2
  repeat(go_quiet (fail);try go_wp2)
  go_loopg [13] k (fun kq d5 w'=>∃ (d6:Int),d5=.int .i64 d6∧Aside0 (Bzx.l0 kq l0 l1 (l0.length:Int) d6=some r)∧Aside0 (kq≤k)∧Drawn0 w w')
  case atStart=>exact⟨(0),sD,H',⟨Nat.le_refl _⟩,dR⟩
  case round =>
   clear H';try clear a8
   obtain⟨d6,rfl,HA,d7,⟨d8,rfl⟩⟩:=hrel;cases gk with
   | zero=>exact absurd HA.out (by simp [Bzx.l0])
   | succ k1 =>
    have H:=HA.out;clear HA;simp only[Bzx.l0] at H;replace H:=iD H;rcases H with⟨d9,H⟩|⟨d9,H⟩
    ·obtain⟨e0,H⟩:=iN H;obtain⟨e8,H⟩:=iN H;obtain⟨f2,H⟩:=iN H;replace H:=iE H;rcases H with⟨f3,f4,H⟩|⟨c8,f3,f4,H⟩
     ·have H':=aM H;clear H;obtain⟨f5,f6,f7,f9,g4⟩:=aI b6.out d6;cases f6;obtain⟨g5,g6,g7,g8,g9⟩:=aI b8.out d6;cases g6;go_wp2
      repeat(go_quiet (fail);try go_wp2)
      go_roundg k1
      case measure=>have:=d7.out;omega
      case rel=>exact⟨(wrap64 (d6+1)),sD,H',⟨by have:=d7.out;omega⟩,dR⟩
     ·obtain rfl:=Option.some.inj H;obtain⟨f5,f6,f7,f9,g4⟩:=aI b6.out d6;cases f6;obtain⟨g5,g6,g7,g8,g9⟩:=aI b8.out d6;cases g6;go_wp2
      repeat(go_quiet (fail);try go_wp2)
      go_ret
      exact⟨sD,dR⟩
    ·obtain rfl:=Option.some.inj H;go_wp2
     repeat(go_quiet (fail);try go_wp2)
     go_ret
     exact⟨sD,dR⟩
 ·rw[if_neg c3] at H;obtain⟨d0,d3⟩:=bI c3;have d4:(l0.length == l1.length)=false:=by first|simpa using c3|(simp at c3 ⊢;omega)
  obtain rfl:=Option.some.inj H;go_enter Try.func23,Try.ntmps23
  go_wp2
  repeat(go_quiet (fail);try go_wp2)
  go_ret
  exact⟨sD,dR⟩


def Bzj.l0:Nat→List Int→Int→Int→Option (Int)
 | 0,_,_,_=>none
 | k+1,x0,x7,x8=>if x8 < x7 then(if 0≤x8 then(if x8 < (x0.length:Int) then((Czp.f (rd x0 x8)).bind fun t280=>(if t280=true then(some x8) else(Bzj.l0 k x0 x7 (wrap64 (x8+1))))) else(none)) else(none)) else(some (-1))
def Bzj.f (k:Nat) (l0:List Int)  : Option (Int):=Bzj.l0 k l0 (l0.length:Int) 0
theorem Bzj.mono_l:∀ k,(∀ a5 a6 a7,LeO (Bzj.l0 k a5 a6 a7) (Bzj.l0 (k+1) a5 a6 a7))
 | 0=>fun _ _ _ r h=>by simp [Bzj.l0] at h
 | k+1=>by
  have ih0:=Bzj.mono_l k
  ·intro a5 a6 a7;unfold Bzj.l0;exact mM
theorem Bzj.mono:∀ a5 k,LeO (Bzj.f k a5) (Bzj.f (k+1) a5):=by
 intro a5 k;have ih0:=Bzj.mono_l k;unfold Bzj.f;exact mM
theorem Bzj.calls (k:Nat) (a5:Option Addr) (a6:Nat) (l0:List Int)  (r:Int) (w:World) (a7:cI w a5 l0) (a8:l0.length≤a6) (h:Bzj.f k l0=some r) :
  Calls Try.prog 29 #[.slice a5 l0.length a6,.func (.func 21) #[] #[]] w fun e w'=>e=.returned (.int .i64 r)∧Drawn0 w w':=by
 have a9:=aM a7;have b3:=aM a8;clear a7 a8;have H:(Bzj.l0 k l0 (l0.length:Int) 0)=some r:=h;clear h;have H':=aM H;clear H;go_enter Try.func29,Try.ntmps29
 go_wp2
 go_loopg [8] k (fun kq b4 w'=>∃ (b5:Int),b4=.int .i64 b5∧Aside0 (Bzj.l0 kq l0 (l0.length:Int) b5=some r)∧Aside0 (kq≤k)∧Drawn0 w w')
 case atStart=>exact⟨(0),sD,H',⟨Nat.le_refl _⟩,dR⟩
 case round =>
  clear H';try clear p2
  obtain⟨b5,rfl,HA,b6,⟨b7,rfl⟩⟩:=hrel;cases gk with
  | zero=>exact absurd HA.out (by simp [Bzj.l0])
  | succ k1 =>
   have H:=HA.out;clear HA;simp only[Bzj.l0] at H;replace H:=iD H;rcases H with⟨b8,H⟩|⟨b8,H⟩
   ·obtain⟨b9,H⟩:=iN H;obtain⟨d0,H⟩:=iN H;obtain⟨d3,d4,H⟩:=bT H;(try dsimp only at H);by_cases c7:d3=true
    ·subst c7;rw[if_pos rfl] at H;obtain rfl:=Option.some.inj H;obtain⟨d5,d6,d7,d8,d9⟩:=aI a9.out b5;cases d6;go_wp2_with (first|(go_at_call 21;(with_reducible refine(Czp.calls (rd l0 b5) true _ d4.out).mono ?_);rintro e w' ⟨rfl,⟨nd,rfl⟩⟩))
     go_ret
     exact⟨sD,dR⟩
    ·obtain rfl:=bN c7;rw[if_neg nF] at H
     have H':=aM H;clear H;obtain⟨d5,d6,d7,d8,d9⟩:=aI a9.out b5;cases d6;go_wp2_with (first|(go_at_call 21;(with_reducible refine(Czp.calls (rd l0 b5) false _ d4.out).mono ?_);rintro e w' ⟨rfl,⟨nd,rfl⟩⟩))
     go_roundg k1
     case measure=>have:=b6.out;omega
     case rel=>exact⟨(wrap64 (b5+1)),sD,H',⟨by have:=b6.out;omega⟩,dR⟩
   ·obtain rfl:=Option.some.inj H;go_wp2
    go_ret
    exact⟨sD,dR⟩

def Bzp.f (k:Nat) (l0:List Int)  : Option (Bool):=(Bzj.f k l0).bind fun t281=>(some (decide (t281≥0)))
theorem Bzp.mono:∀ a5 k,LeO (Bzp.f k a5) (Bzp.f (k+1) a5):=by
 intro a5 k;unfold Bzp.f;have i0:=@Bzj.mono;exact mM
theorem Bzp.calls (k:Nat) (a5:Option Addr) (a6:Nat) (l0:List Int)  (r:Bool) (w:World) (a7:cI w a5 l0) (a8:l0.length≤a6) (h:Bzp.f k l0=some r) :
  Calls Try.prog 20 #[.slice a5 l0.length a6,.func (.func 21) #[] #[]] w fun e w'=>e=.returned (.bool r)∧Drawn0 w w':=by
 have a9:=aM a7;have b3:=aM a8;clear a7 a8;have H:((Bzj.f k l0).bind fun b4=>(some (decide (b4≥0))))=some r:=h
 clear h;replace H:=bS H;obtain⟨b4,b5,H⟩:=H;replace H:(some (decide (b4≥0)))=some r:=H;have b6:=aM b5;clear b5;obtain rfl:=Option.some.inj H;go_enter Try.func20,Try.ntmps20
 go_wp2_with (first|((with_reducible refine gc 29 rfl ?_);refine gC 29 (some 7) Try.func29 #[.slice a5 l0.length a6,.func (.func 21) #[] #[]] ?_;(with_reducible refine(Bzj.calls k _ _ l0  b4 _ ?_ ?_ b6.out).mono ?_);exact cX a9.out;exact b3.out;rintro e w' ⟨rfl,⟨nd,rfl⟩⟩;refine⟨_,rfl,?_⟩))
 go_ret
 exact⟨sD,dR⟩

def Bzm.j0:Nat→List Int→List Int→Bool→Option (Bool)
 | 0,_,_,_=>none
 | k+1,x0,x1,x21=>if x21=true then(some false) else((Czw.f k x0).bind fun bt283=>(if bt283.2=0 then((Azp.f k bt283.1 x1).bind fun bt285=>(if bt285.2=0 then((Bzx.f k bt285.1 x0).bind fun t289=>(some t289)) else(some false))) else(some false)))
def Bzm.f (k:Nat) (l0:List Int) (l1:List Int):Option (Bool):=if(l0.length:Int)=(l1.length:Int) then(if(l0.length:Int) > 512 then(Bzm.j0 k l0 l1 true) else((Bzp.f k l0).bind fun t282=>(Bzm.j0 k l0 l1 t282))) else(Bzm.j0 k l0 l1 true)
theorem Bzm.mono_l:∀ k,(∀ a5 a6 a7,LeO (Bzm.j0 k a5 a6 a7) (Bzm.j0 (k+1) a5 a6 a7))
 | 0=>fun _ _ _ r h=>by simp [Bzm.j0] at h
 | k+1=>by
  have ih0:=Bzm.mono_l k
  ·intro a5 a6 a7;unfold Bzm.j0;have i0:=@Czw.mono;have i1:=@Azp.mono;have i2:=@Bzp.mono;have i3:=@Bzx.mono;exact mM
theorem Bzm.mono:∀ a5 a6 k,LeO (Bzm.f k a5 a6) (Bzm.f (k+1) a5 a6):=by
 intro a5 a6 k;have ih0:=Bzm.mono_l k;unfold Bzm.f;have i0:=@Czw.mono;have i1:=@Azp.mono;have i2:=@Bzp.mono;have i3:=@Bzx.mono;exact mM
theorem Bzm.calls (k:Nat) (a5:Option Addr) (a6:Nat) (l0:List Int) (a7:Option Addr) (a8:Nat) (l1:List Int) (r:Bool) (w:World) (a9:cI w a5 l0) (b3:l0.length≤a6) (b4:cI w a7 l1) (b5:l1.length≤a8) (h:Bzm.f k l0 l1=some r) :
  Calls Try.prog 12 #[.slice a5 l0.length a6,.slice a7 l1.length a8] w fun e w'=>e=.returned (.bool r)∧bw w w':=by
 have b6:=aM a9;have b7:=aM b3;clear a9 b3;have b8:=aM b4;have b9:=aM b5;clear b4 b5;have HB:=aM (Below.refl w.heap.size w);have H:(if(l0.length:Int)=(l1.length:Int) then(if(l0.length:Int) > 512 then(Bzm.j0 k l0 l1 true) else((Bzp.f k l0).bind fun d0=>(Bzm.j0 k l0 l1 d0))) else(Bzm.j0 k l0 l1 true))=some r:=h
 clear h;have d3:=aM H;clear H;go_enter Try.func12,Try.ntmps12
 go_upto_region 1 with (fail)
 go_cut [21] (fun d4 wc=>∃ (kq:Nat) (d5:Bool),d4=.bool d5∧Aside0 (Bzm.j0 kq l0 l1 d5=some r)∧Aside0 (kq≤k)∧Aside0 (bw w wc))
 case first =>
  have H:=d3.out;clear d3;by_cases c4:(l0.length:Int)=(l1.length:Int)
  ·rw[if_pos c4] at H;obtain⟨d6,d7⟩:=bE c4;have d8:(l0.length == l1.length)=true:=by first|simpa using c4|(simp at c4 ⊢;omega)
   clear c4;(first|rw[d6]|(simp only[i64_w,i32_w];rw[d6])|skip)
   by_cases c5:(l0.length:Int) > 512
   ·rw[if_pos c5] at H;have d9:decide (512 < (l0.length:Int))=true:=dE c5;have e0:decide (512 < l0.length)=true:=dE (by omega)
    clear c5;have H':=aM H;clear H;go_wp2
    go_meet
    case rel=>exact⟨_,(true),sD,H',⟨by first|omega|exact Nat.le_refl _⟩,⟨pB⟩⟩
   ·rw[if_neg c5] at H;have d9:decide (512 < (l0.length:Int))=false:=decide_eq_false c5;have e0:decide (512 < l0.length)=false:=decide_eq_false (by omega)
    clear c5;replace H:=bS H;obtain⟨d0,e8,H⟩:=H;replace H:(Bzm.j0 k l0 l1 d0)=some r:=H;have f2:=aM e8;clear e8;have H':=aM H;clear H;go_wp2_with (first|(go_at_call 20;(with_reducible refine(Bzp.calls k _ _ l0  d0 _ ?_ ?_ f2.out).mono ?_);exact cB b6;exact b7.out;rintro e w' ⟨rfl,⟨nd,rfl⟩⟩))
    go_meet
    case rel=>exact⟨_,(d0),sD,H',⟨by first|omega|exact Nat.le_refl _⟩,⟨pB⟩⟩
  ·rw[if_neg c4] at H;obtain⟨d6,d7⟩:=bI c4;have d8:(l0.length == l1.length)=false:=by first|simpa using c4|(simp at c4 ⊢;omega)
   (first|rw[d6]|(simp only[i64_w,i32_w];rw[d6])|skip)
   have H':=aM H;clear H;go_wp2
   go_meet
   case rel=>exact⟨_,(true),sD,H',⟨by first|omega|exact Nat.le_refl _⟩,⟨pB⟩⟩
 case rest =>
  clear d3;try clear a8
  obtain⟨kq,d5,rfl,HA,f3,HB⟩:=hcut;cases kq with
  | zero=>exact absurd HA.out (by simp [Bzm.j0])
  | succ f4 =>
   have H:=HA.out;clear HA;simp only[Bzm.j0] at H;by_cases c7:d5=true
   ·subst c7;rw[if_pos rfl] at H;obtain rfl:=Option.some.inj H;go_wp2
    go_ret
    exact⟨eW,pB⟩
   ·obtain rfl:=bN c7;rw[if_neg nF] at H
    obtain⟨⟨f5,f6⟩,f7,H⟩:=bT H;(try dsimp only at H);replace H:=iE H;rcases H with⟨f9,g4,H⟩|⟨c9,f9,g4,H⟩
    ·obtain⟨⟨g5,g6⟩,g7,H⟩:=bT H;(try dsimp only at H);replace H:=iE H;rcases H with⟨g9,j2,H⟩|⟨g8,g9,j2,H⟩
     ·replace H:=bS H;obtain⟨j3,j5,H⟩:=H;replace H:(some j3)=some r:=H;have j9:=aM j5;clear j5;obtain rfl:=Option.some.inj H;go_wp2_with (first|((with_reducible refine gc 22 rfl ?_);refine gC 22 (some 24) Try.func22 #[.slice a5 l0.length a6] ?_;(with_reducible refine(Czw.calls f4 _ _ l0 f5 f6 _ ?_ ?_ f7.out).mono ?_);exact cB b6;exact b7.out;rintro e l5 ⟨rfl,hb⟩;refine⟨_,rfl,?_⟩;replace HB:=bB hb;clear hb)|((with_reducible refine gc 8 rfl ?_);refine gC 8 (some 32) Try.func8 #[.int .i64 f5,.slice a7 l1.length a8] ?_;(with_reducible refine(Azp.calls f4 f5 _ _ l1 g5 g6 _ ?_ ?_ g7.out).mono ?_);exact cB b8;exact b9.out;rintro e l6 ⟨l7,rfl,l8,hb⟩;refine⟨_,rfl,?_⟩;have l9:=rL l8;replace HB:=bB hb;clear hb l8;obtain⟨m0,m4,rfl⟩:=Kd.R_slice l9.out)|(go_at_call 23;(with_reducible refine(Bzx.calls f4 _ _ g5 _ _ l0 j3 _ ?_ ?_ ?_ ?_ j9.out).mono ?_);exact cR l9;exact lR l9;exact cB b6;exact b7.out;rintro e w' ⟨rfl,⟨nd,rfl⟩⟩))
      go_ret
      exact⟨eW,pB⟩
     ·obtain rfl:=Option.some.inj H;go_wp2_with (first|((with_reducible refine gc 22 rfl ?_);refine gC 22 (some 24) Try.func22 #[.slice a5 l0.length a6] ?_;(with_reducible refine(Czw.calls f4 _ _ l0 f5 f6 _ ?_ ?_ f7.out).mono ?_);exact cB b6;exact b7.out;rintro e m5 ⟨rfl,hb⟩;refine⟨_,rfl,?_⟩;replace HB:=bB hb;clear hb)|((with_reducible refine gc 8 rfl ?_);refine gC 8 (some 32) Try.func8 #[.int .i64 f5,.slice a7 l1.length a8] ?_;(with_reducible refine(Azp.calls f4 f5 _ _ l1 g5 g6 _ ?_ ?_ g7.out).mono ?_);exact cB b8;exact b9.out;rintro e m6 ⟨l7,rfl,l8,hb⟩;refine⟨_,rfl,?_⟩;have l9:=rL l8;replace HB:=bB hb;clear hb l8))
      go_ret
      exact⟨eW,pB⟩
    ·obtain rfl:=Option.some.inj H;go_wp2_with (first|((with_reducible refine gc 22 rfl ?_);refine gC 22 (some 24) Try.func22 #[.slice a5 l0.length a6] ?_;(with_reducible refine(Czw.calls f4 _ _ l0 f5 f6 _ ?_ ?_ f7.out).mono ?_);exact cB b6;exact b7.out;rintro e m7 ⟨rfl,hb⟩;refine⟨_,rfl,?_⟩;replace HB:=bB hb;clear hb))
     go_ret
     exact⟨eW,pB⟩


def Azx.j0:Nat→List Int→List Int→List Int→List Int→Bool→Option (Bool)
 | 0,_,_,_,_,_=>none
 | k+1,x1,x3,x5,x7,x53=>if x53=true then(none) else((Bzq.f k x1 (([3,1]:List Int))).bind fun t328=>(if t328=true then((Bzq.f k x3 (([4,3,3]:List Int))).bind fun t332=>(if t332=true then((Bzq.f k x5 (([3,6,10]:List Int))).bind fun t336=>(if t336=true then((Bzq.f k x7 (([0,0]:List Int))).bind fun t340=>(if t340=true then((Bzm.f k (([3,1]:List Int)) (([10,5]:List Int))).bind fun t347=>(if t347=true then((Bzm.f k (([2,2]:List Int)) (([10,5]:List Int))).bind fun t354=>(some (!t354))) else(none))) else(none))) else(none))) else(none))) else(none)))
def Azx.f (k:Nat)  : Option (Bool):=(Azp.f k 4 (([10,5]:List Int))).bind fun bt293=>((Azp.f k 10 (([1,1,1]:List Int))).bind fun bt300=>((Czz.f k 10 (([1,1,1]:List Int))).bind fun bt307=>((Azp.f k 0 (([0,0]:List Int))).bind fun bt314=>((Azp.f k 1 (([0,0]:List Int))).bind fun bt321=>(if bt293.2=0 then(if bt300.2=0 then(if bt307.2=0 then(if bt314.2=0 then(Azx.j0 k bt293.1 bt300.1 bt307.1 bt314.1 (bt321.2 != 16)) else(Azx.j0 k bt293.1 bt300.1 bt307.1 bt314.1 true)) else(Azx.j0 k bt293.1 bt300.1 bt307.1 bt314.1 true)) else(Azx.j0 k bt293.1 bt300.1 bt307.1 bt314.1 true)) else(Azx.j0 k bt293.1 bt300.1 bt307.1 bt314.1 true))))))
theorem Azx.mono_l:∀ k,(∀ a5 a6 a7 a8 a9,LeO (Azx.j0 k a5 a6 a7 a8 a9) (Azx.j0 (k+1) a5 a6 a7 a8 a9))
 | 0=>fun _ _ _ _ _ r h=>by simp [Azx.j0] at h
 | k+1=>by
  have ih0:=Azx.mono_l k
  ·intro a5 a6 a7 a8 a9;unfold Azx.j0;have i0:=@Bzq.mono;have i1:=@Czz.mono;have i2:=@Bzm.mono;have i3:=@Azp.mono;exact mM
theorem Azx.mono:∀ k,LeO (Azx.f k ) (Azx.f (k+1) ):=by
 intro  k;have ih0:=Azx.mono_l k;unfold Azx.f;have i0:=@Bzq.mono;have i1:=@Czz.mono;have i2:=@Bzm.mono;have i3:=@Azp.mono;exact mM
theorem Azx.calls (k:Nat)  (r:Bool) (w:World) (h:Azx.f k  = some r) :
  Calls Try.prog 7 #[] w fun e w'=>e=.returned (.bool r)∧bw w w':=by
 have HB:=aM (Below.refl w.heap.size w);have H:((Azp.f k 4 (([10,5]:List Int))).bind fun a5=>((Azp.f k 10 (([1,1,1]:List Int))).bind fun a6=>((Czz.f k 10 (([1,1,1]:List Int))).bind fun a7=>((Azp.f k 0 (([0,0]:List Int))).bind fun a8=>((Azp.f k 1 (([0,0]:List Int))).bind fun a9=>(if a5.2=0 then(if a6.2=0 then(if a7.2=0 then(if a8.2=0 then(Azx.j0 k a5.1 a6.1 a7.1 a8.1 (a9.2 != 16)) else(Azx.j0 k a5.1 a6.1 a7.1 a8.1 true)) else(Azx.j0 k a5.1 a6.1 a7.1 a8.1 true)) else(Azx.j0 k a5.1 a6.1 a7.1 a8.1 true)) else(Azx.j0 k a5.1 a6.1 a7.1 a8.1 true)))))))=some r:=h
 clear h;obtain⟨b3,b4⟩:∃ y_:List Int,y_=(([10,5]:List Int)):=⟨_,rfl⟩;replace H:((Azp.f k 4 b3).bind fun a5=>((Azp.f k 10 (([1,1,1]:List Int))).bind fun a6=>((Czz.f k 10 (([1,1,1]:List Int))).bind fun a7=>((Azp.f k 0 (([0,0]:List Int))).bind fun a8=>((Azp.f k 1 (([0,0]:List Int))).bind fun a9=>(if a5.2=0 then(if a6.2=0 then(if a7.2=0 then(if a8.2=0 then(Azx.j0 k a5.1 a6.1 a7.1 a8.1 (a9.2 != 16)) else(Azx.j0 k a5.1 a6.1 a7.1 a8.1 true)) else(Azx.j0 k a5.1 a6.1 a7.1 a8.1 true)) else(Azx.j0 k a5.1 a6.1 a7.1 a8.1 true)) else(Azx.j0 k a5.1 a6.1 a7.1 a8.1 true)))))))=some r:=yE b4 H
 have b5:=aM b4;clear b4;obtain⟨⟨b6,b7⟩,b8,H⟩:=bT H;(try dsimp only at H);obtain⟨b9,d0⟩:∃ y_:List Int,y_=(([1,1,1]:List Int)):=⟨_,rfl⟩;replace H:((Azp.f k 10 b9).bind fun a6=>((Czz.f k 10 (([1,1,1]:List Int))).bind fun a7=>((Azp.f k 0 (([0,0]:List Int))).bind fun a8=>((Azp.f k 1 (([0,0]:List Int))).bind fun a9=>(if b7=0 then(if a6.2=0 then(if a7.2=0 then(if a8.2=0 then(Azx.j0 k b6 a6.1 a7.1 a8.1 (a9.2 != 16)) else(Azx.j0 k b6 a6.1 a7.1 a8.1 true)) else(Azx.j0 k b6 a6.1 a7.1 a8.1 true)) else(Azx.j0 k b6 a6.1 a7.1 a8.1 true)) else(Azx.j0 k b6 a6.1 a7.1 a8.1 true))))))=some r:=yE d0 H
 have d3:=aM d0;clear d0;obtain⟨⟨d4,d5⟩,d6,H⟩:=bT H;(try dsimp only at H);obtain⟨d7,d8⟩:∃ y_:List Int,y_=(([1,1,1]:List Int)):=⟨_,rfl⟩;replace H:((Czz.f k 10 d7).bind fun a7=>((Azp.f k 0 (([0,0]:List Int))).bind fun a8=>((Azp.f k 1 (([0,0]:List Int))).bind fun a9=>(if b7=0 then(if d5=0 then(if a7.2=0 then(if a8.2=0 then(Azx.j0 k b6 d4 a7.1 a8.1 (a9.2 != 16)) else(Azx.j0 k b6 d4 a7.1 a8.1 true)) else(Azx.j0 k b6 d4 a7.1 a8.1 true)) else(Azx.j0 k b6 d4 a7.1 a8.1 true)) else(Azx.j0 k b6 d4 a7.1 a8.1 true)))))=some r:=yE d8 H
 have d9:=aM d8;clear d8;obtain⟨⟨e0,e8⟩,f2,H⟩:=bT H;(try dsimp only at H);obtain⟨f3,f4⟩:∃ y_:List Int,y_=(([0,0]:List Int)):=⟨_,rfl⟩;replace H:((Azp.f k 0 f3).bind fun a8=>((Azp.f k 1 (([0,0]:List Int))).bind fun a9=>(if b7=0 then(if d5=0 then(if e8=0 then(if a8.2=0 then(Azx.j0 k b6 d4 e0 a8.1 (a9.2 != 16)) else(Azx.j0 k b6 d4 e0 a8.1 true)) else(Azx.j0 k b6 d4 e0 a8.1 true)) else(Azx.j0 k b6 d4 e0 a8.1 true)) else(Azx.j0 k b6 d4 e0 a8.1 true))))=some r:=yE f4 H
 have f5:=aM f4;clear f4;obtain⟨⟨f6,f7⟩,f9,H⟩:=bT H;(try dsimp only at H);obtain⟨g4,g5⟩:∃ y_:List Int,y_=(([0,0]:List Int)):=⟨_,rfl⟩;replace H:((Azp.f k 1 g4).bind fun a9=>(if b7=0 then(if d5=0 then(if e8=0 then(if f7=0 then(Azx.j0 k b6 d4 e0 f6 (a9.2 != 16)) else(Azx.j0 k b6 d4 e0 f6 true)) else(Azx.j0 k b6 d4 e0 f6 true)) else(Azx.j0 k b6 d4 e0 f6 true)) else(Azx.j0 k b6 d4 e0 f6 true)))=some r:=yE g5 H
 have g6:=aM g5;clear g5;obtain⟨⟨g7,g8⟩,g9,H⟩:=bT H;(try dsimp only at H);have j2:=aM H;clear H;go_enter Try.func7,Try.ntmps7
 go_upto_region 6 with (first|((with_reducible refine gd 12 rfl ?_);refine iLg 12 [10,5] ?_;intro j3 j5 j9 hb;replace j9:=rY b5 j9;have l5:=rL j9;replace HB:=bB hb;clear hb j9;obtain⟨l6,l7,rfl⟩:=Kd.R_slice l5.out)|((with_reducible refine gc 8 rfl ?_);refine gC 8 (some 13) Try.func8 #[.int .i64 4,.slice l6 b3.length l7] ?_;(with_reducible refine(Azp.calls k 4 _ _ b3 b6 b7 _ ?_ ?_ b8.out).mono ?_);exact cR l5;exact lR l5;rintro e l8 ⟨l9,rfl,m0,hb⟩;refine⟨_,rfl,?_⟩;have m4:=rL (rn m0 l5);replace l5:=rE l5 m0 hb;replace HB:=bB hb;clear hb m0)|((with_reducible refine gd 17 rfl ?_);refine iLg 17 [1,1,1] ?_;intro m5 m6 m7 hb;replace m7:=rY d3 m7;have m8:=rL (rn (rn m7 l5) m4);replace l5:=rE l5 m7 hb;replace m4:=rE m4 m7 hb;replace HB:=bB hb;clear hb m7;obtain⟨m9,n0,rfl⟩:=Kd.R_slice m8.out)|((with_reducible refine gc 8 rfl ?_);refine gC 8 (some 18) Try.func8 #[.int .i64 10,.slice m9 b9.length n0] ?_;(with_reducible refine(Azp.calls k 10 _ _ b9 d4 d5 _ ?_ ?_ d6.out).mono ?_);exact cR m8;exact lR m8;rintro e n1 ⟨n2,rfl,m0,hb⟩;refine⟨_,rfl,?_⟩;have n3:=rL (rn (rn (rn m0 l5) m4) m8);replace l5:=rE l5 m0 hb;replace m4:=rE m4 m0 hb;replace m8:=rE m8 m0 hb;replace HB:=bB hb;clear hb m0)|((with_reducible refine gd 22 rfl ?_);refine iLg 22 [1,1,1] ?_;intro n4 n5 n6 hb;replace n6:=rY d9 n6;have n7:=rL (rn (rn (rn (rn n6 l5) m4) m8) n3);replace l5:=rE l5 n6 hb;replace m4:=rE m4 n6 hb;replace m8:=rE m8 n6 hb;replace n3:=rE n3 n6 hb;replace HB:=bB hb;clear hb n6;obtain⟨n8,n9,rfl⟩:=Kd.R_slice n7.out)|((with_reducible refine gc 11 rfl ?_);refine gC 11 (some 23) Try.func11 #[.int .i64 10,.slice n8 d7.length n9] ?_;(with_reducible refine(Czz.calls k 10 _ _ d7 e0 e8 _ ?_ ?_ f2.out).mono ?_);exact cR n7;exact lR n7;rintro e o0 ⟨o1,rfl,m0,hb⟩;refine⟨_,rfl,?_⟩;have o2:=rL (rn (rn (rn (rn (rn m0 l5) m4) m8) n3) n7);replace l5:=rE l5 m0 hb;replace m4:=rE m4 m0 hb;replace m8:=rE m8 m0 hb;replace n3:=rE n3 m0 hb;replace n7:=rE n7 m0 hb;replace HB:=bB hb;clear hb m0)|((with_reducible refine gd 27 rfl ?_);refine iLg 27 [0,0] ?_;intro o3 o4 o5 hb;replace o5:=rY f5 o5;have o6:=rL (rn (rn (rn (rn (rn (rn o5 l5) m4) m8) n3) n7) o2);replace l5:=rE l5 o5 hb;replace m4:=rE m4 o5 hb;replace m8:=rE m8 o5 hb;replace n3:=rE n3 o5 hb;replace n7:=rE n7 o5 hb;replace o2:=rE o2 o5 hb;replace HB:=bB hb;clear hb o5;obtain⟨o7,o8,rfl⟩:=Kd.R_slice o6.out)|((with_reducible refine gc 8 rfl ?_);refine gC 8 (some 28) Try.func8 #[.int .i64 0,.slice o7 f3.length o8] ?_;(with_reducible refine(Azp.calls k 0 _ _ f3 f6 f7 _ ?_ ?_ f9.out).mono ?_);exact cR o6;exact lR o6;rintro e o9 ⟨p0,rfl,m0,hb⟩;refine⟨_,rfl,?_⟩;have p3:=rL (rn (rn (rn (rn (rn (rn (rn m0 l5) m4) m8) n3) n7) o2) o6);replace l5:=rE l5 m0 hb;replace m4:=rE m4 m0 hb;replace m8:=rE m8 m0 hb;replace n3:=rE n3 m0 hb;replace n7:=rE n7 m0 hb;replace o2:=rE o2 m0 hb;replace o6:=rE o6 m0 hb;replace HB:=bB hb;clear hb m0)|((with_reducible refine gd 32 rfl ?_);refine iLg 32 [0,0] ?_;intro p4 p7 p8 hb;replace p8:=rY g6 p8;have p9:=rL (rn (rn (rn (rn (rn (rn (rn (rn p8 l5) m4) m8) n3) n7) o2) o6) p3);replace l5:=rE l5 p8 hb;replace m4:=rE m4 p8 hb;replace m8:=rE m8 p8 hb;replace n3:=rE n3 p8 hb;replace n7:=rE n7 p8 hb;replace o2:=rE o2 p8 hb;replace o6:=rE o6 p8 hb;replace p3:=rE p3 p8 hb;replace HB:=bB hb;clear hb p8;obtain⟨r0,r4,rfl⟩:=Kd.R_slice p9.out)|((with_reducible refine gc 8 rfl ?_);refine gC 8 (some 33) Try.func8 #[.int .i64 1,.slice r0 g4.length r4] ?_;(with_reducible refine(Azp.calls k 1 _ _ g4 g7 g8 _ ?_ ?_ g9.out).mono ?_);exact cR p9;exact lR p9;rintro e r5 ⟨r6,rfl,m0,hb⟩;refine⟨_,rfl,?_⟩;have r7:=rL (rn (rn (rn (rn (rn (rn (rn (rn (rn m0 l5) m4) m8) n3) n7) o2) o6) p3) p9);replace l5:=rE l5 m0 hb;replace m4:=rE m4 m0 hb;replace m8:=rE m8 m0 hb;replace n3:=rE n3 m0 hb;replace n7:=rE n7 m0 hb;replace o2:=rE o2 m0 hb;replace o6:=rE o6 m0 hb;replace p3:=rE p3 m0 hb;replace p9:=rE p9 m0 hb;replace HB:=bB hb;clear hb m0))
 (try simp only[Act.put,sA,sZ,sC])
 go_cut [53] (fun r8 wc=>∃ (kq:Nat) (r9:Bool),r8=.bool r9∧Aside0 (Azx.j0 kq b6 d4 e0 f6 r9=some r)∧Aside0 (kq≤k)∧Aside0 (rI wc w (fun k_=>oV n2 k_∧oV o1 k_∧oV p0 k_) l9 b6)∧Aside0 (rI wc w (fun k_=>oV l9 k_∧oV o1 k_∧oV p0 k_) n2 d4)∧Aside0 (rI wc w (fun k_=>oV l9 k_∧oV n2 k_∧oV p0 k_) o1 e0)∧Aside0 (rI wc w (fun k_=>oV l9 k_∧oV n2 k_∧oV o1 k_) p0 f6)∧Aside0 (bw w wc))
 case first =>
  have H:=j2.out;clear j2;replace H:=iE H;rcases H with⟨t1,t2,H⟩|⟨t0,t1,t2,H⟩
  ·(first|rw[t1]|(simp only[i64_w,i32_w];rw[t1])|skip)
   replace H:=iE H;rcases H with⟨t4,t5,H⟩|⟨t3,t4,t5,H⟩
   ·replace H:=iE H;rcases H with⟨t7,t8,H⟩|⟨t6,t7,t8,H⟩
    ·replace H:=iE H;rcases H with⟨v2,v3,H⟩|⟨t9,v2,v3,H⟩
     ·have H':=aM H;clear H;go_wp2
      go_meet
      case rel=>exact⟨_,((g8 != 16)),sD,H',⟨by first|omega|exact Nat.le_refl _⟩,⟨by exact rX (Kd.R_mono m4.out (fun _ hk=>⟨hk.1.1.1.1.1.1.2,⟨hk.1.1.1.1.2,hk.1.1.2⟩⟩))⟩,⟨by exact rX (Kd.R_mono n3.out (fun _ hk=>⟨hk.1.1.1.1.1.1.1.2,⟨hk.1.1.1.1.2,hk.1.1.2⟩⟩))⟩,⟨by exact rX (Kd.R_mono o2.out (fun _ hk=>⟨hk.1.1.1.1.1.1.1.2,⟨hk.1.1.1.1.1.2,hk.1.1.2⟩⟩))⟩,⟨by exact rX (Kd.R_mono p3.out (fun _ hk=>⟨hk.1.1.1.1.1.1.1.2,⟨hk.1.1.1.1.1.2,hk.1.1.1.2⟩⟩))⟩,⟨pB⟩⟩
     ·have H':=aM H;clear H;go_wp2
      go_meet
      case rel=>exact⟨_,(true),sD,H',⟨by first|omega|exact Nat.le_refl _⟩,⟨by exact rX (Kd.R_mono m4.out (fun _ hk=>⟨hk.1.1.1.1.1.1.2,⟨hk.1.1.1.1.2,hk.1.1.2⟩⟩))⟩,⟨by exact rX (Kd.R_mono n3.out (fun _ hk=>⟨hk.1.1.1.1.1.1.1.2,⟨hk.1.1.1.1.2,hk.1.1.2⟩⟩))⟩,⟨by exact rX (Kd.R_mono o2.out (fun _ hk=>⟨hk.1.1.1.1.1.1.1.2,⟨hk.1.1.1.1.1.2,hk.1.1.2⟩⟩))⟩,⟨by exact rX (Kd.R_mono p3.out (fun _ hk=>⟨hk.1.1.1.1.1.1.1.2,⟨hk.1.1.1.1.1.2,hk.1.1.1.2⟩⟩))⟩,⟨pB⟩⟩
    ·have H':=aM H;clear H;go_wp2
     go_meet
     case rel=>exact⟨_,(true),sD,H',⟨by first|omega|exact Nat.le_refl _⟩,⟨by exact rX (Kd.R_mono m4.out (fun _ hk=>⟨hk.1.1.1.1.1.1.2,⟨hk.1.1.1.1.2,hk.1.1.2⟩⟩))⟩,⟨by exact rX (Kd.R_mono n3.out (fun _ hk=>⟨hk.1.1.1.1.1.1.1.2,⟨hk.1.1.1.1.2,hk.1.1.2⟩⟩))⟩,⟨by exact rX (Kd.R_mono o2.out (fun _ hk=>⟨hk.1.1.1.1.1.1.1.2,⟨hk.1.1.1.1.1.2,hk.1.1.2⟩⟩))⟩,⟨by exact rX (Kd.R_mono p3.out (fun _ hk=>⟨hk.1.1.1.1.1.1.1.2,⟨hk.1.1.1.1.1.2,hk.1.1.1.2⟩⟩))⟩,⟨pB⟩⟩
   ·have H':=aM H;clear H;go_wp2
    go_meet
    case rel=>exact⟨_,(true),sD,H',⟨by first|omega|exact Nat.le_refl _⟩,⟨by exact rX (Kd.R_mono m4.out (fun _ hk=>⟨hk.1.1.1.1.1.1.2,⟨hk.1.1.1.1.2,hk.1.1.2⟩⟩))⟩,⟨by exact rX (Kd.R_mono n3.out (fun _ hk=>⟨hk.1.1.1.1.1.1.1.2,⟨hk.1.1.1.1.2,hk.1.1.2⟩⟩))⟩,⟨by exact rX (Kd.R_mono o2.out (fun _ hk=>⟨hk.1.1.1.1.1.1.1.2,⟨hk.1.1.1.1.1.2,hk.1.1.2⟩⟩))⟩,⟨by exact rX (Kd.R_mono p3.out (fun _ hk=>⟨hk.1.1.1.1.1.1.1.2,⟨hk.1.1.1.1.1.2,hk.1.1.1.2⟩⟩))⟩,⟨pB⟩⟩
  ·(first|rw[t1]|(simp only[i64_w,i32_w];rw[t1])|skip)
   have H':=aM H;clear H;go_wp2
   go_meet
   case rel=>exact⟨_,(true),sD,H',⟨by first|omega|exact Nat.le_refl _⟩,⟨by exact rX (Kd.R_mono m4.out (fun _ hk=>⟨hk.1.1.1.1.1.1.2,⟨hk.1.1.1.1.2,hk.1.1.2⟩⟩))⟩,⟨by exact rX (Kd.R_mono n3.out (fun _ hk=>⟨hk.1.1.1.1.1.1.1.2,⟨hk.1.1.1.1.2,hk.1.1.2⟩⟩))⟩,⟨by exact rX (Kd.R_mono o2.out (fun _ hk=>⟨hk.1.1.1.1.1.1.1.2,⟨hk.1.1.1.1.1.2,hk.1.1.2⟩⟩))⟩,⟨by exact rX (Kd.R_mono p3.out (fun _ hk=>⟨hk.1.1.1.1.1.1.1.2,⟨hk.1.1.1.1.1.2,hk.1.1.1.2⟩⟩))⟩,⟨pB⟩⟩
 case rest =>
  clear j2;try clear z3
  obtain⟨kq,r9,rfl,HA,z4,z5,z6,z7,z8,HB⟩:=hcut;cases kq with
  | zero=>exact absurd HA.out (by simp [Azx.j0])
  | succ z9 =>
   have H:=HA.out;clear HA;simp only[Azx.j0] at H;by_cases B0:r9=true
   ·subst B0;rw[if_pos rfl] at H;exact absurd H (by simp)
   ·obtain rfl:=bN B0;rw[if_neg nF] at H
    obtain⟨B1,B2⟩:∃ y_:List Int,y_=(([3,1]:List Int)):=⟨_,rfl⟩;replace H:((Bzq.f z9 b6 B1).bind fun B7=>(if B7=true then((Bzq.f z9 d4 (([4,3,3]:List Int))).bind fun B8=>(if B8=true then((Bzq.f z9 e0 (([3,6,10]:List Int))).bind fun C0=>(if C0=true then((Bzq.f z9 f6 (([0,0]:List Int))).bind fun C1=>(if C1=true then((Bzm.f z9 (([3,1]:List Int)) (([10,5]:List Int))).bind fun C2=>(if C2=true then((Bzm.f z9 (([2,2]:List Int)) (([10,5]:List Int))).bind fun C3=>(some (!C3))) else(none))) else(none))) else(none))) else(none))) else(none)))=some r:=yE B2 H
    have C4:=aM B2;clear B2;obtain⟨B7,C5,H⟩:=bT H;(try dsimp only at H);by_cases C6:B7=true
    ·subst C6;rw[if_pos rfl] at H;obtain⟨C7,C8⟩:∃ y_:List Int,y_=(([4,3,3]:List Int)):=⟨_,rfl⟩;replace H:((Bzq.f z9 d4 C7).bind fun B8=>(if B8=true then((Bzq.f z9 e0 (([3,6,10]:List Int))).bind fun C0=>(if C0=true then((Bzq.f z9 f6 (([0,0]:List Int))).bind fun C1=>(if C1=true then((Bzm.f z9 (([3,1]:List Int)) (([10,5]:List Int))).bind fun C2=>(if C2=true then((Bzm.f z9 (([2,2]:List Int)) (([10,5]:List Int))).bind fun C3=>(some (!C3))) else(none))) else(none))) else(none))) else(none)))=some r:=yE C8 H
     have C9:=aM C8;clear C8;obtain⟨B8,D0,H⟩:=bT H;(try dsimp only at H);by_cases D1:B8=true
     ·subst D1;rw[if_pos rfl] at H;obtain⟨D2,D3⟩:∃ y_:List Int,y_=(([3,6,10]:List Int)):=⟨_,rfl⟩;replace H:((Bzq.f z9 e0 D2).bind fun C0=>(if C0=true then((Bzq.f z9 f6 (([0,0]:List Int))).bind fun C1=>(if C1=true then((Bzm.f z9 (([3,1]:List Int)) (([10,5]:List Int))).bind fun C2=>(if C2=true then((Bzm.f z9 (([2,2]:List Int)) (([10,5]:List Int))).bind fun C3=>(some (!C3))) else(none))) else(none))) else(none)))=some r:=yE D3 H
      have D4:=aM D3;clear D3;obtain⟨C0,D5,H⟩:=bT H;(try dsimp only at H);by_cases D6:C0=true
      ·subst D6;rw[if_pos rfl] at H;obtain⟨D7,D8⟩:∃ y_:List Int,y_=(([0,0]:List Int)):=⟨_,rfl⟩;replace H:((Bzq.f z9 f6 D7).bind fun C1=>(if C1=true then((Bzm.f z9 (([3,1]:List Int)) (([10,5]:List Int))).bind fun C2=>(if C2=true then((Bzm.f z9 (([2,2]:List Int)) (([10,5]:List Int))).bind fun C3=>(some (!C3))) else(none))) else(none)))=some r:=yE D8 H
       have D9:=aM D8;clear D8;obtain⟨C1,E0,H⟩:=bT H;(try dsimp only at H);by_cases E1:C1=true
       ·subst E1;rw[if_pos rfl] at H;obtain⟨E2,E3⟩:∃ y_:List Int,y_=(([3,1]:List Int)):=⟨_,rfl⟩;replace H:((Bzm.f z9 E2 (([10,5]:List Int))).bind fun C2=>(if C2=true then((Bzm.f z9 (([2,2]:List Int)) (([10,5]:List Int))).bind fun C3=>(some (!C3))) else(none)))=some r:=yE E3 H
        have E4:=aM E3;clear E3;obtain⟨E5,E6⟩:∃ y_:List Int,y_=(([10,5]:List Int)):=⟨_,rfl⟩;replace H:((Bzm.f z9 E2 E5).bind fun C2=>(if C2=true then((Bzm.f z9 (([2,2]:List Int)) (([10,5]:List Int))).bind fun C3=>(some (!C3))) else(none)))=some r:=yE E6 H
        have E7:=aM E6;clear E6;obtain⟨C2,E8,H⟩:=bT H;(try dsimp only at H);by_cases E9:C2=true
        ·subst E9;rw[if_pos rfl] at H;obtain⟨F0,F1⟩:∃ y_:List Int,y_=(([2,2]:List Int)):=⟨_,rfl⟩;replace H:((Bzm.f z9 F0 (([10,5]:List Int))).bind fun C3=>(some (!C3)))=some r:=yE F1 H
         have F2:=aM F1;clear F1;obtain⟨F3,F4⟩:∃ y_:List Int,y_=(([10,5]:List Int)):=⟨_,rfl⟩;replace H:((Bzm.f z9 F0 F3).bind fun C3=>(some (!C3)))=some r:=yE F4 H
         have F5:=aM F4;clear F4;replace H:=bS H;obtain⟨C3,F6,H⟩:=H;replace H:(some (!C3))=some r:=H;have F7:=aM F6;clear F6;obtain rfl:=Option.some.inj H;go_wp2_with (first|((with_reducible refine gd 55 rfl ?_);refine iLg 55 [3,1] ?_;intro F8 F9 G0 hb;replace G0:=rY C4 G0;have G1:=rL (rn (rn (rn (rn G0 z5) z6) z7) z8);replace z5:=rE z5 G0 hb;replace z6:=rE z6 G0 hb;replace z7:=rE z7 G0 hb;replace z8:=rE z8 G0 hb;replace HB:=bB hb;clear hb G0;obtain⟨G2,G3,rfl⟩:=Kd.R_slice z5.out;obtain⟨G4,G5,rfl⟩:=Kd.R_slice G1.out)|((with_reducible refine gc 6 rfl ?_);refine gC 6 (some 56) Try.func6 #[.slice G2 b6.length G3,.slice G4 B1.length G5] ?_;(with_reducible refine(Bzq.calls z9 _ _ b6 _ _ B1 true _ ?_ ?_ ?_ ?_ C5.out).mono ?_);exact cR z5;exact lR z5;exact cR G1;exact lR G1;rintro e w' ⟨rfl,⟨nd,rfl⟩⟩;refine⟨_,rfl,?_⟩)|((with_reducible refine gd 59 rfl ?_);refine iLg 59 [4,3,3] ?_;intro G6 G7 G8 hb;replace G8:=rY C9 G8;have G9:=rL (rn (rn (rn (rn (rn G8 z5) z6) z7) z8) G1);replace z5:=rE z5 G8 hb;replace z6:=rE z6 G8 hb;replace z7:=rE z7 G8 hb;replace z8:=rE z8 G8 hb;replace G1:=rE G1 G8 hb;replace HB:=bB hb;clear hb G8;obtain⟨H0,H1,rfl⟩:=Kd.R_slice z6.out;obtain⟨H2,H3,rfl⟩:=Kd.R_slice G9.out)|(go_at_call 6;(with_reducible refine(Bzq.calls z9 _ _ d4 _ _ C7 true _ ?_ ?_ ?_ ?_ D0.out).mono ?_);exact cR z6;exact lR z6;exact cR G9;exact lR G9;rintro e w' ⟨rfl,⟨nd,rfl⟩⟩)|((with_reducible refine gd 64 rfl ?_);refine iLg 64 [3,6,10] ?_;intro H4 H5 H6 hb;replace H6:=rY D4 H6;have H7:=rL (rn (rn (rn (rn (rn (rn H6 z5) z6) z7) z8) G1) G9);replace z5:=rE z5 H6 hb;replace z6:=rE z6 H6 hb;replace z7:=rE z7 H6 hb;replace z8:=rE z8 H6 hb;replace G1:=rE G1 H6 hb;replace G9:=rE G9 H6 hb;replace HB:=bB hb;clear hb H6;obtain⟨H8,H9,rfl⟩:=Kd.R_slice z7.out;obtain⟨I0,I1,rfl⟩:=Kd.R_slice H7.out)|(go_at_call 6;(with_reducible refine(Bzq.calls z9 _ _ e0 _ _ D2 true _ ?_ ?_ ?_ ?_ D5.out).mono ?_);exact cR z7;exact lR z7;exact cR H7;exact lR H7;rintro e w' ⟨rfl,⟨nd,rfl⟩⟩)|((with_reducible refine gd 69 rfl ?_);refine iLg 69 [0,0] ?_;intro I2 I3 I4 hb;replace I4:=rY D9 I4;have I5:=rL (rn (rn (rn (rn (rn (rn (rn I4 z5) z6) z7) z8) G1) G9) H7);replace z5:=rE z5 I4 hb;replace z6:=rE z6 I4 hb;replace z7:=rE z7 I4 hb;replace z8:=rE z8 I4 hb;replace G1:=rE G1 I4 hb;replace G9:=rE G9 I4 hb;replace H7:=rE H7 I4 hb;replace HB:=bB hb;clear hb I4;obtain⟨I6,I7,rfl⟩:=Kd.R_slice z8.out;obtain⟨I8,I9,rfl⟩:=Kd.R_slice I5.out)|(go_at_call 6;(with_reducible refine(Bzq.calls z9 _ _ f6 _ _ D7 true _ ?_ ?_ ?_ ?_ E0.out).mono ?_);exact cR z8;exact lR z8;exact cR I5;exact lR I5;rintro e w' ⟨rfl,⟨nd,rfl⟩⟩)|((with_reducible refine gd 73 rfl ?_);refine iLg 73 [3,1] ?_;intro J0 J1 J2 hb;replace J2:=rY E4 J2;have J3:=rL (rn (rn (rn (rn (rn (rn (rn (rn J2 z5) z6) z7) z8) G1) G9) H7) I5);replace z5:=rE z5 J2 hb;replace z6:=rE z6 J2 hb;replace z7:=rE z7 J2 hb;replace z8:=rE z8 J2 hb;replace G1:=rE G1 J2 hb;replace G9:=rE G9 J2 hb;replace H7:=rE H7 J2 hb;replace I5:=rE I5 J2 hb;replace HB:=bB hb;clear hb J2)|((with_reducible refine gd 74 rfl ?_);refine iLg 74 [10,5] ?_;intro J4 J5 J6 hb;replace J6:=rY E7 J6;have J7:=rL (rn (rn (rn (rn (rn (rn (rn (rn (rn J6 z5) z6) z7) z8) G1) G9) H7) I5) J3);replace z5:=rE z5 J6 hb;replace z6:=rE z6 J6 hb;replace z7:=rE z7 J6 hb;replace z8:=rE z8 J6 hb;replace G1:=rE G1 J6 hb;replace G9:=rE G9 J6 hb;replace H7:=rE H7 J6 hb;replace I5:=rE I5 J6 hb;replace J3:=rE J3 J6 hb;replace HB:=bB hb;clear hb J6;obtain⟨J8,J9,rfl⟩:=Kd.R_slice J3.out;obtain⟨K0,K1,rfl⟩:=Kd.R_slice J7.out)|(go_at_call 12;(with_reducible refine(Bzm.calls z9 _ _ E2 _ _ E5 true _ ?_ ?_ ?_ ?_ E8.out).mono ?_);exact cR J3;exact lR J3;exact cR J7;exact lR J7;rintro e K2 ⟨rfl,hb⟩;replace z5:=rB z5 hb;replace z6:=rB z6 hb;replace z7:=rB z7 hb;replace z8:=rB z8 hb;replace G1:=rB G1 hb;replace G9:=rB G9 hb;replace H7:=rB H7 hb;replace I5:=rB I5 hb;replace J3:=rB J3 hb;replace J7:=rB J7 hb;replace HB:=bB hb;clear hb)|((with_reducible refine gd 78 rfl ?_);refine iLg 78 [2,2] ?_;intro K3 K4 K5 hb;replace K5:=rY F2 K5;have K6:=rL (rn (rn (rn (rn (rn (rn (rn (rn (rn (rn K5 z5) z6) z7) z8) G1) G9) H7) I5) J3) J7);replace z5:=rE z5 K5 hb;replace z6:=rE z6 K5 hb;replace z7:=rE z7 K5 hb;replace z8:=rE z8 K5 hb;replace G1:=rE G1 K5 hb;replace G9:=rE G9 K5 hb;replace H7:=rE H7 K5 hb;replace I5:=rE I5 K5 hb;replace J3:=rE J3 K5 hb;replace J7:=rE J7 K5 hb;replace HB:=bB hb;clear hb K5)|((with_reducible refine gd 79 rfl ?_);refine iLg 79 [10,5] ?_;intro K7 K8 K9 hb;replace K9:=rY F5 K9;have L0:=rL (rn (rn (rn (rn (rn (rn (rn (rn (rn (rn (rn K9 z5) z6) z7) z8) G1) G9) H7) I5) J3) J7) K6);replace z5:=rE z5 K9 hb;replace z6:=rE z6 K9 hb;replace z7:=rE z7 K9 hb;replace z8:=rE z8 K9 hb;replace G1:=rE G1 K9 hb;replace G9:=rE G9 K9 hb;replace H7:=rE H7 K9 hb;replace I5:=rE I5 K9 hb;replace J3:=rE J3 K9 hb;replace J7:=rE J7 K9 hb;replace K6:=rE K6 K9 hb;replace HB:=bB hb;clear hb K9;obtain⟨L3,L4,rfl⟩:=Kd.R_slice K6.out;obtain⟨L5,L6,rfl⟩:=Kd.R_slice L0.out)|(go_at_call 12;(with_reducible refine(Bzm.calls z9 _ _ F0 _ _ F3 C3 _ ?_ ?_ ?_ ?_ F7.out).mono ?_);exact cR K6;exact lR K6;exact cR L0;exact lR L0;rintro e L7 ⟨rfl,hb⟩;replace z5:=rB z5 hb;replace z6:=rB z6 hb;replace z7:=rB z7 hb;replace z8:=rB z8 hb;replace G1:=rB G1 hb;replace G9:=rB G9 hb;replace H7:=rB H7 hb;replace I5:=rB I5 hb;replace J3:=rB J3 hb;replace J7:=rB J7 hb;replace K6:=rB K6 hb;replace L0:=rB L0 hb;replace HB:=bB hb;clear hb))
         go_ret
         exact⟨eW,pB⟩
        ·obtain rfl:=bN E9;rw[if_neg nF] at H
         exact absurd H (by simp)
       ·obtain rfl:=bN E1;rw[if_neg nF] at H
        exact absurd H (by simp)
      ·obtain rfl:=bN D6;rw[if_neg nF] at H
       exact absurd H (by simp)
     ·obtain rfl:=bN D1;rw[if_neg nF] at H
      exact absurd H (by simp)
    ·obtain rfl:=bN C6;rw[if_neg nF] at H
     exact absurd H (by simp)


mutual
def papermilllaw12_ShareEvens.j0:Nat→Int→Int→List Int→Int→Bool→Option (Bool)
 | 0,_,_,_,_,_=>none
 | k+1,x0,x1,x5,x6,x33=>if x33=true then(none) else(if x1 < 1 then(papermilllaw12_ShareEvens.j1 k x0 x1 x5 x6 true) else(papermilllaw12_ShareEvens.j1 k x0 x1 x5 x6 (decide (x1 > 512))))
def papermilllaw12_ShareEvens.j1:Nat→Int→Int→List Int→Int→Bool→Option (Bool)
 | 0,_,_,_,_,_=>none
 | k+1,x0,x1,x5,x6,x39=>if x39=true then((Azx.f k).bind fun t364=>(some t364)) else(if 0≤x1 then(if(x1:Int).toNat≤35184372088832 then(papermilllaw12_ShareEvens.l0 k x0 x1 x5 x6 (List.replicate (x1:Int).toNat 0) 0) else(none)) else(none))
def papermilllaw12_ShareEvens.l0:Nat→Int→Int→List Int→Int→List Int→Int→Option (Bool)
 | 0,_,_,_,_,_,_=>none
 | k+1,x0,x1,x5,x6,x9,x10=>if x10 < x1 then(if 0≤x10 then(if x10 < (x9.length:Int) then(papermilllaw12_ShareEvens.l0 k x0 x1 x5 x6 (x9.set (x10:Int).toNat 1) (wrap64 (x10+1))) else(none)) else(none)) else((Azp.f k x0 x9).bind fun bt369=>((Bzq.f k x5 bt369.1).bind fun t373=>(if t373=true then(if x6=bt369.2 then((Azx.f k).bind fun t374=>(some t374)) else(none)) else(none))))
end
def papermilllaw12_ShareEvens.f (k:Nat) (a0:Int) (a1:Int):Option (Bool):=(Czq.f k a0 a1).bind fun bt355=>((Bzw.f k a0 a1).bind fun bt359=>((Bzq.f k bt355.1 bt359.1).bind fun t363=>(if t363=true then(papermilllaw12_ShareEvens.j0 k a0 a1 bt355.1 bt355.2 (bt355.2 != bt359.2)) else(papermilllaw12_ShareEvens.j0 k a0 a1 bt355.1 bt355.2 true))))
theorem papermilllaw12_ShareEvens.mono_l:∀ k,(∀ a5 a6 a7 a8 a9,LeO (papermilllaw12_ShareEvens.j0 k a5 a6 a7 a8 a9) (papermilllaw12_ShareEvens.j0 (k+1) a5 a6 a7 a8 a9))∧(∀ a5 a6 a7 a8 a9,LeO (papermilllaw12_ShareEvens.j1 k a5 a6 a7 a8 a9) (papermilllaw12_ShareEvens.j1 (k+1) a5 a6 a7 a8 a9))∧(∀ a5 a6 a7 a8 a9 b3,LeO (papermilllaw12_ShareEvens.l0 k a5 a6 a7 a8 a9 b3) (papermilllaw12_ShareEvens.l0 (k+1) a5 a6 a7 a8 a9 b3))
 | 0=>⟨fun _ _ _ _ _ r h=>by simp [papermilllaw12_ShareEvens.j0] at h,fun _ _ _ _ _ r h=>by simp [papermilllaw12_ShareEvens.j1] at h,fun _ _ _ _ _ _ r h=>by simp [papermilllaw12_ShareEvens.l0] at h⟩
 | k+1=>by
  obtain⟨ih0,ih1,ih2⟩:=papermilllaw12_ShareEvens.mono_l k;have i0:=@Azx.mono;have i1:=@Bzw.mono;have i2:=@Bzq.mono;have i3:=@Czq.mono;have i4:=@Azp.mono;refine⟨?_,?_,?_⟩
  ·intro a5 a6 a7 a8 a9;unfold papermilllaw12_ShareEvens.j0;exact mM
  ·intro a5 a6 a7 a8 a9;unfold papermilllaw12_ShareEvens.j1;exact mM
  ·intro a5 a6 a7 a8 a9 b3;unfold papermilllaw12_ShareEvens.l0;exact mM
theorem papermilllaw12_ShareEvens.mono:∀ a5 a6 k,LeO (papermilllaw12_ShareEvens.f k a5 a6) (papermilllaw12_ShareEvens.f (k+1) a5 a6):=by
 intro a5 a6 k;obtain⟨ih0,ih1,ih2⟩:=papermilllaw12_ShareEvens.mono_l k;unfold papermilllaw12_ShareEvens.f;have i0:=@Azx.mono;have i1:=@Bzw.mono;have i2:=@Bzq.mono;have i3:=@Czq.mono;have i4:=@Azp.mono;exact mM
theorem papermilllaw12_ShareEvens.calls (k:Nat) (a5:Int) (a6:Int) (r:Bool) (w:World) (h:papermilllaw12_ShareEvens.f k a5 a6=some r) :
  Calls Try.prog 3 #[.int .i64 a5,.int .i64 a6] w fun e w'=>e=.returned (.bool r)∧bw w w':=by
 have HB:=aM (Below.refl w.heap.size w);have H:((Czq.f k a5 a6).bind fun a7=>((Bzw.f k a5 a6).bind fun a8=>((Bzq.f k a7.1 a8.1).bind fun a9=>(if a9=true then(papermilllaw12_ShareEvens.j0 k a5 a6 a7.1 a7.2 (a7.2 != a8.2)) else(papermilllaw12_ShareEvens.j0 k a5 a6 a7.1 a7.2 true)))))=some r:=h
 clear h;obtain⟨⟨b3,b4⟩,b5,H⟩:=bT H;(try dsimp only at H);obtain⟨⟨b6,b7⟩,b8,H⟩:=bT H;(try dsimp only at H);have b9:=aM H;clear H;go_enter Try.func3,Try.ntmps3
 go_upto_region 3 with (first|((with_reducible refine gc 4 rfl ?_);refine gC 4 (some 16) Try.func4 #[.int .i64 a5,.int .i64 a6] ?_;(with_reducible refine(Czq.calls k a5 a6 b3 b4 _ b5.out).mono ?_);rintro e d0 ⟨d3,rfl,d4,hb⟩;refine⟨_,rfl,?_⟩;have d5:=rL d4;replace HB:=bB hb;clear hb d4)|((with_reducible refine gc 5 rfl ?_);refine gC 5 (some 22) Try.func5 #[.int .i64 a5,.int .i64 a6] ?_;(with_reducible refine(Bzw.calls k a5 a6 b6 b7 _ b8.out).mono ?_);rintro e d6 ⟨d7,rfl,d4,hb⟩;refine⟨_,rfl,?_⟩;have d8:=rL (rn d4 d5);replace d5:=rE d5 d4 hb;replace HB:=bB hb;clear hb d4))
 (try simp only[Act.put,sA,sZ,sC])
 go_cut [33] (fun d9 wc=>∃ (kq:Nat) (e0:Bool),d9=.bool e0∧Aside0 (papermilllaw12_ShareEvens.j0 kq a5 a6 b3 b4 e0=some r)∧Aside0 (kq≤k)∧Aside0 (rI wc w (fun _=>True) d3 b3)∧Aside0 (bw w wc))
 case first =>
  have H:=b9.out;clear b9;obtain⟨a9,e8,H⟩:=bT H;(try dsimp only at H);by_cases c9:a9=true
  ·subst c9;rw[if_pos rfl] at H;have H':=aM H;clear H;obtain⟨f2,f3,rfl⟩:=Kd.R_slice d5.out;obtain⟨f4,f5,rfl⟩:=Kd.R_slice d8.out;go_wp2_with (first|((with_reducible refine gc 6 rfl ?_);refine gC 6 (some 27) Try.func6 #[.slice f2 b3.length f3,.slice f4 b6.length f5] ?_;(with_reducible refine(Bzq.calls k _ _ b3 _ _ b6 true _ ?_ ?_ ?_ ?_ e8.out).mono ?_);exact cR d5;exact lR d5;exact cR d8;exact lR d8;rintro e w' ⟨rfl,⟨nd,rfl⟩⟩;refine⟨_,rfl,?_⟩))
   go_meet
   case rel=>exact⟨_,((b4 != b7)),sD,H',⟨by first|omega|exact Nat.le_refl _⟩,⟨by exact rX (Kd.R_mono d5.out (fun _ hk=>trivial))⟩,⟨pB⟩⟩
  ·obtain rfl:=bN c9;rw[if_neg nF] at H
   have H':=aM H;clear H;obtain⟨f6,f7,rfl⟩:=Kd.R_slice d5.out;obtain⟨f9,g4,rfl⟩:=Kd.R_slice d8.out;go_wp2_with (first|((with_reducible refine gc 6 rfl ?_);refine gC 6 (some 27) Try.func6 #[.slice f6 b3.length f7,.slice f9 b6.length g4] ?_;(with_reducible refine(Bzq.calls k _ _ b3 _ _ b6 false _ ?_ ?_ ?_ ?_ e8.out).mono ?_);exact cR d5;exact lR d5;exact cR d8;exact lR d8;rintro e w' ⟨rfl,⟨nd,rfl⟩⟩;refine⟨_,rfl,?_⟩))
   go_meet
   case rel=>exact⟨_,(true),sD,H',⟨by first|omega|exact Nat.le_refl _⟩,⟨by exact rX (Kd.R_mono d5.out (fun _ hk=>trivial))⟩,⟨pB⟩⟩
 case rest =>
  clear b9;try clear p2
  obtain⟨kq,e0,rfl,HA,g5,g6,HB⟩:=hcut;cases kq with
  | zero=>exact absurd HA.out (by simp [papermilllaw12_ShareEvens.j0])
  | succ g7 =>
   have H:=HA.out;clear HA;simp only[papermilllaw12_ShareEvens.j0] at H;by_cases g8:e0=true
   ·subst g8;rw[if_pos rfl] at H;exact absurd H (by simp)
   ·obtain rfl:=bN g8;rw[if_neg nF] at H
    have g9:=aM H;clear H;go_upto_region 5 with (fail)
    go_cut [39] (fun j2 wc=>∃ (kq:Nat) (j3:Bool),j2=.bool j3∧Aside0 (papermilllaw12_ShareEvens.j1 kq a5 a6 b3 b4 j3=some r)∧Aside0 (kq≤g7)∧Aside0 (rI wc w (fun _=>True) d3 b3)∧Aside0 (bw w wc))
    case first =>
     have H:=g9.out;clear g9;replace H:=iD H;rcases H with⟨j9,H⟩|⟨j9,H⟩
     ·(first|rw[j9]|(simp only[i64_w,i32_w];rw[j9])|skip)
      have H':=aM H;clear H;go_wp2
      go_meet
      case rel=>exact⟨_,(true),sD,H',⟨by have:=g5.out;first|omega|exact Nat.le_refl _⟩,⟨rX g6.out⟩,⟨pB⟩⟩
     ·(first|rw[j9]|(simp only[i64_w,i32_w];rw[j9])|skip)
      have H':=aM H;clear H;go_wp2
      go_meet
      case rel=>exact⟨_,(decide (a6 > 512)),sD,H',⟨by have:=g5.out;first|omega|exact Nat.le_refl _⟩,⟨rX g6.out⟩,⟨pB⟩⟩
    case rest =>
     clear g9;try clear l5
     obtain⟨kq,j3,rfl,HA,l6,g6,HB⟩:=hcut;cases kq with
     | zero=>exact absurd HA.out (by simp [papermilllaw12_ShareEvens.j1])
     | succ l7 =>
      have H:=HA.out;clear HA;simp only[papermilllaw12_ShareEvens.j1] at H;by_cases l8:j3=true
      ·subst l8;rw[if_pos rfl] at H;replace H:=bS H;obtain⟨l9,m0,H⟩:=H;replace H:(some l9)=some r:=H;have m4:=aM m0;clear m0;obtain rfl:=Option.some.inj H;go_wp2_with (first|((with_reducible refine gc 7 rfl ?_);refine gC 7 (some 40) Try.func7 #[] ?_;(with_reducible refine(Azx.calls l7  l9 _ m4.out).mono ?_);rintro e m5 ⟨rfl,hb⟩;refine⟨_,rfl,?_⟩;replace g6:=rB g6 hb;replace HB:=bB hb;clear hb))
       go_ret
       exact⟨eW,pB⟩
      ·obtain rfl:=bN l8;rw[if_neg nF] at H
       by_cases m6:0≤a6
       ·rw[if_pos m6] at H;have m7:=eq_true m6;have m8:=dE m6;clear m6;obtain⟨m9,H⟩:=iO H;have n0:=eq_true m9;have n1:decide ((a6:Int).toNat≤35184372088832)=true:=dE m9;clear m9;obtain⟨n2,n3⟩:∃ y_:List Int,y_=(List.replicate (a6:Int).toNat 0):=⟨_,rfl⟩;replace H:(papermilllaw12_ShareEvens.l0 l7 a5 a6 b3 b4 n2 0)=some r:=yE n3 H
        have n4:=aM n3;clear n3;have H':=aM H;clear H;go_wp2_with (first|((with_reducible refine gate_dst (N:=42) rfl ?_);refine Kd.R_make (Kd.int .i64) _ 3 rfl (N:=42) rfl 22 _ _ rfl a6 rfl rfl Try.underlying22 (.int .i64 0) 8 info3 rfl (by decide) (by omega) 0 (ok:=fun _=>True) (okp:=fun _=>True) rfl (fun _ hk=>hk) trivial (oE aS) (Nat.le_trans (Nat.mul_le_mul_right _ (oE aS:a6.toNat≤35184372088832)) (by omega)) (Below.refl _ _) (Nat.le_refl _) ?_;intro n5 n6 n7 hb hg_ hnew_;clear hg_ hnew_;replace n7:=rY n4 n7;have n8:=rL (rn n7 g6);replace g6:=rE g6 n7 hb;replace HB:=bB hb;clear hb n7))
        go_loopg [10] l7 (fun kq n9 w'=>∃ (o0:List Int) (o1:Int),n9=.int .i64 o1∧Aside0 (papermilllaw12_ShareEvens.l0 kq a5 a6 b3 b4 o0 o1=some r)∧Aside0 (kq≤l7)∧Aside0 (rI w' w (oV n5) d3 b3)∧Aside0 (rI w' w (oV d3) n5 o0)∧Aside0 (bw w w'))
        case atStart=>exact⟨(n2),(0),sD,H',⟨Nat.le_refl _⟩,⟨by exact rX (Kd.R_mono g6.out (fun _ hk=>hk.2))⟩,⟨by exact rX (Kd.R_mono n8.out (fun _ hk=>hk.2))⟩,⟨pB⟩⟩
        case round =>
         clear H';try clear l5
         obtain⟨o0,o1,rfl,HA,o2,g6,o3,HB⟩:=hrel;cases gk with
         | zero=>exact absurd HA.out (by simp [papermilllaw12_ShareEvens.l0])
         | succ k3 =>
          have H:=HA.out;clear HA;simp only[papermilllaw12_ShareEvens.l0] at H;replace H:=iD H;rcases H with⟨o5,H⟩|⟨o5,H⟩
          ·obtain⟨o6,H⟩:=iN H;obtain⟨o7,H⟩:=iN H;obtain⟨o8,o9⟩:∃ y_:List Int,y_=(o0.set (o1:Int).toNat 1):=⟨_,rfl⟩;replace H:(papermilllaw12_ShareEvens.l0 k3 a5 a6 b3 b4 o8 (wrap64 (o1+1)))=some r:=yE o9 H
           have p0:=aM o9;clear o9;have H':=aM H;clear H;have p3:0≤(o1:Int):=oE aS
           have p4:(o1:Int) < ((o0.length:Int):Int):=oE aS
           obtain⟨p7,p8,p9,r0,r4,r5,r6⟩:=Kd.R_form o3.out (by omega)
           (first|cases p9|(injection p9 with ea_ en_ ec_;(first|subst ea_|(injection ea_ with ea_;subst ea_));subst ec_;clear en_))
           have r7:=aM r0;have r8:=aM r6;clear r0 r4 r6;obtain⟨r9,t0⟩:=Kd.R_celln 0 o3.out (o1:Int) p3 p4;replace p3:=eq_true p3;replace p4:=eq_true p4;have t1:=Kd.R_putg o3.out (o1:Int) 1;go_wp2_with (first|((with_reducible refine gate_store (t:=3) (p:=50) rfl ?_);refine store_event (t:=3) (p:=50) (v:=?vo_w29) (w1:=(wr.setCell ⟨p7,(o1:Int).toNat,none⟩ (.int .i64 1))) ?hg ?ho ?hn ?hr ?_;(case ho=>rfl);(case hg=>rfl);(case hn=>rfl);(case hr=>first|(go_simp;done)|(go_simp;rfl));intro t2 hw;have hg:wr.grownBy t2 (some p7):=(by rw[hw];exact t1.2);have hp_:rI t2 w (oV d3) (.slice (some ⟨p7,0,none⟩) o0.length p8) o8:=(by rw[hw,p0.out];exact t1.1);clear t1;replace g6:=aM (Kd.R_after (v:=(.slice (some ⟨p7,0,none⟩) o0.length p8)) (v1:=(.slice (some ⟨p7,0,none⟩) o0.length p8)) (ok:=(fun _=>True)) (rX (Kd.R_mono g6.out (fun _ hk=>⟨trivial,hk⟩))) hg (.inl rfl));replace o3:=aM (hp_);replace HB:=aM ((by rw[hw];exact below_set (HB.out) r7.out:bw w t2));clear hg hw hp_))
           go_roundg k3
           case measure=>have:=g5.out;have:=l6.out;have:=o2.out;omega
           case rel=>exact⟨(o8),(wrap64 (o1+1)),sD,H',⟨by have:=g5.out;have:=l6.out;have:=o2.out;omega⟩,⟨by exact rX (Kd.R_mono g6.out (fun _ hk=>hk.2))⟩,⟨rX o3.out⟩,⟨pB⟩⟩
          ·obtain⟨⟨t3,t4⟩,t5,H⟩:=bT H;(try dsimp only at H);obtain⟨t6,t7,H⟩:=bT H;(try dsimp only at H);by_cases t8:t6=true
           ·subst t8;rw[if_pos rfl] at H;obtain⟨t9,H⟩:=iO H;have v2:(b4 == t4)=true:=beq_iff_eq.mpr t9;have v3:(b4 != t4)=false:=bne_eq_false_iff_eq.mpr t9;clear t9;replace H:=bS H;obtain⟨z3,z4,H⟩:=H;replace H:(some z3)=some r:=H;have z5:=aM z4;clear z4;obtain rfl:=Option.some.inj H;obtain⟨z6,z7,rfl⟩:=Kd.R_slice o3.out;go_wp2_with (first|((with_reducible refine gc 8 rfl ?_);refine gC 8 (some 54) Try.func8 #[.int .i64 a5,.slice z6 o0.length z7] ?_;(with_reducible refine(Azp.calls k3 a5 _ _ o0 t3 t4 _ ?_ ?_ t5.out).mono ?_);exact cR o3;exact lR o3;rintro e z8 ⟨z9,rfl,d4,hb⟩;refine⟨_,rfl,?_⟩;have B0:=rL (rn (rn d4 g6) o3);replace g6:=rE g6 d4 hb;replace o3:=rE o3 d4 hb;replace HB:=bB hb;clear hb d4;obtain⟨B1,B2,rfl⟩:=Kd.R_slice g6.out;obtain⟨B7,B8,rfl⟩:=Kd.R_slice B0.out)|((with_reducible refine gc 6 rfl ?_);refine gC 6 (some 59) Try.func6 #[.slice B1 b3.length B2,.slice B7 t3.length B8] ?_;(with_reducible refine(Bzq.calls k3 _ _ b3 _ _ t3 true _ ?_ ?_ ?_ ?_ t7.out).mono ?_);exact cR g6;exact lR g6;exact cR B0;exact lR B0;rintro e w' ⟨rfl,⟨nd,rfl⟩⟩;refine⟨_,rfl,?_⟩)|(go_at_call 7;(with_reducible refine(Azx.calls k3  z3 _ z5.out).mono ?_);rintro e C0 ⟨rfl,hb⟩;replace g6:=rB g6 hb;replace o3:=rB o3 hb;replace B0:=rB B0 hb;replace HB:=bB hb;clear hb))
            go_ret
            exact⟨eW,pB⟩
           ·obtain rfl:=bN t8;rw[if_neg nF] at H
            exact absurd H (by simp)
       ·rw[if_neg m6] at H;exact absurd H (by simp)

/-- THE ONE PURE STATEMENT of papermilllaw12_ShareEvens: yours. -/
def papermilllaw12_ShareEvens.Pure:Prop:=∀ (a0:Int) (a1:Int),(Lit.int .i64 a0).wf=true→(Lit.int .i64 a1).wf=true→∃ k,papermilllaw12_ShareEvens.f k a0 a1=some true
theorem papermilllaw12_ShareEvens.walk (P:papermilllaw12_ShareEvens.Pure) (a5:Int) (a6:Int) (w:World) (a7:(Lit.int .i64 a5).wf=true) (a8:(Lit.int .i64 a6).wf=true) :
  Calls Try.prog 3 #[.int .i64 a5,.int .i64 a6] w fun e w'=>e=.returned (.bool true)∧bw w w':=by
 obtain⟨k,h⟩:=P a5 a6 a7 a8;refine(papermilllaw12_ShareEvens.calls k a5 a6 true w h).mono ?_;rintro e w' ⟨rfl,hd⟩;exact⟨rfl,hd⟩

end Go.Proofs.Ytblifmmcmngdnaa.Print
