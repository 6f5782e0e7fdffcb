import Derived.Test.YtokkiljkgejnhaaGreatPrint0
import Derived.Test.YtokkiljkgejnhaaGreatPrint42
import Derived.Test.YtokkiljkgejnhaaGreatPrint46
import Derived.Test.YtokkiljkgejnhaaGreatPrint49
namespace Go.Proofs.YtokkiljkgejnhaaGreat.Print
open Go.RowKit Go.Proofs.YtokkiljkgejnhaaGreatW.PrintWords Go.Proofs.YtokkiljkgejnhaaGreatW.PrintLast Go.Proofs.YtokkiljkgejnhaaGreatW.PrintMore
attribute [local go_sem] max2_int min2_int max_two min_two max_three min_three max_four min_four
set_option linter.unusedVariables false
set_option maxRecDepth 100000
set_option maxHeartbeats 8000000
set_option linter.unusedSimpArgs false

mutual
def Azb.j0:Nat→List Int→List Int→Bool→Option (List Int × Int)
 | 0,_,_,_=>none
 | k+1,x0,x1,x17=>if x17=true then(some (([]:List Int),3)) else(Azb.l0 k x0 x1 ([]:List Int) 0 0)
def Azb.l0:Nat→List Int→List Int→List Int→Int→Int→Option (List Int × Int)
 | 0,_,_,_,_,_=>none
 | k+1,x0,x1,x6,x7,x8=>if x8 < (x0.length:Int) then(Azb.j2 k x0 x1 x6 x7 x8 true) else(if x8 < (x1.length:Int) then(Azb.j2 k x0 x1 x6 x7 x8 true) else(Azb.j2 k x0 x1 x6 x7 x8 (decide (x7 > 0))))
def Azb.j2:Nat→List Int→List Int→List Int→Int→Int→Bool→Option (List Int × Int)
 | 0,_,_,_,_,_,_=>none
 | k+1,x0,x1,x6,x7,x8,x31=>if x31=true then((Ezq.f x0 x8).bind fun t898=>((Ezq.f x1 x8).bind fun t899=>(if x6.length < 17592186044416 then(Azb.l0 k x0 x1 (x6 ++ [Int.tmod (wrap64 ((wrap64 (t898+t899))+x7)) 1000000000]) (wrap64 (Int.tdiv (wrap64 ((wrap64 (t898+t899))+x7)) 1000000000)) (wrap64 (x8+1))) else(none)))) else((Bzy.f k x6).bind fun bt903=>(some (bt903.1,bt903.2)))
end
def Azb.f (k:Nat) (l0:List Int) (l1:List Int):Option (List Int × Int):=(Azz.f k l0).bind fun t896=>(if t896=true then((Azz.f k l1).bind fun t897=>(Azb.j0 k l0 l1 (!t897))) else(Azb.j0 k l0 l1 true))
theorem Azb.mono_l:∀ k,(∀ a6 a7 a8,LeO (Azb.j0 k a6 a7 a8) (Azb.j0 (k+1) a6 a7 a8))∧(∀ a6 a7 a8 b4 b5,LeO (Azb.l0 k a6 a7 a8 b4 b5) (Azb.l0 (k+1) a6 a7 a8 b4 b5))∧(∀ a6 a7 a8 b4 b5 b6,LeO (Azb.j2 k a6 a7 a8 b4 b5 b6) (Azb.j2 (k+1) a6 a7 a8 b4 b5 b6))
 | 0=>⟨fun _ _ _ r h=>by simp [Azb.j0] at h,fun _ _ _ _ _ r h=>by simp [Azb.l0] at h,fun _ _ _ _ _ _ r h=>by simp [Azb.j2] at h⟩
 | k+1=>by
  obtain⟨ih0,ih1,ih2⟩:=Azb.mono_l k;have i0:=@Azz.mono;have i1:=@Bzy.mono;refine⟨?_,?_,?_⟩
  ·intro a6 a7 a8;unfold Azb.j0;exact mM
  ·intro a6 a7 a8 b4 b5;unfold Azb.l0;exact mM
  ·intro a6 a7 a8 b4 b5 b6;unfold Azb.j2;exact mM
theorem Azb.mono:∀ a6 a7 k,LeO (Azb.f k a6 a7) (Azb.f (k+1) a6 a7):=by
 intro a6 a7 k;obtain⟨ih0,ih1,ih2⟩:=Azb.mono_l k;unfold Azb.f;have i0:=@Azz.mono;have i1:=@Bzy.mono;exact mM
theorem Azb.calls (k:Nat) (a6:Option Addr) (a7:Nat) (l0:List Int) (a8:Option Addr) (b4:Nat) (l1:List Int) (b5:List Int) (b6:Int) (w:World) (b7:Kd.C (Kd.int .i64) w a6 l0.length l0) (b8:l0.length≤a7) (b9:Kd.C (Kd.int .i64) w a8 l1.length l1) (d0:l1.length≤b4) (h:Azb.f k l0 l1=some (b5,b6)) :
  Calls Tryz.prog 86 #[.slice a6 l0.length a7,.slice a8 l1.length b4] w fun e w'=>∃ v0_:Value,e=.returned (.tuple #[v0_,.int .i64 b6])∧Kd.R (Kd.int .i64) 3 w' w.heap.size (fun _=>True) v0_ b5∧Below w.heap.size w w':=by
 have d6:=aM b7;have d7:=aM b8;clear b7 b8;have d8:=aM b9;have d9:=aM d0;clear b9 d0;have HB:=aM (Below.refl w.heap.size w);have H:((Azz.f k l0).bind fun e6=>(if e6=true then((Azz.f k l1).bind fun e7=>(Azb.j0 k l0 l1 (!e7))) else(Azb.j0 k l0 l1 true)))=some (b5,b6):=h
 clear h;have e8:=aM H;clear H;go_enter Tryz.func86,Tryz.ntmps86
 go_upto_region 1 with (fail)
 go_cut [17] (fun e9 wc=>∃ (kq:Nat) (f3:Bool),e9=.bool f3∧Aside0 (Azb.j0 kq l0 l1 f3=some (b5,b6))∧Aside0 (kq≤k)∧Aside0 (Below w.heap.size w wc))
 case first =>
  have H:=e8.out;clear e8;obtain⟨e6,f4,H⟩:=bT H;(try dsimp only at H);by_cases c5:e6=true
  ·subst c5;rw[if_pos rfl] at H;obtain⟨e7,f6,H⟩:=bT H;(try dsimp only at H);have H':=aM H;clear H;go_wp2_with (first|((with_reducible refine gc 69 rfl ?_);refine gC 69 (some 11) Tryz.func69 #[.slice a6 l0.length a7] ?_;(with_reducible refine(Azz.calls k _ _ l0 true _ ?_ ?_ f4.out).mono ?_);exact cB d6;exact d7.out;rintro e w' ⟨rfl,⟨nd,rfl⟩⟩;refine⟨_,rfl,?_⟩)|(go_at_call 69;(with_reducible refine(Azz.calls k _ _ l1 e7 _ ?_ ?_ f6.out).mono ?_);exact cB d8;exact d9.out;rintro e w' ⟨rfl,⟨nd,rfl⟩⟩))
   go_meet
   case rel=>exact⟨_,(!e7),sD,H',⟨by first|omega|exact Nat.le_refl _⟩,⟨pB⟩⟩
  ·obtain rfl:=bN c5;rw[if_neg nF] at H
   have H':=aM H;clear H;go_wp2_with (first|((with_reducible refine gc 69 rfl ?_);refine gC 69 (some 11) Tryz.func69 #[.slice a6 l0.length a7] ?_;(with_reducible refine(Azz.calls k _ _ l0 false _ ?_ ?_ f4.out).mono ?_);exact cB d6;exact d7.out;rintro e w' ⟨rfl,⟨nd,rfl⟩⟩;refine⟨_,rfl,?_⟩))
   go_meet
   case rel=>exact⟨_,(true),sD,H',⟨by first|omega|exact Nat.le_refl _⟩,⟨pB⟩⟩
 case rest =>
  clear e8;try clear b4
  obtain⟨kq,f3,rfl,HA,f9,HB⟩:=hcut;cases kq with
  | zero=>exact absurd HA.out (by simp [Azb.j0])
  | succ g4 =>
   have H:=HA.out;clear HA;simp only[Azb.j0] at H;by_cases c7:f3=true
   ·subst c7;rw[if_pos rfl] at H;obtain⟨rfl,rfl⟩:=q2 H;go_wp2
    go_ret2
    exact⟨_,eW,nK,pB⟩
   ·obtain rfl:=bN c7;rw[if_neg nF] at H
    have H':=aM H;clear H;go_wp2
    go_loopg [6,7,8] g4 (fun kq g5 g6 g7 w'=>∃ (g8:List Int) (g9:Int) (j3:Int),g6=.int .i64 g9∧g7=.int .i64 j3∧Aside0 (Azb.l0 kq l0 l1 g8 g9 j3=some (b5,b6))∧Aside0 (kq≤g4)∧Aside0 (Kd.R (Kd.int .i64) 3 w' w.heap.size (fun _=>True) g5 g8)∧Aside0 (Below w.heap.size w w'))
    case atStart=>exact⟨(([]:List Int)),(0),(0),sD,sD,H',⟨Nat.le_refl _⟩,⟨nK⟩,⟨pB⟩⟩
    case round =>
     clear H';try clear b4
     obtain⟨g8,g9,j3,rfl,rfl,HA,j4,j5,HB⟩:=hrel;cases gk with
     | zero=>exact absurd HA.out (by simp [Azb.l0])
     | succ k2 =>
      have H:=HA.out;clear HA;simp only[Azb.l0] at H;have j6:=aM H;clear H;go_upto_region 6 with (fail)
      go_cut [31] (fun j7 wc=>∃ (kq:Nat) (j8:Bool),j7=.bool j8∧Aside0 (Azb.j2 kq l0 l1 g8 g9 j3 j8=some (b5,b6))∧Aside0 (kq≤k2)∧Aside0 (Kd.R (Kd.int .i64) 3 wc w.heap.size (fun _=>True) u6 g8)∧Aside0 (Below w.heap.size w wc))
      case first =>
       have H:=j6.out;clear j6;by_cases c9:j3 < (l0.length:Int)
       ·rw[if_pos c9] at H;have j9:=dE c9;clear c9;(first|rw[j9]|(simp only[i64_w,i32_w];rw[j9])|skip)
        have H':=aM H;clear H;go_wp2
        go_meet
        case rel=>exact⟨_,(true),sD,H',⟨by have:=f9.out;have:=j4.out;first|omega|exact Nat.le_refl _⟩,⟨rX j5.out⟩,⟨pB⟩⟩
       ·rw[if_neg c9] at H;have j9:decide (j3 < (l0.length:Int))=false:=decide_eq_false c9;clear c9;(first|rw[j9]|(simp only[i64_w,i32_w];rw[j9])|skip)
        by_cases c10:j3 < (l1.length:Int)
        ·rw[if_pos c10] at H;have l5:=dE c10;clear c10;have H':=aM H;clear H;go_wp2
         go_meet
         case rel=>exact⟨_,(true),sD,H',⟨by have:=f9.out;have:=j4.out;first|omega|exact Nat.le_refl _⟩,⟨rX j5.out⟩,⟨pB⟩⟩
        ·rw[if_neg c10] at H;have l5:decide (j3 < (l1.length:Int))=false:=decide_eq_false c10;clear c10;have H':=aM H;clear H;go_wp2
         go_meet
         case rel=>exact⟨_,(decide (g9 > 0)),sD,H',⟨by have:=f9.out;have:=j4.out;first|omega|exact Nat.le_refl _⟩,⟨rX j5.out⟩,⟨pB⟩⟩
      case rest =>
       clear j6;try clear b4
       obtain⟨kq,j8,rfl,HA,l6,j5,HB⟩:=hcut;cases kq with
       | zero=>exact absurd HA.out (by simp [Azb.j2])
       | succ l7 =>
        have H:=HA.out;clear HA;simp only[Azb.j2] at H;by_cases l8:j8=true
        ·subst l8;rw[if_pos rfl] at H;obtain⟨l9,m0,H⟩:=bT H;(try dsimp only at H);obtain⟨m3,m4,H⟩:=bT H;(try dsimp only at H);obtain⟨m5,H⟩:=iO H;have LMc14:=aM m5;clear m5;obtain⟨m6,m7⟩:∃ y_:List Int,y_=(g8 ++ [Int.tmod (wrap64 ((wrap64 (l9+m3))+g9)) 1000000000]):=⟨_,rfl⟩;replace H:(Azb.l0 l7 l0 l1 m6 (wrap64 (Int.tdiv (wrap64 ((wrap64 (l9+m3))+g9)) 1000000000)) (wrap64 (j3+1)))=some (b5,b6):=yE m7 H
         have m8:=aM m7;clear m7;have H':=aM H;clear H;go_wp2_with (first|((with_reducible refine gc 89 rfl ?_);refine gC 89 (some 36) Tryz.func89 #[.slice a6 l0.length a7,.int .i64 j3] ?_;(with_reducible refine(Ezq.calls _ _ l0 j3 l9 _ ?_ ?_ m0.out).mono ?_);exact cB d6;exact d7.out;rintro e w' ⟨rfl,⟨nd,rfl⟩⟩;refine⟨_,rfl,?_⟩)|((with_reducible refine gc 89 rfl ?_);refine gC 89 (some 39) Tryz.func89 #[.slice a8 l1.length b4,.int .i64 j3] ?_;(with_reducible refine(Ezq.calls _ _ l1 j3 m3 _ ?_ ?_ m4.out).mono ?_);exact cB d8;exact d9.out;rintro e w' ⟨rfl,⟨nd,rfl⟩⟩;refine⟨_,rfl,?_⟩)|((with_reducible refine gate_builtin (b:=.append) (xs:=#[.tmp 43,.tmp 46]) rfl ?_);(try(refine gate_guard (by rfl) ?_;dsimp only));at_builtin;refine Kd.R_append (Kd.int .i64) (w0:=w) w.heap.size rfl (.tmp 43) (.tmp 46) 24 3 (.int .i64 0) 8 rfl Tryz.underlying24 info3 rfl (by decide) (by omega) u6 g8 (Int.tmod (wrap64 ((wrap64 (l9+m3))+g9)) 1000000000) [.int .i64 (Int.tmod (wrap64 ((wrap64 (l9+m3))+g9)) 1000000000)] (fun _=>True) (fun _=>False) rfl rfl ?aP (fun _ hk=>hk.elim) ?aF ?aO ?aB ?aS ?aL ?_;(case aP=>exact rfl);(case aB=>exact pB);(case aF=>exact(fun _ _=>trivial));(case aO=>exact(rX j5.out));(case aS=>exact(below_size pB));(case aL=>have:=LMc14.out;omega);intro m9 n0 ho hb hg hat;rw[← m8.out] at ho;have n6:=aM (ho);replace HB:=aM (hb);clear j5 ho hb hg hat))
         go_roundg l7
         case measure=>have:=f9.out;have:=j4.out;have:=l6.out;omega
         case rel=>exact⟨(m6),(wrap64 (Int.tdiv (wrap64 ((wrap64 (l9+m3))+g9)) 1000000000)),(wrap64 (j3+1)),sD,sD,H',⟨by have:=f9.out;have:=j4.out;have:=l6.out;omega⟩,⟨rX n6.out⟩,⟨pB⟩⟩
        ·obtain rfl:=bN l8;rw[if_neg nF] at H
         replace H:=bS H;obtain⟨⟨n7,n8⟩,n9,H⟩:=H;replace H:(some (n7,n8))=some (b5,b6):=H;have o0:=aM n9;clear n9;obtain⟨rfl,rfl⟩:=q2 H;obtain⟨o8,o9,rfl⟩:=Kd.R_slice j5.out;go_wp2_with (first|((with_reducible refine gc 72 rfl ?_);refine gC 72 (some 51) Tryz.func72 #[.slice o8 g8.length o9] ?_;(with_reducible refine(Bzy.calls l7 _ _ g8 n7 n8 _ ?_ ?_ o0.out).mono ?_);exact cR j5;exact lR j5;rintro e p0 ⟨p3,rfl,p4,hb⟩;refine⟨_,rfl,?_⟩;have p5:=rL (rn p4 j5);replace j5:=rE j5 p4 hb;replace HB:=bB hb;clear hb p4))
         go_ret2
         exact⟨_,eW,by exact rX (Kd.R_mono p5.out (fun _ hk=>trivial)),pB⟩

def Fzv.f (k:Nat) (l0:List Int) (l1:List Int):Option (Int × Int):=(Azz.f k l0).bind fun t907=>(if t907=true then((Azz.f k l1).bind fun t908=>(if t908=true then((Bzw.f k l0 l1).bind fun t909=>(some (t909,0))) else(some (0,3)))) else(some (0,3)))
theorem Fzv.mono:∀ a6 a7 k,LeO (Fzv.f k a6 a7) (Fzv.f (k+1) a6 a7):=by
 intro a6 a7 k;unfold Fzv.f;have i0:=@Azz.mono;have i1:=@Bzw.mono;exact mM
theorem Fzv.calls (k:Nat) (a6:Option Addr) (a7:Nat) (l0:List Int) (a8:Option Addr) (b4:Nat) (l1:List Int) (b5:Int) (b6:Int) (w:World) (b7:Kd.C (Kd.int .i64) w a6 l0.length l0) (b8:l0.length≤a7) (b9:Kd.C (Kd.int .i64) w a8 l1.length l1) (d0:l1.length≤b4) (h:Fzv.f k l0 l1=some (b5,b6)) :
  Calls Tryz.prog 87 #[.slice a6 l0.length a7,.slice a8 l1.length b4] w fun e w'=>e=.returned (.tuple #[.int .i64 b5,.int .i64 b6])∧Drawn0 w w':=by
 have d6:=aM b7;have d7:=aM b8;clear b7 b8;have d8:=aM b9;have d9:=aM d0;clear b9 d0;have H:((Azz.f k l0).bind fun e6=>(if e6=true then((Azz.f k l1).bind fun e7=>(if e7=true then((Bzw.f k l0 l1).bind fun e8=>(some (e8,0))) else(some (0,3)))) else(some (0,3))))=some (b5,b6):=h
 clear h;obtain⟨e6,e9,H⟩:=bT H;(try dsimp only at H);by_cases c4:e6=true
 ·subst c4;rw[if_pos rfl] at H;obtain⟨e7,f3,H⟩:=bT H;(try dsimp only at H);by_cases c6:e7=true
  ·subst c6;rw[if_pos rfl] at H;replace H:=bS H;obtain⟨e8,f4,H⟩:=H;replace H:(some (e8,0))=some (b5,b6):=H;have f6:=aM f4;clear f4;obtain⟨rfl,rfl⟩:=q2 H;go_enter Tryz.func87,Tryz.ntmps87
   go_wp2_with (first|((with_reducible refine gc 69 rfl ?_);refine gC 69 (some 7) Tryz.func69 #[.slice a6 l0.length a7] ?_;(with_reducible refine(Azz.calls k _ _ l0 true _ ?_ ?_ e9.out).mono ?_);exact cX d6.out;exact d7.out;rintro e w' ⟨rfl,⟨nd,rfl⟩⟩;refine⟨_,rfl,?_⟩)|(go_at_call 69;(with_reducible refine(Azz.calls k _ _ l1 true _ ?_ ?_ f3.out).mono ?_);exact cX d8.out;exact d9.out;rintro e w' ⟨rfl,⟨nd,rfl⟩⟩)|((with_reducible refine gc 105 rfl ?_);refine gC 105 (some 16) Tryz.func105 #[.slice a6 l0.length a7,.slice a8 l1.length b4] ?_;(with_reducible refine(Bzw.calls k _ _ l0 _ _ l1 e8 _ ?_ ?_ ?_ ?_ f6.out).mono ?_);exact cX d6.out;exact d7.out;exact cX d8.out;exact d9.out;rintro e w' ⟨rfl,⟨nd,rfl⟩⟩;refine⟨_,rfl,?_⟩))
   go_ret2
   exact⟨sD,dR⟩
  ·obtain rfl:=bN c6;rw[if_neg nF] at H
   obtain⟨rfl,rfl⟩:=q2 H;go_enter Tryz.func87,Tryz.ntmps87
   go_wp2_with (first|((with_reducible refine gc 69 rfl ?_);refine gC 69 (some 7) Tryz.func69 #[.slice a6 l0.length a7] ?_;(with_reducible refine(Azz.calls k _ _ l0 true _ ?_ ?_ e9.out).mono ?_);exact cX d6.out;exact d7.out;rintro e w' ⟨rfl,⟨nd,rfl⟩⟩;refine⟨_,rfl,?_⟩)|(go_at_call 69;(with_reducible refine(Azz.calls k _ _ l1 false _ ?_ ?_ f3.out).mono ?_);exact cX d8.out;exact d9.out;rintro e w' ⟨rfl,⟨nd,rfl⟩⟩))
   go_ret2
   exact⟨sD,dR⟩
 ·obtain rfl:=bN c4;rw[if_neg nF] at H
  obtain⟨rfl,rfl⟩:=q2 H;go_enter Tryz.func87,Tryz.ntmps87
  go_wp2_with (first|((with_reducible refine gc 69 rfl ?_);refine gC 69 (some 7) Tryz.func69 #[.slice a6 l0.length a7] ?_;(with_reducible refine(Azz.calls k _ _ l0 false _ ?_ ?_ e9.out).mono ?_);exact cX d6.out;exact d7.out;rintro e w' ⟨rfl,⟨nd,rfl⟩⟩;refine⟨_,rfl,?_⟩))
  go_ret2
  exact⟨sD,dR⟩


def Czx.j0:Nat→List Int→List Int→Bool→Option (List Int × Int)
 | 0,_,_,_=>none
 | k+1,x0,x1,x13=>if x13=true then(some (([]:List Int),3)) else((Bzw.f k x0 x1).bind fun t912=>(if t912 < 0 then(some (([]:List Int),1)) else((Bzp.f k x0 x1).bind fun t913=>(some (t913,0)))))
def Czx.f (k:Nat) (l0:List Int) (l1:List Int):Option (List Int × Int):=(Azz.f k l0).bind fun t910=>(if t910=true then((Azz.f k l1).bind fun t911=>(Czx.j0 k l0 l1 (!t911))) else(Czx.j0 k l0 l1 true))
theorem Czx.mono_l:∀ k,(∀ a6 a7 a8,LeO (Czx.j0 k a6 a7 a8) (Czx.j0 (k+1) a6 a7 a8))
 | 0=>fun _ _ _ r h=>by simp [Czx.j0] at h
 | k+1=>by
  have ih0:=Czx.mono_l k
  ·intro a6 a7 a8;unfold Czx.j0;have i0:=@Azz.mono;have i1:=@Bzw.mono;have i2:=@Bzp.mono;exact mM
theorem Czx.mono:∀ a6 a7 k,LeO (Czx.f k a6 a7) (Czx.f (k+1) a6 a7):=by
 intro a6 a7 k;have ih0:=Czx.mono_l k;unfold Czx.f;have i0:=@Azz.mono;have i1:=@Bzw.mono;have i2:=@Bzp.mono;exact mM
theorem Czx.calls (k:Nat) (a6:Option Addr) (a7:Nat) (l0:List Int) (a8:Option Addr) (b4:Nat) (l1:List Int) (b5:List Int) (b6:Int) (w:World) (b7:Kd.C (Kd.int .i64) w a6 l0.length l0) (b8:l0.length≤a7) (b9:Kd.C (Kd.int .i64) w a8 l1.length l1) (d0:l1.length≤b4) (h:Czx.f k l0 l1=some (b5,b6)) :
  Calls Tryz.prog 88 #[.slice a6 l0.length a7,.slice a8 l1.length b4] w fun e w'=>∃ v0_:Value,e=.returned (.tuple #[v0_,.int .i64 b6])∧Kd.R (Kd.int .i64) 3 w' w.heap.size (fun _=>True) v0_ b5∧Below w.heap.size w w':=by
 have d6:=aM b7;have d7:=aM b8;clear b7 b8;have d8:=aM b9;have d9:=aM d0;clear b9 d0;have HB:=aM (Below.refl w.heap.size w);have H:((Azz.f k l0).bind fun e6=>(if e6=true then((Azz.f k l1).bind fun e7=>(Czx.j0 k l0 l1 (!e7))) else(Czx.j0 k l0 l1 true)))=some (b5,b6):=h
 clear h;have e8:=aM H;clear H;go_enter Tryz.func88,Tryz.ntmps88
 go_upto_region 1 with (fail)
 go_cut [13] (fun e9 wc=>∃ (kq:Nat) (f3:Bool),e9=.bool f3∧Aside0 (Czx.j0 kq l0 l1 f3=some (b5,b6))∧Aside0 (kq≤k)∧Aside0 (Below w.heap.size w wc))
 case first =>
  have H:=e8.out;clear e8;obtain⟨e6,f4,H⟩:=bT H;(try dsimp only at H);by_cases c5:e6=true
  ·subst c5;rw[if_pos rfl] at H;obtain⟨e7,f6,H⟩:=bT H;(try dsimp only at H);have H':=aM H;clear H;go_wp2_with (first|((with_reducible refine gc 69 rfl ?_);refine gC 69 (some 7) Tryz.func69 #[.slice a6 l0.length a7] ?_;(with_reducible refine(Azz.calls k _ _ l0 true _ ?_ ?_ f4.out).mono ?_);exact cB d6;exact d7.out;rintro e w' ⟨rfl,⟨nd,rfl⟩⟩;refine⟨_,rfl,?_⟩)|(go_at_call 69;(with_reducible refine(Azz.calls k _ _ l1 e7 _ ?_ ?_ f6.out).mono ?_);exact cB d8;exact d9.out;rintro e w' ⟨rfl,⟨nd,rfl⟩⟩))
   go_meet
   case rel=>exact⟨_,(!e7),sD,H',⟨by first|omega|exact Nat.le_refl _⟩,⟨pB⟩⟩
  ·obtain rfl:=bN c5;rw[if_neg nF] at H
   have H':=aM H;clear H;go_wp2_with (first|((with_reducible refine gc 69 rfl ?_);refine gC 69 (some 7) Tryz.func69 #[.slice a6 l0.length a7] ?_;(with_reducible refine(Azz.calls k _ _ l0 false _ ?_ ?_ f4.out).mono ?_);exact cB d6;exact d7.out;rintro e w' ⟨rfl,⟨nd,rfl⟩⟩;refine⟨_,rfl,?_⟩))
   go_meet
   case rel=>exact⟨_,(true),sD,H',⟨by first|omega|exact Nat.le_refl _⟩,⟨pB⟩⟩
 case rest =>
  clear e8;try clear b4
  obtain⟨kq,f3,rfl,HA,f9,HB⟩:=hcut;cases kq with
  | zero=>exact absurd HA.out (by simp [Czx.j0])
  | succ g4 =>
   have H:=HA.out;clear HA;simp only[Czx.j0] at H;by_cases c7:f3=true
   ·subst c7;rw[if_pos rfl] at H;obtain⟨rfl,rfl⟩:=q2 H;go_wp2
    go_ret2
    exact⟨_,eW,nK,pB⟩
   ·obtain rfl:=bN c7;rw[if_neg nF] at H
    obtain⟨g5,g6,H⟩:=bT H;(try dsimp only at H);by_cases c9:g5 < 0
    ·rw[if_pos c9] at H;have g7:=dE c9;clear c9;obtain⟨rfl,rfl⟩:=q2 H;go_wp2_with (first|((with_reducible refine gc 105 rfl ?_);refine gC 105 (some 16) Tryz.func105 #[.slice a6 l0.length a7,.slice a8 l1.length b4] ?_;(with_reducible refine(Bzw.calls g4 _ _ l0 _ _ l1 g5 _ ?_ ?_ ?_ ?_ g6.out).mono ?_);exact cB d6;exact d7.out;exact cB d8;exact d9.out;rintro e w' ⟨rfl,⟨nd,rfl⟩⟩;refine⟨_,rfl,?_⟩))
     go_ret2
     exact⟨_,eW,nK,pB⟩
    ·rw[if_neg c9] at H;have g7:decide (g5 < 0)=false:=decide_eq_false c9;clear c9;replace H:=bS H;obtain⟨g8,g9,H⟩:=H;replace H:(some (g8,0))=some (b5,b6):=H;have j3:=aM g9;clear g9;obtain⟨rfl,rfl⟩:=q2 H;go_wp2_with (first|((with_reducible refine gc 105 rfl ?_);refine gC 105 (some 16) Tryz.func105 #[.slice a6 l0.length a7,.slice a8 l1.length b4] ?_;(with_reducible refine(Bzw.calls g4 _ _ l0 _ _ l1 g5 _ ?_ ?_ ?_ ?_ g6.out).mono ?_);exact cB d6;exact d7.out;exact cB d8;exact d9.out;rintro e w' ⟨rfl,⟨nd,rfl⟩⟩;refine⟨_,rfl,?_⟩)|((with_reducible refine gc 91 rfl ?_);refine gC 91 (some 20) Tryz.func91 #[.slice a6 l0.length a7,.slice a8 l1.length b4] ?_;(with_reducible refine(Bzp.calls g4 _ _ l0 _ _ l1 g8 _ ?_ ?_ ?_ ?_ j3.out).mono ?_);exact cB d6;exact d7.out;exact cB d8;exact d9.out;rintro e j4 ⟨j5,rfl,j6,hb⟩;refine⟨_,rfl,?_⟩;have j7:=rL j6;replace HB:=bB hb;clear hb j6))
     go_ret2
     exact⟨_,eW,rX j7.out,pB⟩

def Ezm.f (k:Nat) (a0:Bool) (l1:List Int) (a2:Bool) (l3:List Int):Option (Bool × List Int × Int):=if(a0 == a2)=true then((Azb.f k l1 l3).bind fun bt916=>(some (a0,bt916.1,bt916.2))) else((Fzv.f k l1 l3).bind fun bt920=>(if bt920.1≥0 then((Czx.f k l1 l3).bind fun bt922=>(some (a0,bt922.1,bt922.2))) else((Czx.f k l3 l1).bind fun bt926=>(some (a2,bt926.1,bt926.2)))))
theorem Ezm.mono:∀ a6 a7 a8 b4 k,LeO (Ezm.f k a6 a7 a8 b4) (Ezm.f (k+1) a6 a7 a8 b4):=by
 intro a6 a7 a8 b4 k;unfold Ezm.f;have i0:=@Azb.mono;have i1:=@Fzv.mono;have i2:=@Czx.mono;exact mM
theorem Ezm.calls (k:Nat) (a6:Bool) (a7:Option Addr) (a8:Nat) (l1:List Int) (b4:Bool) (b5:Option Addr) (c3:Nat) (b6:List Int) (b7:Bool) (b8:List Int) (b9:Int) (w:World) (d0:Kd.C (Kd.int .i64) w a7 l1.length l1) (d6:l1.length≤a8) (d7:Kd.C (Kd.int .i64) w b5 b6.length b6) (d8:b6.length≤c3) (h:Ezm.f k a6 l1 b4 b6=some (b7,b8,b9)) :
  Calls Tryz.prog 71 #[.bool a6,.slice a7 l1.length a8,.bool b4,.slice b5 b6.length c3] w fun e w'=>∃ v1_:Value,e=.returned (.tuple #[.bool b7,v1_,.int .i64 b9])∧Kd.R (Kd.int .i64) 3 w' w.heap.size (fun _=>True) v1_ b8∧Below w.heap.size w w':=by
 have d9:=aM d0;have e6:=aM d6;clear d0 d6;have e7:=aM d7;have e8:=aM d8;clear d7 d8;have HB:=aM (Below.refl w.heap.size w);have H:(if(a6 == b4)=true then((Azb.f k l1 b6).bind fun e9=>(some (a6,e9.1,e9.2))) else((Fzv.f k l1 b6).bind fun f3=>(if f3.1≥0 then((Czx.f k l1 b6).bind fun f4=>(some (a6,f4.1,f4.2))) else((Czx.f k b6 l1).bind fun f6=>(some (b4,f6.1,f6.2))))))=some (b7,b8,b9):=h
 clear h;by_cases c5:(a6 == b4)=true
 ·rw[if_pos c5] at H;have f9:(a6 == b4)=true:=c5;(try(have g4:decide (a6=b4)=true:=by simpa using c5))
  (try(have g5:(a6 == b4)=true:=by simpa using c5))
  clear c5;replace H:=bS H;obtain⟨⟨g6,g7⟩,g8,H⟩:=H;replace H:(some (a6,g6,g7))=some (b7,b8,b9):=H;have g9:=aM g8;clear g8;obtain⟨rfl,rfl,rfl⟩:=q3 H;go_enter Tryz.func71,Tryz.ntmps71
  go_wp2_with (first|((with_reducible refine gc 86 rfl ?_);refine gC 86 (some 25) Tryz.func86 #[.slice a7 l1.length a8,.slice b5 b6.length c3] ?_;(with_reducible refine(Azb.calls k _ _ l1 _ _ b6 g6 g7 _ ?_ ?_ ?_ ?_ g9.out).mono ?_);exact cX d9.out;exact e6.out;exact cX e7.out;exact e8.out;rintro e j3 ⟨j4,rfl,j5,hb⟩;refine⟨_,rfl,?_⟩;have j6:=rL j5;replace HB:=bB hb;clear hb j5))
  go_ret3
  exact⟨_,eW,rX j6.out,pB⟩
 ·rw[if_neg c5] at H;have f9:(a6 == b4)=false:=by simpa using c5
  (try(have g4:decide (a6=b4)=false:=by simpa using c5))
  (try(have g5:(a6 == b4)=false:=by simpa using c5))
  (try(have j7:¬ (a6=b4):=by simpa using c5))
  clear c5;obtain⟨⟨j8,j9⟩,l5,H⟩:=bT H;(try dsimp only at H);by_cases c9:j8≥0
  ·rw[if_pos c9] at H;have l6:decide (0≤j8)=true:=dE c9;clear c9;replace H:=bS H;obtain⟨⟨l7,l8⟩,l9,H⟩:=H;replace H:(some (a6,l7,l8))=some (b7,b8,b9):=H;have m0:=aM l9;clear l9;obtain⟨rfl,rfl,rfl⟩:=q3 H;go_enter Tryz.func71,Tryz.ntmps71
   go_wp2_with (first|((with_reducible refine gc 87 rfl ?_);refine gC 87 (some 34) Tryz.func87 #[.slice a7 l1.length a8,.slice b5 b6.length c3] ?_;(with_reducible refine(Fzv.calls k _ _ l1 _ _ b6 j8 j9 _ ?_ ?_ ?_ ?_ l5.out).mono ?_);exact cX d9.out;exact e6.out;exact cX e7.out;exact e8.out;rintro e w' ⟨rfl,⟨nd,rfl⟩⟩;refine⟨_,rfl,?_⟩)|((with_reducible refine gc 88 rfl ?_);refine gC 88 (some 42) Tryz.func88 #[.slice a7 l1.length a8,.slice b5 b6.length c3] ?_;(with_reducible refine(Czx.calls k _ _ l1 _ _ b6 l7 l8 _ ?_ ?_ ?_ ?_ m0.out).mono ?_);exact cX d9.out;exact e6.out;exact cX e7.out;exact e8.out;rintro e m3 ⟨m4,rfl,j5,hb⟩;refine⟨_,rfl,?_⟩;have m5:=rL j5;replace HB:=bB hb;clear hb j5))
   go_ret3
   exact⟨_,eW,rX m5.out,pB⟩
  ·rw[if_neg c9] at H;have l6:decide (0≤j8)=false:=decide_eq_false c9;clear c9;replace H:=bS H;obtain⟨⟨m6,m7⟩,m8,H⟩:=H;replace H:(some (b4,m6,m7))=some (b7,b8,b9):=H;have m9:=aM m8;clear m8;obtain⟨rfl,rfl,rfl⟩:=q3 H;go_enter Tryz.func71,Tryz.ntmps71
   go_wp2_with (first|((with_reducible refine gc 87 rfl ?_);refine gC 87 (some 34) Tryz.func87 #[.slice a7 l1.length a8,.slice b5 b6.length c3] ?_;(with_reducible refine(Fzv.calls k _ _ l1 _ _ b6 j8 j9 _ ?_ ?_ ?_ ?_ l5.out).mono ?_);exact cX d9.out;exact e6.out;exact cX e7.out;exact e8.out;rintro e w' ⟨rfl,⟨nd,rfl⟩⟩;refine⟨_,rfl,?_⟩)|((with_reducible refine gc 88 rfl ?_);refine gC 88 (some 51) Tryz.func88 #[.slice b5 b6.length c3,.slice a7 l1.length a8] ?_;(with_reducible refine(Czx.calls k _ _ b6 _ _ l1 m6 m7 _ ?_ ?_ ?_ ?_ m9.out).mono ?_);exact cX e7.out;exact e8.out;exact cX d9.out;exact e6.out;rintro e n0 ⟨n6,rfl,j5,hb⟩;refine⟨_,rfl,?_⟩;have n7:=rL j5;replace HB:=bB hb;clear hb j5))
   go_ret3
   exact⟨_,eW,rX n7.out,pB⟩


mutual
def Bzq.j0:Nat→Bool→Bool→List Int→List Int→Bool→List Int→List Int→Option (Bool × List Int × List Int × Int)
 | 0,_,_,_,_,_,_,_=>none
 | k+1,x22,x931000,x931001,x931002,x932000,x932001,x932002=>if x22=true then(some (false,([]:List Int),([]:List Int),3)) else((Bzk.f k x931001 x932002).bind fun bt935=>((Bzk.f k x932001 x931002).bind fun bt939=>((Bzk.f k x931002 x932002).bind fun bt943=>(if bt935.2=0 then(if bt939.2=0 then(Bzq.j1 k bt935.1 bt939.1 bt943.1 (bt943.2 != 0) x931000 x931001 x931002 x932000 x932001 x932002) else(Bzq.j1 k bt935.1 bt939.1 bt943.1 true x931000 x931001 x931002 x932000 x932001 x932002)) else(Bzq.j1 k bt935.1 bt939.1 bt943.1 true x931000 x931001 x931002 x932000 x932001 x932002)))))
def Bzq.j1:Nat→List Int→List Int→List Int→Bool→Bool→List Int→List Int→Bool→List Int→List Int→Option (Bool × List Int × List Int × Int)
 | 0,_,_,_,_,_,_,_,_,_,_=>none
 | k+1,x6,x8,x10,x57,x931000,x931001,x931002,x932000,x932001,x932002=>if x57=true then(some (false,([]:List Int),([]:List Int),2)) else((Ezm.f k x931000 x6 x932000 x8).bind fun bt947=>(if bt947.2.2=0 then((Dzq.f k bt947.1 bt947.2.1 x10).bind fun bt952=>(some (bt952.1,bt952.2.1,bt952.2.2,0))) else(some (false,([]:List Int),([]:List Int),2))))
end
def Bzq.f (k:Nat) (a0_0:Bool) (l0_1:List Int) (l0_2:List Int) (a1_0:Bool) (l1_1:List Int) (l1_2:List Int):Option (Bool × List Int × List Int × Int):=(Azq.f k a0_0 l0_1 l0_2).bind fun t933=>(if t933=true then((Azq.f k a1_0 l1_1 l1_2).bind fun t934=>(Bzq.j0 k (!t934) a0_0 l0_1 l0_2 a1_0 l1_1 l1_2)) else(Bzq.j0 k true a0_0 l0_1 l0_2 a1_0 l1_1 l1_2))
theorem Bzq.mono_l:∀ k,(∀ a6 a7 a8 b4 b5 b6 b7,LeO (Bzq.j0 k a6 a7 a8 b4 b5 b6 b7) (Bzq.j0 (k+1) a6 a7 a8 b4 b5 b6 b7))∧(∀ a6 a7 a8 b4 b5 b6 b7 b8 b9 d0,LeO (Bzq.j1 k a6 a7 a8 b4 b5 b6 b7 b8 b9 d0) (Bzq.j1 (k+1) a6 a7 a8 b4 b5 b6 b7 b8 b9 d0))
 | 0=>⟨fun _ _ _ _ _ _ _ r h=>by simp [Bzq.j0] at h,fun _ _ _ _ _ _ _ _ _ _ r h=>by simp [Bzq.j1] at h⟩
 | k+1=>by
  obtain⟨ih0,ih1⟩:=Bzq.mono_l k;have i0:=@Bzk.mono;have i1:=@Dzq.mono;have i2:=@Azq.mono;have i3:=@Ezm.mono;refine⟨?_,?_⟩
  ·intro a6 a7 a8 b4 b5 b6 b7;unfold Bzq.j0;exact mM
  ·intro a6 a7 a8 b4 b5 b6 b7 b8 b9 d0;unfold Bzq.j1;exact mM
theorem Bzq.mono:∀ a6 a7 a8 b4 b5 b6 k,LeO (Bzq.f k a6 a7 a8 b4 b5 b6) (Bzq.f (k+1) a6 a7 a8 b4 b5 b6):=by
 intro a6 a7 a8 b4 b5 b6 k;obtain⟨ih0,ih1⟩:=Bzq.mono_l k;unfold Bzq.f;have i0:=@Bzk.mono;have i1:=@Dzq.mono;have i2:=@Azq.mono;have i3:=@Ezm.mono;exact mM
theorem Bzq.calls (k:Nat) (a6:Bool) (a7:Option Addr) (a8:Nat) (b4:List Int) (b5:Option Addr) (b6:Nat) (b7:List Int) (b8:Bool) (b9:Option Addr) (d0:Nat) (d6:List Int) (d7:Option Addr) (d8:Nat) (d9:List Int) (e6:Bool) (e7:List Int) (e8:List Int) (e9:Int) (w:World) (f3:Kd.C (Kd.int .i64) w a7 b4.length b4) (f4:b4.length≤a8) (f6:Kd.C (Kd.int .i64) w b5 b7.length b7) (f9:b7.length≤b6) (g4:Kd.C (Kd.int .i64) w b9 d6.length d6) (g5:d6.length≤d0) (g6:Kd.C (Kd.int .i64) w d7 d9.length d9) (g7:d9.length≤d8) (h:Bzq.f k a6 b4 b7 b8 d6 d9=some (e6,e7,e8,e9)) :
  Calls Tryz.prog 50 #[.agg #[.bool a6,.slice a7 b4.length a8,.slice b5 b7.length b6],.agg #[.bool b8,.slice b9 d6.length d0,.slice d7 d9.length d8]] w fun e w'=>∃ v1_ v2_:Value,e=.returned (.tuple #[.agg #[.bool e6,v1_,v2_],.int .i64 e9])∧Kd.R (Kd.int .i64) 3 w' w.heap.size (fun k_=>some k_≠(v2_:Value).ownBlock) v1_ e7∧Kd.R (Kd.int .i64) 3 w' w.heap.size (fun k_=>some k_≠(v1_:Value).ownBlock) v2_ e8∧Below w.heap.size w w':=by
 have hu26:=Tryz.underlying26;have g8:=aM f3;have g9:=aM f4;clear f3 f4;have j3:=aM f6;have j4:=aM f9;clear f6 f9;have j5:=aM g4;have j6:=aM g5;clear g4 g5;have j7:=aM g6;have j8:=aM g7;clear g6 g7;have HB:=aM (Below.refl w.heap.size w);have H:((Azq.f k a6 b4 b7).bind fun j9=>(if j9=true then((Azq.f k b8 d6 d9).bind fun l5=>(Bzq.j0 k (!l5) a6 b4 b7 b8 d6 d9)) else(Bzq.j0 k true a6 b4 b7 b8 d6 d9)))=some (e6,e7,e8,e9):=h
 clear h;have l6:=aM H;clear H;go_enter Tryz.func50,Tryz.ntmps50
 go_upto_region 1 with (first|((with_reducible refine gd 2 rfl ?_);refine bx #[.bool a6,.slice a7 b4.length a8,.slice b5 b7.length b6] 26 ?_;intro l7 hg l8 l9 hb;have m0:=gA w hg;have m3:=gA w hg;replace HB:=bB hb;clear hb hg)|((with_reducible refine gd 3 rfl ?_);refine bx #[.bool b8,.slice b9 d6.length d0,.slice d7 d9.length d8] 26 ?_;intro m4 hg m5 m6 hb;have m7:=gA w hg;have m8:=gA w hg;have m9:=nl hg l9;have n0:=ng hg l9;replace l9:=kb l9 hb;replace HB:=bB hb;clear hb hg)|((with_reducible refine gd 4 rfl ?_);refine bx #[.bool false,.slice none 0 0,.slice none 0 0] 26 ?_;intro n6 hg n7 n8 hb;have n9:=gA w hg;have o0:=gA w hg;have o8:=nl hg l9;have o9:=ng hg l9;have p0:=nl hg m6;have p3:=ng hg m6;replace l9:=kb l9 hb;replace m6:=kb m6 hb;replace HB:=bB hb;clear hb hg))
 (try simp only[Act.put,sA,sZ,sC])
 go_cut [22] (fun p4 wc=>∃ (kq:Nat) (p5:Bool),p4=.bool p5∧Aside0 (Bzq.j0 kq p5 a6 b4 b7 b8 d6 d9=some (e6,e7,e8,e9))∧Aside0 (kq≤k)∧Aside0 (wc.heap[l7]?=some (.cells #[.bool a6,(.slice a7 b4.length a8),(.slice b5 b7.length b6)] 26 (0,0)))∧Aside0 (wc.heap[m4]?=some (.cells #[.bool b8,(.slice b9 d6.length d0),(.slice d7 d9.length d8)] 26 (0,0)))∧Aside0 (wc.heap[n6]?=some (.cells #[.bool false,(.slice none 0 0),(.slice none 0 0)] 26 (0,0)))∧Aside0 (Below w.heap.size w wc))
 case first =>
  have H:=l6.out;clear l6;obtain⟨j9,r5,H⟩:=bT H;(try dsimp only at H);by_cases c8:j9=true
  ·subst c8;rw[if_pos rfl] at H;obtain⟨l5,r6,H⟩:=bT H;(try dsimp only at H);have H':=aM H;clear H;have r7:=m9.out;have r8:=n0.out;have r9:=o8.out;have t6:=o9.out;obtain⟨t7,t8,z1,z2,z6,z7⟩:=bk3 l9;go_wp2_with (first|((with_reducible refine gc 49 rfl ?_);refine gC 49 (some 16) Tryz.func49 #[.agg #[.bool a6,.slice a7 b4.length a8,.slice b5 b7.length b6]] ?_;(with_reducible refine(Azq.calls k a6 _ _ b4 _ _ b7 true _ ?_ ?_ ?_ ?_ r5.out).mono ?_);exact cB g8;exact g9.out;exact cB j3;exact j4.out;rintro e z8 ⟨rfl,hb⟩;refine⟨_,rfl,?_⟩;replace l9:=kb l9 hb;replace m6:=kb m6 hb;replace n8:=kb n8 hb;replace HB:=bB hb;clear hb;have B0:=p0.out;have B5:=p3.out;obtain⟨B6,B8,B9,C0,C1,C2⟩:=bk3 m6)|(go_at_call 49;(with_reducible refine(Azq.calls k b8 _ _ d6 _ _ d9 l5 _ ?_ ?_ ?_ ?_ r6.out).mono ?_);exact cB j5;exact j6.out;exact cB j7;exact j8.out;rintro e C3 ⟨rfl,hb⟩;replace l9:=kb l9 hb;replace m6:=kb m6 hb;replace n8:=kb n8 hb;replace HB:=bB hb;clear hb))
   go_meet
   case rel=>exact⟨_,(!l5),sD,H',⟨by first|omega|exact Nat.le_refl _⟩,⟨by exact kW l9⟩,⟨by exact kW m6⟩,⟨by exact kW n8⟩,⟨pB⟩⟩
  ·obtain rfl:=bN c8;rw[if_neg nF] at H
   have H':=aM H;clear H;have C4:=m9.out;have C6:=n0.out;have C7:=o8.out;have C8:=o9.out;obtain⟨C9,D0,D1,D2,D3,D4⟩:=bk3 l9;go_wp2_with (first|((with_reducible refine gc 49 rfl ?_);refine gC 49 (some 16) Tryz.func49 #[.agg #[.bool a6,.slice a7 b4.length a8,.slice b5 b7.length b6]] ?_;(with_reducible refine(Azq.calls k a6 _ _ b4 _ _ b7 false _ ?_ ?_ ?_ ?_ r5.out).mono ?_);exact cB g8;exact g9.out;exact cB j3;exact j4.out;rintro e D5 ⟨rfl,hb⟩;refine⟨_,rfl,?_⟩;replace l9:=kb l9 hb;replace m6:=kb m6 hb;replace n8:=kb n8 hb;replace HB:=bB hb;clear hb))
   go_meet
   case rel=>exact⟨_,(true),sD,H',⟨by first|omega|exact Nat.le_refl _⟩,⟨by exact kW l9⟩,⟨by exact kW m6⟩,⟨by exact kW n8⟩,⟨pB⟩⟩
 case rest =>
  clear l6;try clear D6
  obtain⟨kq,p5,rfl,HA,D7,l9,m6,n8,HB⟩:=hcut;cases kq with
  | zero=>exact absurd HA.out (by simp [Bzq.j0])
  | succ D8 =>
   have H:=HA.out;clear HA;simp only[Bzq.j0] at H;by_cases D9:p5=true
   ·subst D9;rw[if_pos rfl] at H;obtain⟨rfl,rfl,rfl,rfl⟩:=q4 H;have E0:=o9.out;have E1:=o8.out;have E2:=p3.out;have E3:=p0.out;obtain⟨E4,E5,E6,E7,E8,E9⟩:=bk3 n8;go_wp2
    refine bodyPost_ret (results_ct rfl _ _ n6 26 #[.bool false,.slice none 0 0,.slice none 0 0] (0,0) _ rfl (kQ n8) Tryz.underlying26 rfl (by kernel_rfl)) rfl ?_
    exact⟨_,_,eW,nK,nK,pB⟩
   ·obtain rfl:=bN D9;rw[if_neg nF] at H
    obtain⟨⟨F0,F1⟩,F2,H⟩:=bT H;(try dsimp only at H);obtain⟨⟨F3,F4⟩,F5,H⟩:=bT H;(try dsimp only at H);obtain⟨⟨F6,F7⟩,F8,H⟩:=bT H;(try dsimp only at H);have F9:=aM H;clear H;have G0:=m9.out;have G4:=n0.out;have G5:=o8.out;have G6:=o9.out;obtain⟨G7,G8,G9,H5,H6,H7⟩:=bk3 l9;have H8:=p0.out;have H9:=p3.out;obtain⟨I0,I1,I2,I3,I4,I5⟩:=bk3 m6;go_upto_region 6 with (first|((with_reducible refine gc 52 rfl ?_);refine gC 52 (some 29) Tryz.func52 #[.slice a7 b4.length a8,.slice d7 d9.length d8] ?_;(with_reducible refine(Bzk.calls D8 _ _ b4 _ _ d9 F0 F1 _ ?_ ?_ ?_ ?_ F2.out).mono ?_);exact cB g8;exact g9.out;exact cB j7;exact j8.out;rintro e I6 ⟨I7,rfl,I8,hb⟩;refine⟨_,rfl,?_⟩;have I9:=rL I8;replace l9:=kb l9 hb;replace m6:=kb m6 hb;replace n8:=kb n8 hb;replace HB:=bB hb;clear hb I8;obtain⟨J0,J1,J2,J3,J4,J5⟩:=bk3 m6;obtain⟨J6,J7,J8,J9,K0,K1⟩:=bk3 l9)|((with_reducible refine gc 52 rfl ?_);refine gC 52 (some 37) Tryz.func52 #[.slice b9 d6.length d0,.slice b5 b7.length b6] ?_;(with_reducible refine(Bzk.calls D8 _ _ d6 _ _ b7 F3 F4 _ ?_ ?_ ?_ ?_ F5.out).mono ?_);exact cB j5;exact j6.out;exact cB j3;exact j4.out;rintro e K2 ⟨K3,rfl,I8,hb⟩;refine⟨_,rfl,?_⟩;have K4:=rL (rn I8 I9);replace I9:=rE I9 I8 hb;replace l9:=kb l9 hb;replace m6:=kb m6 hb;replace n8:=kb n8 hb;replace HB:=bB hb;clear hb I8;obtain⟨K5,K6,K7,K8,K9,L0⟩:=bk3 l9;obtain⟨L5,L6,L7,L8,L9,M0⟩:=bk3 m6)|((with_reducible refine gc 52 rfl ?_);refine gC 52 (some 45) Tryz.func52 #[.slice b5 b7.length b6,.slice d7 d9.length d8] ?_;(with_reducible refine(Bzk.calls D8 _ _ b7 _ _ d9 F6 F7 _ ?_ ?_ ?_ ?_ F8.out).mono ?_);exact cB j3;exact j4.out;exact cB j7;exact j8.out;rintro e M1 ⟨M2,rfl,I8,hb⟩;refine⟨_,rfl,?_⟩;have M3:=rL (rn (rn I8 I9) K4);replace I9:=rE I9 I8 hb;replace K4:=rE K4 I8 hb;replace l9:=kb l9 hb;replace m6:=kb m6 hb;replace n8:=kb n8 hb;replace HB:=bB hb;clear hb I8))
    (try simp only[Act.put,sA,sZ,sC])
    go_cut [57] (fun M4 wc=>∃ (kq:Nat) (M5:Bool),M4=.bool M5∧Aside0 (Bzq.j1 kq F0 F3 F6 M5 a6 b4 b7 b8 d6 d9=some (e6,e7,e8,e9))∧Aside0 (kq≤D8)∧Aside0 (Kd.R (Kd.int .i64) 3 wc w.heap.size (fun k_=>some k_≠(K3:Value).ownBlock∧some k_≠(M2:Value).ownBlock) I7 F0)∧Aside0 (Kd.R (Kd.int .i64) 3 wc w.heap.size (fun k_=>some k_≠(I7:Value).ownBlock∧some k_≠(M2:Value).ownBlock) K3 F3)∧Aside0 (Kd.R (Kd.int .i64) 3 wc w.heap.size (fun k_=>some k_≠(I7:Value).ownBlock∧some k_≠(K3:Value).ownBlock) M2 F6)∧Aside0 (wc.heap[l7]?=some (.cells #[.bool a6,(.slice a7 b4.length a8),(.slice b5 b7.length b6)] 26 (0,0)))∧Aside0 (wc.heap[m4]?=some (.cells #[.bool b8,(.slice b9 d6.length d0),(.slice d7 d9.length d8)] 26 (0,0)))∧Aside0 (wc.heap[n6]?=some (.cells #[.bool false,(.slice none 0 0),(.slice none 0 0)] 26 (0,0)))∧Aside0 (Below w.heap.size w wc))
    case first =>
     have H:=F9.out;clear F9;by_cases M6:F1=0
     ·rw[if_pos M6] at H;obtain⟨M7,M8⟩:=bE M6;clear M6;(first|rw[M7]|(simp only[i64_w,i32_w];rw[M7])|skip)
      by_cases M9:F4=0
      ·rw[if_pos M9] at H;obtain⟨N0,N1⟩:=bE M9;clear M9;have H':=aM H;clear H;go_wp2
       go_meet
       case rel=>exact⟨_,((F7 != 0)),sD,H',⟨by have:=D7.out;first|omega|exact Nat.le_refl _⟩,⟨by exact rX (Kd.R_mono I9.out (fun _ hk=>⟨hk.1.2,hk.2⟩))⟩,⟨by exact rX (Kd.R_mono K4.out (fun _ hk=>⟨hk.1.2,hk.2⟩))⟩,⟨by exact rX (Kd.R_mono M3.out (fun _ hk=>⟨hk.1.2,hk.2⟩))⟩,⟨by exact kW l9⟩,⟨by exact kW m6⟩,⟨by exact kW n8⟩,⟨pB⟩⟩
      ·rw[if_neg M9] at H;obtain⟨N0,N1⟩:=bI M9;have H':=aM H;clear H;go_wp2
       go_meet
       case rel=>exact⟨_,(true),sD,H',⟨by have:=D7.out;first|omega|exact Nat.le_refl _⟩,⟨by exact rX (Kd.R_mono I9.out (fun _ hk=>⟨hk.1.2,hk.2⟩))⟩,⟨by exact rX (Kd.R_mono K4.out (fun _ hk=>⟨hk.1.2,hk.2⟩))⟩,⟨by exact rX (Kd.R_mono M3.out (fun _ hk=>⟨hk.1.2,hk.2⟩))⟩,⟨by exact kW l9⟩,⟨by exact kW m6⟩,⟨by exact kW n8⟩,⟨pB⟩⟩
     ·rw[if_neg M6] at H;obtain⟨M7,M8⟩:=bI M6;(first|rw[M7]|(simp only[i64_w,i32_w];rw[M7])|skip)
      have H':=aM H;clear H;go_wp2
      go_meet
      case rel=>exact⟨_,(true),sD,H',⟨by have:=D7.out;first|omega|exact Nat.le_refl _⟩,⟨by exact rX (Kd.R_mono I9.out (fun _ hk=>⟨hk.1.2,hk.2⟩))⟩,⟨by exact rX (Kd.R_mono K4.out (fun _ hk=>⟨hk.1.2,hk.2⟩))⟩,⟨by exact rX (Kd.R_mono M3.out (fun _ hk=>⟨hk.1.2,hk.2⟩))⟩,⟨by exact kW l9⟩,⟨by exact kW m6⟩,⟨by exact kW n8⟩,⟨pB⟩⟩
    case rest =>
     clear F9;try clear D6
     obtain⟨kq,M5,rfl,HA,N2,N3,N4,N5,l9,m6,n8,HB⟩:=hcut;cases kq with
     | zero=>exact absurd HA.out (by simp [Bzq.j1])
     | succ N6 =>
      have H:=HA.out;clear HA;simp only[Bzq.j1] at H;by_cases N7:M5=true
      ·subst N7;rw[if_pos rfl] at H;obtain⟨rfl,rfl,rfl,rfl⟩:=q4 H;have N8:=o9.out;have N9:=o8.out;have O0:=p3.out;have O1:=p0.out;obtain⟨O2,O3,O4,O5,O6,O7⟩:=bk3 n8;go_wp2
       refine bodyPost_ret (results_ct rfl _ _ n6 26 #[.bool false,.slice none 0 0,.slice none 0 0] (0,0) _ rfl (kQ n8) Tryz.underlying26 rfl (by kernel_rfl)) rfl ?_
       exact⟨_,_,eW,nK,nK,pB⟩
      ·obtain rfl:=bN N7;rw[if_neg nF] at H
       obtain⟨⟨O8,O9,P2⟩,P3,H⟩:=bT H;(try dsimp only at H);by_cases P4:P2=0
       ·rw[if_pos P4] at H;obtain⟨P5,P6⟩:=bE P4;clear P4;replace H:=bS H;obtain⟨⟨P7,P8,P9⟩,Q0,H⟩:=H;replace H:(some (P7,P8,P9,0))=some (e6,e7,e8,e9):=H;have Q1:=aM Q0;clear Q0;obtain⟨rfl,rfl,rfl,rfl⟩:=q4 H;have Q2:=m9.out;have Q3:=n0.out;have Q4:=o8.out;have Q5:=o9.out;obtain⟨Q6,Q7,Q8,Q9,R0,R1⟩:=bk3 l9;have R2:=p0.out;have R3:=p3.out;obtain⟨R4,R5,R6,R7,R8,R9⟩:=bk3 m6;obtain⟨U0,U1,rfl⟩:=Kd.R_slice N3.out;obtain⟨U2,U3,rfl⟩:=Kd.R_slice N4.out;go_wp2_with (first|((with_reducible refine gc 71 rfl ?_);refine gC 71 (some 66) Tryz.func71 #[.bool a6,.slice U0 F0.length U1,.bool b8,.slice U2 F3.length U3] ?_;(with_reducible refine(Ezm.calls N6 a6 _ _ F0 b8 _ _ F3 O8 O9 P2 _ ?_ ?_ ?_ ?_ P3.out).mono ?_);exact cR N3;exact lR N3;exact cR N4;exact lR N4;rintro e U4 ⟨U5,rfl,I8,hb⟩;refine⟨_,rfl,?_⟩;have U6:=rL (rn (rn (rn I8 N3) N4) N5);replace N3:=rE N3 I8 hb;replace N4:=rE N4 I8 hb;replace N5:=rE N5 I8 hb;replace l9:=kb l9 hb;replace m6:=kb m6 hb;replace n8:=kb n8 hb;replace HB:=bB hb;clear hb I8;obtain⟨U7,U8,rfl⟩:=Kd.R_slice U6.out;obtain⟨U9,V0,rfl⟩:=Kd.R_slice N5.out)|((with_reducible refine gc 53 rfl ?_);refine gC 53 (some 76) Tryz.func53 #[.bool O8,.slice U7 O9.length U8,.slice U9 F6.length V0] ?_;(with_reducible refine(Dzq.calls N6 O8 _ _ O9 _ _ F6 P7 P8 P9 _ ?_ ?_ ?_ ?_ Q1.out).mono ?_);exact cR U6;exact lR U6;exact cR N5;exact lR N5;rintro e V1 ⟨V2,V3,rfl,I8,V4,hb⟩;refine⟨_,rfl,?_⟩;have V5:=rL (rn (rn (rn (rn I8 N3) N4) N5) U6);have V6:=rL (rn (rn (rn (rn V4 N3) N4) N5) U6);replace N3:=rO N3 hb I8 V4;replace N4:=rO N4 hb I8 V4;replace N5:=rO N5 hb I8 V4;replace U6:=rO U6 hb I8 V4;replace l9:=kb l9 hb;replace m6:=kb m6 hb;replace n8:=kb n8 hb;replace HB:=bB hb;clear hb I8 V4;obtain⟨V7,V8,V9,W0,W4,W5⟩:=bk3 n8;obtain⟨W6,W7,rfl⟩:=Kd.R_slice V5.out;obtain⟨W8,W9,rfl⟩:=Kd.R_slice V6.out))
        refine bodyPost_ret (results_ct rfl _ _ n6 26 #[.bool P7,.slice W6 P8.length W7,.slice W8 P9.length W9] (0,0) _ rfl (kQ n8) Tryz.underlying26 rfl (by kernel_rfl)) rfl ?_
        exact⟨_,_,eW,by exact Kd.R_mono (rT V5 n8) (fun _ hk=>hk.1.1.1.1),by exact Kd.R_mono (rT V6 n8) (fun _ hk=>hk.1.1.1.1),pB⟩
       ·rw[if_neg P4] at H;obtain⟨P5,P6⟩:=bI P4;obtain⟨rfl,rfl,rfl,rfl⟩:=q4 H;have X0:=m9.out;have X1:=n0.out;have X2:=o8.out;have X3:=o9.out;obtain⟨X4,X5,X6,X7,X8,X9⟩:=bk3 l9;have Y0:=p0.out;have Y1:=p3.out;obtain⟨Y2,Y3,Y4,Y5,Y6,Y7⟩:=bk3 m6;obtain⟨Y8,Y9,rfl⟩:=Kd.R_slice N3.out;obtain⟨Z0,Z1,rfl⟩:=Kd.R_slice N4.out;go_wp2_with (first|((with_reducible refine gc 71 rfl ?_);refine gC 71 (some 66) Tryz.func71 #[.bool a6,.slice Y8 F0.length Y9,.bool b8,.slice Z0 F3.length Z1] ?_;(with_reducible refine(Ezm.calls N6 a6 _ _ F0 b8 _ _ F3 O8 O9 P2 _ ?_ ?_ ?_ ?_ P3.out).mono ?_);exact cR N3;exact lR N3;exact cR N4;exact lR N4;rintro e Z2 ⟨U5,rfl,I8,hb⟩;refine⟨_,rfl,?_⟩;have U6:=rL (rn (rn (rn I8 N3) N4) N5);replace N3:=rE N3 I8 hb;replace N4:=rE N4 I8 hb;replace N5:=rE N5 I8 hb;replace l9:=kb l9 hb;replace m6:=kb m6 hb;replace n8:=kb n8 hb;replace HB:=bB hb;clear hb I8;obtain⟨Z3,Z4,Z5,Z6,Z7,Z8⟩:=bk3 n8))
        refine bodyPost_ret (results_ct rfl _ _ n6 26 #[.bool false,.slice none 0 0,.slice none 0 0] (0,0) _ rfl (kQ n8) Tryz.underlying26 rfl (by kernel_rfl)) rfl ?_
        exact⟨_,_,eW,nK,nK,pB⟩

end Go.Proofs.YtokkiljkgejnhaaGreat.Print
