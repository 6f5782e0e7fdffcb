import Derived.Test.YtbnpcplckcipfaaPrint0
namespace Go.Proofs.Ytbnpcplckcipfaa.Print
open Go.RowKit Go.Proofs.YtbnpcplckcipfaaW.PrintWords Go.Proofs.YtbnpcplckcipfaaW.PrintLast Go.Proofs.YtbnpcplckcipfaaW.PrintMore
attribute [local go_sem] dF dG eB eD dm dn dH dI
set_option linter.unusedVariables false
set_option maxRecDepth 100000
set_option maxHeartbeats 8000000
set_option linter.unusedSimpArgs false

mutual
def Azz.j0:Nat→List Int→Bool→Option (Bool)
 | 0,_,_=>none
 | k+1,x0,x20=>if x20=true then(some false) else(Azz.l0 k x0 0)
def Azz.l0:Nat→List Int→Int→Option (Bool)
 | 0,_,_=>none
 | k+1,x0,x3=>if x3 < (x0.length:Int) then(if 0≤x3 then(if(rd x0 x3) < 0 then(some false) else(if(rd x0 x3)≥1000000000 then(some false) else(Azz.l0 k x0 (wrap64 (x3+1))))) else(none)) else(some true)
end
def Azz.f (k:Nat) (l0:List Int):Option (Bool):=if(l0.length:Int) > 48 then(Azz.j0 k l0 true) else(if(l0.length:Int) > 0 then(if 0≤(wrap64 ((l0.length:Int) - 1)) then(if(wrap64 ((l0.length:Int) - 1)) < (l0.length:Int) then(Azz.j0 k l0 ((rd l0 (wrap64 ((l0.length:Int) - 1))) == 0)) else(none)) else(none)) else(Azz.j0 k l0 false))
theorem Azz.mono_l:∀ k,(∀ a6 a7,LeO (Azz.j0 k a6 a7) (Azz.j0 (k+1) a6 a7))∧(∀ a6 a7,LeO (Azz.l0 k a6 a7) (Azz.l0 (k+1) a6 a7))
 | 0=>⟨fun _ _ r h=>by simp [Azz.j0] at h,fun _ _ r h=>by simp [Azz.l0] at h⟩
 | k+1=>by
  obtain⟨ih0,ih1⟩:=Azz.mono_l k;refine⟨?_,?_⟩
  ·intro a6 a7;unfold Azz.j0;exact mM
  ·intro a6 a7;unfold Azz.l0;exact mM
theorem Azz.mono:∀ a6 k,LeO (Azz.f k a6) (Azz.f (k+1) a6):=by
 intro a6 k;obtain⟨ih0,ih1⟩:=Azz.mono_l k;unfold Azz.f;exact mM
theorem Azz.calls (k:Nat) (a6:Option Addr) (a7:Nat) (l0:List Int) (r:Bool) (w:World) (a8:cI w a6 l0) (a9:l0.length≤a7) (h:Azz.f k l0=some r) :
  Calls Try.prog 70 #[.slice a6 l0.length a7] w fun e w'=>e=.returned (.bool r)∧dC w w':=by
 have b4:=aM a8;have b5:=aM a9;clear a8 a9;have H:(if(l0.length:Int) > 48 then(Azz.j0 k l0 true) else(if(l0.length:Int) > 0 then(if 0≤(wrap64 ((l0.length:Int) - 1)) then(if(wrap64 ((l0.length:Int) - 1)) < (l0.length:Int) then(Azz.j0 k l0 ((rd l0 (wrap64 ((l0.length:Int) - 1))) == 0)) else(none)) else(none)) else(Azz.j0 k l0 false)))=some r:=h
 clear h;have b6:=aM H;clear H;go_enter Try.func70,Try.ntmps70
 go_upto_region 1 with (fail)
 go_cut [20] (fun b7 wc=>∃ (kq:Nat) (b8:Bool),b7=.bool b8∧ae (Azz.j0 kq l0 b8=some r)∧ae (kq≤k)∧dC w wc)
 case first =>
  have H:=b6.out;clear b6;by_cases c3:(l0.length:Int) > 48
  ·rw[if_pos c3] at H;have b9:decide (48 < (l0.length:Int))=true:=dE c3;have d6:decide (48 < l0.length)=true:=dE (by omega)
   clear c3;(first|rw[b9]|(simp only[aH,bg];rw[b9])|skip)
   have H':=aM H;clear H;go_wp2
   go_meet
   case rel=>exact⟨_,(true),sD,H',⟨by first|omega|exact Nat.le_refl _⟩,dR⟩
  ·rw[if_neg c3] at H;have b9:decide (48 < (l0.length:Int))=false:=decide_eq_false c3;have d6:decide (48 < l0.length)=false:=decide_eq_false (by omega)
   clear c3;(first|rw[b9]|(simp only[aH,bg];rw[b9])|skip)
   by_cases c4:(l0.length:Int) > 0
   ·rw[if_pos c4] at H;have d7:decide (0 < (l0.length:Int))=true:=dE c4;have d8:decide (0 < l0.length)=true:=dE (by omega)
    clear c4;obtain⟨d9,e6⟩:∃ j_:Int,(wrap64 ((l0.length:Int) - 1))=j_:=⟨_,rfl⟩;replace H:(if 0≤(d9) then(if(d9) < (l0.length:Int) then(Azz.j0 k l0 ((rd l0 (d9)) == 0)) else(none)) else(none))=some r:=by first|(rw[e6] at H;exact H)|(simp only[e6] at H ⊢;exact H)
    have e7:(IntKind.i64.wrap ((l0.length:Int) - 1))=d9:=(aH _).trans e6;obtain⟨f6,H⟩:=iN H;obtain⟨f7,H⟩:=iN H;have H':=aM H;clear H;obtain⟨f8,g5,g8,g9,j3⟩:=aI b4.out (d9);cases g5;go_wp2
    go_meet
    case rel=>exact⟨_,(((rd l0 (d9)) == 0)),(by first|rfl|(simp;done)|(simp only[← e6] <;> (first|rfl|simp))|(simp [*];done)),H',⟨by first|omega|exact Nat.le_refl _⟩,dR⟩
   ·rw[if_neg c4] at H;have d7:decide (0 < (l0.length:Int))=false:=decide_eq_false c4;have d8:decide (0 < l0.length)=false:=decide_eq_false (by omega)
    clear c4;have H':=aM H;clear H;go_wp2
    go_meet
    case rel=>exact⟨_,(false),sD,H',⟨by first|omega|exact Nat.le_refl _⟩,dR⟩
 case rest =>
  clear b6;try clear j4
  obtain⟨kq,b8,rfl,HA,j5,⟨mc1,rfl⟩⟩:=hcut;cases kq with
  | zero=>exact absurd HA.out (by simp [Azz.j0])
  | succ j6 =>
   have H:=HA.out;clear HA;simp only[Azz.j0] at H;by_cases c8:b8=true
   ·subst c8;rw[if_pos rfl] at H;obtain rfl:=Option.some.inj H;go_wp2
    go_ret
    exact⟨sD,dR⟩
   ·obtain rfl:=bN c8;rw[if_neg nF] at H
    have H':=aM H;clear H;go_wp2
    go_loopg [3] j6 (fun kq j7 w'=>∃ (j8:Int),j7=.int .i64 j8∧ae (Azz.l0 kq l0 j8=some r)∧ae (kq≤j6)∧dC w w')
    case atStart=>exact⟨(0),sD,H',⟨Nat.le_refl _⟩,dR⟩
    case round =>
     clear H';try clear j9
     obtain⟨j8,rfl,HA,l5,⟨l6,rfl⟩⟩:=hrel;cases gk with
     | zero=>exact absurd HA.out (by simp [Azz.l0])
     | succ k2 =>
      have H:=HA.out;clear HA;simp only[Azz.l0] at H;replace H:=iD H;rcases H with⟨l7,H⟩|⟨l7,H⟩
      ·obtain⟨l8,H⟩:=iN H;replace H:=iD H;rcases H with⟨m0,H⟩|⟨m0,H⟩
       ·obtain rfl:=Option.some.inj H;obtain⟨m4,m5,m6,m7,m8⟩:=aI b4.out j8;cases m5;go_wp2
        go_ret
        exact⟨sD,dR⟩
       ·by_cases m9:(rd l0 j8)≥1000000000
        ·rw[if_pos m9] at H;have n0:decide (1000000000≤(rd l0 j8))=true:=dE m9;clear m9;obtain rfl:=Option.some.inj H;obtain⟨m4,m5,m6,m7,m8⟩:=aI b4.out j8;cases m5;obtain⟨n7,n8,n9,o0,o8⟩:=aI b4.out j8;obtain rfl:m4=n7:=(by injection n8);go_wp2
         go_ret
         exact⟨sD,dR⟩
        ·rw[if_neg m9] at H;have n0:decide (1000000000≤(rd l0 j8))=false:=decide_eq_false m9;clear m9;have H':=aM H;clear H;obtain⟨m4,m5,m6,m7,m8⟩:=aI b4.out j8;cases m5;obtain⟨n7,n8,n9,o0,o8⟩:=aI b4.out j8;obtain rfl:m4=n7:=(by injection n8);go_wp2
         go_roundg k2
         case measure=>have:=j5.out;have:=l5.out;omega
         case rel=>exact⟨(wrap64 (j8+1)),sD,H',⟨by have:=j5.out;have:=l5.out;omega⟩,dR⟩
      ·obtain rfl:=Option.some.inj H;go_wp2
       go_ret
       exact⟨sD,dR⟩


def Bzz.l0:Nat→List Int→Int→Option (List Int × Int)
 | 0,_,_=>none
 | k+1,x0,x4=>if x4 > 0 then(if 0≤(wrap64 (x4 - 1)) then(if(wrap64 (x4 - 1)) < (x0.length:Int) then(if(rd x0 (wrap64 (x4 - 1)))=0 then(Bzz.l0 k x0 (wrap64 (x4 - 1))) else(if x4 > 48 then(some (([]:List Int),2)) else((some (([]:List Int):List Int)).bind fun y541=>(if 0≤x4 then(if x4≤(x0.length:Int) then(if y541.length+(x0.take (x4:Int).toNat).length < 17592186044416 then(some ((y541 ++ (x0.take (x4:Int).toNat)),0)) else(none)) else(none)) else(none))))) else(none)) else(none)) else(if x4 > 48 then(some (([]:List Int),2)) else((some (([]:List Int):List Int)).bind fun y548=>(if 0≤x4 then(if x4≤(x0.length:Int) then(if y548.length+(x0.take (x4:Int).toNat).length < 17592186044416 then(some ((y548 ++ (x0.take (x4:Int).toNat)),0)) else(none)) else(none)) else(none))))
def Bzz.f (k:Nat) (l0:List Int):Option (List Int × Int):=Bzz.l0 k l0 (l0.length:Int)
theorem Bzz.mono_l:∀ k,(∀ a6 a7,LeO (Bzz.l0 k a6 a7) (Bzz.l0 (k+1) a6 a7))
 | 0=>fun _ _ r h=>by simp [Bzz.l0] at h
 | k+1=>by
  have ih0:=Bzz.mono_l k
  ·intro a6 a7;unfold Bzz.l0;exact mM
theorem Bzz.mono:∀ a6 k,LeO (Bzz.f k a6) (Bzz.f (k+1) a6):=by
 intro a6 k;have ih0:=Bzz.mono_l k;unfold Bzz.f;exact mM
theorem Bzz.calls (k:Nat) (a6:Option Addr) (a7:Nat) (l0:List Int) (a8:List Int) (a9:Int) (w:World) (b4:cI w a6 l0) (b5:l0.length≤a7) (h:Bzz.f k l0=some (a8,a9)) :
  Calls Try.prog 82 #[.slice a6 l0.length a7] w fun e w'=>∃ v0_:Value,e=.returned (.tuple #[v0_,.int .i64 a9])∧rI w' w (fun _=>True) v0_ a8∧bw w w':=by
 have b6:=aM b4;have b7:=aM b5;clear b4 b5;have HB:=aM (Below.refl w.heap.size w);have H:(Bzz.l0 k l0 (l0.length:Int))=some (a8,a9):=h;clear h;have H':=aM H;clear H;go_enter Try.func82,Try.ntmps82
 go_wp2
 go_loopg [4] k (fun kq b8 w'=>∃ (b9:Int),b8=.int .i64 b9∧ae (Bzz.l0 kq l0 b9=some (a8,a9))∧ae (kq≤k)∧ae (bw w w'))
 case atStart=>exact⟨((l0.length:Int)),sD,H',⟨Nat.le_refl _⟩,⟨pB⟩⟩
 case round =>
  clear H';obtain⟨b9,rfl,HA,d6,HB⟩:=hrel;cases gk with
  | zero=>exact absurd HA.out (by simp [Bzz.l0])
  | succ k1 =>
   have H:=HA.out;clear HA;simp only[Bzz.l0] at H;by_cases c2:b9 > 0
   ·rw[if_pos c2] at H;have d7:decide (0 < b9)=true:=dE c2;clear c2;obtain⟨d8,d9⟩:∃ j_:Int,(wrap64 (b9 - 1))=j_:=⟨_,rfl⟩;replace H:(if 0≤(d8) then(if(d8) < (l0.length:Int) then(if(rd l0 (d8))=0 then(Bzz.l0 k1 l0 d8) else(if b9 > 48 then(some (([]:List Int),2)) else((some (([]:List Int):List Int)).bind fun e6=>(if 0≤b9 then(if b9≤(l0.length:Int) then(if e6.length+(l0.take (b9:Int).toNat).length < 17592186044416 then(some ((e6 ++ (l0.take (b9:Int).toNat)),0)) else(none)) else(none)) else(none))))) else(none)) else(none))=some (a8,a9):=by first|(rw[d9] at H;exact H)|(simp only[d9] at H ⊢;exact H)
    have e7:(IntKind.i64.wrap (b9 - 1))=d8:=(aH _).trans d9;obtain⟨f6,H⟩:=iN H;obtain⟨f7,H⟩:=iN H;by_cases c6:(rd l0 (d8))=0
    ·rw[if_pos c6] at H;obtain⟨f8,g5⟩:=bE c6;clear c6;have H':=aM H;clear H;obtain⟨g8,g9,j3,j4,j5⟩:=aI b6.out (d8);cases g9
     replace j3:=hB HB j3;go_wp2
     go_roundg k1
     case measure=>have:=d6.out;omega
     case rel=>exact⟨(d8),(by first|rfl|(simp;done)|(simp only[← d9] <;> (first|rfl|simp))|(simp [*];done)),H',⟨by have:=d6.out;omega⟩,⟨pB⟩⟩
    ·rw[if_neg c6] at H;obtain⟨f8,g5⟩:=bI c6;by_cases c7:b9 > 48
     ·rw[if_pos c7] at H;have j6:decide (48 < b9)=true:=dE c7;clear c7;obtain⟨rfl,rfl⟩:=q2 H;obtain⟨g8,g9,j3,j4,j5⟩:=aI b6.out (d8);cases g9
      replace j3:=hB HB j3;go_wp2
      go_ret2
      exact⟨_,by first|rfl|(simp [bv,bC] <;> rfl)|(simp only[← d9];first|rfl|(simp [bv,bC] <;> rfl))|(simp [*,bv,bC] <;> rfl),nK,pB⟩
     ·rw[if_neg c7] at H;have j6:decide (48 < b9)=false:=decide_eq_false c7;clear c7;obtain⟨e6,j7⟩:∃ y_:List Int,y_=(([]:List Int)):=⟨_,rfl⟩;replace H:(if 0≤b9 then(if b9≤(l0.length:Int) then(if e6.length+(l0.take (b9:Int).toNat).length < 17592186044416 then(some ((e6 ++ (l0.take (b9:Int).toNat)),0)) else(none)) else(none)) else(none))=some (a8,a9):=yE j7 H
      have j8:=aM j7;clear j7;obtain⟨c8,H⟩:=iO H;have j9:=eq_true c8;have l5:decide (0≤b9)=true:=dE c8;clear c8;obtain⟨c9,H⟩:=iO H;have l6:=eq_true c9;have l7:decide (b9≤(l0.length:Int))=true:=dE c9;clear c9;obtain⟨c10,H⟩:=iO H;have LMc10:=aM c10;clear c10;obtain⟨l8,l9⟩:∃ y_:List Int,y_=(e6 ++ (l0.take (b9:Int).toNat)):=⟨_,rfl⟩;replace H:(some (l8,0))=some (a8,a9):=yE l9 H
      have m0:=aM l9;clear l9;obtain⟨rfl,rfl⟩:=q2 H;obtain⟨g8,g9,j3,j4,j5⟩:=aI b6.out (d8);cases g9
      replace j3:=hB HB j3;go_wp2_with (first|((with_reducible refine gd 21 rfl ?_);refine iL 21 [] ?_;intro m4 m5 m6 hb;replace m6:=rY j8 m6;have m7:=rL m6;replace HB:=bB hb;clear hb m6;obtain⟨i013,m8,_,hsz13,_⟩:=info_parts info3;obtain⟨hcut13,m9,hC13⟩:=lX (P:=Try.prog) (Value.int .i64) 0 31 3 .i64 Try.underlying31 m8 hsz13 (some g8) a7 l0 b9 (oE aS) (oE aS) b7.out;have n0:=aM (Kd.pI (h1:=fun _=>rfl) (m9 _ (Kd.mF b6.out)));have n7:=aM hC13;clear m9 hC13 m8 hsz13)|((with_reducible refine dw (b:=.append) (xs:=#[.tmp 21,.tmp 24]) rfl ?_);at_builtin;refine Kd.gH (Kd.int .i64) (w0:=w) w.heap.size rfl (.tmp 21) (.tmp 24) 31 3 (.int .i64 0) 8 rfl Try.underlying31 info3 rfl (by decide) (by omega) m4 e6 (l0.take (b9:Int).toNat) _ _ _ (fun _=>True) (fun _=>False) rfl rfl ?aO ?aR (fun _ _ h=>h) (fun _ h=>h.elim) ?aF ?aB ?aS ?aL ?_;(case aR=>first|(rw[← show(l0.take (b9:Int).toNat).length=b9.toNat from(by rw[List.length_take];have h_:(b9:Int)≤(l0.length:Int):=oE aS;omega)];(exact cB n0);done)|(have hq_:=n0.out;rw[show(l0.take (b9:Int).toNat).length=b9.toNat from(by rw[List.length_take];have h_:(b9:Int)≤(l0.length:Int):=oE aS;omega)] at hq_;(exact cX (Kd.aT hq_ HB.out));done)|(exact cB n0));(case aB=>exact pB);(case aF=>exact(fun _ _=>trivial));(case aO=>exact(rX m7.out));(case aS=>exact(ay pB));(case aL=>have:=LMc10.out;have hlx_:=(show(l0.take (b9:Int).toNat).length=b9.toNat from(by rw[List.length_take];have h_:(b9:Int)≤(l0.length:Int):=oE aS;omega));omega);intro n8 n9 ho hb hg hat;rw[← m0.out] at ho;have o0:=aM (ho);replace HB:=aM (hb);clear m7 ho hb hg hat))
      go_ret2
      exact⟨_,by first|rfl|(simp [bv,bC] <;> rfl)|(simp only[← d9];first|rfl|(simp [bv,bC] <;> rfl))|(simp [*,bv,bC] <;> rfl),rX o0.out,pB⟩
   ·rw[if_neg c2] at H;have d7:decide (0 < b9)=false:=decide_eq_false c2;clear c2;by_cases o8:b9 > 48
    ·rw[if_pos o8] at H;have o9:decide (48 < b9)=true:=dE o8;clear o8;obtain⟨rfl,rfl⟩:=q2 H;go_wp2
     go_ret2
     exact⟨_,eW,nK,pB⟩
    ·rw[if_neg o8] at H;have o9:decide (48 < b9)=false:=decide_eq_false o8;clear o8;obtain⟨p9,r6⟩:∃ y_:List Int,y_=(([]:List Int)):=⟨_,rfl⟩;replace H:(if 0≤b9 then(if b9≤(l0.length:Int) then(if p9.length+(l0.take (b9:Int).toNat).length < 17592186044416 then(some ((p9 ++ (l0.take (b9:Int).toNat)),0)) else(none)) else(none)) else(none))=some (a8,a9):=yE r6 H
     have r7:=aM r6;clear r6;by_cases r8:0≤b9
     ·rw[if_pos r8] at H;have r9:=eq_true r8;have t4:=dE r8;clear r8;obtain⟨t5,H⟩:=iO H;have t6:=eq_true t5;have t7:decide (b9≤(l0.length:Int))=true:=dE t5;clear t5;obtain⟨t8,H⟩:=iO H;have LMc18:=aM t8;clear t8;obtain⟨t9,z3⟩:∃ y_:List Int,y_=(p9 ++ (l0.take (b9:Int).toNat)):=⟨_,rfl⟩;replace H:(some (t9,0))=some (a8,a9):=yE z3 H
      have z4:=aM z3;clear z3;obtain⟨rfl,rfl⟩:=q2 H;go_wp2_with (first|((with_reducible refine gd 21 rfl ?_);refine iL 21 [] ?_;intro z5 z6 z7 hb;replace z7:=rY r7 z7;have z8:=rL z7;replace HB:=bB hb;clear hb z7;obtain⟨i021,z9,_,hsz21,_⟩:=info_parts info3;obtain⟨hcut21,B0,hC21⟩:=lX (P:=Try.prog) (Value.int .i64) 0 31 3 .i64 Try.underlying31 z9 hsz21 a6 a7 l0 b9 (oE aS) (oE aS) b7.out;have B5:=aM (Kd.pI (h1:=fun _=>rfl) (B0 _ (Kd.mF b6.out)));have B9:=aM hC21;clear B0 hC21 z9 hsz21)|((with_reducible refine dw (b:=.append) (xs:=#[.tmp 21,.tmp 24]) rfl ?_);at_builtin;refine Kd.gH (Kd.int .i64) (w0:=w) w.heap.size rfl (.tmp 21) (.tmp 24) 31 3 (.int .i64 0) 8 rfl Try.underlying31 info3 rfl (by decide) (by omega) z5 p9 (l0.take (b9:Int).toNat) _ _ _ (fun _=>True) (fun _=>False) rfl rfl ?aO ?aR (fun _ _ h=>h) (fun _ h=>h.elim) ?aF ?aB ?aS ?aL ?_;(case aR=>first|(rw[← show(l0.take (b9:Int).toNat).length=b9.toNat from(by rw[List.length_take];have h_:(b9:Int)≤(l0.length:Int):=oE aS;omega)];(exact cB B5);done)|(have hq_:=B5.out;rw[show(l0.take (b9:Int).toNat).length=b9.toNat from(by rw[List.length_take];have h_:(b9:Int)≤(l0.length:Int):=oE aS;omega)] at hq_;(exact cX (Kd.aT hq_ HB.out));done)|(exact cB B5));(case aB=>exact pB);(case aF=>exact(fun _ _=>trivial));(case aO=>exact(rX z8.out));(case aS=>exact(ay pB));(case aL=>have:=LMc18.out;have hlx_:=(show(l0.take (b9:Int).toNat).length=b9.toNat from(by rw[List.length_take];have h_:(b9:Int)≤(l0.length:Int):=oE aS;omega));omega);intro C0 C1 ho hb hg hat;rw[← z4.out] at ho;have C2:=aM (ho);replace HB:=aM (hb);clear z8 ho hb hg hat))
      go_ret2
      exact⟨_,eW,rX C2.out,pB⟩
     ·rw[if_neg r8] at H;exact absurd H (by simp)

def Dzb.f (l0:List Int) (a1:Int):Option (Int):=if a1 < (l0.length:Int) then(if 0≤a1 then(some (rd l0 a1)) else(none)) else(some 0)
theorem Dzb.calls (a6:Option Addr) (a7:Nat) (l0:List Int) (a8:Int) (r:Int) (w:World) (a9:cI w a6 l0) (b4:l0.length≤a7) (h:Dzb.f l0 a8=some r) :
  Calls Try.prog 105 #[.slice a6 l0.length a7,.int .i64 a8] w fun e w'=>e=.returned (.int .i64 r)∧dC w w':=by
 have b5:=aM a9;have b6:=aM b4;clear a9 b4;have H:(if a8 < (l0.length:Int) then(if 0≤a8 then(some (rd l0 a8)) else(none)) else(some 0))=some r:=h
 clear h;replace H:=iD H;rcases H with⟨b7,H⟩|⟨b7,H⟩
 ·obtain⟨b8,H⟩:=iN H;obtain rfl:=Option.some.inj H;obtain⟨b9,d6,d7,d8,d9⟩:=aI b5.out a8;cases d6;go_enter Try.func105,Try.ntmps105
  go_wp2
  go_ret
  exact⟨sD,dR⟩
 ·obtain rfl:=Option.some.inj H;go_enter Try.func105,Try.ntmps105
  go_wp2
  go_ret
  exact⟨sD,dR⟩


mutual
def Azw.l0:Nat→List Int→List Int→List Int→Int→Option (List Int)
 | 0,_,_,_,_=>none
 | k+1,x0,x1,x5,x6=>if x6 < (x0.length:Int) then(Azw.l1 k x0 x1 x5 x6 0 0) else(Azw.l2 k x5 (x5.length:Int))
def Azw.l1:Nat→List Int→List Int→List Int→Int→Int→Int→Option (List Int)
 | 0,_,_,_,_,_,_=>none
 | k+1,x0,x1,x5,x6,x7,x8=>if x8 < (x1.length:Int) then(if 0≤(wrap64 (x6+x8)) then(if(wrap64 (x6+x8)) < (x5.length:Int) then(if 0≤x6 then(if x6 < (x0.length:Int) then((Dzb.f x1 x8).bind fun t561=>(Azw.l1 k x0 x1 (x5.set ((wrap64 (x6+x8)):Int).toNat (Int.tmod (wrap64 ((wrap64 ((rd x5 (wrap64 (x6+x8)))+(wrap64 ((rd x0 x6) * t561))))+x7)) 1000000000)) x6 (wrap64 (Int.tdiv (wrap64 ((wrap64 ((rd x5 (wrap64 (x6+x8)))+(wrap64 ((rd x0 x6) * t561))))+x7)) 1000000000)) (wrap64 (x8+1)))) else(none)) else(none)) else(none)) else(none)) else(if x7 > 0 then(if 0≤(wrap64 (x6+x8)) then(if(wrap64 (x6+x8)) < (x5.length:Int) then(if 0≤x6 then(if x6 < (x0.length:Int) then((Dzb.f x1 x8).bind fun t565=>(Azw.l1 k x0 x1 (x5.set ((wrap64 (x6+x8)):Int).toNat (Int.tmod (wrap64 ((wrap64 ((rd x5 (wrap64 (x6+x8)))+(wrap64 ((rd x0 x6) * t565))))+x7)) 1000000000)) x6 (wrap64 (Int.tdiv (wrap64 ((wrap64 ((rd x5 (wrap64 (x6+x8)))+(wrap64 ((rd x0 x6) * t565))))+x7)) 1000000000)) (wrap64 (x8+1)))) else(none)) else(none)) else(none)) else(none)) else(Azw.l0 k x0 x1 x5 (wrap64 (x6+1))))
def Azw.l2:Nat→List Int→Int→Option (List Int)
 | 0,_,_=>none
 | k+1,x5,x10=>if x10 > 0 then(if 0≤(wrap64 (x10 - 1)) then(if(wrap64 (x10 - 1)) < (x5.length:Int) then(if(rd x5 (wrap64 (x10 - 1)))=0 then(Azw.l2 k x5 (wrap64 (x10 - 1))) else(if 0≤x10 then(if x10≤(x5.length:Int) then(some (x5.take (x10:Int).toNat)) else(none)) else(none))) else(none)) else(none)) else(if 0≤x10 then(if x10≤(x5.length:Int) then(some (x5.take (x10:Int).toNat)) else(none)) else(none))
end
def Azw.f (k:Nat) (l0:List Int) (l1:List Int):Option (List Int):=if 0≤(wrap64 ((l0.length:Int)+(l1.length:Int))) then(if(wrap64 ((l0.length:Int)+(l1.length:Int)):Int).toNat≤35184372088832 then(Azw.l0 k l0 l1 (List.replicate (wrap64 ((l0.length:Int)+(l1.length:Int)):Int).toNat 0) 0) else(none)) else(none)
theorem Azw.mono_l:∀ k,(∀ a6 a7 a8 a9,LeO (Azw.l0 k a6 a7 a8 a9) (Azw.l0 (k+1) a6 a7 a8 a9))∧(∀ a6 a7 a8 a9 b4 b5,LeO (Azw.l1 k a6 a7 a8 a9 b4 b5) (Azw.l1 (k+1) a6 a7 a8 a9 b4 b5))∧(∀ a6 a7,LeO (Azw.l2 k a6 a7) (Azw.l2 (k+1) a6 a7))
 | 0=>⟨fun _ _ _ _ r h=>by simp [Azw.l0] at h,fun _ _ _ _ _ _ r h=>by simp [Azw.l1] at h,fun _ _ r h=>by simp [Azw.l2] at h⟩
 | k+1=>by
  obtain⟨ih0,ih1,ih2⟩:=Azw.mono_l k;refine⟨?_,?_,?_⟩
  ·intro a6 a7 a8 a9;unfold Azw.l0;exact mM
  ·intro a6 a7 a8 a9 b4 b5;unfold Azw.l1;exact mM
  ·intro a6 a7;unfold Azw.l2;exact mM
theorem Azw.mono:∀ a6 a7 k,LeO (Azw.f k a6 a7) (Azw.f (k+1) a6 a7):=by
 intro a6 a7 k;obtain⟨ih0,ih1,ih2⟩:=Azw.mono_l k;unfold Azw.f;exact mM
theorem Azw.calls (k:Nat) (a6:Option Addr) (a7:Nat) (l0:List Int) (a8:Option Addr) (a9:Nat) (l1:List Int) (r:List Int) (w:World) (b4:cI w a6 l0) (b5:l0.length≤a7) (b6:cI w a8 l1) (b7:l1.length≤a9) (h:Azw.f k l0 l1=some r) :
  Calls Try.prog 83 #[.slice a6 l0.length a7,.slice a8 l1.length a9] w fun e w'=>∃ v0_:Value,e=.returned (v0_)∧rI w' w (fun _=>True) v0_ r∧bw w w':=by
 have b8:=aM b4;have b9:=aM b5;clear b4 b5;have d6:=aM b6;have d7:=aM b7;clear b6 b7;have HB:=aM (Below.refl w.heap.size w);have H:(if 0≤(wrap64 ((l0.length:Int)+(l1.length:Int))) then(if(wrap64 ((l0.length:Int)+(l1.length:Int)):Int).toNat≤35184372088832 then(Azw.l0 k l0 l1 (List.replicate (wrap64 ((l0.length:Int)+(l1.length:Int)):Int).toNat 0) 0) else(none)) else(none))=some r:=h
 clear h;obtain⟨d8,d9⟩:∃ j_:Int,(wrap64 ((l0.length:Int)+(l1.length:Int)))=j_:=⟨_,rfl⟩;replace H:(if 0≤(d8) then(if(d8:Int).toNat≤35184372088832 then(Azw.l0 k l0 l1 (List.replicate (d8:Int).toNat 0) 0) else(none)) else(none))=some r:=by first|(rw[d9] at H;exact H)|(simp only[d9] at H ⊢;exact H)
 have e6:(IntKind.i64.wrap ((l0.length:Int)+(l1.length:Int)))=d8:=(aH _).trans d9;by_cases c4:0≤(d8)
 ·rw[if_pos c4] at H;have e7:=eq_true c4;have f6:=dE c4;clear c4;obtain⟨c5,H⟩:=iO H;have f7:=eq_true c5;have f8:decide ((d8:Int).toNat≤35184372088832)=true:=dE c5;clear c5;obtain⟨g5,g8⟩:∃ y_:List Int,y_=(List.replicate (d8:Int).toNat 0):=⟨_,rfl⟩;replace H:(Azw.l0 k l0 l1 g5 0)=some r:=yE g8 H
  have g9:=aM g8;clear g8;have H':=aM H;clear H;go_enter Try.func83,Try.ntmps83
  have fl_:True:=trivial;repeat((first|clear fl_|go_quiet (first|((with_reducible refine dY (N:=16) rfl ?_);refine Kd.kz (Kd.int .i64) _ 3 rfl (N:=16) rfl 31 _ _ rfl d8 rfl rfl Try.underlying31 (.int .i64 0) 8 info3 rfl (by decide) (by omega) 0 (ok:=fun _=>True) (okp:=fun _=>True) rfl (fun _ hk=>hk) trivial (oE aS) (Nat.le_trans (Nat.mul_le_mul_right _ (oE aS:d8.toNat≤35184372088832)) (by omega)) (Below.refl _ _) (Nat.le_refl _) ?_;intro j3 j4 j5 hb hg_ hnew_;clear hg_ hnew_;replace j5:=rY g9 j5;have j6:=rL j5;replace HB:=bB hb;clear hb j5)));go_wp2_with (first|((with_reducible refine dY (N:=16) rfl ?_);refine Kd.kz (Kd.int .i64) _ 3 rfl (N:=16) rfl 31 _ _ rfl d8 rfl rfl Try.underlying31 (.int .i64 0) 8 info3 rfl (by decide) (by omega) 0 (ok:=fun _=>True) (okp:=fun _=>True) rfl (fun _ hk=>hk) trivial (oE aS) (Nat.le_trans (Nat.mul_le_mul_right _ (oE aS:d8.toNat≤35184372088832)) (by omega)) (Below.refl _ _) (Nat.le_refl _) ?_;intro j3 j4 j5 hb hg_ hnew_;clear hg_ hnew_;replace j5:=rY g9 j5;have j6:=rL j5;replace HB:=bB hb;clear hb j5)))
  go_loopg [6] k (fun kq j7 w'=>∃ (j8:List Int) (j9:Int),j7=.int .i64 j9∧ae (Azw.l0 kq l0 l1 j8 j9=some r)∧ae (kq≤k)∧ae (rI w' w (fun _=>True) j3 j8)∧ae (bw w w'))
  case atStart=>exact⟨(g5),(0),sD,H',⟨Nat.le_refl _⟩,⟨rX j6.out⟩,⟨pB⟩⟩
  case round =>
   clear H';try clear a9
   obtain⟨j8,j9,rfl,HA,l5,l6,HB⟩:=hrel;cases gk with
   | zero=>exact absurd HA.out (by simp [Azw.l0])
   | succ k1 =>
    have H:=HA.out;clear HA;simp only[Azw.l0] at H;by_cases c8:j9 < (l0.length:Int)
    ·rw[if_pos c8] at H;have l7:=dE c8;clear c8;have H':=aM H;clear H;go_wp2
     repeat(go_quiet (fail);try go_wp2)
     go_loopg [7,8] k1 (fun kq l8 l9 w'=>∃ (m0:List Int) (m4:Int) (m5:Int),l8=.int .i64 m4∧l9=.int .i64 m5∧ae (Azw.l1 kq l0 l1 m0 j9 m4 m5=some r)∧ae (kq≤k1)∧ae (rI w' w (fun _=>True) j3 m0)∧ae (bw w w'))
     case atStart=>exact⟨(j8),(0),(0),sD,sD,H',⟨Nat.le_refl _⟩,⟨rX l6.out⟩,⟨pB⟩⟩
     case round =>
      clear H';try clear a9
      obtain⟨m0,m4,m5,rfl,rfl,HA,m6,l6,HB⟩:=hrel;cases gk with
      | zero=>exact absurd HA.out (by simp [Azw.l1])
      | succ k2 =>
       have H:=HA.out;clear HA;simp only[Azw.l1] at H;by_cases c9:m5 < (l1.length:Int)
       ·rw[if_pos c9] at H;have m7:=dE c9;clear c9;obtain⟨m8,m9⟩:∃ j_:Int,(wrap64 (j9+m5))=j_:=⟨_,rfl⟩;replace H:(if 0≤(m8) then(if(m8) < (m0.length:Int) then(if 0≤j9 then(if j9 < (l0.length:Int) then((Dzb.f l1 m5).bind fun n0=>(Azw.l1 k2 l0 l1 (m0.set ((m8):Int).toNat (Int.tmod (wrap64 ((wrap64 ((rd m0 (m8))+(wrap64 ((rd l0 j9) * n0))))+m4)) 1000000000)) j9 (wrap64 (Int.tdiv (wrap64 ((wrap64 ((rd m0 (m8))+(wrap64 ((rd l0 j9) * n0))))+m4)) 1000000000)) (wrap64 (m5+1)))) else(none)) else(none)) else(none)) else(none))=some r:=by first|(rw[m9] at H;exact H)|(simp only[m9] at H ⊢;exact H)
        have n7:(IntKind.i64.wrap (j9+m5))=m8:=(aH _).trans m9;obtain⟨n8,H⟩:=iN H;obtain⟨n9,H⟩:=iN H;obtain⟨o0,H⟩:=iN H;obtain⟨o8,H⟩:=iN H;obtain⟨n0,o9,H⟩:=bT H;(try dsimp only at H);obtain⟨p9,r6⟩:∃ y_:List Int,y_=(m0.set ((m8):Int).toNat (Int.tmod (wrap64 ((wrap64 ((rd m0 (m8))+(wrap64 ((rd l0 j9) * n0))))+m4)) 1000000000)):=⟨_,rfl⟩;replace H:(Azw.l1 k2 l0 l1 p9 j9 (wrap64 (Int.tdiv (wrap64 ((wrap64 ((rd m0 (m8))+(wrap64 ((rd l0 j9) * n0))))+m4)) 1000000000)) (wrap64 (m5+1)))=some r:=yE r6 H
        have r7:=aM r6;clear r6;have H':=aM H;clear H;obtain⟨r8,r9,rfl⟩:=Kd.aj l6.out;obtain⟨t4,t5,t6,t7,t8⟩:=aI (Kd.ax l6.out).2.2 (m8);cases t5;obtain⟨t9,z3,z4,z5,z6⟩:=aI b8.out j9;cases z3
        replace z4:=hB HB z4;have fl_:True:=trivial;repeat((first|clear fl_|go_quiet (first|(go_at_call 105;(with_reducible refine(Dzb.calls _ _ l1 m5 n0 _ ?_ ?_ o9.out).mono ?_);exact cB d6;exact d7.out;rintro e w' ⟨rfl,⟨nd,rfl⟩⟩;(try exact dD);have z7:0≤((m8):Int):=oE aS;have z8:((m8):Int) < ((m0.length:Int):Int):=oE aS;obtain⟨z9,B0,B5,B9,C0,C1,C2⟩:=Kd.fu l6.out (by omega);(first|cases B5|(injection B5 with ea_ en_ ec_;(first|subst ea_|(injection ea_ with ea_;subst ea_));subst ec_;clear en_));have C3:=aM B9;have C4:=aM C2;clear B9 C0 C2;(first|simp only[add_plain] at t6|skip);obtain⟨C6,C7⟩:=Kd.bU 0 l6.out ((m8):Int) z7 z8;replace z7:=eq_true z7;replace z8:=eq_true z8;obtain⟨C8,hz18_⟩:=Kd.bU 0 l6.out ((m8):Int) (oE aS) (oE aS);have C9:=Kd.dX l6.out ((m8):Int) (Int.tmod (wrap64 ((wrap64 ((rd m0 (m8))+(wrap64 ((rd l0 j9) * n0))))+m4)) 1000000000))|((with_reducible refine bH (t:=3) (p:=56) rfl ?_);(try(rw[gK wr];generalize hq_:World.drewN wr _=wr;have n0_:=aM (Kd.tu hq_ l6.out);have n1_:=aM (jA hq_ HB.out);clear hq_ l6 HB;have l6:=n0_;have HB:=n1_;clear n0_ n1_;(try(obtain⟨C8,hz18_⟩:=Kd.bU 0 l6.out ((m8):Int) (oE aS) (oE aS)));(try(have C9:=Kd.dX l6.out ((m8):Int) (Int.tmod (wrap64 ((wrap64 ((rd m0 (m8))+(wrap64 ((rd l0 j9) * n0))))+m4)) 1000000000)))));refine aZ (t:=3) (p:=56) (v:=?vo_w19) (w1:=(wr.setCell ⟨z9,((m8):Int).toNat,none⟩ (.int .i64 (Int.tmod (wrap64 ((wrap64 ((rd m0 (m8))+(wrap64 ((rd l0 j9) * n0))))+m4)) 1000000000)))) ?hg ?ho ?hn ?hr ?_;(case ho=>rfl);(case hg=>rfl);(case hn=>rfl);(case hr=>first|(go_simp;done)|(go_simp;rfl));intro D4 hw;have hg:wr.grownBy D4 (some z9):=(by rw[hw];exact C9.2);have hp_:rI D4 w (fun _=>True) (.slice (some ⟨z9,0,none⟩) m0.length r9) p9:=(by rw[hw,r7.out];exact C9.1);clear C9;replace l6:=aM (hp_);replace HB:=aM ((by rw[hw];exact cZ (HB.out) C3.out:bw w D4));clear hg hw hp_)));go_wp2_with (first|(go_at_call 105;(with_reducible refine(Dzb.calls _ _ l1 m5 n0 _ ?_ ?_ o9.out).mono ?_);exact cB d6;exact d7.out;rintro e w' ⟨rfl,⟨nd,rfl⟩⟩;(try exact dD);have z7:0≤((m8):Int):=oE aS;have z8:((m8):Int) < ((m0.length:Int):Int):=oE aS;obtain⟨z9,B0,B5,B9,C0,C1,C2⟩:=Kd.fu l6.out (by omega);(first|cases B5|(injection B5 with ea_ en_ ec_;(first|subst ea_|(injection ea_ with ea_;subst ea_));subst ec_;clear en_));have C3:=aM B9;have C4:=aM C2;clear B9 C0 C2;(first|simp only[add_plain] at t6|skip);obtain⟨C6,C7⟩:=Kd.bU 0 l6.out ((m8):Int) z7 z8;replace z7:=eq_true z7;replace z8:=eq_true z8;obtain⟨C8,hz18_⟩:=Kd.bU 0 l6.out ((m8):Int) (oE aS) (oE aS);have C9:=Kd.dX l6.out ((m8):Int) (Int.tmod (wrap64 ((wrap64 ((rd m0 (m8))+(wrap64 ((rd l0 j9) * n0))))+m4)) 1000000000))|((with_reducible refine bH (t:=3) (p:=56) rfl ?_);(try(rw[gK wr];generalize hq_:World.drewN wr _=wr;have n0_:=aM (Kd.tu hq_ l6.out);have n1_:=aM (jA hq_ HB.out);clear hq_ l6 HB;have l6:=n0_;have HB:=n1_;clear n0_ n1_;(try(obtain⟨C8,hz18_⟩:=Kd.bU 0 l6.out ((m8):Int) (oE aS) (oE aS)));(try(have C9:=Kd.dX l6.out ((m8):Int) (Int.tmod (wrap64 ((wrap64 ((rd m0 (m8))+(wrap64 ((rd l0 j9) * n0))))+m4)) 1000000000)))));refine aZ (t:=3) (p:=56) (v:=?vo_w19) (w1:=(wr.setCell ⟨z9,((m8):Int).toNat,none⟩ (.int .i64 (Int.tmod (wrap64 ((wrap64 ((rd m0 (m8))+(wrap64 ((rd l0 j9) * n0))))+m4)) 1000000000)))) ?hg ?ho ?hn ?hr ?_;(case ho=>rfl);(case hg=>rfl);(case hn=>rfl);(case hr=>first|(go_simp;done)|(go_simp;rfl));intro D4 hw;have hg:wr.grownBy D4 (some z9):=(by rw[hw];exact C9.2);have hp_:rI D4 w (fun _=>True) (.slice (some ⟨z9,0,none⟩) m0.length r9) p9:=(by rw[hw,r7.out];exact C9.1);clear C9;replace l6:=aM (hp_);replace HB:=aM ((by rw[hw];exact cZ (HB.out) C3.out:bw w D4));clear hg hw hp_)))
        go_roundg k2
        case measure=>have:=l5.out;have:=m6.out;omega
        case rel=>exact⟨(p9),(wrap64 (Int.tdiv (wrap64 ((wrap64 ((rd m0 (m8))+(wrap64 ((rd l0 j9) * n0))))+m4)) 1000000000)),(wrap64 (m5+1)),(by first|rfl|(simp;done)|(simp only[← m9] <;> (first|rfl|simp))|(simp [*];done)),sD,H',⟨by have:=l5.out;have:=m6.out;omega⟩,⟨rX l6.out⟩,⟨pB⟩⟩
       ·rw[if_neg c9] at H;have m7:decide (m5 < (l1.length:Int))=false:=decide_eq_false c9;clear c9;by_cases D5:m4 > 0
        ·rw[if_pos D5] at H;have D6:decide (0 < m4)=true:=dE D5;clear D5;obtain⟨D7,D8⟩:∃ j_:Int,(wrap64 (j9+m5))=j_:=⟨_,rfl⟩;replace H:(if 0≤(D7) then(if(D7) < (m0.length:Int) then(if 0≤j9 then(if j9 < (l0.length:Int) then((Dzb.f l1 m5).bind fun D9=>(Azw.l1 k2 l0 l1 (m0.set ((D7):Int).toNat (Int.tmod (wrap64 ((wrap64 ((rd m0 (D7))+(wrap64 ((rd l0 j9) * D9))))+m4)) 1000000000)) j9 (wrap64 (Int.tdiv (wrap64 ((wrap64 ((rd m0 (D7))+(wrap64 ((rd l0 j9) * D9))))+m4)) 1000000000)) (wrap64 (m5+1)))) else(none)) else(none)) else(none)) else(none))=some r:=by first|(rw[D8] at H;exact H)|(simp only[D8] at H ⊢;exact H)
         have E0:(IntKind.i64.wrap (j9+m5))=D7:=(aH _).trans D8;obtain⟨E1,H⟩:=iN H;obtain⟨E2,H⟩:=iN H;obtain⟨E3,H⟩:=iN H;obtain⟨E4,H⟩:=iN H;obtain⟨D9,E5,H⟩:=bT H;(try dsimp only at H);obtain⟨E6,E7⟩:∃ y_:List Int,y_=(m0.set ((D7):Int).toNat (Int.tmod (wrap64 ((wrap64 ((rd m0 (D7))+(wrap64 ((rd l0 j9) * D9))))+m4)) 1000000000)):=⟨_,rfl⟩;replace H:(Azw.l1 k2 l0 l1 E6 j9 (wrap64 (Int.tdiv (wrap64 ((wrap64 ((rd m0 (D7))+(wrap64 ((rd l0 j9) * D9))))+m4)) 1000000000)) (wrap64 (m5+1)))=some r:=yE E7 H
         have E8:=aM E7;clear E7;have H':=aM H;clear H;obtain⟨E9,F0,rfl⟩:=Kd.aj l6.out;obtain⟨F2,F3,F4,F5,F6⟩:=aI (Kd.ax l6.out).2.2 (D7);cases F3;obtain⟨F7,F8,F9,G5,G9⟩:=aI b8.out j9;cases F8
         replace F9:=hB HB F9;have fl_:True:=trivial;repeat((first|clear fl_|go_quiet (first|(go_at_call 105;(with_reducible refine(Dzb.calls _ _ l1 m5 D9 _ ?_ ?_ E5.out).mono ?_);exact cB d6;exact d7.out;rintro e w' ⟨rfl,⟨nd,rfl⟩⟩;(try exact dD);have H5:0≤((D7):Int):=oE aS;have H6:((D7):Int) < ((m0.length:Int):Int):=oE aS;obtain⟨H7,H8,H9,I0,I3,I4,I5⟩:=Kd.fu l6.out (by omega);(first|cases H9|(injection H9 with ea_ en_ ec_;(first|subst ea_|(injection ea_ with ea_;subst ea_));subst ec_;clear en_));have I6:=aM I0;have I7:=aM I5;clear I0 I3 I5;(first|simp only[add_plain] at F4|skip);obtain⟨I8,I9⟩:=Kd.bU 0 l6.out ((D7):Int) H5 H6;replace H5:=eq_true H5;replace H6:=eq_true H6;obtain⟨J0,hz29_⟩:=Kd.bU 0 l6.out ((D7):Int) (oE aS) (oE aS);have J1:=Kd.dX l6.out ((D7):Int) (Int.tmod (wrap64 ((wrap64 ((rd m0 (D7))+(wrap64 ((rd l0 j9) * D9))))+m4)) 1000000000))|((with_reducible refine bH (t:=3) (p:=56) rfl ?_);(try(rw[gK wr];generalize hq_:World.drewN wr _=wr;have n0_:=aM (Kd.tu hq_ l6.out);have n1_:=aM (jA hq_ HB.out);clear hq_ l6 HB;have l6:=n0_;have HB:=n1_;clear n0_ n1_;(try(obtain⟨J0,hz29_⟩:=Kd.bU 0 l6.out ((D7):Int) (oE aS) (oE aS)));(try(have J1:=Kd.dX l6.out ((D7):Int) (Int.tmod (wrap64 ((wrap64 ((rd m0 (D7))+(wrap64 ((rd l0 j9) * D9))))+m4)) 1000000000)))));refine aZ (t:=3) (p:=56) (v:=?vo_w30) (w1:=(wr.setCell ⟨H7,((D7):Int).toNat,none⟩ (.int .i64 (Int.tmod (wrap64 ((wrap64 ((rd m0 (D7))+(wrap64 ((rd l0 j9) * D9))))+m4)) 1000000000)))) ?hg ?ho ?hn ?hr ?_;(case ho=>rfl);(case hg=>rfl);(case hn=>rfl);(case hr=>first|(go_simp;done)|(go_simp;rfl));intro J2 hw;have hg:wr.grownBy J2 (some H7):=(by rw[hw];exact J1.2);have hp_:rI J2 w (fun _=>True) (.slice (some ⟨H7,0,none⟩) m0.length F0) E6:=(by rw[hw,E8.out];exact J1.1);clear J1;replace l6:=aM (hp_);replace HB:=aM ((by rw[hw];exact cZ (HB.out) I6.out:bw w J2));clear hg hw hp_)));go_wp2_with (first|(go_at_call 105;(with_reducible refine(Dzb.calls _ _ l1 m5 D9 _ ?_ ?_ E5.out).mono ?_);exact cB d6;exact d7.out;rintro e w' ⟨rfl,⟨nd,rfl⟩⟩;(try exact dD);have H5:0≤((D7):Int):=oE aS;have H6:((D7):Int) < ((m0.length:Int):Int):=oE aS;obtain⟨H7,H8,H9,I0,I3,I4,I5⟩:=Kd.fu l6.out (by omega);(first|cases H9|(injection H9 with ea_ en_ ec_;(first|subst ea_|(injection ea_ with ea_;subst ea_));subst ec_;clear en_));have I6:=aM I0;have I7:=aM I5;clear I0 I3 I5;(first|simp only[add_plain] at F4|skip);obtain⟨I8,I9⟩:=Kd.bU 0 l6.out ((D7):Int) H5 H6;replace H5:=eq_true H5;replace H6:=eq_true H6;obtain⟨J0,hz29_⟩:=Kd.bU 0 l6.out ((D7):Int) (oE aS) (oE aS);have J1:=Kd.dX l6.out ((D7):Int) (Int.tmod (wrap64 ((wrap64 ((rd m0 (D7))+(wrap64 ((rd l0 j9) * D9))))+m4)) 1000000000))|((with_reducible refine bH (t:=3) (p:=56) rfl ?_);(try(rw[gK wr];generalize hq_:World.drewN wr _=wr;have n0_:=aM (Kd.tu hq_ l6.out);have n1_:=aM (jA hq_ HB.out);clear hq_ l6 HB;have l6:=n0_;have HB:=n1_;clear n0_ n1_;(try(obtain⟨J0,hz29_⟩:=Kd.bU 0 l6.out ((D7):Int) (oE aS) (oE aS)));(try(have J1:=Kd.dX l6.out ((D7):Int) (Int.tmod (wrap64 ((wrap64 ((rd m0 (D7))+(wrap64 ((rd l0 j9) * D9))))+m4)) 1000000000)))));refine aZ (t:=3) (p:=56) (v:=?vo_w30) (w1:=(wr.setCell ⟨H7,((D7):Int).toNat,none⟩ (.int .i64 (Int.tmod (wrap64 ((wrap64 ((rd m0 (D7))+(wrap64 ((rd l0 j9) * D9))))+m4)) 1000000000)))) ?hg ?ho ?hn ?hr ?_;(case ho=>rfl);(case hg=>rfl);(case hn=>rfl);(case hr=>first|(go_simp;done)|(go_simp;rfl));intro J2 hw;have hg:wr.grownBy J2 (some H7):=(by rw[hw];exact J1.2);have hp_:rI J2 w (fun _=>True) (.slice (some ⟨H7,0,none⟩) m0.length F0) E6:=(by rw[hw,E8.out];exact J1.1);clear J1;replace l6:=aM (hp_);replace HB:=aM ((by rw[hw];exact cZ (HB.out) I6.out:bw w J2));clear hg hw hp_)))
         go_roundg k2
         case measure=>have:=l5.out;have:=m6.out;omega
         case rel=>exact⟨(E6),(wrap64 (Int.tdiv (wrap64 ((wrap64 ((rd m0 (D7))+(wrap64 ((rd l0 j9) * D9))))+m4)) 1000000000)),(wrap64 (m5+1)),(by first|rfl|(simp;done)|(simp only[← D8] <;> (first|rfl|simp))|(simp [*];done)),sD,H',⟨by have:=l5.out;have:=m6.out;omega⟩,⟨rX l6.out⟩,⟨pB⟩⟩
        ·rw[if_neg D5] at H;have D6:decide (0 < m4)=false:=decide_eq_false D5;clear D5;have H':=aM H;clear H;go_wp2
         repeat(go_quiet (fail);try go_wp2)
         go_roundg k2
         case measure=>have:=l5.out;have:=m6.out;omega
         case rel=>exact⟨(m0),(wrap64 (j9+1)),sD,H',⟨by have:=l5.out;have:=m6.out;omega⟩,⟨rX l6.out⟩,⟨pB⟩⟩
    ·rw[if_neg c8] at H;have l7:decide (j9 < (l0.length:Int))=false:=decide_eq_false c8;clear c8;have H':=aM H;clear H;obtain⟨J3,J4,rfl⟩:=Kd.aj l6.out;go_wp2
     repeat(go_quiet (fail);try go_wp2)
     go_loopg [10] k1 (fun kq J5 w'=>∃ (J6:Int),J5=.int .i64 J6∧ae (Azw.l2 kq j8 J6=some r)∧ae (kq≤k1)∧ae (rI w' w (fun _=>True) (.slice J3 j8.length J4) j8)∧ae (bw w w'))
     case atStart=>exact⟨((j8.length:Int)),sD,H',⟨Nat.le_refl _⟩,⟨rX l6.out⟩,⟨pB⟩⟩
     case round =>
      clear H';try clear a9
      obtain⟨J6,rfl,HA,m6,l6,HB⟩:=hrel;cases gk with
      | zero=>exact absurd HA.out (by simp [Azw.l2])
      | succ k2 =>
       have H:=HA.out;clear HA;simp only[Azw.l2] at H;by_cases J7:J6 > 0
       ·rw[if_pos J7] at H;have J8:decide (0 < J6)=true:=dE J7;clear J7;obtain⟨J9,K0⟩:∃ j_:Int,(wrap64 (J6 - 1))=j_:=⟨_,rfl⟩;replace H:(if 0≤(J9) then(if(J9) < (j8.length:Int) then(if(rd j8 (J9))=0 then(Azw.l2 k2 j8 J9) else(if 0≤J6 then(if J6≤(j8.length:Int) then(some (j8.take (J6:Int).toNat)) else(none)) else(none))) else(none)) else(none))=some r:=by first|(rw[K0] at H;exact H)|(simp only[K0] at H ⊢;exact H)
        have K1:(IntKind.i64.wrap (J6 - 1))=J9:=(aH _).trans K0;obtain⟨K2,H⟩:=iN H;obtain⟨K3,H⟩:=iN H;by_cases K4:(rd j8 (J9))=0
        ·rw[if_pos K4] at H;obtain⟨K5,K6⟩:=bE K4;clear K4;have H':=aM H;clear H;obtain⟨K7,K8,K9,L0,L8⟩:=aI (Kd.ax l6.out).2.2 (J9);cases K8;go_wp2
         repeat(go_quiet (fail);try go_wp2)
         go_roundg k2
         case measure=>have:=l5.out;have:=m6.out;omega
         case rel=>exact⟨(J9),(by first|rfl|(simp;done)|(simp only[← K0] <;> (first|rfl|simp))|(simp [*];done)),H',⟨by have:=l5.out;have:=m6.out;omega⟩,⟨rX l6.out⟩,⟨pB⟩⟩
        ·rw[if_neg K4] at H;obtain⟨K5,K6⟩:=bI K4;obtain⟨L9,H⟩:=iO H;have M0:=eq_true L9;have M3:decide (0≤J6)=true:=dE L9;clear L9;obtain⟨M4,H⟩:=iO H;have M5:=eq_true M4;have M6:decide (J6≤(j8.length:Int))=true:=dE M4;clear M4;obtain⟨M7,M8⟩:∃ y_:List Int,y_=(j8.take (J6:Int).toNat):=⟨_,rfl⟩;replace H:(some M7)=some r:=yE M8 H
         have M9:=aM M8;clear M8;obtain rfl:=Option.some.inj H;obtain⟨K7,K8,K9,L0,L8⟩:=aI (Kd.ax l6.out).2.2 (J9);cases K8;have N0:(J6:Int)≤((j8.length:Int):Int):=oE aS
         obtain⟨i039,N1,_,hsz39,_⟩:=info_parts info3;have hcut39:=nM (P:=Try.prog) 31 3 .i64 Try.underlying31 N1 (some K7) j8.length J4 J6 (oE aS) N0 (Kd.ax l6.out).2.1
         have N2:=Kd.mG (m:=(J6:Int).toNat) l6.out (by omega)
         have N3:M7.length=(J6:Int).toNat:=(by rw[M9.out,List.length_take];omega)
         rw[← M9.out] at N2;rw[← N3] at N2 hcut39;clear N3 N1 hsz39 l6;have N4:=aM N2;clear N2;replace N0:=eq_true N0;go_wp2
         repeat(go_quiet (fail);try go_wp2)
         go_ret
         exact⟨_,by first|rfl|(simp [bv,bC] <;> rfl)|(simp only[← d9,← K0];first|rfl|(simp [bv,bC] <;> rfl))|(simp [*,bv,bC] <;> rfl),rX N4.out,pB⟩
       ·rw[if_neg J7] at H;have J8:decide (0 < J6)=false:=decide_eq_false J7;clear J7;obtain⟨N5,H⟩:=iO H;have N6:=eq_true N5;have N7:decide (0≤J6)=true:=dE N5;clear N5;obtain⟨N8,H⟩:=iO H;have N9:=eq_true N8;have O0:decide (J6≤(j8.length:Int))=true:=dE N8;clear N8;obtain⟨O1,O2⟩:∃ y_:List Int,y_=(j8.take (J6:Int).toNat):=⟨_,rfl⟩;replace H:(some O1)=some r:=yE O2 H
        have O3:=aM O2;clear O2;obtain rfl:=Option.some.inj H;have O4:(J6:Int)≤((j8.length:Int):Int):=oE aS
        obtain⟨i042,O5,_,hsz42,_⟩:=info_parts info3;have hcut42:=nM (P:=Try.prog) 31 3 .i64 Try.underlying31 O5 J3 j8.length J4 J6 (oE aS) O4 (Kd.ax l6.out).2.1
        have O6:=Kd.mG (m:=(J6:Int).toNat) l6.out (by omega)
        have O7:O1.length=(J6:Int).toNat:=(by rw[O3.out,List.length_take];omega)
        rw[← O3.out] at O6;rw[← O7] at O6 hcut42;clear O7 O5 hsz42 l6;have O8:=aM O6;clear O6;replace O4:=eq_true O4;go_wp2
        repeat(go_quiet (fail);try go_wp2)
        go_ret
        exact⟨_,by first|rfl|(simp [bv,bC] <;> rfl)|(simp only[← d9];first|rfl|(simp [bv,bC] <;> rfl))|(simp [*,bv,bC] <;> rfl),rX O8.out,pB⟩
 ·rw[if_neg c4] at H;exact absurd H (by simp)

end Go.Proofs.Ytbnpcplckcipfaa.Print
