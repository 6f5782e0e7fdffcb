import Derived.Test.YtbnpcplckcipfaaPrint0
namespace Go.Proofs.Ytbnpcplckcipfaa.Print
open Go.RowKit Go.Proofs.YtbnpcplckcipfaaW.PrintWords Go.Proofs.YtbnpcplckcipfaaW.PrintLast Go.Proofs.YtbnpcplckcipfaaW.PrintMore
attribute [local go_sem] max2_int min2_int max_two min_two max_three min_three max_four min_four
set_option linter.unusedVariables false
set_option maxRecDepth 100000
set_option maxHeartbeats 8000000
set_option linter.unusedSimpArgs false

mutual
def Azz.j0:Nat→List Int→Bool→Option (Bool)
 | 0,_,_=>none
 | k+1,x0,x20=>if x20=true then(some false) else(Azz.l0 k x0 0)
def Azz.l0:Nat→List Int→Int→Option (Bool)
 | 0,_,_=>none
 | k+1,x0,x3=>if x3 < (x0.length:Int) then(if 0≤x3 then(if(rd x0 x3) < 0 then(some false) else(if(rd x0 x3)≥1000000000 then(some false) else(Azz.l0 k x0 (wrap64 (x3+1))))) else(none)) else(some true)
end
def Azz.f (k:Nat) (l0:List Int):Option (Bool):=if(l0.length:Int) > 48 then(Azz.j0 k l0 true) else(if(l0.length:Int) > 0 then(if 0≤(wrap64 ((l0.length:Int) - 1)) then(if(wrap64 ((l0.length:Int) - 1)) < (l0.length:Int) then(Azz.j0 k l0 ((rd l0 (wrap64 ((l0.length:Int) - 1))) == 0)) else(none)) else(none)) else(Azz.j0 k l0 false))
theorem Azz.mono_l:∀ k,(∀ a6 a7,LeO (Azz.j0 k a6 a7) (Azz.j0 (k+1) a6 a7))∧(∀ a6 a7,LeO (Azz.l0 k a6 a7) (Azz.l0 (k+1) a6 a7))
 | 0=>⟨fun _ _ r h=>by simp [Azz.j0] at h,fun _ _ r h=>by simp [Azz.l0] at h⟩
 | k+1=>by
  obtain⟨ih0,ih1⟩:=Azz.mono_l k;refine⟨?_,?_⟩
  ·intro a6 a7;unfold Azz.j0;exact mM
  ·intro a6 a7;unfold Azz.l0;exact mM
theorem Azz.mono:∀ a6 k,LeO (Azz.f k a6) (Azz.f (k+1) a6):=by
 intro a6 k;obtain⟨ih0,ih1⟩:=Azz.mono_l k;unfold Azz.f;exact mM
theorem Azz.calls (k:Nat) (a6:Option Addr) (a7:Nat) (l0:List Int) (r:Bool) (w:World) (a8:cI w a6 l0) (a9:l0.length≤a7) (h:Azz.f k l0=some r) :
  Calls Try.prog 70 #[.slice a6 l0.length a7] w fun e w'=>e=.returned (.bool r)∧Drawn0 w w':=by
 have b4:=aM a8;have b5:=aM a9;clear a8 a9;have H:(if(l0.length:Int) > 48 then(Azz.j0 k l0 true) else(if(l0.length:Int) > 0 then(if 0≤(wrap64 ((l0.length:Int) - 1)) then(if(wrap64 ((l0.length:Int) - 1)) < (l0.length:Int) then(Azz.j0 k l0 ((rd l0 (wrap64 ((l0.length:Int) - 1))) == 0)) else(none)) else(none)) else(Azz.j0 k l0 false)))=some r:=h
 clear h;have b6:=aM H;clear H;go_enter Try.func70,Try.ntmps70
 go_upto_region 1 with (fail)
 go_cut [20] (fun b7 wc=>∃ (kq:Nat) (b8:Bool),b7=.bool b8∧Aside0 (Azz.j0 kq l0 b8=some r)∧Aside0 (kq≤k)∧Drawn0 w wc)
 case first =>
  have H:=b6.out;clear b6;by_cases c3:(l0.length:Int) > 48
  ·rw[if_pos c3] at H;have b9:decide (48 < (l0.length:Int))=true:=dE c3;have d6:decide (48 < l0.length)=true:=dE (by omega)
   clear c3;(first|rw[b9]|(simp only[i64_w,i32_w];rw[b9])|skip)
   have H':=aM H;clear H;go_wp2
   go_meet
   case rel=>exact⟨_,(true),sD,H',⟨by first|omega|exact Nat.le_refl _⟩,dR⟩
  ·rw[if_neg c3] at H;have b9:decide (48 < (l0.length:Int))=false:=decide_eq_false c3;have d6:decide (48 < l0.length)=false:=decide_eq_false (by omega)
   clear c3;(first|rw[b9]|(simp only[i64_w,i32_w];rw[b9])|skip)
   by_cases c4:(l0.length:Int) > 0
   ·rw[if_pos c4] at H;have d7:decide (0 < (l0.length:Int))=true:=dE c4;have d8:decide (0 < l0.length)=true:=dE (by omega)
    clear c4;obtain⟨d9,e6⟩:∃ j_:Int,(wrap64 ((l0.length:Int) - 1))=j_:=⟨_,rfl⟩;replace H:(if 0≤(d9) then(if(d9) < (l0.length:Int) then(Azz.j0 k l0 ((rd l0 (d9)) == 0)) else(none)) else(none))=some r:=by first|(rw[e6] at H;exact H)|(simp only[e6] at H ⊢;exact H)
    have e7:(IntKind.i64.wrap ((l0.length:Int) - 1))=d9:=(i64_w _).trans e6;obtain⟨e8,H⟩:=iN H;obtain⟨e9,H⟩:=iN H;have H':=aM H;clear H;obtain⟨f3,f4,f5,f6,f7⟩:=aI b4.out (d9);cases f4;go_wp2
    go_meet
    case rel=>exact⟨_,(((rd l0 (d9)) == 0)),(by first|rfl|(simp;done)|(simp only[← e6] <;> (first|rfl|simp))|(simp [*];done)),H',⟨by first|omega|exact Nat.le_refl _⟩,dR⟩
   ·rw[if_neg c4] at H;have d7:decide (0 < (l0.length:Int))=false:=decide_eq_false c4;have d8:decide (0 < l0.length)=false:=decide_eq_false (by omega)
    clear c4;have H':=aM H;clear H;go_wp2
    go_meet
    case rel=>exact⟨_,(false),sD,H',⟨by first|omega|exact Nat.le_refl _⟩,dR⟩
 case rest =>
  clear b6;try clear f8
  obtain⟨kq,b8,rfl,HA,f9,⟨mc1,rfl⟩⟩:=hcut;cases kq with
  | zero=>exact absurd HA.out (by simp [Azz.j0])
  | succ g4 =>
   have H:=HA.out;clear HA;simp only[Azz.j0] at H;by_cases c8:b8=true
   ·subst c8;rw[if_pos rfl] at H;obtain rfl:=Option.some.inj H;go_wp2
    go_ret
    exact⟨sD,dR⟩
   ·obtain rfl:=bN c8;rw[if_neg nF] at H
    have H':=aM H;clear H;go_wp2
    go_loopg [3] g4 (fun kq g5 w'=>∃ (g6:Int),g5=.int .i64 g6∧Aside0 (Azz.l0 kq l0 g6=some r)∧Aside0 (kq≤g4)∧Drawn0 w w')
    case atStart=>exact⟨(0),sD,H',⟨Nat.le_refl _⟩,dR⟩
    case round =>
     clear H';try clear g7
     obtain⟨g6,rfl,HA,g8,⟨g9,rfl⟩⟩:=hrel;cases gk with
     | zero=>exact absurd HA.out (by simp [Azz.l0])
     | succ k2 =>
      have H:=HA.out;clear HA;simp only[Azz.l0] at H;replace H:=iD H;rcases H with⟨j3,H⟩|⟨j3,H⟩
      ·obtain⟨j4,H⟩:=iN H;replace H:=iD H;rcases H with⟨j6,H⟩|⟨j6,H⟩
       ·obtain rfl:=Option.some.inj H;obtain⟨j7,j8,j9,l5,l6⟩:=aI b4.out g6;cases j8;go_wp2
        go_ret
        exact⟨sD,dR⟩
       ·by_cases l7:(rd l0 g6)≥1000000000
        ·rw[if_pos l7] at H;have l8:decide (1000000000≤(rd l0 g6))=true:=dE l7;clear l7;obtain rfl:=Option.some.inj H;obtain⟨j7,j8,j9,l5,l6⟩:=aI b4.out g6;cases j8;obtain⟨l9,m0,m4,m5,m6⟩:=aI b4.out g6;obtain rfl:j7=l9:=(by injection m0);go_wp2
         go_ret
         exact⟨sD,dR⟩
        ·rw[if_neg l7] at H;have l8:decide (1000000000≤(rd l0 g6))=false:=decide_eq_false l7;clear l7;have H':=aM H;clear H;obtain⟨j7,j8,j9,l5,l6⟩:=aI b4.out g6;cases j8;obtain⟨l9,m0,m4,m5,m6⟩:=aI b4.out g6;obtain rfl:j7=l9:=(by injection m0);go_wp2
         go_roundg k2
         case measure=>have:=f9.out;have:=g8.out;omega
         case rel=>exact⟨(wrap64 (g6+1)),sD,H',⟨by have:=f9.out;have:=g8.out;omega⟩,dR⟩
      ·obtain rfl:=Option.some.inj H;go_wp2
       go_ret
       exact⟨sD,dR⟩


def Bzz.l0:Nat→List Int→Int→Option (List Int × Int)
 | 0,_,_=>none
 | k+1,x0,x4=>if x4 > 0 then(if 0≤(wrap64 (x4 - 1)) then(if(wrap64 (x4 - 1)) < (x0.length:Int) then(if(rd x0 (wrap64 (x4 - 1)))=0 then(Bzz.l0 k x0 (wrap64 (x4 - 1))) else(if x4 > 48 then(some (([]:List Int),2)) else((some (([]:List Int):List Int)).bind fun y541=>(if 0≤x4 then(if x4≤(x0.length:Int) then(if y541.length+(x0.take (x4:Int).toNat).length < 17592186044416 then(some ((y541 ++ (x0.take (x4:Int).toNat)),0)) else(none)) else(none)) else(none))))) else(none)) else(none)) else(if x4 > 48 then(some (([]:List Int),2)) else((some (([]:List Int):List Int)).bind fun y548=>(if 0≤x4 then(if x4≤(x0.length:Int) then(if y548.length+(x0.take (x4:Int).toNat).length < 17592186044416 then(some ((y548 ++ (x0.take (x4:Int).toNat)),0)) else(none)) else(none)) else(none))))
def Bzz.f (k:Nat) (l0:List Int):Option (List Int × Int):=Bzz.l0 k l0 (l0.length:Int)
theorem Bzz.mono_l:∀ k,(∀ a6 a7,LeO (Bzz.l0 k a6 a7) (Bzz.l0 (k+1) a6 a7))
 | 0=>fun _ _ r h=>by simp [Bzz.l0] at h
 | k+1=>by
  have ih0:=Bzz.mono_l k
  ·intro a6 a7;unfold Bzz.l0;exact mM
theorem Bzz.mono:∀ a6 k,LeO (Bzz.f k a6) (Bzz.f (k+1) a6):=by
 intro a6 k;have ih0:=Bzz.mono_l k;unfold Bzz.f;exact mM
theorem Bzz.calls (k:Nat) (a6:Option Addr) (a7:Nat) (l0:List Int) (a8:List Int) (a9:Int) (w:World) (b4:cI w a6 l0) (b5:l0.length≤a7) (h:Bzz.f k l0=some (a8,a9)) :
  Calls Try.prog 82 #[.slice a6 l0.length a7] w fun e w'=>∃ v0_:Value,e=.returned (.tuple #[v0_,.int .i64 a9])∧rI w' w (fun _=>True) v0_ a8∧bw w w':=by
 have b6:=aM b4;have b7:=aM b5;clear b4 b5;have HB:=aM (Below.refl w.heap.size w);have H:(Bzz.l0 k l0 (l0.length:Int))=some (a8,a9):=h;clear h;have H':=aM H;clear H;go_enter Try.func82,Try.ntmps82
 go_wp2
 go_loopg [4] k (fun kq b8 w'=>∃ (b9:Int),b8=.int .i64 b9∧Aside0 (Bzz.l0 kq l0 b9=some (a8,a9))∧Aside0 (kq≤k)∧Aside0 (bw w w'))
 case atStart=>exact⟨((l0.length:Int)),sD,H',⟨Nat.le_refl _⟩,⟨pB⟩⟩
 case round =>
  clear H';obtain⟨b9,rfl,HA,d6,HB⟩:=hrel;cases gk with
  | zero=>exact absurd HA.out (by simp [Bzz.l0])
  | succ k1 =>
   have H:=HA.out;clear HA;simp only[Bzz.l0] at H;by_cases c2:b9 > 0
   ·rw[if_pos c2] at H;have d7:decide (0 < b9)=true:=dE c2;clear c2;obtain⟨d8,d9⟩:∃ j_:Int,(wrap64 (b9 - 1))=j_:=⟨_,rfl⟩;replace H:(if 0≤(d8) then(if(d8) < (l0.length:Int) then(if(rd l0 (d8))=0 then(Bzz.l0 k1 l0 d8) else(if b9 > 48 then(some (([]:List Int),2)) else((some (([]:List Int):List Int)).bind fun e6=>(if 0≤b9 then(if b9≤(l0.length:Int) then(if e6.length+(l0.take (b9:Int).toNat).length < 17592186044416 then(some ((e6 ++ (l0.take (b9:Int).toNat)),0)) else(none)) else(none)) else(none))))) else(none)) else(none))=some (a8,a9):=by first|(rw[d9] at H;exact H)|(simp only[d9] at H ⊢;exact H)
    have e7:(IntKind.i64.wrap (b9 - 1))=d8:=(i64_w _).trans d9;obtain⟨e8,H⟩:=iN H;obtain⟨e9,H⟩:=iN H;by_cases c6:(rd l0 (d8))=0
    ·rw[if_pos c6] at H;obtain⟨f3,f4⟩:=bE c6;clear c6;have H':=aM H;clear H;obtain⟨f5,f6,f7,f8,f9⟩:=aI b6.out (d8);cases f6
     replace f7:=hB HB f7;go_wp2
     go_roundg k1
     case measure=>have:=d6.out;omega
     case rel=>exact⟨(d8),(by first|rfl|(simp;done)|(simp only[← d9] <;> (first|rfl|simp))|(simp [*];done)),H',⟨by have:=d6.out;omega⟩,⟨pB⟩⟩
    ·rw[if_neg c6] at H;obtain⟨f3,f4⟩:=bI c6;by_cases c7:b9 > 48
     ·rw[if_pos c7] at H;have g4:decide (48 < b9)=true:=dE c7;clear c7;obtain⟨rfl,rfl⟩:=q2 H;obtain⟨f5,f6,f7,f8,f9⟩:=aI b6.out (d8);cases f6
      replace f7:=hB HB f7;go_wp2
      go_ret2
      exact⟨_,by first|rfl|(simp [errW_none,errW_some] <;> rfl)|(simp only[← d9];first|rfl|(simp [errW_none,errW_some] <;> rfl))|(simp [*,errW_none,errW_some] <;> rfl),nK,pB⟩
     ·rw[if_neg c7] at H;have g4:decide (48 < b9)=false:=decide_eq_false c7;clear c7;obtain⟨e6,g5⟩:∃ y_:List Int,y_=(([]:List Int)):=⟨_,rfl⟩;replace H:(if 0≤b9 then(if b9≤(l0.length:Int) then(if e6.length+(l0.take (b9:Int).toNat).length < 17592186044416 then(some ((e6 ++ (l0.take (b9:Int).toNat)),0)) else(none)) else(none)) else(none))=some (a8,a9):=yE g5 H
      have g6:=aM g5;clear g5;obtain⟨c8,H⟩:=iO H;have g7:=eq_true c8;have g8:decide (0≤b9)=true:=dE c8;clear c8;obtain⟨c9,H⟩:=iO H;have g9:=eq_true c9;have j3:decide (b9≤(l0.length:Int))=true:=dE c9;clear c9;obtain⟨c10,H⟩:=iO H;have LMc10:=aM c10;clear c10;obtain⟨j4,j5⟩:∃ y_:List Int,y_=(e6 ++ (l0.take (b9:Int).toNat)):=⟨_,rfl⟩;replace H:(some (j4,0))=some (a8,a9):=yE j5 H
      have j6:=aM j5;clear j5;obtain⟨rfl,rfl⟩:=q2 H;obtain⟨f5,f6,f7,f8,f9⟩:=aI b6.out (d8);cases f6
      replace f7:=hB HB f7;go_wp2_with (first|((with_reducible refine gd 21 rfl ?_);refine iL 21 [] ?_;intro j7 j8 j9 hb;replace j9:=rY g6 j9;have l5:=rL j9;replace HB:=bB hb;clear hb j9;obtain⟨i013,l6,_,hsz13,_⟩:=info_parts info3;obtain⟨hcut13,l7,hC13⟩:=print_take_of (P:=Try.prog) (Value.int .i64) 0 31 3 .i64 Try.underlying31 l6 hsz13 (some f5) a7 l0 b9 (oE aS) (oE aS) b7.out;have l8:=aM (Kd.C_of_reads (h1:=fun _=>rfl) (l7 _ (Kd.reads_of_C b6.out)));have l9:=aM hC13;clear l7 hC13 l6 hsz13)|((with_reducible refine gate_builtin (b:=.append) (xs:=#[.tmp 21,.tmp 24]) rfl ?_);at_builtin;refine Kd.R_append_rows (Kd.int .i64) (w0:=w) w.heap.size rfl (.tmp 21) (.tmp 24) 31 3 (.int .i64 0) 8 rfl Try.underlying31 info3 rfl (by decide) (by omega) j7 e6 (l0.take (b9:Int).toNat) _ _ _ (fun _=>True) (fun _=>False) rfl rfl ?aO ?aR (fun _ _ h=>h) (fun _ h=>h.elim) ?aF ?aB ?aS ?aL ?_;(case aR=>first|(rw[← show(l0.take (b9:Int).toNat).length=b9.toNat from(by rw[List.length_take];have h_:(b9:Int)≤(l0.length:Int):=oE aS;omega)];(exact cB l8);done)|(have hq_:=l8.out;rw[show(l0.take (b9:Int).toNat).length=b9.toNat from(by rw[List.length_take];have h_:(b9:Int)≤(l0.length:Int):=oE aS;omega)] at hq_;(exact cX (Kd.C_below hq_ HB.out));done)|(exact cB l8));(case aB=>exact pB);(case aF=>exact(fun _ _=>trivial));(case aO=>exact(rX l5.out));(case aS=>exact(below_size pB));(case aL=>have:=LMc10.out;have hlx_:=(show(l0.take (b9:Int).toNat).length=b9.toNat from(by rw[List.length_take];have h_:(b9:Int)≤(l0.length:Int):=oE aS;omega));omega);intro m0 m4 ho hb hg hat;rw[← j6.out] at ho;have m5:=aM (ho);replace HB:=aM (hb);clear l5 ho hb hg hat))
      go_ret2
      exact⟨_,by first|rfl|(simp [errW_none,errW_some] <;> rfl)|(simp only[← d9];first|rfl|(simp [errW_none,errW_some] <;> rfl))|(simp [*,errW_none,errW_some] <;> rfl),rX m5.out,pB⟩
   ·rw[if_neg c2] at H;have d7:decide (0 < b9)=false:=decide_eq_false c2;clear c2;by_cases m6:b9 > 48
    ·rw[if_pos m6] at H;have m7:decide (48 < b9)=true:=dE m6;clear m6;obtain⟨rfl,rfl⟩:=q2 H;go_wp2
     go_ret2
     exact⟨_,eW,nK,pB⟩
    ·rw[if_neg m6] at H;have m7:decide (48 < b9)=false:=decide_eq_false m6;clear m6;obtain⟨m8,m9⟩:∃ y_:List Int,y_=(([]:List Int)):=⟨_,rfl⟩;replace H:(if 0≤b9 then(if b9≤(l0.length:Int) then(if m8.length+(l0.take (b9:Int).toNat).length < 17592186044416 then(some ((m8 ++ (l0.take (b9:Int).toNat)),0)) else(none)) else(none)) else(none))=some (a8,a9):=yE m9 H
     have n0:=aM m9;clear m9;by_cases n7:0≤b9
     ·rw[if_pos n7] at H;have n8:=eq_true n7;have n9:=dE n7;clear n7;obtain⟨o0,H⟩:=iO H;have o8:=eq_true o0;have o9:decide (b9≤(l0.length:Int))=true:=dE o0;clear o0;obtain⟨p0,H⟩:=iO H;have LMc18:=aM p0;clear p0;obtain⟨p4,p7⟩:∃ y_:List Int,y_=(m8 ++ (l0.take (b9:Int).toNat)):=⟨_,rfl⟩;replace H:(some (p4,0))=some (a8,a9):=yE p7 H
      have p9:=aM p7;clear p7;obtain⟨rfl,rfl⟩:=q2 H;go_wp2_with (first|((with_reducible refine gd 21 rfl ?_);refine iL 21 [] ?_;intro r5 r6 r7 hb;replace r7:=rY n0 r7;have r8:=rL r7;replace HB:=bB hb;clear hb r7;obtain⟨i021,r9,_,hsz21,_⟩:=info_parts info3;obtain⟨hcut21,t4,hC21⟩:=print_take_of (P:=Try.prog) (Value.int .i64) 0 31 3 .i64 Try.underlying31 r9 hsz21 a6 a7 l0 b9 (oE aS) (oE aS) b7.out;have t5:=aM (Kd.C_of_reads (h1:=fun _=>rfl) (t4 _ (Kd.reads_of_C b6.out)));have t6:=aM hC21;clear t4 hC21 r9 hsz21)|((with_reducible refine gate_builtin (b:=.append) (xs:=#[.tmp 21,.tmp 24]) rfl ?_);at_builtin;refine Kd.R_append_rows (Kd.int .i64) (w0:=w) w.heap.size rfl (.tmp 21) (.tmp 24) 31 3 (.int .i64 0) 8 rfl Try.underlying31 info3 rfl (by decide) (by omega) r5 m8 (l0.take (b9:Int).toNat) _ _ _ (fun _=>True) (fun _=>False) rfl rfl ?aO ?aR (fun _ _ h=>h) (fun _ h=>h.elim) ?aF ?aB ?aS ?aL ?_;(case aR=>first|(rw[← show(l0.take (b9:Int).toNat).length=b9.toNat from(by rw[List.length_take];have h_:(b9:Int)≤(l0.length:Int):=oE aS;omega)];(exact cB t5);done)|(have hq_:=t5.out;rw[show(l0.take (b9:Int).toNat).length=b9.toNat from(by rw[List.length_take];have h_:(b9:Int)≤(l0.length:Int):=oE aS;omega)] at hq_;(exact cX (Kd.C_below hq_ HB.out));done)|(exact cB t5));(case aB=>exact pB);(case aF=>exact(fun _ _=>trivial));(case aO=>exact(rX r8.out));(case aS=>exact(below_size pB));(case aL=>have:=LMc18.out;have hlx_:=(show(l0.take (b9:Int).toNat).length=b9.toNat from(by rw[List.length_take];have h_:(b9:Int)≤(l0.length:Int):=oE aS;omega));omega);intro t7 t8 ho hb hg hat;rw[← p9.out] at ho;have t9:=aM (ho);replace HB:=aM (hb);clear r8 ho hb hg hat))
      go_ret2
      exact⟨_,eW,rX t9.out,pB⟩
     ·rw[if_neg n7] at H;exact absurd H (by simp)

def Ezj.f (l0:List Int) (a1:Int):Option (Int):=if a1 < (l0.length:Int) then(if 0≤a1 then(some (rd l0 a1)) else(none)) else(some 0)
theorem Ezj.calls (a6:Option Addr) (a7:Nat) (l0:List Int) (a8:Int) (r:Int) (w:World) (a9:cI w a6 l0) (b4:l0.length≤a7) (h:Ezj.f l0 a8=some r) :
  Calls Try.prog 105 #[.slice a6 l0.length a7,.int .i64 a8] w fun e w'=>e=.returned (.int .i64 r)∧Drawn0 w w':=by
 have b5:=aM a9;have b6:=aM b4;clear a9 b4;have H:(if a8 < (l0.length:Int) then(if 0≤a8 then(some (rd l0 a8)) else(none)) else(some 0))=some r:=h
 clear h;replace H:=iD H;rcases H with⟨b7,H⟩|⟨b7,H⟩
 ·obtain⟨b8,H⟩:=iN H;obtain rfl:=Option.some.inj H;obtain⟨b9,d6,d7,d8,d9⟩:=aI b5.out a8;cases d6;go_enter Try.func105,Try.ntmps105
  go_wp2
  go_ret
  exact⟨sD,dR⟩
 ·obtain rfl:=Option.some.inj H;go_enter Try.func105,Try.ntmps105
  go_wp2
  go_ret
  exact⟨sD,dR⟩


mutual
def Azj.l0:Nat→List Int→List Int→List Int→Int→Option (List Int)
 | 0,_,_,_,_=>none
 | k+1,x0,x1,x5,x6=>if x6 < (x0.length:Int) then(Azj.l1 k x0 x1 x5 x6 0 0) else(Azj.l2 k x5 (x5.length:Int))
def Azj.l1:Nat→List Int→List Int→List Int→Int→Int→Int→Option (List Int)
 | 0,_,_,_,_,_,_=>none
 | k+1,x0,x1,x5,x6,x7,x8=>if x8 < (x1.length:Int) then(if 0≤(wrap64 (x6+x8)) then(if(wrap64 (x6+x8)) < (x5.length:Int) then(if 0≤x6 then(if x6 < (x0.length:Int) then((Ezj.f x1 x8).bind fun t561=>(Azj.l1 k x0 x1 (x5.set ((wrap64 (x6+x8)):Int).toNat (Int.tmod (wrap64 ((wrap64 ((rd x5 (wrap64 (x6+x8)))+(wrap64 ((rd x0 x6) * t561))))+x7)) 1000000000)) x6 (wrap64 (Int.tdiv (wrap64 ((wrap64 ((rd x5 (wrap64 (x6+x8)))+(wrap64 ((rd x0 x6) * t561))))+x7)) 1000000000)) (wrap64 (x8+1)))) else(none)) else(none)) else(none)) else(none)) else(if x7 > 0 then(if 0≤(wrap64 (x6+x8)) then(if(wrap64 (x6+x8)) < (x5.length:Int) then(if 0≤x6 then(if x6 < (x0.length:Int) then((Ezj.f x1 x8).bind fun t565=>(Azj.l1 k x0 x1 (x5.set ((wrap64 (x6+x8)):Int).toNat (Int.tmod (wrap64 ((wrap64 ((rd x5 (wrap64 (x6+x8)))+(wrap64 ((rd x0 x6) * t565))))+x7)) 1000000000)) x6 (wrap64 (Int.tdiv (wrap64 ((wrap64 ((rd x5 (wrap64 (x6+x8)))+(wrap64 ((rd x0 x6) * t565))))+x7)) 1000000000)) (wrap64 (x8+1)))) else(none)) else(none)) else(none)) else(none)) else(Azj.l0 k x0 x1 x5 (wrap64 (x6+1))))
def Azj.l2:Nat→List Int→Int→Option (List Int)
 | 0,_,_=>none
 | k+1,x5,x10=>if x10 > 0 then(if 0≤(wrap64 (x10 - 1)) then(if(wrap64 (x10 - 1)) < (x5.length:Int) then(if(rd x5 (wrap64 (x10 - 1)))=0 then(Azj.l2 k x5 (wrap64 (x10 - 1))) else(if 0≤x10 then(if x10≤(x5.length:Int) then(some (x5.take (x10:Int).toNat)) else(none)) else(none))) else(none)) else(none)) else(if 0≤x10 then(if x10≤(x5.length:Int) then(some (x5.take (x10:Int).toNat)) else(none)) else(none))
end
def Azj.f (k:Nat) (l0:List Int) (l1:List Int):Option (List Int):=if 0≤(wrap64 ((l0.length:Int)+(l1.length:Int))) then(if(wrap64 ((l0.length:Int)+(l1.length:Int)):Int).toNat≤35184372088832 then(Azj.l0 k l0 l1 (List.replicate (wrap64 ((l0.length:Int)+(l1.length:Int)):Int).toNat 0) 0) else(none)) else(none)
theorem Azj.mono_l:∀ k,(∀ a6 a7 a8 a9,LeO (Azj.l0 k a6 a7 a8 a9) (Azj.l0 (k+1) a6 a7 a8 a9))∧(∀ a6 a7 a8 a9 b4 b5,LeO (Azj.l1 k a6 a7 a8 a9 b4 b5) (Azj.l1 (k+1) a6 a7 a8 a9 b4 b5))∧(∀ a6 a7,LeO (Azj.l2 k a6 a7) (Azj.l2 (k+1) a6 a7))
 | 0=>⟨fun _ _ _ _ r h=>by simp [Azj.l0] at h,fun _ _ _ _ _ _ r h=>by simp [Azj.l1] at h,fun _ _ r h=>by simp [Azj.l2] at h⟩
 | k+1=>by
  obtain⟨ih0,ih1,ih2⟩:=Azj.mono_l k;refine⟨?_,?_,?_⟩
  ·intro a6 a7 a8 a9;unfold Azj.l0;exact mM
  ·intro a6 a7 a8 a9 b4 b5;unfold Azj.l1;exact mM
  ·intro a6 a7;unfold Azj.l2;exact mM
theorem Azj.mono:∀ a6 a7 k,LeO (Azj.f k a6 a7) (Azj.f (k+1) a6 a7):=by
 intro a6 a7 k;obtain⟨ih0,ih1,ih2⟩:=Azj.mono_l k;unfold Azj.f;exact mM
theorem Azj.calls (k:Nat) (a6:Option Addr) (a7:Nat) (l0:List Int) (a8:Option Addr) (a9:Nat) (l1:List Int) (r:List Int) (w:World) (b4:cI w a6 l0) (b5:l0.length≤a7) (b6:cI w a8 l1) (b7:l1.length≤a9) (h:Azj.f k l0 l1=some r) :
  Calls Try.prog 83 #[.slice a6 l0.length a7,.slice a8 l1.length a9] w fun e w'=>∃ v0_:Value,e=.returned (v0_)∧rI w' w (fun _=>True) v0_ r∧bw w w':=by
 have b8:=aM b4;have b9:=aM b5;clear b4 b5;have d6:=aM b6;have d7:=aM b7;clear b6 b7;have HB:=aM (Below.refl w.heap.size w);have H:(if 0≤(wrap64 ((l0.length:Int)+(l1.length:Int))) then(if(wrap64 ((l0.length:Int)+(l1.length:Int)):Int).toNat≤35184372088832 then(Azj.l0 k l0 l1 (List.replicate (wrap64 ((l0.length:Int)+(l1.length:Int)):Int).toNat 0) 0) else(none)) else(none))=some r:=h
 clear h;obtain⟨d8,d9⟩:∃ j_:Int,(wrap64 ((l0.length:Int)+(l1.length:Int)))=j_:=⟨_,rfl⟩;replace H:(if 0≤(d8) then(if(d8:Int).toNat≤35184372088832 then(Azj.l0 k l0 l1 (List.replicate (d8:Int).toNat 0) 0) else(none)) else(none))=some r:=by first|(rw[d9] at H;exact H)|(simp only[d9] at H ⊢;exact H)
 have e6:(IntKind.i64.wrap ((l0.length:Int)+(l1.length:Int)))=d8:=(i64_w _).trans d9;by_cases c4:0≤(d8)
 ·rw[if_pos c4] at H;have e7:=eq_true c4;have e8:=dE c4;clear c4;obtain⟨c5,H⟩:=iO H;have e9:=eq_true c5;have f3:decide ((d8:Int).toNat≤35184372088832)=true:=dE c5;clear c5;obtain⟨f4,f5⟩:∃ y_:List Int,y_=(List.replicate (d8:Int).toNat 0):=⟨_,rfl⟩;replace H:(Azj.l0 k l0 l1 f4 0)=some r:=yE f5 H
  have f6:=aM f5;clear f5;have H':=aM H;clear H;go_enter Try.func83,Try.ntmps83
  have fl_:True:=trivial;repeat((first|clear fl_|go_quiet (first|((with_reducible refine gate_dst (N:=16) rfl ?_);refine Kd.R_make (Kd.int .i64) _ 3 rfl (N:=16) rfl 31 _ _ rfl d8 rfl rfl Try.underlying31 (.int .i64 0) 8 info3 rfl (by decide) (by omega) 0 (ok:=fun _=>True) (okp:=fun _=>True) rfl (fun _ hk=>hk) trivial (oE aS) (Nat.le_trans (Nat.mul_le_mul_right _ (oE aS:d8.toNat≤35184372088832)) (by omega)) (Below.refl _ _) (Nat.le_refl _) ?_;intro f7 f8 f9 hb hg_ hnew_;clear hg_ hnew_;replace f9:=rY f6 f9;have g4:=rL f9;replace HB:=bB hb;clear hb f9)));go_wp2_with (first|((with_reducible refine gate_dst (N:=16) rfl ?_);refine Kd.R_make (Kd.int .i64) _ 3 rfl (N:=16) rfl 31 _ _ rfl d8 rfl rfl Try.underlying31 (.int .i64 0) 8 info3 rfl (by decide) (by omega) 0 (ok:=fun _=>True) (okp:=fun _=>True) rfl (fun _ hk=>hk) trivial (oE aS) (Nat.le_trans (Nat.mul_le_mul_right _ (oE aS:d8.toNat≤35184372088832)) (by omega)) (Below.refl _ _) (Nat.le_refl _) ?_;intro f7 f8 f9 hb hg_ hnew_;clear hg_ hnew_;replace f9:=rY f6 f9;have g4:=rL f9;replace HB:=bB hb;clear hb f9)))
  go_loopg [6] k (fun kq g5 w'=>∃ (g6:List Int) (g7:Int),g5=.int .i64 g7∧Aside0 (Azj.l0 kq l0 l1 g6 g7=some r)∧Aside0 (kq≤k)∧Aside0 (rI w' w (fun _=>True) f7 g6)∧Aside0 (bw w w'))
  case atStart=>exact⟨(f4),(0),sD,H',⟨Nat.le_refl _⟩,⟨rX g4.out⟩,⟨pB⟩⟩
  case round =>
   clear H';try clear a9
   obtain⟨g6,g7,rfl,HA,g8,g9,HB⟩:=hrel;cases gk with
   | zero=>exact absurd HA.out (by simp [Azj.l0])
   | succ k1 =>
    have H:=HA.out;clear HA;simp only[Azj.l0] at H;by_cases c8:g7 < (l0.length:Int)
    ·rw[if_pos c8] at H;have j3:=dE c8;clear c8;have H':=aM H;clear H;go_wp2
     repeat(go_quiet (fail);try go_wp2)
     go_loopg [7,8] k1 (fun kq j4 j5 w'=>∃ (j6:List Int) (j7:Int) (j8:Int),j4=.int .i64 j7∧j5=.int .i64 j8∧Aside0 (Azj.l1 kq l0 l1 j6 g7 j7 j8=some r)∧Aside0 (kq≤k1)∧Aside0 (rI w' w (fun _=>True) f7 j6)∧Aside0 (bw w w'))
     case atStart=>exact⟨(g6),(0),(0),sD,sD,H',⟨Nat.le_refl _⟩,⟨rX g9.out⟩,⟨pB⟩⟩
     case round =>
      clear H';try clear a9
      obtain⟨j6,j7,j8,rfl,rfl,HA,j9,g9,HB⟩:=hrel;cases gk with
      | zero=>exact absurd HA.out (by simp [Azj.l1])
      | succ k2 =>
       have H:=HA.out;clear HA;simp only[Azj.l1] at H;by_cases c9:j8 < (l1.length:Int)
       ·rw[if_pos c9] at H;have l5:=dE c9;clear c9;obtain⟨l6,l7⟩:∃ j_:Int,(wrap64 (g7+j8))=j_:=⟨_,rfl⟩;replace H:(if 0≤(l6) then(if(l6) < (j6.length:Int) then(if 0≤g7 then(if g7 < (l0.length:Int) then((Ezj.f l1 j8).bind fun l8=>(Azj.l1 k2 l0 l1 (j6.set ((l6):Int).toNat (Int.tmod (wrap64 ((wrap64 ((rd j6 (l6))+(wrap64 ((rd l0 g7) * l8))))+j7)) 1000000000)) g7 (wrap64 (Int.tdiv (wrap64 ((wrap64 ((rd j6 (l6))+(wrap64 ((rd l0 g7) * l8))))+j7)) 1000000000)) (wrap64 (j8+1)))) else(none)) else(none)) else(none)) else(none))=some r:=by first|(rw[l7] at H;exact H)|(simp only[l7] at H ⊢;exact H)
        have l9:(IntKind.i64.wrap (g7+j8))=l6:=(i64_w _).trans l7;obtain⟨m0,H⟩:=iN H;obtain⟨m4,H⟩:=iN H;obtain⟨m5,H⟩:=iN H;obtain⟨m6,H⟩:=iN H;obtain⟨l8,m7,H⟩:=bT H;(try dsimp only at H);obtain⟨m8,m9⟩:∃ y_:List Int,y_=(j6.set ((l6):Int).toNat (Int.tmod (wrap64 ((wrap64 ((rd j6 (l6))+(wrap64 ((rd l0 g7) * l8))))+j7)) 1000000000)):=⟨_,rfl⟩;replace H:(Azj.l1 k2 l0 l1 m8 g7 (wrap64 (Int.tdiv (wrap64 ((wrap64 ((rd j6 (l6))+(wrap64 ((rd l0 g7) * l8))))+j7)) 1000000000)) (wrap64 (j8+1)))=some r:=yE m9 H
        have n0:=aM m9;clear m9;have H':=aM H;clear H;obtain⟨n7,n8,rfl⟩:=Kd.R_slice g9.out;obtain⟨n9,o0,o8,o9,p0⟩:=aI (Kd.R_reads' g9.out).2.2 (l6);cases o0;obtain⟨p4,p7,p9,r5,r6⟩:=aI b8.out g7;cases p7
        replace p9:=hB HB p9;have fl_:True:=trivial;repeat((first|clear fl_|go_quiet (first|(go_at_call 105;(with_reducible refine(Ezj.calls _ _ l1 j8 l8 _ ?_ ?_ m7.out).mono ?_);exact cB d6;exact d7.out;rintro e w' ⟨rfl,⟨nd,rfl⟩⟩;(try exact dD);have r7:0≤((l6):Int):=oE aS;have r8:((l6):Int) < ((j6.length:Int):Int):=oE aS;obtain⟨r9,t4,t5,t6,t7,t8,t9⟩:=Kd.R_form g9.out (by omega);(first|cases t5|(injection t5 with ea_ en_ ec_;(first|subst ea_|(injection ea_ with ea_;subst ea_));subst ec_;clear en_));have z3:=aM t6;have z4:=aM t9;clear t6 t7 t9;(first|simp only[add_plain] at o8|skip);obtain⟨z5,z6⟩:=Kd.R_celln 0 g9.out ((l6):Int) r7 r8;replace r7:=eq_true r7;replace r8:=eq_true r8;obtain⟨z7,hz18_⟩:=Kd.R_celln 0 g9.out ((l6):Int) (oE aS) (oE aS);have z8:=Kd.R_putg g9.out ((l6):Int) (Int.tmod (wrap64 ((wrap64 ((rd j6 (l6))+(wrap64 ((rd l0 g7) * l8))))+j7)) 1000000000))|((with_reducible refine gate_store (t:=3) (p:=56) rfl ?_);(try(rw[drewN_self wr];generalize hq_:World.drewN wr _=wr;have n0_:=aM (Kd.R_at hq_ g9.out);have n1_:=aM (below_at hq_ HB.out);clear hq_ g9 HB;have g9:=n0_;have HB:=n1_;clear n0_ n1_;(try(obtain⟨z7,hz18_⟩:=Kd.R_celln 0 g9.out ((l6):Int) (oE aS) (oE aS)));(try(have z8:=Kd.R_putg g9.out ((l6):Int) (Int.tmod (wrap64 ((wrap64 ((rd j6 (l6))+(wrap64 ((rd l0 g7) * l8))))+j7)) 1000000000)))));refine store_event (t:=3) (p:=56) (v:=?vo_w19) (w1:=(wr.setCell ⟨r9,((l6):Int).toNat,none⟩ (.int .i64 (Int.tmod (wrap64 ((wrap64 ((rd j6 (l6))+(wrap64 ((rd l0 g7) * l8))))+j7)) 1000000000)))) ?hg ?ho ?hn ?hr ?_;(case ho=>rfl);(case hg=>rfl);(case hn=>rfl);(case hr=>first|(go_simp;done)|(go_simp;rfl));intro z9 hw;have hg:wr.grownBy z9 (some r9):=(by rw[hw];exact z8.2);have hp_:rI z9 w (fun _=>True) (.slice (some ⟨r9,0,none⟩) j6.length n8) m8:=(by rw[hw,n0.out];exact z8.1);clear z8;replace g9:=aM (hp_);replace HB:=aM ((by rw[hw];exact below_set (HB.out) z3.out:bw w z9));clear hg hw hp_)));go_wp2_with (first|(go_at_call 105;(with_reducible refine(Ezj.calls _ _ l1 j8 l8 _ ?_ ?_ m7.out).mono ?_);exact cB d6;exact d7.out;rintro e w' ⟨rfl,⟨nd,rfl⟩⟩;(try exact dD);have r7:0≤((l6):Int):=oE aS;have r8:((l6):Int) < ((j6.length:Int):Int):=oE aS;obtain⟨r9,t4,t5,t6,t7,t8,t9⟩:=Kd.R_form g9.out (by omega);(first|cases t5|(injection t5 with ea_ en_ ec_;(first|subst ea_|(injection ea_ with ea_;subst ea_));subst ec_;clear en_));have z3:=aM t6;have z4:=aM t9;clear t6 t7 t9;(first|simp only[add_plain] at o8|skip);obtain⟨z5,z6⟩:=Kd.R_celln 0 g9.out ((l6):Int) r7 r8;replace r7:=eq_true r7;replace r8:=eq_true r8;obtain⟨z7,hz18_⟩:=Kd.R_celln 0 g9.out ((l6):Int) (oE aS) (oE aS);have z8:=Kd.R_putg g9.out ((l6):Int) (Int.tmod (wrap64 ((wrap64 ((rd j6 (l6))+(wrap64 ((rd l0 g7) * l8))))+j7)) 1000000000))|((with_reducible refine gate_store (t:=3) (p:=56) rfl ?_);(try(rw[drewN_self wr];generalize hq_:World.drewN wr _=wr;have n0_:=aM (Kd.R_at hq_ g9.out);have n1_:=aM (below_at hq_ HB.out);clear hq_ g9 HB;have g9:=n0_;have HB:=n1_;clear n0_ n1_;(try(obtain⟨z7,hz18_⟩:=Kd.R_celln 0 g9.out ((l6):Int) (oE aS) (oE aS)));(try(have z8:=Kd.R_putg g9.out ((l6):Int) (Int.tmod (wrap64 ((wrap64 ((rd j6 (l6))+(wrap64 ((rd l0 g7) * l8))))+j7)) 1000000000)))));refine store_event (t:=3) (p:=56) (v:=?vo_w19) (w1:=(wr.setCell ⟨r9,((l6):Int).toNat,none⟩ (.int .i64 (Int.tmod (wrap64 ((wrap64 ((rd j6 (l6))+(wrap64 ((rd l0 g7) * l8))))+j7)) 1000000000)))) ?hg ?ho ?hn ?hr ?_;(case ho=>rfl);(case hg=>rfl);(case hn=>rfl);(case hr=>first|(go_simp;done)|(go_simp;rfl));intro z9 hw;have hg:wr.grownBy z9 (some r9):=(by rw[hw];exact z8.2);have hp_:rI z9 w (fun _=>True) (.slice (some ⟨r9,0,none⟩) j6.length n8) m8:=(by rw[hw,n0.out];exact z8.1);clear z8;replace g9:=aM (hp_);replace HB:=aM ((by rw[hw];exact below_set (HB.out) z3.out:bw w z9));clear hg hw hp_)))
        go_roundg k2
        case measure=>have:=g8.out;have:=j9.out;omega
        case rel=>exact⟨(m8),(wrap64 (Int.tdiv (wrap64 ((wrap64 ((rd j6 (l6))+(wrap64 ((rd l0 g7) * l8))))+j7)) 1000000000)),(wrap64 (j8+1)),(by first|rfl|(simp;done)|(simp only[← l7] <;> (first|rfl|simp))|(simp [*];done)),sD,H',⟨by have:=g8.out;have:=j9.out;omega⟩,⟨rX g9.out⟩,⟨pB⟩⟩
       ·rw[if_neg c9] at H;have l5:decide (j8 < (l1.length:Int))=false:=decide_eq_false c9;clear c9;by_cases B0:j7 > 0
        ·rw[if_pos B0] at H;have B5:decide (0 < j7)=true:=dE B0;clear B0;obtain⟨B9,C0⟩:∃ j_:Int,(wrap64 (g7+j8))=j_:=⟨_,rfl⟩;replace H:(if 0≤(B9) then(if(B9) < (j6.length:Int) then(if 0≤g7 then(if g7 < (l0.length:Int) then((Ezj.f l1 j8).bind fun C1=>(Azj.l1 k2 l0 l1 (j6.set ((B9):Int).toNat (Int.tmod (wrap64 ((wrap64 ((rd j6 (B9))+(wrap64 ((rd l0 g7) * C1))))+j7)) 1000000000)) g7 (wrap64 (Int.tdiv (wrap64 ((wrap64 ((rd j6 (B9))+(wrap64 ((rd l0 g7) * C1))))+j7)) 1000000000)) (wrap64 (j8+1)))) else(none)) else(none)) else(none)) else(none))=some r:=by first|(rw[C0] at H;exact H)|(simp only[C0] at H ⊢;exact H)
         have C2:(IntKind.i64.wrap (g7+j8))=B9:=(i64_w _).trans C0;obtain⟨C3,H⟩:=iN H;obtain⟨C4,H⟩:=iN H;obtain⟨C6,H⟩:=iN H;obtain⟨C7,H⟩:=iN H;obtain⟨C1,C8,H⟩:=bT H;(try dsimp only at H);obtain⟨C9,D2⟩:∃ y_:List Int,y_=(j6.set ((B9):Int).toNat (Int.tmod (wrap64 ((wrap64 ((rd j6 (B9))+(wrap64 ((rd l0 g7) * C1))))+j7)) 1000000000)):=⟨_,rfl⟩;replace H:(Azj.l1 k2 l0 l1 C9 g7 (wrap64 (Int.tdiv (wrap64 ((wrap64 ((rd j6 (B9))+(wrap64 ((rd l0 g7) * C1))))+j7)) 1000000000)) (wrap64 (j8+1)))=some r:=yE D2 H
         have D3:=aM D2;clear D2;have H':=aM H;clear H;obtain⟨D4,D5,rfl⟩:=Kd.R_slice g9.out;obtain⟨D6,D7,D8,D9,E0⟩:=aI (Kd.R_reads' g9.out).2.2 (B9);cases D7;obtain⟨E1,E2,E3,E4,E5⟩:=aI b8.out g7;cases E2
         replace E3:=hB HB E3;have fl_:True:=trivial;repeat((first|clear fl_|go_quiet (first|(go_at_call 105;(with_reducible refine(Ezj.calls _ _ l1 j8 C1 _ ?_ ?_ C8.out).mono ?_);exact cB d6;exact d7.out;rintro e w' ⟨rfl,⟨nd,rfl⟩⟩;(try exact dD);have E6:0≤((B9):Int):=oE aS;have E7:((B9):Int) < ((j6.length:Int):Int):=oE aS;obtain⟨E8,E9,F0,F2,F3,F4,F5⟩:=Kd.R_form g9.out (by omega);(first|cases F0|(injection F0 with ea_ en_ ec_;(first|subst ea_|(injection ea_ with ea_;subst ea_));subst ec_;clear en_));have F6:=aM F2;have F7:=aM F5;clear F2 F3 F5;(first|simp only[add_plain] at D8|skip);obtain⟨F8,F9⟩:=Kd.R_celln 0 g9.out ((B9):Int) E6 E7;replace E6:=eq_true E6;replace E7:=eq_true E7;obtain⟨G5,hz29_⟩:=Kd.R_celln 0 g9.out ((B9):Int) (oE aS) (oE aS);have G9:=Kd.R_putg g9.out ((B9):Int) (Int.tmod (wrap64 ((wrap64 ((rd j6 (B9))+(wrap64 ((rd l0 g7) * C1))))+j7)) 1000000000))|((with_reducible refine gate_store (t:=3) (p:=56) rfl ?_);(try(rw[drewN_self wr];generalize hq_:World.drewN wr _=wr;have n0_:=aM (Kd.R_at hq_ g9.out);have n1_:=aM (below_at hq_ HB.out);clear hq_ g9 HB;have g9:=n0_;have HB:=n1_;clear n0_ n1_;(try(obtain⟨G5,hz29_⟩:=Kd.R_celln 0 g9.out ((B9):Int) (oE aS) (oE aS)));(try(have G9:=Kd.R_putg g9.out ((B9):Int) (Int.tmod (wrap64 ((wrap64 ((rd j6 (B9))+(wrap64 ((rd l0 g7) * C1))))+j7)) 1000000000)))));refine store_event (t:=3) (p:=56) (v:=?vo_w30) (w1:=(wr.setCell ⟨E8,((B9):Int).toNat,none⟩ (.int .i64 (Int.tmod (wrap64 ((wrap64 ((rd j6 (B9))+(wrap64 ((rd l0 g7) * C1))))+j7)) 1000000000)))) ?hg ?ho ?hn ?hr ?_;(case ho=>rfl);(case hg=>rfl);(case hn=>rfl);(case hr=>first|(go_simp;done)|(go_simp;rfl));intro H5 hw;have hg:wr.grownBy H5 (some E8):=(by rw[hw];exact G9.2);have hp_:rI H5 w (fun _=>True) (.slice (some ⟨E8,0,none⟩) j6.length D5) C9:=(by rw[hw,D3.out];exact G9.1);clear G9;replace g9:=aM (hp_);replace HB:=aM ((by rw[hw];exact below_set (HB.out) F6.out:bw w H5));clear hg hw hp_)));go_wp2_with (first|(go_at_call 105;(with_reducible refine(Ezj.calls _ _ l1 j8 C1 _ ?_ ?_ C8.out).mono ?_);exact cB d6;exact d7.out;rintro e w' ⟨rfl,⟨nd,rfl⟩⟩;(try exact dD);have E6:0≤((B9):Int):=oE aS;have E7:((B9):Int) < ((j6.length:Int):Int):=oE aS;obtain⟨E8,E9,F0,F2,F3,F4,F5⟩:=Kd.R_form g9.out (by omega);(first|cases F0|(injection F0 with ea_ en_ ec_;(first|subst ea_|(injection ea_ with ea_;subst ea_));subst ec_;clear en_));have F6:=aM F2;have F7:=aM F5;clear F2 F3 F5;(first|simp only[add_plain] at D8|skip);obtain⟨F8,F9⟩:=Kd.R_celln 0 g9.out ((B9):Int) E6 E7;replace E6:=eq_true E6;replace E7:=eq_true E7;obtain⟨G5,hz29_⟩:=Kd.R_celln 0 g9.out ((B9):Int) (oE aS) (oE aS);have G9:=Kd.R_putg g9.out ((B9):Int) (Int.tmod (wrap64 ((wrap64 ((rd j6 (B9))+(wrap64 ((rd l0 g7) * C1))))+j7)) 1000000000))|((with_reducible refine gate_store (t:=3) (p:=56) rfl ?_);(try(rw[drewN_self wr];generalize hq_:World.drewN wr _=wr;have n0_:=aM (Kd.R_at hq_ g9.out);have n1_:=aM (below_at hq_ HB.out);clear hq_ g9 HB;have g9:=n0_;have HB:=n1_;clear n0_ n1_;(try(obtain⟨G5,hz29_⟩:=Kd.R_celln 0 g9.out ((B9):Int) (oE aS) (oE aS)));(try(have G9:=Kd.R_putg g9.out ((B9):Int) (Int.tmod (wrap64 ((wrap64 ((rd j6 (B9))+(wrap64 ((rd l0 g7) * C1))))+j7)) 1000000000)))));refine store_event (t:=3) (p:=56) (v:=?vo_w30) (w1:=(wr.setCell ⟨E8,((B9):Int).toNat,none⟩ (.int .i64 (Int.tmod (wrap64 ((wrap64 ((rd j6 (B9))+(wrap64 ((rd l0 g7) * C1))))+j7)) 1000000000)))) ?hg ?ho ?hn ?hr ?_;(case ho=>rfl);(case hg=>rfl);(case hn=>rfl);(case hr=>first|(go_simp;done)|(go_simp;rfl));intro H5 hw;have hg:wr.grownBy H5 (some E8):=(by rw[hw];exact G9.2);have hp_:rI H5 w (fun _=>True) (.slice (some ⟨E8,0,none⟩) j6.length D5) C9:=(by rw[hw,D3.out];exact G9.1);clear G9;replace g9:=aM (hp_);replace HB:=aM ((by rw[hw];exact below_set (HB.out) F6.out:bw w H5));clear hg hw hp_)))
         go_roundg k2
         case measure=>have:=g8.out;have:=j9.out;omega
         case rel=>exact⟨(C9),(wrap64 (Int.tdiv (wrap64 ((wrap64 ((rd j6 (B9))+(wrap64 ((rd l0 g7) * C1))))+j7)) 1000000000)),(wrap64 (j8+1)),(by first|rfl|(simp;done)|(simp only[← C0] <;> (first|rfl|simp))|(simp [*];done)),sD,H',⟨by have:=g8.out;have:=j9.out;omega⟩,⟨rX g9.out⟩,⟨pB⟩⟩
        ·rw[if_neg B0] at H;have B5:decide (0 < j7)=false:=decide_eq_false B0;clear B0;have H':=aM H;clear H;go_wp2
         repeat(go_quiet (fail);try go_wp2)
         go_roundg k2
         case measure=>have:=g8.out;have:=j9.out;omega
         case rel=>exact⟨(j6),(wrap64 (g7+1)),sD,H',⟨by have:=g8.out;have:=j9.out;omega⟩,⟨rX g9.out⟩,⟨pB⟩⟩
    ·rw[if_neg c8] at H;have j3:decide (g7 < (l0.length:Int))=false:=decide_eq_false c8;clear c8;have H':=aM H;clear H;obtain⟨H6,H7,rfl⟩:=Kd.R_slice g9.out;go_wp2
     repeat(go_quiet (fail);try go_wp2)
     go_loopg [10] k1 (fun kq H8 w'=>∃ (H9:Int),H8=.int .i64 H9∧Aside0 (Azj.l2 kq g6 H9=some r)∧Aside0 (kq≤k1)∧Aside0 (rI w' w (fun _=>True) (.slice H6 g6.length H7) g6)∧Aside0 (bw w w'))
     case atStart=>exact⟨((g6.length:Int)),sD,H',⟨Nat.le_refl _⟩,⟨rX g9.out⟩,⟨pB⟩⟩
     case round =>
      clear H';try clear a9
      obtain⟨H9,rfl,HA,j9,g9,HB⟩:=hrel;cases gk with
      | zero=>exact absurd HA.out (by simp [Azj.l2])
      | succ k2 =>
       have H:=HA.out;clear HA;simp only[Azj.l2] at H;by_cases I0:H9 > 0
       ·rw[if_pos I0] at H;have I3:decide (0 < H9)=true:=dE I0;clear I0;obtain⟨I4,I5⟩:∃ j_:Int,(wrap64 (H9 - 1))=j_:=⟨_,rfl⟩;replace H:(if 0≤(I4) then(if(I4) < (g6.length:Int) then(if(rd g6 (I4))=0 then(Azj.l2 k2 g6 I4) else(if 0≤H9 then(if H9≤(g6.length:Int) then(some (g6.take (H9:Int).toNat)) else(none)) else(none))) else(none)) else(none))=some r:=by first|(rw[I5] at H;exact H)|(simp only[I5] at H ⊢;exact H)
        have I6:(IntKind.i64.wrap (H9 - 1))=I4:=(i64_w _).trans I5;obtain⟨I7,H⟩:=iN H;obtain⟨I8,H⟩:=iN H;by_cases I9:(rd g6 (I4))=0
        ·rw[if_pos I9] at H;obtain⟨J0,J1⟩:=bE I9;clear I9;have H':=aM H;clear H;obtain⟨J2,J3,J4,J5,J6⟩:=aI (Kd.R_reads' g9.out).2.2 (I4);cases J3;go_wp2
         repeat(go_quiet (fail);try go_wp2)
         go_roundg k2
         case measure=>have:=g8.out;have:=j9.out;omega
         case rel=>exact⟨(I4),(by first|rfl|(simp;done)|(simp only[← I5] <;> (first|rfl|simp))|(simp [*];done)),H',⟨by have:=g8.out;have:=j9.out;omega⟩,⟨rX g9.out⟩,⟨pB⟩⟩
        ·rw[if_neg I9] at H;obtain⟨J0,J1⟩:=bI I9;obtain⟨J7,H⟩:=iO H;have J8:=eq_true J7;have J9:decide (0≤H9)=true:=dE J7;clear J7;obtain⟨K0,H⟩:=iO H;have K1:=eq_true K0;have K2:decide (H9≤(g6.length:Int))=true:=dE K0;clear K0;obtain⟨K3,K4⟩:∃ y_:List Int,y_=(g6.take (H9:Int).toNat):=⟨_,rfl⟩;replace H:(some K3)=some r:=yE K4 H
         have K5:=aM K4;clear K4;obtain rfl:=Option.some.inj H;obtain⟨J2,J3,J4,J5,J6⟩:=aI (Kd.R_reads' g9.out).2.2 (I4);cases J3;have K6:(H9:Int)≤((g6.length:Int):Int):=oE aS
         obtain⟨i039,K7,_,hsz39,_⟩:=info_parts info3;have hcut39:=cut_to (P:=Try.prog) 31 3 .i64 Try.underlying31 K7 (some J2) g6.length H7 H9 (oE aS) K6 (Kd.R_reads' g9.out).2.1
         have K8:=Kd.R_take (m:=(H9:Int).toNat) g9.out (by omega)
         have K9:K3.length=(H9:Int).toNat:=(by rw[K5.out,List.length_take];omega)
         rw[← K5.out] at K8;rw[← K9] at K8 hcut39;clear K9 K7 hsz39 g9;have L0:=aM K8;clear K8;replace K6:=eq_true K6;go_wp2
         repeat(go_quiet (fail);try go_wp2)
         go_ret
         exact⟨_,by first|rfl|(simp [errW_none,errW_some] <;> rfl)|(simp only[← d9,← I5];first|rfl|(simp [errW_none,errW_some] <;> rfl))|(simp [*,errW_none,errW_some] <;> rfl),rX L0.out,pB⟩
       ·rw[if_neg I0] at H;have I3:decide (0 < H9)=false:=decide_eq_false I0;clear I0;obtain⟨L7,H⟩:=iO H;have L8:=eq_true L7;have L9:decide (0≤H9)=true:=dE L7;clear L7;obtain⟨M0,H⟩:=iO H;have M3:=eq_true M0;have M4:decide (H9≤(g6.length:Int))=true:=dE M0;clear M0;obtain⟨M5,M6⟩:∃ y_:List Int,y_=(g6.take (H9:Int).toNat):=⟨_,rfl⟩;replace H:(some M5)=some r:=yE M6 H
        have M7:=aM M6;clear M6;obtain rfl:=Option.some.inj H;have M8:(H9:Int)≤((g6.length:Int):Int):=oE aS
        obtain⟨i042,M9,_,hsz42,_⟩:=info_parts info3;have hcut42:=cut_to (P:=Try.prog) 31 3 .i64 Try.underlying31 M9 H6 g6.length H7 H9 (oE aS) M8 (Kd.R_reads' g9.out).2.1
        have N0:=Kd.R_take (m:=(H9:Int).toNat) g9.out (by omega)
        have N1:M5.length=(H9:Int).toNat:=(by rw[M7.out,List.length_take];omega)
        rw[← M7.out] at N0;rw[← N1] at N0 hcut42;clear N1 M9 hsz42 g9;have N2:=aM N0;clear N0;replace M8:=eq_true M8;go_wp2
        repeat(go_quiet (fail);try go_wp2)
        go_ret
        exact⟨_,by first|rfl|(simp [errW_none,errW_some] <;> rfl)|(simp only[← d9];first|rfl|(simp [errW_none,errW_some] <;> rfl))|(simp [*,errW_none,errW_some] <;> rfl),rX N2.out,pB⟩
 ·rw[if_neg c4] at H;exact absurd H (by simp)

end Go.Proofs.Ytbnpcplckcipfaa.Print
