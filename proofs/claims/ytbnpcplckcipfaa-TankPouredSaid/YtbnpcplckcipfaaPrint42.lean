import Derived.Test.YtbnpcplckcipfaaPrint0
import Derived.Test.YtbnpcplckcipfaaPrint39
namespace Go.Proofs.Ytbnpcplckcipfaa.Print
open Go.RowKit Go.Proofs.YtbnpcplckcipfaaW.PrintWords Go.Proofs.YtbnpcplckcipfaaW.PrintLast Go.Proofs.YtbnpcplckcipfaaW.PrintMore
attribute [local go_sem] dF dG eB eD dm dn dH dI
set_option linter.unusedVariables false
set_option maxRecDepth 100000
set_option maxHeartbeats 8000000
set_option linter.unusedSimpArgs false

def Bzw.l0:Nat→List Int→List Int→List Int→Int→Int→Option (List Int)
 | 0,_,_,_,_,_=>none
 | k+1,x0,x1,x5,x6,x7=>if x7 < (x0.length:Int) then(if 0≤x7 then((Dzb.f x1 x7).bind fun t575=>(if(wrap64 ((wrap64 ((rd x0 x7) - t575)) - x6)) < 0 then(if x5.length < 17592186044416 then(Bzw.l0 k x0 x1 (x5 ++ [wrap64 ((wrap64 ((wrap64 ((rd x0 x7) - t575)) - x6))+1000000000)]) 1 (wrap64 (x7+1))) else(none)) else(if x5.length < 17592186044416 then(Bzw.l0 k x0 x1 (x5 ++ [wrap64 ((wrap64 ((rd x0 x7) - t575)) - x6)]) 0 (wrap64 (x7+1))) else(none)))) else(none)) else((Bzz.f k x5).bind fun bt582=>(some bt582.1))
def Bzw.f (k:Nat) (l0:List Int) (l1:List Int):Option (List Int):=Bzw.l0 k l0 l1 ([]:List Int) 0 0
theorem Bzw.mono_l:∀ k,(∀ a6 a7 a8 a9 b4,LeO (Bzw.l0 k a6 a7 a8 a9 b4) (Bzw.l0 (k+1) a6 a7 a8 a9 b4))
 | 0=>fun _ _ _ _ _ r h=>by simp [Bzw.l0] at h
 | k+1=>by
  have ih0:=Bzw.mono_l k
  ·intro a6 a7 a8 a9 b4;unfold Bzw.l0;have i0:=@Bzz.mono;exact mM
theorem Bzw.mono:∀ a6 a7 k,LeO (Bzw.f k a6 a7) (Bzw.f (k+1) a6 a7):=by
 intro a6 a7 k;have ih0:=Bzw.mono_l k;unfold Bzw.f;have i0:=@Bzz.mono;exact mM
theorem Bzw.calls (k:Nat) (a6:Option Addr) (a7:Nat) (l0:List Int) (a8:Option Addr) (a9:Nat) (l1:List Int) (r:List Int) (w:World) (b4:cI w a6 l0) (b5:l0.length≤a7) (b6:cI w a8 l1) (b7:l1.length≤a9) (h:Bzw.f k l0 l1=some r) :
  Calls Try.prog 106 #[.slice a6 l0.length a7,.slice a8 l1.length a9] w fun e w'=>∃ v0_:Value,e=.returned (v0_)∧rI w' w (fun _=>True) v0_ r∧bw w w':=by
 have b8:=aM b4;have b9:=aM b5;clear b4 b5;have d6:=aM b6;have d7:=aM b7;clear b6 b7;have HB:=aM (Below.refl w.heap.size w);have H:(Bzw.l0 k l0 l1 ([]:List Int) 0 0)=some r:=h;clear h;have H':=aM H;clear H;go_enter Try.func106,Try.ntmps106
 go_wp2
 repeat(go_quiet (fail);try go_wp2)
 go_loopg [5,6,7] k (fun kq d8 d9 e6 w'=>∃ (e7:List Int) (f6:Int) (f7:Int),d9=.int .i64 f6∧e6=.int .i64 f7∧ae (Bzw.l0 kq l0 l1 e7 f6 f7=some r)∧ae (kq≤k)∧ae (rI w' w (fun _=>True) d8 e7)∧ae (bw w w'))
 case atStart=>exact⟨(([]:List Int)),(0),(0),sD,sD,H',⟨Nat.le_refl _⟩,⟨nK⟩,⟨pB⟩⟩
 case round =>
  clear H';try clear a9
  obtain⟨e7,f6,f7,rfl,rfl,HA,f8,g5,HB⟩:=hrel;cases gk with
  | zero=>exact absurd HA.out (by simp [Bzw.l0])
  | succ k1 =>
   have H:=HA.out;clear HA;simp only[Bzw.l0] at H;by_cases c3:f7 < (l0.length:Int)
   ·rw[if_pos c3] at H;have g8:=dE c3;clear c3;obtain⟨g9,H⟩:=iN H;obtain⟨j3,j4,H⟩:=bT H;(try dsimp only at H);have j5:=aM H;clear H;obtain⟨j6,j7,j8,j9,l5⟩:=aI b8.out f7;cases j7
    replace j8:=hB HB j8;go_upto_if 26 with (first|(go_at_call 105;(with_reducible refine(Dzb.calls _ _ l1 f7 j3 _ ?_ ?_ j4.out).mono ?_);exact cB d6;exact d7.out;rintro e w' ⟨rfl,⟨nd,rfl⟩⟩;(try exact dD)))
    repeat(go_quiet (first|(go_at_call 105;(with_reducible refine(Dzb.calls _ _ l1 f7 j3 _ ?_ ?_ j4.out).mono ?_);exact cB d6;exact d7.out;rintro e w' ⟨rfl,⟨nd,rfl⟩⟩;(try exact dD)));go_upto_if 26 with (first|(go_at_call 105;(with_reducible refine(Dzb.calls _ _ l1 f7 j3 _ ?_ ?_ j4.out).mono ?_);exact cB d6;exact d7.out;rintro e w' ⟨rfl,⟨nd,rfl⟩⟩;(try exact dD))))
    have H:=j5.out;clear j5;by_cases c7:(wrap64 ((wrap64 ((rd l0 f7) - j3)) - f6)) < 0
    ·rw[if_pos c7] at H;have l6:decide ((wrap64 ((wrap64 ((rd l0 f7) - j3)) - f6)) < 0)=true:=dE c7;have l7:decide ((IntKind.i64.wrap ((IntKind.i64.wrap ((rd l0 f7) - j3)) - f6)) < 0)=true:=by have h_:=l6;first|exact h_|(simp only[aH];exact h_)
     clear c7;(first|rw[l6]|(simp only[aH,bg];rw[l6])|skip)
     obtain⟨c8,H⟩:=iO H;have LMc8:=aM c8;clear c8;obtain⟨l8,l9⟩:∃ y_:List Int,y_=(e7 ++ [wrap64 ((wrap64 ((wrap64 ((rd l0 f7) - j3)) - f6))+1000000000)]):=⟨_,rfl⟩;replace H:(Bzw.l0 k1 l0 l1 l8 1 (wrap64 (f7+1)))=some r:=yE l9 H
     have m0:=aM l9;clear l9;have H':=aM H;clear H;have fl_:True:=trivial;repeat((first|clear fl_|go_quiet (first|((with_reducible refine dw (b:=.append) (xs:=#[.tmp 29,.tmp 31]) rfl ?_);at_builtin;refine Kd.jy (Kd.int .i64) (w0:=w) w.heap.size rfl (.tmp 29) (.tmp 31) 31 3 (.int .i64 0) 8 rfl Try.underlying31 info3 rfl (by decide) (by omega) u5 e7 (wrap64 ((wrap64 ((wrap64 ((rd l0 f7) - j3)) - f6))+1000000000)) [.int .i64 (wrap64 ((wrap64 ((wrap64 ((rd l0 f7) - j3)) - f6))+1000000000))] (fun _=>True) (fun _=>False) rfl rfl ?aP (fun _ hk=>hk.elim) ?aF ?aO ?aB ?aS ?aL ?_;(case aP=>exact rfl);(case aB=>exact pB);(case aF=>exact(fun _ _=>trivial));(case aO=>exact(rX g5.out));(case aS=>exact(ay pB));(case aL=>have:=LMc8.out;omega);intro m4 m5 ho hb hg hat;rw[← m0.out] at ho;have m6:=aM (ho);replace HB:=aM (hb);clear g5 ho hb hg hat)));go_wp2_with (first|((with_reducible refine dw (b:=.append) (xs:=#[.tmp 29,.tmp 31]) rfl ?_);at_builtin;refine Kd.jy (Kd.int .i64) (w0:=w) w.heap.size rfl (.tmp 29) (.tmp 31) 31 3 (.int .i64 0) 8 rfl Try.underlying31 info3 rfl (by decide) (by omega) u5 e7 (wrap64 ((wrap64 ((wrap64 ((rd l0 f7) - j3)) - f6))+1000000000)) [.int .i64 (wrap64 ((wrap64 ((wrap64 ((rd l0 f7) - j3)) - f6))+1000000000))] (fun _=>True) (fun _=>False) rfl rfl ?aP (fun _ hk=>hk.elim) ?aF ?aO ?aB ?aS ?aL ?_;(case aP=>exact rfl);(case aB=>exact pB);(case aF=>exact(fun _ _=>trivial));(case aO=>exact(rX g5.out));(case aS=>exact(ay pB));(case aL=>have:=LMc8.out;omega);intro m4 m5 ho hb hg hat;rw[← m0.out] at ho;have m6:=aM (ho);replace HB:=aM (hb);clear g5 ho hb hg hat)))
     go_roundg k1
     case measure=>have:=f8.out;omega
     case rel=>exact⟨(l8),(1),(wrap64 (f7+1)),sD,sD,H',⟨by have:=f8.out;omega⟩,⟨rX m6.out⟩,⟨pB⟩⟩
    ·rw[if_neg c7] at H;have l6:decide ((wrap64 ((wrap64 ((rd l0 f7) - j3)) - f6)) < 0)=false:=decide_eq_false c7;have l7:decide ((IntKind.i64.wrap ((IntKind.i64.wrap ((rd l0 f7) - j3)) - f6)) < 0)=false:=by have h_:=l6;first|exact h_|(simp only[aH];exact h_)
     clear c7;(first|rw[l6]|(simp only[aH,bg];rw[l6])|skip)
     obtain⟨c10,H⟩:=iO H;have LMc10:=aM c10;clear c10;obtain⟨m7,m8⟩:∃ y_:List Int,y_=(e7 ++ [wrap64 ((wrap64 ((rd l0 f7) - j3)) - f6)]):=⟨_,rfl⟩;replace H:(Bzw.l0 k1 l0 l1 m7 0 (wrap64 (f7+1)))=some r:=yE m8 H
     have m9:=aM m8;clear m8;have H':=aM H;clear H;have fl_:True:=trivial;repeat((first|clear fl_|go_quiet (first|((with_reducible refine dw (b:=.append) (xs:=#[.tmp 29,.tmp 31]) rfl ?_);at_builtin;refine Kd.jy (Kd.int .i64) (w0:=w) w.heap.size rfl (.tmp 29) (.tmp 31) 31 3 (.int .i64 0) 8 rfl Try.underlying31 info3 rfl (by decide) (by omega) u5 e7 (wrap64 ((wrap64 ((rd l0 f7) - j3)) - f6)) [.int .i64 (wrap64 ((wrap64 ((rd l0 f7) - j3)) - f6))] (fun _=>True) (fun _=>False) rfl rfl ?aP (fun _ hk=>hk.elim) ?aF ?aO ?aB ?aS ?aL ?_;(case aP=>exact rfl);(case aB=>exact pB);(case aF=>exact(fun _ _=>trivial));(case aO=>exact(rX g5.out));(case aS=>exact(ay pB));(case aL=>have:=LMc10.out;omega);intro n0 n7 ho hb hg hat;rw[← m9.out] at ho;have n8:=aM (ho);replace HB:=aM (hb);clear g5 ho hb hg hat)));go_wp2_with (first|((with_reducible refine dw (b:=.append) (xs:=#[.tmp 29,.tmp 31]) rfl ?_);at_builtin;refine Kd.jy (Kd.int .i64) (w0:=w) w.heap.size rfl (.tmp 29) (.tmp 31) 31 3 (.int .i64 0) 8 rfl Try.underlying31 info3 rfl (by decide) (by omega) u5 e7 (wrap64 ((wrap64 ((rd l0 f7) - j3)) - f6)) [.int .i64 (wrap64 ((wrap64 ((rd l0 f7) - j3)) - f6))] (fun _=>True) (fun _=>False) rfl rfl ?aP (fun _ hk=>hk.elim) ?aF ?aO ?aB ?aS ?aL ?_;(case aP=>exact rfl);(case aB=>exact pB);(case aF=>exact(fun _ _=>trivial));(case aO=>exact(rX g5.out));(case aS=>exact(ay pB));(case aL=>have:=LMc10.out;omega);intro n0 n7 ho hb hg hat;rw[← m9.out] at ho;have n8:=aM (ho);replace HB:=aM (hb);clear g5 ho hb hg hat)))
     go_roundg k1
     case measure=>have:=f8.out;omega
     case rel=>exact⟨(m7),(0),(wrap64 (f7+1)),sD,sD,H',⟨by have:=f8.out;omega⟩,⟨rX n8.out⟩,⟨pB⟩⟩
   ·rw[if_neg c3] at H;have g8:decide (f7 < (l0.length:Int))=false:=decide_eq_false c3;clear c3;replace H:=bS H;obtain⟨⟨n9,o0⟩,o8,H⟩:=H;replace H:(some n9)=some r:=H;have o9:=aM o8;clear o8;obtain rfl:=Option.some.inj H;obtain⟨p9,r6,rfl⟩:=Kd.aj g5.out;have fl_:True:=trivial;repeat((first|clear fl_|go_quiet (first|(go_at_call 82;(with_reducible refine(Bzz.calls k1 _ _ e7 n9 o0 _ ?_ ?_ o9.out).mono ?_);exact cR g5;exact lR g5;rintro e r7 ⟨r8,rfl,r9,hb⟩;have t4:=rL (rn r9 g5);replace g5:=rE g5 r9 hb;replace HB:=bB hb;clear hb r9)));go_wp2_with (first|(go_at_call 82;(with_reducible refine(Bzz.calls k1 _ _ e7 n9 o0 _ ?_ ?_ o9.out).mono ?_);exact cR g5;exact lR g5;rintro e r7 ⟨r8,rfl,r9,hb⟩;have t4:=rL (rn r9 g5);replace g5:=rE g5 r9 hb;replace HB:=bB hb;clear hb r9)))
    go_ret
    exact⟨_,eW,by exact rX (Kd.ah t4.out (fun _ hk=>trivial)),pB⟩

def Bzq.l0:Nat→List Int→List Int→Int→Option (Int)
 | 0,_,_,_=>none
 | k+1,x0,x1,x5=>if x5≥0 then(if 0≤x5 then(if x5 < (x0.length:Int) then(if x5 < (x1.length:Int) then(if(rd x0 x5) < (rd x1 x5) then(some (-1)) else(if(rd x0 x5) > (rd x1 x5) then(some 1) else(Bzq.l0 k x0 x1 (wrap64 (x5 - 1))))) else(none)) else(none)) else(none)) else(some 0)
def Bzq.f (k:Nat) (l0:List Int) (l1:List Int):Option (Int):=if(l0.length:Int)=(l1.length:Int) then(Bzq.l0 k l0 l1 (wrap64 ((l0.length:Int) - 1))) else(if(l0.length:Int) < (l1.length:Int) then(some (-1)) else(some 1))
theorem Bzq.mono_l:∀ k,(∀ a6 a7 a8,LeO (Bzq.l0 k a6 a7 a8) (Bzq.l0 (k+1) a6 a7 a8))
 | 0=>fun _ _ _ r h=>by simp [Bzq.l0] at h
 | k+1=>by
  have ih0:=Bzq.mono_l k
  ·intro a6 a7 a8;unfold Bzq.l0;exact mM
theorem Bzq.mono:∀ a6 a7 k,LeO (Bzq.f k a6 a7) (Bzq.f (k+1) a6 a7):=by
 intro a6 a7 k;have ih0:=Bzq.mono_l k;unfold Bzq.f;exact mM
theorem Bzq.calls (k:Nat) (a6:Option Addr) (a7:Nat) (l0:List Int) (a8:Option Addr) (a9:Nat) (l1:List Int) (r:Int) (w:World) (b4:cI w a6 l0) (b5:l0.length≤a7) (b6:cI w a8 l1) (b7:l1.length≤a9) (h:Bzq.f k l0 l1=some r) :
  Calls Try.prog 99 #[.slice a6 l0.length a7,.slice a8 l1.length a9] w fun e w'=>e=.returned (.int .i64 r)∧dC w w':=by
 have b8:=aM b4;have b9:=aM b5;clear b4 b5;have d6:=aM b6;have d7:=aM b7;clear b6 b7;have H:(if(l0.length:Int)=(l1.length:Int) then(Bzq.l0 k l0 l1 (wrap64 ((l0.length:Int) - 1))) else(if(l0.length:Int) < (l1.length:Int) then(some (-1)) else(some 1)))=some r:=h
 clear h;by_cases c3:(l0.length:Int)=(l1.length:Int)
 ·rw[if_pos c3] at H;obtain⟨d8,d9⟩:=bE c3;have e6:(l0.length == l1.length)=true:=by first|simpa using c3|(simp at c3 ⊢;omega)
  clear c3;have H':=aM H;clear H;go_enter Try.func99,Try.ntmps99
  go_wp2
  repeat(go_quiet (fail);try go_wp2)
  go_loopg [5] k (fun kq e7 w'=>∃ (f6:Int),e7=.int .i64 f6∧ae (Bzq.l0 kq l0 l1 f6=some r)∧ae (kq≤k)∧dC w w')
  case atStart=>exact⟨(wrap64 ((l0.length:Int) - 1)),sD,H',⟨Nat.le_refl _⟩,dR⟩
  case round =>
   clear H';try clear a9
   obtain⟨f6,rfl,HA,f7,⟨f8,rfl⟩⟩:=hrel;cases gk with
   | zero=>exact absurd HA.out (by simp [Bzq.l0])
   | succ k1 =>
    have H:=HA.out;clear HA;simp only[Bzq.l0] at H;by_cases c4:f6≥0
    ·rw[if_pos c4] at H;have g5:decide (0≤f6)=true:=dE c4;clear c4;obtain⟨g8,H⟩:=iN H;obtain⟨g9,H⟩:=iN H;obtain⟨j3,H⟩:=iN H;replace H:=iD H;rcases H with⟨j4,H⟩|⟨j4,H⟩
     ·obtain rfl:=Option.some.inj H;obtain⟨j5,j6,j7,j8,j9⟩:=aI b8.out f6;cases j6;obtain⟨l5,l6,l7,l8,l9⟩:=aI d6.out f6;cases l6;go_wp2
      repeat(go_quiet (fail);try go_wp2)
      go_ret
      exact⟨sD,dR⟩
     ·by_cases c9:(rd l0 f6) > (rd l1 f6)
      ·rw[if_pos c9] at H;have m0:decide ((rd l1 f6) < (rd l0 f6))=true:=dE c9;clear c9;obtain rfl:=Option.some.inj H;obtain⟨j5,j6,j7,j8,j9⟩:=aI b8.out f6;cases j6;obtain⟨l5,l6,l7,l8,l9⟩:=aI d6.out f6;cases l6;obtain⟨m4,m5,m6,m7,m8⟩:=aI b8.out f6;obtain rfl:j5=m4:=(by injection m5);obtain⟨m9,n0,n7,n8,n9⟩:=aI d6.out f6;obtain rfl:l5=m9:=(by injection n0);go_wp2
       repeat(go_quiet (fail);try go_wp2)
       go_ret
       exact⟨sD,dR⟩
      ·rw[if_neg c9] at H;have m0:decide ((rd l1 f6) < (rd l0 f6))=false:=decide_eq_false c9;clear c9;have H':=aM H;clear H;obtain⟨j5,j6,j7,j8,j9⟩:=aI b8.out f6;cases j6;obtain⟨l5,l6,l7,l8,l9⟩:=aI d6.out f6;cases l6;obtain⟨m4,m5,m6,m7,m8⟩:=aI b8.out f6;obtain rfl:j5=m4:=(by injection m5);obtain⟨m9,n0,n7,n8,n9⟩:=aI d6.out f6;obtain rfl:l5=m9:=(by injection n0);go_wp2
       repeat(go_quiet (fail);try go_wp2)
       go_roundg k1
       case measure=>have:=f7.out;omega
       case rel=>exact⟨(wrap64 (f6 - 1)),sD,H',⟨by have:=f7.out;omega⟩,dR⟩
    ·rw[if_neg c4] at H;have g5:decide (0≤f6)=false:=decide_eq_false c4;clear c4;obtain rfl:=Option.some.inj H;go_wp2
     repeat(go_quiet (fail);try go_wp2)
     go_ret
     exact⟨sD,dR⟩
 ·rw[if_neg c3] at H;obtain⟨d8,d9⟩:=bI c3;have e6:(l0.length == l1.length)=false:=by first|simpa using c3|(simp at c3 ⊢;omega)
  by_cases c10:(l0.length:Int) < (l1.length:Int)
  ·rw[if_pos c10] at H;have o0:=dE c10;have o8:decide (l0.length < l1.length)=true:=dE (Int.ofNat_lt.mp c10);clear c10;obtain rfl:=Option.some.inj H;go_enter Try.func99,Try.ntmps99
   go_wp2
   repeat(go_quiet (fail);try go_wp2)
   go_ret
   exact⟨sD,dR⟩
  ·rw[if_neg c10] at H;have o0:decide ((l0.length:Int) < (l1.length:Int))=false:=decide_eq_false c10;have o8:decide (l0.length < l1.length)=false:=decide_eq_false (fun h=>c10 (Int.ofNat_lt.mpr h))
   clear c10;obtain rfl:=Option.some.inj H;go_enter Try.func99,Try.ntmps99
   go_wp2
   repeat(go_quiet (fail);try go_wp2)
   go_ret
   exact⟨sD,dR⟩


def Bzk.l0:Nat→List Int→List Int→Int→Int→Option (Int)
 | 0,_,_,_,_=>none
 | k+1,x0,x1,x5,x6=>if x5 < x6 then((Azw.f k x1 (([wrap64 (Int.tdiv (wrap64 ((wrap64 (x5+x6))+1)) 2)]:List Int))).bind fun t593=>((Bzq.f k t593 x0).bind fun t596=>(if t596≤0 then(Bzk.l0 k x0 x1 (wrap64 (Int.tdiv (wrap64 ((wrap64 (x5+x6))+1)) 2)) x6) else(Bzk.l0 k x0 x1 x5 (wrap64 ((wrap64 (Int.tdiv (wrap64 ((wrap64 (x5+x6))+1)) 2)) - 1)))))) else(some x5)
def Bzk.f (k:Nat) (l0:List Int) (l1:List Int):Option (Int):=Bzk.l0 k l0 l1 0 999999999
theorem Bzk.mono_l:∀ k,(∀ a6 a7 a8 a9,LeO (Bzk.l0 k a6 a7 a8 a9) (Bzk.l0 (k+1) a6 a7 a8 a9))
 | 0=>fun _ _ _ _ r h=>by simp [Bzk.l0] at h
 | k+1=>by
  have ih0:=Bzk.mono_l k
  ·intro a6 a7 a8 a9;unfold Bzk.l0;have i0:=@Bzq.mono;have i1:=@Azw.mono;exact mM
theorem Bzk.mono:∀ a6 a7 k,LeO (Bzk.f k a6 a7) (Bzk.f (k+1) a6 a7):=by
 intro a6 a7 k;have ih0:=Bzk.mono_l k;unfold Bzk.f;have i0:=@Bzq.mono;have i1:=@Azw.mono;exact mM
theorem Bzk.calls (k:Nat) (a6:Option Addr) (a7:Nat) (l0:List Int) (a8:Option Addr) (a9:Nat) (l1:List Int) (r:Int) (w:World) (b4:cI w a6 l0) (b5:l0.length≤a7) (b6:cI w a8 l1) (b7:l1.length≤a9) (h:Bzk.f k l0 l1=some r) :
  Calls Try.prog 107 #[.slice a6 l0.length a7,.slice a8 l1.length a9] w fun e w'=>e=.returned (.int .i64 r)∧bw w w':=by
 have b8:=aM b4;have b9:=aM b5;clear b4 b5;have d6:=aM b6;have d7:=aM b7;clear b6 b7;have HB:=aM (Below.refl w.heap.size w);have H:(Bzk.l0 k l0 l1 0 999999999)=some r:=h;clear h;have H':=aM H;clear H;go_enter Try.func107,Try.ntmps107
 go_wp2
 go_loopg [5,6] k (fun kq d8 d9 w'=>∃ (e6:Int) (e7:Int),d8=.int .i64 e6∧d9=.int .i64 e7∧ae (Bzk.l0 kq l0 l1 e6 e7=some r)∧ae (kq≤k)∧ae (bw w w'))
 case atStart=>exact⟨(0),(999999999),sD,sD,H',⟨Nat.le_refl _⟩,⟨pB⟩⟩
 case round =>
  clear H';try clear a9
  obtain⟨e6,e7,rfl,rfl,HA,f6,HB⟩:=hrel;cases gk with
  | zero=>exact absurd HA.out (by simp [Bzk.l0])
  | succ k1 =>
   have H:=HA.out;clear HA;simp only[Bzk.l0] at H;replace H:=iD H;rcases H with⟨f7,H⟩|⟨f7,H⟩
   ·obtain⟨f8,g5⟩:∃ y_:List Int,y_=(([wrap64 (Int.tdiv (wrap64 ((wrap64 (e6+e7))+1)) 2)]:List Int)):=⟨_,rfl⟩;replace H:((Azw.f k1 l1 f8).bind fun g8=>((Bzq.f k1 g8 l0).bind fun g9=>(if g9≤0 then(Bzk.l0 k1 l0 l1 (wrap64 (Int.tdiv (wrap64 ((wrap64 (e6+e7))+1)) 2)) e7) else(Bzk.l0 k1 l0 l1 e6 (wrap64 ((wrap64 (Int.tdiv (wrap64 ((wrap64 (e6+e7))+1)) 2)) - 1))))))=some r:=yE g5 H
    have j3:=aM g5;clear g5;obtain⟨g8,j4,H⟩:=bT H;(try dsimp only at H);obtain⟨g9,j5,H⟩:=bT H;(try dsimp only at H);have j6:=aM H;clear H;go_upto_if 22 with (first|((with_reducible refine dY (N:=18) rfl ?_);refine Kd.sS (Kd.int .i64) _ 3 ?hg (N:=18) ?hd (xs:=([wrap64 (Int.tdiv (wrap64 ((wrap64 (e6+e7))+1)) 2)]:List Int)) (inner:=[.int .i64 (wrap64 (Int.tdiv (wrap64 ((wrap64 (e6+e7))+1)) 2))]) (ok:=fun _=>True) (okp:=fun _=>True) ?hr ?hp (fun _ hk=>hk) trivial (Below.refl _ _) (Nat.le_refl _) (by simp) ?_;(case hd=>rfl);(case hg=>rfl);(case hr=>first|(go_simp;done)|(go_simp;rfl));(case hp=>exact(bR.one (show Kd.M (Kd.int .i64) _ _ _ (wrap64 (Int.tdiv (wrap64 ((wrap64 (e6+e7))+1)) 2)) [.int .i64 (wrap64 (Int.tdiv (wrap64 ((wrap64 (e6+e7))+1)) 2))] from rfl) (bR.none _ _)));intro j7 j8 j9 hb hg_ hnew_;clear hg_ hnew_;replace j9:=rY j3 j9;have l5:=rL j9;replace HB:=bB hb;clear hb j9;obtain⟨l6,l7,rfl⟩:=Kd.aj l5.out)|((with_reducible refine gc 83 rfl ?_);refine gC 83 (some 19) Try.func83 #[.slice a8 l1.length a9,.slice l6 f8.length l7] ?_;(with_reducible refine(Azw.calls k1 _ _ l1 _ _ f8 g8 _ ?_ ?_ ?_ ?_ j4.out).mono ?_);exact cB d6;exact d7.out;exact cR l5;exact lR l5;rintro e l8 ⟨l9,rfl,m0,hb⟩;refine⟨_,rfl,?_⟩;have m4:=rL (rn m0 l5);replace l5:=rE l5 m0 hb;replace HB:=bB hb;clear hb m0;obtain⟨m5,m6,rfl⟩:=Kd.aj m4.out)|((with_reducible refine gc 99 rfl ?_);refine gC 99 (some 21) Try.func99 #[.slice m5 g8.length m6,.slice a6 l0.length a7] ?_;(with_reducible refine(Bzq.calls k1 _ _ g8 _ _ l0 g9 _ ?_ ?_ ?_ ?_ j5.out).mono ?_);exact cR m4;exact lR m4;exact cB b8;exact b9.out;rintro e w' ⟨rfl,⟨nd,rfl⟩⟩;refine⟨_,rfl,?_⟩))
    have H:=j6.out;clear j6;replace H:=iD H;rcases H with⟨m8,H⟩|⟨m8,H⟩
    ·(first|rw[m8]|(simp only[aH,bg];rw[m8])|skip)
     have H':=aM H;clear H;go_wp2
     go_roundg k1
     case measure=>have:=f6.out;omega
     case rel=>exact⟨(wrap64 (Int.tdiv (wrap64 ((wrap64 (e6+e7))+1)) 2)),(e7),sD,sD,H',⟨by have:=f6.out;omega⟩,⟨pB⟩⟩
    ·(first|rw[m8]|(simp only[aH,bg];rw[m8])|skip)
     have H':=aM H;clear H;go_wp2
     go_roundg k1
     case measure=>have:=f6.out;omega
     case rel=>exact⟨(e6),(wrap64 ((wrap64 (Int.tdiv (wrap64 ((wrap64 (e6+e7))+1)) 2)) - 1)),sD,sD,H',⟨by have:=f6.out;omega⟩,⟨pB⟩⟩
   ·obtain rfl:=Option.some.inj H;go_wp2
    go_ret
    exact⟨eW,pB⟩


mutual
def Azj.j0:Nat→List Int→List Int→Bool→Option (List Int × List Int × Int)
 | 0,_,_,_=>none
 | k+1,x0,x1,x18=>if x18=true then(some (([]:List Int),([]:List Int),3)) else(if(x1.length:Int)=0 then(some (([]:List Int),([]:List Int),16)) else(if 0≤(x0.length:Int) then(if((x0.length:Int):Int).toNat≤35184372088832 then(Azj.l0 k x0 x1 (List.replicate ((x0.length:Int):Int).toNat 0) ([]:List Int) (wrap64 ((x0.length:Int) - 1))) else(none)) else(none)))
def Azj.l0:Nat→List Int→List Int→List Int→List Int→Int→Option (List Int × List Int × Int)
 | 0,_,_,_,_,_=>none
 | k+1,x0,x1,x7,x8,x9=>if x9≥0 then(if 0≤x9 then(if x9 < (x0.length:Int) then((some (([rd x0 x9]:List Int):List Int)).bind fun y607=>(if y607.length+x8.length < 17592186044416 then((some (y607 ++ x8:List Int)).bind fun y610=>(if 0≤(wrap64 ((y610.length:Int) - 1)) then(if(wrap64 ((y610.length:Int) - 1)) < (y610.length:Int) then(if(rd y610 (wrap64 ((y610.length:Int) - 1)))=0 then(Azj.j2 k x0 x1 x7 ([]:List Int) x9) else(Azj.j2 k x0 x1 x7 y610 x9)) else(none)) else(none))) else(none))) else(none)) else(none)) else((Bzz.f k x7).bind fun bt602=>(some (bt602.1,x8,0)))
def Azj.j2:Nat→List Int→List Int→List Int→List Int→Int→Option (List Int × List Int × Int)
 | 0,_,_,_,_,_=>none
 | k+1,x0,x1,x7,x8,x9=>(Bzk.f k x8 x1).bind fun t614=>(if 0≤x9 then(if x9 < (x7.length:Int) then((some (x7.set (x9:Int).toNat t614:List Int)).bind fun y615=>(if t614 > 0 then((Azw.f k x1 (([t614]:List Int))).bind fun t619=>((Bzw.f k x8 t619).bind fun t622=>(Azj.l0 k x0 x1 y615 t622 (wrap64 (x9 - 1))))) else(Azj.l0 k x0 x1 y615 x8 (wrap64 (x9 - 1))))) else(none)) else(none))
end
def Azj.f (k:Nat) (l0:List Int) (l1:List Int):Option (List Int × List Int × Int):=(Azz.f k l0).bind fun t597=>(if t597=true then((Azz.f k l1).bind fun t598=>(Azj.j0 k l0 l1 (!t598))) else(Azj.j0 k l0 l1 true))
theorem Azj.mono_l:∀ k,(∀ a6 a7 a8,LeO (Azj.j0 k a6 a7 a8) (Azj.j0 (k+1) a6 a7 a8))∧(∀ a6 a7 a8 a9 b4,LeO (Azj.l0 k a6 a7 a8 a9 b4) (Azj.l0 (k+1) a6 a7 a8 a9 b4))∧(∀ a6 a7 a8 a9 b4,LeO (Azj.j2 k a6 a7 a8 a9 b4) (Azj.j2 (k+1) a6 a7 a8 a9 b4))
 | 0=>⟨fun _ _ _ r h=>by simp [Azj.j0] at h,fun _ _ _ _ _ r h=>by simp [Azj.l0] at h,fun _ _ _ _ _ r h=>by simp [Azj.j2] at h⟩
 | k+1=>by
  obtain⟨ih0,ih1,ih2⟩:=Azj.mono_l k;have i0:=@Azz.mono;have i1:=@Bzk.mono;have i2:=@Bzz.mono;have i3:=@Bzw.mono;have i4:=@Azw.mono;refine⟨?_,?_,?_⟩
  ·intro a6 a7 a8;unfold Azj.j0;exact mM
  ·intro a6 a7 a8 a9 b4;unfold Azj.l0;exact mM
  ·intro a6 a7 a8 a9 b4;unfold Azj.j2;exact mM
theorem Azj.mono:∀ a6 a7 k,LeO (Azj.f k a6 a7) (Azj.f (k+1) a6 a7):=by
 intro a6 a7 k;obtain⟨ih0,ih1,ih2⟩:=Azj.mono_l k;unfold Azj.f;have i0:=@Azz.mono;have i1:=@Bzk.mono;have i2:=@Bzz.mono;have i3:=@Bzw.mono;have i4:=@Azw.mono;exact mM
theorem Azj.calls (k:Nat) (a6:Option Addr) (a7:Nat) (l0:List Int) (a8:Option Addr) (a9:Nat) (l1:List Int) (b4:List Int) (b5:List Int) (b6:Int) (w:World) (b7:cI w a6 l0) (b8:l0.length≤a7) (b9:cI w a8 l1) (d6:l1.length≤a9) (h:Azj.f k l0 l1=some (b4,b5,b6)) :
  Calls Try.prog 86 #[.slice a6 l0.length a7,.slice a8 l1.length a9] w fun e w'=>∃ v0_ v1_:Value,e=.returned (.tuple #[v0_,v1_,.int .i64 b6])∧rI w' w (oV v1_) v0_ b4∧rI w' w (oV v0_) v1_ b5∧bw w w':=by
 have d7:=aM b7;have d8:=aM b8;clear b7 b8;have d9:=aM b9;have e6:=aM d6;clear b9 d6;have HB:=aM (Below.refl w.heap.size w);have H:((Azz.f k l0).bind fun e7=>(if e7=true then((Azz.f k l1).bind fun f6=>(Azj.j0 k l0 l1 (!f6))) else(Azj.j0 k l0 l1 true)))=some (b4,b5,b6):=h
 clear h;have f7:=aM H;clear H;go_enter Try.func86,Try.ntmps86
 go_upto_region 1 with (fail)
 go_cut [18] (fun f8 wc=>∃ (kq:Nat) (g5:Bool),f8=.bool g5∧ae (Azj.j0 kq l0 l1 g5=some (b4,b5,b6))∧ae (kq≤k)∧ae (bw w wc))
 case first =>
  have H:=f7.out;clear f7;obtain⟨e7,g8,H⟩:=bT H;(try dsimp only at H);by_cases c5:e7=true
  ·subst c5;rw[if_pos rfl] at H;obtain⟨f6,g9,H⟩:=bT H;(try dsimp only at H);have H':=aM H;clear H;go_wp2_with (first|((with_reducible refine gc 70 rfl ?_);refine gC 70 (some 12) Try.func70 #[.slice a6 l0.length a7] ?_;(with_reducible refine(Azz.calls k _ _ l0 true _ ?_ ?_ g8.out).mono ?_);exact cB d7;exact d8.out;rintro e w' ⟨rfl,⟨nd,rfl⟩⟩;refine⟨_,rfl,?_⟩)|(go_at_call 70;(with_reducible refine(Azz.calls k _ _ l1 f6 _ ?_ ?_ g9.out).mono ?_);exact cB d9;exact e6.out;rintro e w' ⟨rfl,⟨nd,rfl⟩⟩))
   go_meet
   case rel=>exact⟨_,(!f6),sD,H',⟨by first|omega|exact Nat.le_refl _⟩,⟨pB⟩⟩
  ·obtain rfl:=bN c5;rw[if_neg nF] at H
   have H':=aM H;clear H;go_wp2_with (first|((with_reducible refine gc 70 rfl ?_);refine gC 70 (some 12) Try.func70 #[.slice a6 l0.length a7] ?_;(with_reducible refine(Azz.calls k _ _ l0 false _ ?_ ?_ g8.out).mono ?_);exact cB d7;exact d8.out;rintro e w' ⟨rfl,⟨nd,rfl⟩⟩;refine⟨_,rfl,?_⟩))
   go_meet
   case rel=>exact⟨_,(true),sD,H',⟨by first|omega|exact Nat.le_refl _⟩,⟨pB⟩⟩
 case rest =>
  clear f7;try clear a9
  obtain⟨kq,g5,rfl,HA,j3,HB⟩:=hcut;cases kq with
  | zero=>exact absurd HA.out (by simp [Azj.j0])
  | succ j4 =>
   have H:=HA.out;clear HA;simp only[Azj.j0] at H;by_cases c7:g5=true
   ·subst c7;rw[if_pos rfl] at H;obtain⟨rfl,rfl,rfl⟩:=q3 H;go_wp2
    go_ret3
    exact⟨_,_,eW,nK,nK,pB⟩
   ·obtain rfl:=bN c7;rw[if_neg nF] at H
    replace H:=iE H;rcases H with⟨j5,j6,H⟩|⟨c8,j5,j6,H⟩
    ·obtain⟨rfl,rfl,rfl⟩:=q3 H;go_wp2
     go_ret3
     exact⟨_,_,eW,nK,nK,pB⟩
    ·have j7:¬ (l1=[]):=fun h_=>c8 (by rw[h_];rfl)
     by_cases c9:0≤(l0.length:Int)
     ·rw[if_pos c9] at H;have j8:=eq_true c9;have j9:=dE c9;clear c9;obtain⟨c10,H⟩:=iO H;have l5:=eq_true c10;have l6:decide (((l0.length:Int):Int).toNat≤35184372088832)=true:=dE c10;clear c10;obtain⟨l7,l8⟩:∃ y_:List Int,y_=(List.replicate ((l0.length:Int):Int).toNat 0):=⟨_,rfl⟩;replace H:(Azj.l0 j4 l0 l1 l7 ([]:List Int) (wrap64 ((l0.length:Int) - 1)))=some (b4,b5,b6):=yE l8 H
      have l9:=aM l8;clear l8;have H':=aM H;clear H;go_wp2_with (first|((with_reducible refine dY (N:=24) rfl ?_);refine Kd.kz (Kd.int .i64) _ 3 rfl (N:=24) rfl 31 _ _ rfl (l0.length:Int) rfl rfl Try.underlying31 (.int .i64 0) 8 info3 rfl (by decide) (by omega) 0 (ok:=fun _=>True) (okp:=fun _=>True) rfl (fun _ hk=>hk) trivial (oE aS) (Nat.le_trans (Nat.mul_le_mul_right _ (oE aS:(l0.length:Int).toNat≤35184372088832)) (by omega)) (Below.refl _ _) (Nat.le_refl _) ?_;intro m0 m4 m5 hb hg_ hnew_;clear hg_ hnew_;replace m5:=rY l9 m5;have m6:=rL m5;replace HB:=bB hb;clear hb m5))
      go_loopg [8,9] j4 (fun kq m7 m8 w'=>∃ (m9:List Int) (n0:List Int) (n7:Int),m8=.int .i64 n7∧ae (Azj.l0 kq l0 l1 m9 n0 n7=some (b4,b5,b6))∧ae (kq≤j4)∧ae (rI w' w (oV m7) m0 m9)∧ae (rI w' w (oV m0) m7 n0)∧ae (bw w w'))
      case atStart=>exact⟨(l7),(([]:List Int)),(wrap64 ((l0.length:Int) - 1)),sD,H',⟨Nat.le_refl _⟩,⟨by exact rX (Kd.ah m6.out (fun _ hk=>(by simp [Value.ownBlock])))⟩,⟨nK⟩,⟨pB⟩⟩
      case round =>
       clear H';try clear a9
       obtain⟨m9,n0,n7,rfl,HA,n8,n9,o0,HB⟩:=hrel;cases gk with
       | zero=>exact absurd HA.out (by simp [Azj.l0])
       | succ k2 =>
        have H:=HA.out;clear HA;simp only[Azj.l0] at H;by_cases o8:n7≥0
        ·rw[if_pos o8] at H;have o9:decide (0≤n7)=true:=dE o8;clear o8;obtain⟨p9,H⟩:=iN H;obtain⟨r6,H⟩:=iN H;obtain⟨r7,r8⟩:∃ y_:List Int,y_=(([rd l0 n7]:List Int)):=⟨_,rfl⟩;replace H:(if r7.length+n0.length < 17592186044416 then((some (r7 ++ n0:List Int)).bind fun r9=>(if 0≤(wrap64 ((r9.length:Int) - 1)) then(if(wrap64 ((r9.length:Int) - 1)) < (r9.length:Int) then(if(rd r9 (wrap64 ((r9.length:Int) - 1)))=0 then(Azj.j2 k2 l0 l1 m9 ([]:List Int) n7) else(Azj.j2 k2 l0 l1 m9 r9 n7)) else(none)) else(none))) else(none))=some (b4,b5,b6):=yE r8 H
         have t4:=aM r8;clear r8;obtain⟨t5,H⟩:=iO H;have LMc16:=aM t5;clear t5;obtain⟨r9,t6⟩:∃ y_:List Int,y_=(r7 ++ n0):=⟨_,rfl⟩;replace H:(if 0≤(wrap64 ((r9.length:Int) - 1)) then(if(wrap64 ((r9.length:Int) - 1)) < (r9.length:Int) then(if(rd r9 (wrap64 ((r9.length:Int) - 1)))=0 then(Azj.j2 k2 l0 l1 m9 ([]:List Int) n7) else(Azj.j2 k2 l0 l1 m9 r9 n7)) else(none)) else(none))=some (b4,b5,b6):=yE t6 H
         have t7:=aM t6;clear t6;obtain⟨t8,t9⟩:∃ j_:Int,(wrap64 ((r9.length:Int) - 1))=j_:=⟨_,rfl⟩;replace H:(if 0≤(t8) then(if(t8) < (r9.length:Int) then(if(rd r9 (t8))=0 then(Azj.j2 k2 l0 l1 m9 ([]:List Int) n7) else(Azj.j2 k2 l0 l1 m9 r9 n7)) else(none)) else(none))=some (b4,b5,b6):=by first|(rw[t9] at H;exact H)|(simp only[t9] at H ⊢;exact H)
         have z3:(IntKind.i64.wrap ((r9.length:Int) - 1))=t8:=(aH _).trans t9;obtain⟨z4,H⟩:=iN H;obtain⟨z5,H⟩:=iN H;have z6:=aM H;clear H;obtain⟨z7,z8,z9,B0,B5⟩:=aI d7.out n7;cases z8
         replace z9:=hB HB z9;go_upto_if 45 with (first|((with_reducible refine gd 36 rfl ?_);refine iL 36 [rd l0 n7] ?_;intro B9 C0 C1 hb;replace C1:=rY t4 C1;have C2:=rL (rn (rn C1 n9) o0);replace n9:=rE n9 C1 hb;replace o0:=rE o0 C1 hb;replace HB:=bB hb;clear hb C1;obtain⟨C3,C4,rfl⟩:=Kd.aj o0.out)|((with_reducible refine dw (b:=.append) (xs:=#[.tmp 36,.tmp 37]) rfl ?_);at_builtin;refine Kd.gH (Kd.int .i64) (w0:=w) w.heap.size rfl (.tmp 36) (.tmp 37) 31 3 (.int .i64 0) 8 rfl Try.underlying31 info3 rfl (by decide) (by omega) B9 r7 n0 _ _ _ (fun k_=>oV m0 k_∧oN C3 n0.length C4 k_) (fun _=>False) rfl rfl ?aO ?aR (fun _ _ h=>h) (fun _ h=>h.elim) ?aF ?aB ?aS ?aL ?_;(case aR=>exact cR o0);(case aB=>exact pB);(case aF=>exact(fun k_ hk=>⟨Kd.fresh' (Kd.dS (rX n9.out)) k_ hk,Kd.fresh' (Kd.dS (rX o0.out)) k_ hk⟩));(case aO=>exact(rX (Kd.ah C2.out (fun _ hk=>⟨hk.1.2,hk.2⟩))));(case aS=>exact(ay pB));(case aL=>have:=LMc16.out;omega);intro C6 C7 ho hb hg hat;rw[← t7.out] at ho;have C8:=aM (ho);replace n9:=aM (Kd.iC (ok:=(fun k_=>oN C3 n0.length C4 k_)) (rX n9.out) hg hat);replace o0:=aM (Kd.iC (ok:=(oV m0)) (rX o0.out) hg hat);replace HB:=aM (hb);clear C2 ho hb hg hat;obtain⟨C9,D4,rfl⟩:=Kd.aj C8.out;obtain⟨D5,D6,D7,D8,D9⟩:=aI (Kd.ax C8.out).2.2 (t8);cases D6))
         (try simp only[Act.put,sA,sZ,sC])
         go_cut [8] (fun m7 wc=>∃ (kq:Nat) (E0:List Int),ae (Azj.j2 kq l0 l1 m9 E0 n7=some (b4,b5,b6))∧ae (kq≤k2)∧ae (rI wc w (oV m7) m0 m9)∧ae (rI wc w (oV m0) m7 E0)∧ae (bw w wc))
         case first =>
          have H:=z6.out;clear z6;replace H:=iE H;rcases H with⟨E2,E3,H⟩|⟨E1,E2,E3,H⟩
          ·(first|rw[E2]|(simp only[aH,bg];rw[E2])|skip)
           have H':=aM H;clear H;go_wp2
           go_meet
           case rel=>exact⟨_,(([]:List Int)),H',⟨by have:=j3.out;have:=n8.out;first|omega|exact Nat.le_refl _⟩,⟨by exact rX (Kd.ah n9.out (fun _ hk=>(by simp [Value.ownBlock])))⟩,⟨nK⟩,⟨pB⟩⟩
          ·(first|rw[E2]|(simp only[aH,bg];rw[E2])|skip)
           have H':=aM H;clear H;go_wp2
           go_meet
           case rel=>exact⟨_,(r9),H',⟨by have:=j3.out;have:=n8.out;first|omega|exact Nat.le_refl _⟩,⟨by exact rX (Kd.ah n9.out (fun _ hk=>hk.2))⟩,⟨by exact rX (Kd.ah C8.out (fun _ hk=>hk.1))⟩,⟨pB⟩⟩
         case rest =>
          clear z6;try clear a9
          obtain⟨kq,E0,HA,E4,n9,o0,HB⟩:=hcut;cases kq with
          | zero=>exact absurd HA.out (by simp [Azj.j2])
          | succ E5 =>
           have H:=HA.out;clear HA;simp only[Azj.j2] at H;obtain⟨E6,E7,H⟩:=bT H;(try dsimp only at H);obtain⟨E8,H⟩:=iN H;obtain⟨E9,H⟩:=iN H;obtain⟨F0,F2⟩:∃ y_:List Int,y_=(m9.set (n7:Int).toNat E6):=⟨_,rfl⟩;replace H:(if E6 > 0 then((Azw.f E5 l1 (([E6]:List Int))).bind fun F3=>((Bzw.f E5 E0 F3).bind fun F4=>(Azj.l0 E5 l0 l1 F0 F4 (wrap64 (n7 - 1))))) else(Azj.l0 E5 l0 l1 F0 E0 (wrap64 (n7 - 1))))=some (b4,b5,b6):=yE F2 H
           have F5:=aM F2;clear F2;have F6:=aM H;clear H;obtain⟨F7,F8,rfl⟩:=Kd.aj o0.out;go_upto_if 54 with (first|((with_reducible refine gc 107 rfl ?_);refine gC 107 (some 48) Try.func107 #[.slice F7 E0.length F8,.slice a8 l1.length a9] ?_;(with_reducible refine(Bzk.calls E5 _ _ E0 _ _ l1 E6 _ ?_ ?_ ?_ ?_ E7.out).mono ?_);exact cR o0;exact lR o0;exact cB d9;exact e6.out;rintro e F9 ⟨rfl,hb⟩;refine⟨_,rfl,?_⟩;replace n9:=rB n9 hb;replace o0:=rB o0 hb;replace HB:=bB hb;clear hb;have G5:0≤(n7:Int):=oE aS;have G9:(n7:Int) < ((m9.length:Int):Int):=oE aS;obtain⟨H5,H6,H7,H8,H9,I0,I3⟩:=Kd.fu n9.out (by omega);(first|cases H7|(injection H7 with ea_ en_ ec_;(first|subst ea_|(injection ea_ with ea_;subst ea_));subst ec_;clear en_));have I4:=aM H8;have I5:=aM I3;clear H8 H9 I3;obtain⟨I6,I7⟩:=Kd.bU 0 n9.out (n7:Int) G5 G9;replace G5:=eq_true G5;replace G9:=eq_true G9;obtain⟨I8,hz34_⟩:=Kd.bU 0 n9.out (n7:Int) (oE aS) (oE aS);have I9:=Kd.dX n9.out (n7:Int) E6)|((with_reducible refine bH (t:=3) (p:=52) rfl ?_);refine aZ (t:=3) (p:=52) (v:=?vo_w35) (w1:=(F9.setCell ⟨H5,(n7:Int).toNat,none⟩ (.int .i64 E6))) ?hg ?ho ?hn ?hr ?_;(case ho=>rfl);(case hg=>rfl);(case hn=>rfl);(case hr=>first|(go_simp;done)|(go_simp;rfl));intro J0 hw;have hg:F9.grownBy J0 (some H5):=(by rw[hw];exact I9.2);have hp_:rI J0 w (fun k_=>oN F7 E0.length F8 k_) (.slice (some ⟨H5,0,none⟩) m9.length H6) F0:=(by rw[hw,F5.out];exact I9.1);clear I9;replace n9:=aM (hp_);replace o0:=aM (Kd.iC (v:=(.slice (some ⟨H5,0,none⟩) m9.length H6)) (v1:=(.slice (some ⟨H5,0,none⟩) m9.length H6)) (ok:=(fun _=>True)) (rX (Kd.ah o0.out (fun _ hk=>⟨trivial,hk⟩))) hg (.inl rfl));replace HB:=aM ((by rw[hw];exact cZ (HB.out) I4.out:bw w J0));clear hg hw hp_))
           have H:=F6.out;clear F6;by_cases J1:E6 > 0
           ·rw[if_pos J1] at H;have J2:decide (0 < E6)=true:=dE J1;clear J1;(first|rw[J2]|(simp only[aH,bg];rw[J2])|skip)
            obtain⟨J3,J4⟩:∃ y_:List Int,y_=(([E6]:List Int)):=⟨_,rfl⟩;replace H:((Azw.f E5 l1 J3).bind fun F3=>((Bzw.f E5 E0 F3).bind fun F4=>(Azj.l0 E5 l0 l1 F0 F4 (wrap64 (n7 - 1)))))=some (b4,b5,b6):=yE J4 H
            have J5:=aM J4;clear J4;obtain⟨F3,J6,H⟩:=bT H;(try dsimp only at H);obtain⟨F4,J7,H⟩:=bT H;(try dsimp only at H);have H':=aM H;clear H;go_wp2_with (first|((with_reducible refine gd 58 rfl ?_);refine iL 58 [E6] ?_;intro J8 J9 K0 hb;replace K0:=rY J5 K0;have K1:=rL (rn (rn K0 n9) o0);replace n9:=rE n9 K0 hb;replace o0:=rE o0 K0 hb;replace HB:=bB hb;clear hb K0;obtain⟨K2,K3,rfl⟩:=Kd.aj K1.out)|((with_reducible refine gc 83 rfl ?_);refine gC 83 (some 59) Try.func83 #[.slice a8 l1.length a9,.slice K2 J3.length K3] ?_;(with_reducible refine(Azw.calls E5 _ _ l1 _ _ J3 F3 _ ?_ ?_ ?_ ?_ J6.out).mono ?_);exact cB d9;exact e6.out;exact cR K1;exact lR K1;rintro e K4 ⟨K5,rfl,K6,hb⟩;refine⟨_,rfl,?_⟩;have K7:=rL (rn (rn (rn K6 n9) o0) K1);replace n9:=rE n9 K6 hb;replace o0:=rE o0 K6 hb;replace K1:=rE K1 K6 hb;replace HB:=bB hb;clear hb K6;obtain⟨K8,K9,rfl⟩:=Kd.aj K7.out)|((with_reducible refine gc 106 rfl ?_);refine gC 106 (some 60) Try.func106 #[.slice F7 E0.length F8,.slice K8 F3.length K9] ?_;(with_reducible refine(Bzw.calls E5 _ _ E0 _ _ F3 F4 _ ?_ ?_ ?_ ?_ J7.out).mono ?_);exact cR o0;exact lR o0;exact cR K7;exact lR K7;rintro e L0 ⟨L8,rfl,K6,hb⟩;refine⟨_,rfl,?_⟩;have L9:=rL (rn (rn (rn (rn K6 n9) o0) K1) K7);replace n9:=rE n9 K6 hb;replace o0:=rE o0 K6 hb;replace K1:=rE K1 K6 hb;replace K7:=rE K7 K6 hb;replace HB:=bB hb;clear hb K6))
            go_roundg E5
            case measure=>have:=j3.out;have:=n8.out;have:=E4.out;omega
            case rel=>exact⟨(F0),(F4),(wrap64 (n7 - 1)),sD,H',⟨by have:=j3.out;have:=n8.out;have:=E4.out;omega⟩,⟨by exact rX (Kd.ah n9.out (fun _ hk=>hk.2))⟩,⟨by exact rX (Kd.ah L9.out (fun _ hk=>hk.1.1.1.2))⟩,⟨pB⟩⟩
           ·rw[if_neg J1] at H;have J2:decide (0 < E6)=false:=decide_eq_false J1;clear J1;(first|rw[J2]|(simp only[aH,bg];rw[J2])|skip)
            have H':=aM H;clear H;go_wp2
            go_roundg E5
            case measure=>have:=j3.out;have:=n8.out;have:=E4.out;omega
            case rel=>exact⟨(F0),(E0),(wrap64 (n7 - 1)),sD,H',⟨by have:=j3.out;have:=n8.out;have:=E4.out;omega⟩,⟨rX n9.out⟩,⟨by exact rX (Kd.ah o0.out (fun _ hk=>hk.2))⟩,⟨pB⟩⟩
        ·rw[if_neg o8] at H;have o9:decide (0≤n7)=false:=decide_eq_false o8;clear o8;replace H:=bS H;obtain⟨⟨M0,M3⟩,M4,H⟩:=H;replace H:(some (M0,n0,0))=some (b4,b5,b6):=H;have M5:=aM M4;clear M4;obtain⟨rfl,rfl,rfl⟩:=q3 H;obtain⟨M6,M7,rfl⟩:=Kd.aj n9.out;go_wp2_with (first|((with_reducible refine gc 82 rfl ?_);refine gC 82 (some 63) Try.func82 #[.slice M6 m9.length M7] ?_;(with_reducible refine(Bzz.calls k2 _ _ m9 M0 M3 _ ?_ ?_ M5.out).mono ?_);exact cR n9;exact lR n9;rintro e M8 ⟨M9,rfl,K6,hb⟩;refine⟨_,rfl,?_⟩;have N0:=rL (rn (rn K6 n9) o0);replace n9:=rE n9 K6 hb;replace o0:=rE o0 K6 hb;replace HB:=bB hb;clear hb K6))
         go_ret3
         exact⟨_,_,eW,by exact rX (Kd.ah N0.out (fun _ hk=>hk.2)),by exact rX (Kd.ah o0.out (fun _ hk=>hk.2)),pB⟩
     ·rw[if_neg c9] at H;exact absurd H (by simp)

end Go.Proofs.Ytbnpcplckcipfaa.Print
