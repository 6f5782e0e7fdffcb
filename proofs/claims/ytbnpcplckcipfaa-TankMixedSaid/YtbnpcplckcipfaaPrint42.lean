import Derived.Test.YtbnpcplckcipfaaPrint0
import Derived.Test.YtbnpcplckcipfaaPrint38
namespace Go.Proofs.Ytbnpcplckcipfaa.Print
open Go.RowKit Go.Proofs.YtbnpcplckcipfaaW.PrintWords Go.Proofs.YtbnpcplckcipfaaW.PrintLast Go.Proofs.YtbnpcplckcipfaaW.PrintMore
attribute [local go_sem] max2_int min2_int max_two min_two max_three min_three max_four min_four
set_option linter.unusedVariables false
set_option maxRecDepth 100000
set_option maxHeartbeats 8000000
set_option linter.unusedSimpArgs false

def Azp.l0:Nat→List Int→List Int→List Int→Int→Int→Option (List Int)
 | 0,_,_,_,_,_=>none
 | k+1,x0,x1,x5,x6,x7=>if x7 < (x0.length:Int) then(if 0≤x7 then((Dzx.f x1 x7).bind fun t575=>(if(wrap64 ((wrap64 ((rd x0 x7) - t575)) - x6)) < 0 then(if x5.length < 17592186044416 then(Azp.l0 k x0 x1 (x5 ++ [wrap64 ((wrap64 ((wrap64 ((rd x0 x7) - t575)) - x6))+1000000000)]) 1 (wrap64 (x7+1))) else(none)) else(if x5.length < 17592186044416 then(Azp.l0 k x0 x1 (x5 ++ [wrap64 ((wrap64 ((rd x0 x7) - t575)) - x6)]) 0 (wrap64 (x7+1))) else(none)))) else(none)) else((Bzq.f k x5).bind fun bt582=>(some bt582.1))
def Azp.f (k:Nat) (l0:List Int) (l1:List Int):Option (List Int):=Azp.l0 k l0 l1 ([]:List Int) 0 0
theorem Azp.mono_l:∀ k,(∀ a6 a7 a8 a9 b4,LeO (Azp.l0 k a6 a7 a8 a9 b4) (Azp.l0 (k+1) a6 a7 a8 a9 b4))
 | 0=>fun _ _ _ _ _ r h=>by simp [Azp.l0] at h
 | k+1=>by
  have ih0:=Azp.mono_l k
  ·intro a6 a7 a8 a9 b4;unfold Azp.l0;have i0:=@Bzq.mono;exact mM
theorem Azp.mono:∀ a6 a7 k,LeO (Azp.f k a6 a7) (Azp.f (k+1) a6 a7):=by
 intro a6 a7 k;have ih0:=Azp.mono_l k;unfold Azp.f;have i0:=@Bzq.mono;exact mM
theorem Azp.calls (k:Nat) (a6:Option Addr) (a7:Nat) (l0:List Int) (a8:Option Addr) (a9:Nat) (l1:List Int) (r:List Int) (w:World) (b4:cI w a6 l0) (b5:l0.length≤a7) (b6:cI w a8 l1) (b7:l1.length≤a9) (h:Azp.f k l0 l1=some r) :
  Calls Try.prog 106 #[.slice a6 l0.length a7,.slice a8 l1.length a9] w fun e w'=>∃ v0_:Value,e=.returned (v0_)∧rI w' w (fun _=>True) v0_ r∧bw w w':=by
 have b8:=aM b4;have b9:=aM b5;clear b4 b5;have d6:=aM b6;have d7:=aM b7;clear b6 b7;have HB:=aM (Below.refl w.heap.size w);have H:(Azp.l0 k l0 l1 ([]:List Int) 0 0)=some r:=h;clear h;have H':=aM H;clear H;go_enter Try.func106,Try.ntmps106
 go_wp2
 repeat(go_quiet (fail);try go_wp2)
 go_loopg [5,6,7] k (fun kq d8 d9 e6 w'=>∃ (e7:List Int) (e8:Int) (e9:Int),d9=.int .i64 e8∧e6=.int .i64 e9∧Aside0 (Azp.l0 kq l0 l1 e7 e8 e9=some r)∧Aside0 (kq≤k)∧Aside0 (rI w' w (fun _=>True) d8 e7)∧Aside0 (bw w w'))
 case atStart=>exact⟨(([]:List Int)),(0),(0),sD,sD,H',⟨Nat.le_refl _⟩,⟨nK⟩,⟨pB⟩⟩
 case round =>
  clear H';try clear a9
  obtain⟨e7,e8,e9,rfl,rfl,HA,f3,f4,HB⟩:=hrel;cases gk with
  | zero=>exact absurd HA.out (by simp [Azp.l0])
  | succ k1 =>
   have H:=HA.out;clear HA;simp only[Azp.l0] at H;by_cases c3:e9 < (l0.length:Int)
   ·rw[if_pos c3] at H;have f5:=dE c3;clear c3;obtain⟨f6,H⟩:=iN H;obtain⟨f7,f8,H⟩:=bT H;(try dsimp only at H);have f9:=aM H;clear H;obtain⟨g4,g5,g6,g7,g8⟩:=aI b8.out e9;cases g5
    replace g6:=hB HB g6;go_upto_if 26 with (first|(go_at_call 105;(with_reducible refine(Dzx.calls _ _ l1 e9 f7 _ ?_ ?_ f8.out).mono ?_);exact cB d6;exact d7.out;rintro e w' ⟨rfl,⟨nd,rfl⟩⟩;(try exact dD)))
    repeat(go_quiet (first|(go_at_call 105;(with_reducible refine(Dzx.calls _ _ l1 e9 f7 _ ?_ ?_ f8.out).mono ?_);exact cB d6;exact d7.out;rintro e w' ⟨rfl,⟨nd,rfl⟩⟩;(try exact dD)));go_upto_if 26 with (first|(go_at_call 105;(with_reducible refine(Dzx.calls _ _ l1 e9 f7 _ ?_ ?_ f8.out).mono ?_);exact cB d6;exact d7.out;rintro e w' ⟨rfl,⟨nd,rfl⟩⟩;(try exact dD))))
    have H:=f9.out;clear f9;by_cases c7:(wrap64 ((wrap64 ((rd l0 e9) - f7)) - e8)) < 0
    ·rw[if_pos c7] at H;have g9:decide ((wrap64 ((wrap64 ((rd l0 e9) - f7)) - e8)) < 0)=true:=dE c7;have j3:decide ((IntKind.i64.wrap ((IntKind.i64.wrap ((rd l0 e9) - f7)) - e8)) < 0)=true:=by have h_:=g9;first|exact h_|(simp only[i64_w];exact h_)
     clear c7;(first|rw[g9]|(simp only[i64_w,i32_w];rw[g9])|skip)
     obtain⟨c8,H⟩:=iO H;have LMc8:=aM c8;clear c8;obtain⟨j4,j5⟩:∃ y_:List Int,y_=(e7 ++ [wrap64 ((wrap64 ((wrap64 ((rd l0 e9) - f7)) - e8))+1000000000)]):=⟨_,rfl⟩;replace H:(Azp.l0 k1 l0 l1 j4 1 (wrap64 (e9+1)))=some r:=yE j5 H
     have j6:=aM j5;clear j5;have H':=aM H;clear H;have fl_:True:=trivial;repeat((first|clear fl_|go_quiet (first|((with_reducible refine gate_builtin (b:=.append) (xs:=#[.tmp 29,.tmp 31]) rfl ?_);at_builtin;refine Kd.R_append (Kd.int .i64) (w0:=w) w.heap.size rfl (.tmp 29) (.tmp 31) 31 3 (.int .i64 0) 8 rfl Try.underlying31 info3 rfl (by decide) (by omega) u5 e7 (wrap64 ((wrap64 ((wrap64 ((rd l0 e9) - f7)) - e8))+1000000000)) [.int .i64 (wrap64 ((wrap64 ((wrap64 ((rd l0 e9) - f7)) - e8))+1000000000))] (fun _=>True) (fun _=>False) rfl rfl ?aP (fun _ hk=>hk.elim) ?aF ?aO ?aB ?aS ?aL ?_;(case aP=>exact rfl);(case aB=>exact pB);(case aF=>exact(fun _ _=>trivial));(case aO=>exact(rX f4.out));(case aS=>exact(below_size pB));(case aL=>have:=LMc8.out;omega);intro j7 j8 ho hb hg hat;rw[← j6.out] at ho;have j9:=aM (ho);replace HB:=aM (hb);clear f4 ho hb hg hat)));go_wp2_with (first|((with_reducible refine gate_builtin (b:=.append) (xs:=#[.tmp 29,.tmp 31]) rfl ?_);at_builtin;refine Kd.R_append (Kd.int .i64) (w0:=w) w.heap.size rfl (.tmp 29) (.tmp 31) 31 3 (.int .i64 0) 8 rfl Try.underlying31 info3 rfl (by decide) (by omega) u5 e7 (wrap64 ((wrap64 ((wrap64 ((rd l0 e9) - f7)) - e8))+1000000000)) [.int .i64 (wrap64 ((wrap64 ((wrap64 ((rd l0 e9) - f7)) - e8))+1000000000))] (fun _=>True) (fun _=>False) rfl rfl ?aP (fun _ hk=>hk.elim) ?aF ?aO ?aB ?aS ?aL ?_;(case aP=>exact rfl);(case aB=>exact pB);(case aF=>exact(fun _ _=>trivial));(case aO=>exact(rX f4.out));(case aS=>exact(below_size pB));(case aL=>have:=LMc8.out;omega);intro j7 j8 ho hb hg hat;rw[← j6.out] at ho;have j9:=aM (ho);replace HB:=aM (hb);clear f4 ho hb hg hat)))
     go_roundg k1
     case measure=>have:=f3.out;omega
     case rel=>exact⟨(j4),(1),(wrap64 (e9+1)),sD,sD,H',⟨by have:=f3.out;omega⟩,⟨rX j9.out⟩,⟨pB⟩⟩
    ·rw[if_neg c7] at H;have g9:decide ((wrap64 ((wrap64 ((rd l0 e9) - f7)) - e8)) < 0)=false:=decide_eq_false c7;have j3:decide ((IntKind.i64.wrap ((IntKind.i64.wrap ((rd l0 e9) - f7)) - e8)) < 0)=false:=by have h_:=g9;first|exact h_|(simp only[i64_w];exact h_)
     clear c7;(first|rw[g9]|(simp only[i64_w,i32_w];rw[g9])|skip)
     obtain⟨c10,H⟩:=iO H;have LMc10:=aM c10;clear c10;obtain⟨l5,l6⟩:∃ y_:List Int,y_=(e7 ++ [wrap64 ((wrap64 ((rd l0 e9) - f7)) - e8)]):=⟨_,rfl⟩;replace H:(Azp.l0 k1 l0 l1 l5 0 (wrap64 (e9+1)))=some r:=yE l6 H
     have l7:=aM l6;clear l6;have H':=aM H;clear H;have fl_:True:=trivial;repeat((first|clear fl_|go_quiet (first|((with_reducible refine gate_builtin (b:=.append) (xs:=#[.tmp 29,.tmp 31]) rfl ?_);at_builtin;refine Kd.R_append (Kd.int .i64) (w0:=w) w.heap.size rfl (.tmp 29) (.tmp 31) 31 3 (.int .i64 0) 8 rfl Try.underlying31 info3 rfl (by decide) (by omega) u5 e7 (wrap64 ((wrap64 ((rd l0 e9) - f7)) - e8)) [.int .i64 (wrap64 ((wrap64 ((rd l0 e9) - f7)) - e8))] (fun _=>True) (fun _=>False) rfl rfl ?aP (fun _ hk=>hk.elim) ?aF ?aO ?aB ?aS ?aL ?_;(case aP=>exact rfl);(case aB=>exact pB);(case aF=>exact(fun _ _=>trivial));(case aO=>exact(rX f4.out));(case aS=>exact(below_size pB));(case aL=>have:=LMc10.out;omega);intro l8 l9 ho hb hg hat;rw[← l7.out] at ho;have m0:=aM (ho);replace HB:=aM (hb);clear f4 ho hb hg hat)));go_wp2_with (first|((with_reducible refine gate_builtin (b:=.append) (xs:=#[.tmp 29,.tmp 31]) rfl ?_);at_builtin;refine Kd.R_append (Kd.int .i64) (w0:=w) w.heap.size rfl (.tmp 29) (.tmp 31) 31 3 (.int .i64 0) 8 rfl Try.underlying31 info3 rfl (by decide) (by omega) u5 e7 (wrap64 ((wrap64 ((rd l0 e9) - f7)) - e8)) [.int .i64 (wrap64 ((wrap64 ((rd l0 e9) - f7)) - e8))] (fun _=>True) (fun _=>False) rfl rfl ?aP (fun _ hk=>hk.elim) ?aF ?aO ?aB ?aS ?aL ?_;(case aP=>exact rfl);(case aB=>exact pB);(case aF=>exact(fun _ _=>trivial));(case aO=>exact(rX f4.out));(case aS=>exact(below_size pB));(case aL=>have:=LMc10.out;omega);intro l8 l9 ho hb hg hat;rw[← l7.out] at ho;have m0:=aM (ho);replace HB:=aM (hb);clear f4 ho hb hg hat)))
     go_roundg k1
     case measure=>have:=f3.out;omega
     case rel=>exact⟨(l5),(0),(wrap64 (e9+1)),sD,sD,H',⟨by have:=f3.out;omega⟩,⟨rX m0.out⟩,⟨pB⟩⟩
   ·rw[if_neg c3] at H;have f5:decide (e9 < (l0.length:Int))=false:=decide_eq_false c3;clear c3;replace H:=bS H;obtain⟨⟨m4,m5⟩,m6,H⟩:=H;replace H:(some m4)=some r:=H;have m7:=aM m6;clear m6;obtain rfl:=Option.some.inj H;obtain⟨m8,m9,rfl⟩:=Kd.R_slice f4.out;have fl_:True:=trivial;repeat((first|clear fl_|go_quiet (first|(go_at_call 82;(with_reducible refine(Bzq.calls k1 _ _ e7 m4 m5 _ ?_ ?_ m7.out).mono ?_);exact cR f4;exact lR f4;rintro e n0 ⟨n7,rfl,n8,hb⟩;have n9:=rL (rn n8 f4);replace f4:=rE f4 n8 hb;replace HB:=bB hb;clear hb n8)));go_wp2_with (first|(go_at_call 82;(with_reducible refine(Bzq.calls k1 _ _ e7 m4 m5 _ ?_ ?_ m7.out).mono ?_);exact cR f4;exact lR f4;rintro e n0 ⟨n7,rfl,n8,hb⟩;have n9:=rL (rn n8 f4);replace f4:=rE f4 n8 hb;replace HB:=bB hb;clear hb n8)))
    go_ret
    exact⟨_,eW,by exact rX (Kd.R_mono n9.out (fun _ hk=>trivial)),pB⟩

def Bzj.l0:Nat→List Int→List Int→Int→Option (Int)
 | 0,_,_,_=>none
 | k+1,x0,x1,x5=>if x5≥0 then(if 0≤x5 then(if x5 < (x0.length:Int) then(if x5 < (x1.length:Int) then(if(rd x0 x5) < (rd x1 x5) then(some (-1)) else(if(rd x0 x5) > (rd x1 x5) then(some 1) else(Bzj.l0 k x0 x1 (wrap64 (x5 - 1))))) else(none)) else(none)) else(none)) else(some 0)
def Bzj.f (k:Nat) (l0:List Int) (l1:List Int):Option (Int):=if(l0.length:Int)=(l1.length:Int) then(Bzj.l0 k l0 l1 (wrap64 ((l0.length:Int) - 1))) else(if(l0.length:Int) < (l1.length:Int) then(some (-1)) else(some 1))
theorem Bzj.mono_l:∀ k,(∀ a6 a7 a8,LeO (Bzj.l0 k a6 a7 a8) (Bzj.l0 (k+1) a6 a7 a8))
 | 0=>fun _ _ _ r h=>by simp [Bzj.l0] at h
 | k+1=>by
  have ih0:=Bzj.mono_l k
  ·intro a6 a7 a8;unfold Bzj.l0;exact mM
theorem Bzj.mono:∀ a6 a7 k,LeO (Bzj.f k a6 a7) (Bzj.f (k+1) a6 a7):=by
 intro a6 a7 k;have ih0:=Bzj.mono_l k;unfold Bzj.f;exact mM
theorem Bzj.calls (k:Nat) (a6:Option Addr) (a7:Nat) (l0:List Int) (a8:Option Addr) (a9:Nat) (l1:List Int) (r:Int) (w:World) (b4:cI w a6 l0) (b5:l0.length≤a7) (b6:cI w a8 l1) (b7:l1.length≤a9) (h:Bzj.f k l0 l1=some r) :
  Calls Try.prog 99 #[.slice a6 l0.length a7,.slice a8 l1.length a9] w fun e w'=>e=.returned (.int .i64 r)∧Drawn0 w w':=by
 have b8:=aM b4;have b9:=aM b5;clear b4 b5;have d6:=aM b6;have d7:=aM b7;clear b6 b7;have H:(if(l0.length:Int)=(l1.length:Int) then(Bzj.l0 k l0 l1 (wrap64 ((l0.length:Int) - 1))) else(if(l0.length:Int) < (l1.length:Int) then(some (-1)) else(some 1)))=some r:=h
 clear h;by_cases c3:(l0.length:Int)=(l1.length:Int)
 ·rw[if_pos c3] at H;obtain⟨d8,d9⟩:=bE c3;have e6:(l0.length == l1.length)=true:=by first|simpa using c3|(simp at c3 ⊢;omega)
  clear c3;have H':=aM H;clear H;go_enter Try.func99,Try.ntmps99
  go_wp2
  repeat(go_quiet (fail);try go_wp2)
  go_loopg [5] k (fun kq e7 w'=>∃ (e8:Int),e7=.int .i64 e8∧Aside0 (Bzj.l0 kq l0 l1 e8=some r)∧Aside0 (kq≤k)∧Drawn0 w w')
  case atStart=>exact⟨(wrap64 ((l0.length:Int) - 1)),sD,H',⟨Nat.le_refl _⟩,dR⟩
  case round =>
   clear H';try clear a9
   obtain⟨e8,rfl,HA,e9,⟨f3,rfl⟩⟩:=hrel;cases gk with
   | zero=>exact absurd HA.out (by simp [Bzj.l0])
   | succ k1 =>
    have H:=HA.out;clear HA;simp only[Bzj.l0] at H;by_cases c4:e8≥0
    ·rw[if_pos c4] at H;have f4:decide (0≤e8)=true:=dE c4;clear c4;obtain⟨f5,H⟩:=iN H;obtain⟨f6,H⟩:=iN H;obtain⟨f7,H⟩:=iN H;replace H:=iD H;rcases H with⟨f8,H⟩|⟨f8,H⟩
     ·obtain rfl:=Option.some.inj H;obtain⟨f9,g4,g5,g6,g7⟩:=aI b8.out e8;cases g4;obtain⟨g8,g9,j3,j4,j5⟩:=aI d6.out e8;cases g9;go_wp2
      repeat(go_quiet (fail);try go_wp2)
      go_ret
      exact⟨sD,dR⟩
     ·by_cases c9:(rd l0 e8) > (rd l1 e8)
      ·rw[if_pos c9] at H;have j6:decide ((rd l1 e8) < (rd l0 e8))=true:=dE c9;clear c9;obtain rfl:=Option.some.inj H;obtain⟨f9,g4,g5,g6,g7⟩:=aI b8.out e8;cases g4;obtain⟨g8,g9,j3,j4,j5⟩:=aI d6.out e8;cases g9;obtain⟨j7,j8,j9,l5,l6⟩:=aI b8.out e8;obtain rfl:f9=j7:=(by injection j8);obtain⟨l7,l8,l9,m0,m4⟩:=aI d6.out e8;obtain rfl:g8=l7:=(by injection l8);go_wp2
       repeat(go_quiet (fail);try go_wp2)
       go_ret
       exact⟨sD,dR⟩
      ·rw[if_neg c9] at H;have j6:decide ((rd l1 e8) < (rd l0 e8))=false:=decide_eq_false c9;clear c9;have H':=aM H;clear H;obtain⟨f9,g4,g5,g6,g7⟩:=aI b8.out e8;cases g4;obtain⟨g8,g9,j3,j4,j5⟩:=aI d6.out e8;cases g9;obtain⟨j7,j8,j9,l5,l6⟩:=aI b8.out e8;obtain rfl:f9=j7:=(by injection j8);obtain⟨l7,l8,l9,m0,m4⟩:=aI d6.out e8;obtain rfl:g8=l7:=(by injection l8);go_wp2
       repeat(go_quiet (fail);try go_wp2)
       go_roundg k1
       case measure=>have:=e9.out;omega
       case rel=>exact⟨(wrap64 (e8 - 1)),sD,H',⟨by have:=e9.out;omega⟩,dR⟩
    ·rw[if_neg c4] at H;have f4:decide (0≤e8)=false:=decide_eq_false c4;clear c4;obtain rfl:=Option.some.inj H;go_wp2
     repeat(go_quiet (fail);try go_wp2)
     go_ret
     exact⟨sD,dR⟩
 ·rw[if_neg c3] at H;obtain⟨d8,d9⟩:=bI c3;have e6:(l0.length == l1.length)=false:=by first|simpa using c3|(simp at c3 ⊢;omega)
  by_cases c10:(l0.length:Int) < (l1.length:Int)
  ·rw[if_pos c10] at H;have m5:=dE c10;have m6:decide (l0.length < l1.length)=true:=dE (Int.ofNat_lt.mp c10);clear c10;obtain rfl:=Option.some.inj H;go_enter Try.func99,Try.ntmps99
   go_wp2
   repeat(go_quiet (fail);try go_wp2)
   go_ret
   exact⟨sD,dR⟩
  ·rw[if_neg c10] at H;have m5:decide ((l0.length:Int) < (l1.length:Int))=false:=decide_eq_false c10;have m6:decide (l0.length < l1.length)=false:=decide_eq_false (fun h=>c10 (Int.ofNat_lt.mpr h))
   clear c10;obtain rfl:=Option.some.inj H;go_enter Try.func99,Try.ntmps99
   go_wp2
   repeat(go_quiet (fail);try go_wp2)
   go_ret
   exact⟨sD,dR⟩


def Bzz.l0:Nat→List Int→List Int→Int→Int→Option (Int)
 | 0,_,_,_,_=>none
 | k+1,x0,x1,x5,x6=>if x5 < x6 then((Azq.f k x1 (([wrap64 (Int.tdiv (wrap64 ((wrap64 (x5+x6))+1)) 2)]:List Int))).bind fun t593=>((Bzj.f k t593 x0).bind fun t596=>(if t596≤0 then(Bzz.l0 k x0 x1 (wrap64 (Int.tdiv (wrap64 ((wrap64 (x5+x6))+1)) 2)) x6) else(Bzz.l0 k x0 x1 x5 (wrap64 ((wrap64 (Int.tdiv (wrap64 ((wrap64 (x5+x6))+1)) 2)) - 1)))))) else(some x5)
def Bzz.f (k:Nat) (l0:List Int) (l1:List Int):Option (Int):=Bzz.l0 k l0 l1 0 999999999
theorem Bzz.mono_l:∀ k,(∀ a6 a7 a8 a9,LeO (Bzz.l0 k a6 a7 a8 a9) (Bzz.l0 (k+1) a6 a7 a8 a9))
 | 0=>fun _ _ _ _ r h=>by simp [Bzz.l0] at h
 | k+1=>by
  have ih0:=Bzz.mono_l k
  ·intro a6 a7 a8 a9;unfold Bzz.l0;have i0:=@Bzj.mono;have i1:=@Azq.mono;exact mM
theorem Bzz.mono:∀ a6 a7 k,LeO (Bzz.f k a6 a7) (Bzz.f (k+1) a6 a7):=by
 intro a6 a7 k;have ih0:=Bzz.mono_l k;unfold Bzz.f;have i0:=@Bzj.mono;have i1:=@Azq.mono;exact mM
theorem Bzz.calls (k:Nat) (a6:Option Addr) (a7:Nat) (l0:List Int) (a8:Option Addr) (a9:Nat) (l1:List Int) (r:Int) (w:World) (b4:cI w a6 l0) (b5:l0.length≤a7) (b6:cI w a8 l1) (b7:l1.length≤a9) (h:Bzz.f k l0 l1=some r) :
  Calls Try.prog 107 #[.slice a6 l0.length a7,.slice a8 l1.length a9] w fun e w'=>e=.returned (.int .i64 r)∧bw w w':=by
 have b8:=aM b4;have b9:=aM b5;clear b4 b5;have d6:=aM b6;have d7:=aM b7;clear b6 b7;have HB:=aM (Below.refl w.heap.size w);have H:(Bzz.l0 k l0 l1 0 999999999)=some r:=h;clear h;have H':=aM H;clear H;go_enter Try.func107,Try.ntmps107
 go_wp2
 go_loopg [5,6] k (fun kq d8 d9 w'=>∃ (e6:Int) (e7:Int),d8=.int .i64 e6∧d9=.int .i64 e7∧Aside0 (Bzz.l0 kq l0 l1 e6 e7=some r)∧Aside0 (kq≤k)∧Aside0 (bw w w'))
 case atStart=>exact⟨(0),(999999999),sD,sD,H',⟨Nat.le_refl _⟩,⟨pB⟩⟩
 case round =>
  clear H';try clear a9
  obtain⟨e6,e7,rfl,rfl,HA,e8,HB⟩:=hrel;cases gk with
  | zero=>exact absurd HA.out (by simp [Bzz.l0])
  | succ k1 =>
   have H:=HA.out;clear HA;simp only[Bzz.l0] at H;replace H:=iD H;rcases H with⟨e9,H⟩|⟨e9,H⟩
   ·obtain⟨f3,f4⟩:∃ y_:List Int,y_=(([wrap64 (Int.tdiv (wrap64 ((wrap64 (e6+e7))+1)) 2)]:List Int)):=⟨_,rfl⟩;replace H:((Azq.f k1 l1 f3).bind fun f5=>((Bzj.f k1 f5 l0).bind fun f6=>(if f6≤0 then(Bzz.l0 k1 l0 l1 (wrap64 (Int.tdiv (wrap64 ((wrap64 (e6+e7))+1)) 2)) e7) else(Bzz.l0 k1 l0 l1 e6 (wrap64 ((wrap64 (Int.tdiv (wrap64 ((wrap64 (e6+e7))+1)) 2)) - 1))))))=some r:=yE f4 H
    have f7:=aM f4;clear f4;obtain⟨f5,f8,H⟩:=bT H;(try dsimp only at H);obtain⟨f6,f9,H⟩:=bT H;(try dsimp only at H);have g4:=aM H;clear H;go_upto_if 22 with (first|((with_reducible refine gate_dst (N:=18) rfl ?_);refine Kd.R_lit (Kd.int .i64) _ 3 ?hg (N:=18) ?hd (xs:=([wrap64 (Int.tdiv (wrap64 ((wrap64 (e6+e7))+1)) 2)]:List Int)) (inner:=[.int .i64 (wrap64 (Int.tdiv (wrap64 ((wrap64 (e6+e7))+1)) 2))]) (ok:=fun _=>True) (okp:=fun _=>True) ?hr ?hp (fun _ hk=>hk) trivial (Below.refl _ _) (Nat.le_refl _) (by simp) ?_;(case hd=>rfl);(case hg=>rfl);(case hr=>first|(go_simp;done)|(go_simp;rfl));(case hp=>exact(Reps.one (show Kd.M (Kd.int .i64) _ _ _ (wrap64 (Int.tdiv (wrap64 ((wrap64 (e6+e7))+1)) 2)) [.int .i64 (wrap64 (Int.tdiv (wrap64 ((wrap64 (e6+e7))+1)) 2))] from rfl) (Reps.none _ _)));intro g5 g6 g7 hb hg_ hnew_;clear hg_ hnew_;replace g7:=rY f7 g7;have g8:=rL g7;replace HB:=bB hb;clear hb g7;obtain⟨g9,j3,rfl⟩:=Kd.R_slice g8.out)|((with_reducible refine gc 83 rfl ?_);refine gC 83 (some 19) Try.func83 #[.slice a8 l1.length a9,.slice g9 f3.length j3] ?_;(with_reducible refine(Azq.calls k1 _ _ l1 _ _ f3 f5 _ ?_ ?_ ?_ ?_ f8.out).mono ?_);exact cB d6;exact d7.out;exact cR g8;exact lR g8;rintro e j4 ⟨j5,rfl,j6,hb⟩;refine⟨_,rfl,?_⟩;have j7:=rL (rn j6 g8);replace g8:=rE g8 j6 hb;replace HB:=bB hb;clear hb j6;obtain⟨j8,j9,rfl⟩:=Kd.R_slice j7.out)|((with_reducible refine gc 99 rfl ?_);refine gC 99 (some 21) Try.func99 #[.slice j8 f5.length j9,.slice a6 l0.length a7] ?_;(with_reducible refine(Bzj.calls k1 _ _ f5 _ _ l0 f6 _ ?_ ?_ ?_ ?_ f9.out).mono ?_);exact cR j7;exact lR j7;exact cB b8;exact b9.out;rintro e w' ⟨rfl,⟨nd,rfl⟩⟩;refine⟨_,rfl,?_⟩))
    have H:=g4.out;clear g4;replace H:=iD H;rcases H with⟨l6,H⟩|⟨l6,H⟩
    ·(first|rw[l6]|(simp only[i64_w,i32_w];rw[l6])|skip)
     have H':=aM H;clear H;go_wp2
     go_roundg k1
     case measure=>have:=e8.out;omega
     case rel=>exact⟨(wrap64 (Int.tdiv (wrap64 ((wrap64 (e6+e7))+1)) 2)),(e7),sD,sD,H',⟨by have:=e8.out;omega⟩,⟨pB⟩⟩
    ·(first|rw[l6]|(simp only[i64_w,i32_w];rw[l6])|skip)
     have H':=aM H;clear H;go_wp2
     go_roundg k1
     case measure=>have:=e8.out;omega
     case rel=>exact⟨(e6),(wrap64 ((wrap64 (Int.tdiv (wrap64 ((wrap64 (e6+e7))+1)) 2)) - 1)),sD,sD,H',⟨by have:=e8.out;omega⟩,⟨pB⟩⟩
   ·obtain rfl:=Option.some.inj H;go_wp2
    go_ret
    exact⟨eW,pB⟩


mutual
def Azz.j0:Nat→List Int→List Int→Bool→Option (List Int × List Int × Int)
 | 0,_,_,_=>none
 | k+1,x0,x1,x18=>if x18=true then(some (([]:List Int),([]:List Int),3)) else(if(x1.length:Int)=0 then(some (([]:List Int),([]:List Int),16)) else(if 0≤(x0.length:Int) then(if((x0.length:Int):Int).toNat≤35184372088832 then(Azz.l0 k x0 x1 (List.replicate ((x0.length:Int):Int).toNat 0) ([]:List Int) (wrap64 ((x0.length:Int) - 1))) else(none)) else(none)))
def Azz.l0:Nat→List Int→List Int→List Int→List Int→Int→Option (List Int × List Int × Int)
 | 0,_,_,_,_,_=>none
 | k+1,x0,x1,x7,x8,x9=>if x9≥0 then(if 0≤x9 then(if x9 < (x0.length:Int) then((some (([rd x0 x9]:List Int):List Int)).bind fun y607=>(if y607.length+x8.length < 17592186044416 then((some (y607 ++ x8:List Int)).bind fun y610=>(if 0≤(wrap64 ((y610.length:Int) - 1)) then(if(wrap64 ((y610.length:Int) - 1)) < (y610.length:Int) then(if(rd y610 (wrap64 ((y610.length:Int) - 1)))=0 then(Azz.j2 k x0 x1 x7 ([]:List Int) x9) else(Azz.j2 k x0 x1 x7 y610 x9)) else(none)) else(none))) else(none))) else(none)) else(none)) else((Bzq.f k x7).bind fun bt602=>(some (bt602.1,x8,0)))
def Azz.j2:Nat→List Int→List Int→List Int→List Int→Int→Option (List Int × List Int × Int)
 | 0,_,_,_,_,_=>none
 | k+1,x0,x1,x7,x8,x9=>(Bzz.f k x8 x1).bind fun t614=>(if 0≤x9 then(if x9 < (x7.length:Int) then((some (x7.set (x9:Int).toNat t614:List Int)).bind fun y615=>(if t614 > 0 then((Azq.f k x1 (([t614]:List Int))).bind fun t619=>((Azp.f k x8 t619).bind fun t622=>(Azz.l0 k x0 x1 y615 t622 (wrap64 (x9 - 1))))) else(Azz.l0 k x0 x1 y615 x8 (wrap64 (x9 - 1))))) else(none)) else(none))
end
def Azz.f (k:Nat) (l0:List Int) (l1:List Int):Option (List Int × List Int × Int):=(Azj.f k l0).bind fun t597=>(if t597=true then((Azj.f k l1).bind fun t598=>(Azz.j0 k l0 l1 (!t598))) else(Azz.j0 k l0 l1 true))
theorem Azz.mono_l:∀ k,(∀ a6 a7 a8,LeO (Azz.j0 k a6 a7 a8) (Azz.j0 (k+1) a6 a7 a8))∧(∀ a6 a7 a8 a9 b4,LeO (Azz.l0 k a6 a7 a8 a9 b4) (Azz.l0 (k+1) a6 a7 a8 a9 b4))∧(∀ a6 a7 a8 a9 b4,LeO (Azz.j2 k a6 a7 a8 a9 b4) (Azz.j2 (k+1) a6 a7 a8 a9 b4))
 | 0=>⟨fun _ _ _ r h=>by simp [Azz.j0] at h,fun _ _ _ _ _ r h=>by simp [Azz.l0] at h,fun _ _ _ _ _ r h=>by simp [Azz.j2] at h⟩
 | k+1=>by
  obtain⟨ih0,ih1,ih2⟩:=Azz.mono_l k;have i0:=@Azj.mono;have i1:=@Bzz.mono;have i2:=@Bzq.mono;have i3:=@Azp.mono;have i4:=@Azq.mono;refine⟨?_,?_,?_⟩
  ·intro a6 a7 a8;unfold Azz.j0;exact mM
  ·intro a6 a7 a8 a9 b4;unfold Azz.l0;exact mM
  ·intro a6 a7 a8 a9 b4;unfold Azz.j2;exact mM
theorem Azz.mono:∀ a6 a7 k,LeO (Azz.f k a6 a7) (Azz.f (k+1) a6 a7):=by
 intro a6 a7 k;obtain⟨ih0,ih1,ih2⟩:=Azz.mono_l k;unfold Azz.f;have i0:=@Azj.mono;have i1:=@Bzz.mono;have i2:=@Bzq.mono;have i3:=@Azp.mono;have i4:=@Azq.mono;exact mM
theorem Azz.calls (k:Nat) (a6:Option Addr) (a7:Nat) (l0:List Int) (a8:Option Addr) (a9:Nat) (l1:List Int) (b4:List Int) (b5:List Int) (b6:Int) (w:World) (b7:cI w a6 l0) (b8:l0.length≤a7) (b9:cI w a8 l1) (d6:l1.length≤a9) (h:Azz.f k l0 l1=some (b4,b5,b6)) :
  Calls Try.prog 86 #[.slice a6 l0.length a7,.slice a8 l1.length a9] w fun e w'=>∃ v0_ v1_:Value,e=.returned (.tuple #[v0_,v1_,.int .i64 b6])∧rI w' w (oV v1_) v0_ b4∧rI w' w (oV v0_) v1_ b5∧bw w w':=by
 have d7:=aM b7;have d8:=aM b8;clear b7 b8;have d9:=aM b9;have e6:=aM d6;clear b9 d6;have HB:=aM (Below.refl w.heap.size w);have H:((Azj.f k l0).bind fun e7=>(if e7=true then((Azj.f k l1).bind fun e8=>(Azz.j0 k l0 l1 (!e8))) else(Azz.j0 k l0 l1 true)))=some (b4,b5,b6):=h
 clear h;have e9:=aM H;clear H;go_enter Try.func86,Try.ntmps86
 go_upto_region 1 with (fail)
 go_cut [18] (fun f3 wc=>∃ (kq:Nat) (f4:Bool),f3=.bool f4∧Aside0 (Azz.j0 kq l0 l1 f4=some (b4,b5,b6))∧Aside0 (kq≤k)∧Aside0 (bw w wc))
 case first =>
  have H:=e9.out;clear e9;obtain⟨e7,f5,H⟩:=bT H;(try dsimp only at H);by_cases c5:e7=true
  ·subst c5;rw[if_pos rfl] at H;obtain⟨e8,f6,H⟩:=bT H;(try dsimp only at H);have H':=aM H;clear H;go_wp2_with (first|((with_reducible refine gc 70 rfl ?_);refine gC 70 (some 12) Try.func70 #[.slice a6 l0.length a7] ?_;(with_reducible refine(Azj.calls k _ _ l0 true _ ?_ ?_ f5.out).mono ?_);exact cB d7;exact d8.out;rintro e w' ⟨rfl,⟨nd,rfl⟩⟩;refine⟨_,rfl,?_⟩)|(go_at_call 70;(with_reducible refine(Azj.calls k _ _ l1 e8 _ ?_ ?_ f6.out).mono ?_);exact cB d9;exact e6.out;rintro e w' ⟨rfl,⟨nd,rfl⟩⟩))
   go_meet
   case rel=>exact⟨_,(!e8),sD,H',⟨by first|omega|exact Nat.le_refl _⟩,⟨pB⟩⟩
  ·obtain rfl:=bN c5;rw[if_neg nF] at H
   have H':=aM H;clear H;go_wp2_with (first|((with_reducible refine gc 70 rfl ?_);refine gC 70 (some 12) Try.func70 #[.slice a6 l0.length a7] ?_;(with_reducible refine(Azj.calls k _ _ l0 false _ ?_ ?_ f5.out).mono ?_);exact cB d7;exact d8.out;rintro e w' ⟨rfl,⟨nd,rfl⟩⟩;refine⟨_,rfl,?_⟩))
   go_meet
   case rel=>exact⟨_,(true),sD,H',⟨by first|omega|exact Nat.le_refl _⟩,⟨pB⟩⟩
 case rest =>
  clear e9;try clear a9
  obtain⟨kq,f4,rfl,HA,f7,HB⟩:=hcut;cases kq with
  | zero=>exact absurd HA.out (by simp [Azz.j0])
  | succ f8 =>
   have H:=HA.out;clear HA;simp only[Azz.j0] at H;by_cases c7:f4=true
   ·subst c7;rw[if_pos rfl] at H;obtain⟨rfl,rfl,rfl⟩:=q3 H;go_wp2
    go_ret3
    exact⟨_,_,eW,nK,nK,pB⟩
   ·obtain rfl:=bN c7;rw[if_neg nF] at H
    replace H:=iE H;rcases H with⟨f9,g4,H⟩|⟨c8,f9,g4,H⟩
    ·obtain⟨rfl,rfl,rfl⟩:=q3 H;go_wp2
     go_ret3
     exact⟨_,_,eW,nK,nK,pB⟩
    ·have g5:¬ (l1=[]):=fun h_=>c8 (by rw[h_];rfl)
     by_cases c9:0≤(l0.length:Int)
     ·rw[if_pos c9] at H;have g6:=eq_true c9;have g7:=dE c9;clear c9;obtain⟨c10,H⟩:=iO H;have g8:=eq_true c10;have g9:decide (((l0.length:Int):Int).toNat≤35184372088832)=true:=dE c10;clear c10;obtain⟨j3,j4⟩:∃ y_:List Int,y_=(List.replicate ((l0.length:Int):Int).toNat 0):=⟨_,rfl⟩;replace H:(Azz.l0 f8 l0 l1 j3 ([]:List Int) (wrap64 ((l0.length:Int) - 1)))=some (b4,b5,b6):=yE j4 H
      have j5:=aM j4;clear j4;have H':=aM H;clear H;go_wp2_with (first|((with_reducible refine gate_dst (N:=24) rfl ?_);refine Kd.R_make (Kd.int .i64) _ 3 rfl (N:=24) rfl 31 _ _ rfl (l0.length:Int) rfl rfl Try.underlying31 (.int .i64 0) 8 info3 rfl (by decide) (by omega) 0 (ok:=fun _=>True) (okp:=fun _=>True) rfl (fun _ hk=>hk) trivial (oE aS) (Nat.le_trans (Nat.mul_le_mul_right _ (oE aS:(l0.length:Int).toNat≤35184372088832)) (by omega)) (Below.refl _ _) (Nat.le_refl _) ?_;intro j6 j7 j8 hb hg_ hnew_;clear hg_ hnew_;replace j8:=rY j5 j8;have j9:=rL j8;replace HB:=bB hb;clear hb j8))
      go_loopg [8,9] f8 (fun kq l5 l6 w'=>∃ (l7:List Int) (l8:List Int) (l9:Int),l6=.int .i64 l9∧Aside0 (Azz.l0 kq l0 l1 l7 l8 l9=some (b4,b5,b6))∧Aside0 (kq≤f8)∧Aside0 (rI w' w (oV l5) j6 l7)∧Aside0 (rI w' w (oV j6) l5 l8)∧Aside0 (bw w w'))
      case atStart=>exact⟨(j3),(([]:List Int)),(wrap64 ((l0.length:Int) - 1)),sD,H',⟨Nat.le_refl _⟩,⟨by exact rX (Kd.R_mono j9.out (fun _ hk=>(by simp [Value.ownBlock])))⟩,⟨nK⟩,⟨pB⟩⟩
      case round =>
       clear H';try clear a9
       obtain⟨l7,l8,l9,rfl,HA,m0,m4,m5,HB⟩:=hrel;cases gk with
       | zero=>exact absurd HA.out (by simp [Azz.l0])
       | succ k2 =>
        have H:=HA.out;clear HA;simp only[Azz.l0] at H;by_cases m6:l9≥0
        ·rw[if_pos m6] at H;have m7:decide (0≤l9)=true:=dE m6;clear m6;obtain⟨m8,H⟩:=iN H;obtain⟨m9,H⟩:=iN H;obtain⟨n0,n7⟩:∃ y_:List Int,y_=(([rd l0 l9]:List Int)):=⟨_,rfl⟩;replace H:(if n0.length+l8.length < 17592186044416 then((some (n0 ++ l8:List Int)).bind fun n8=>(if 0≤(wrap64 ((n8.length:Int) - 1)) then(if(wrap64 ((n8.length:Int) - 1)) < (n8.length:Int) then(if(rd n8 (wrap64 ((n8.length:Int) - 1)))=0 then(Azz.j2 k2 l0 l1 l7 ([]:List Int) l9) else(Azz.j2 k2 l0 l1 l7 n8 l9)) else(none)) else(none))) else(none))=some (b4,b5,b6):=yE n7 H
         have n9:=aM n7;clear n7;obtain⟨o0,H⟩:=iO H;have LMc16:=aM o0;clear o0;obtain⟨n8,o8⟩:∃ y_:List Int,y_=(n0 ++ l8):=⟨_,rfl⟩;replace H:(if 0≤(wrap64 ((n8.length:Int) - 1)) then(if(wrap64 ((n8.length:Int) - 1)) < (n8.length:Int) then(if(rd n8 (wrap64 ((n8.length:Int) - 1)))=0 then(Azz.j2 k2 l0 l1 l7 ([]:List Int) l9) else(Azz.j2 k2 l0 l1 l7 n8 l9)) else(none)) else(none))=some (b4,b5,b6):=yE o8 H
         have o9:=aM o8;clear o8;obtain⟨p0,p4⟩:∃ j_:Int,(wrap64 ((n8.length:Int) - 1))=j_:=⟨_,rfl⟩;replace H:(if 0≤(p0) then(if(p0) < (n8.length:Int) then(if(rd n8 (p0))=0 then(Azz.j2 k2 l0 l1 l7 ([]:List Int) l9) else(Azz.j2 k2 l0 l1 l7 n8 l9)) else(none)) else(none))=some (b4,b5,b6):=by first|(rw[p4] at H;exact H)|(simp only[p4] at H ⊢;exact H)
         have p7:(IntKind.i64.wrap ((n8.length:Int) - 1))=p0:=(i64_w _).trans p4;obtain⟨p9,H⟩:=iN H;obtain⟨r5,H⟩:=iN H;have r6:=aM H;clear H;obtain⟨r7,r8,r9,t4,t5⟩:=aI d7.out l9;cases r8
         replace r9:=hB HB r9;go_upto_if 45 with (first|((with_reducible refine gd 36 rfl ?_);refine iL 36 [rd l0 l9] ?_;intro t6 t7 t8 hb;replace t8:=rY n9 t8;have t9:=rL (rn (rn t8 m4) m5);replace m4:=rE m4 t8 hb;replace m5:=rE m5 t8 hb;replace HB:=bB hb;clear hb t8;obtain⟨y9,z3,rfl⟩:=Kd.R_slice m5.out)|((with_reducible refine gate_builtin (b:=.append) (xs:=#[.tmp 36,.tmp 37]) rfl ?_);at_builtin;refine Kd.R_append_rows (Kd.int .i64) (w0:=w) w.heap.size rfl (.tmp 36) (.tmp 37) 31 3 (.int .i64 0) 8 rfl Try.underlying31 info3 rfl (by decide) (by omega) t6 n0 l8 _ _ _ (fun k_=>oV j6 k_∧oN y9 l8.length z3 k_) (fun _=>False) rfl rfl ?aO ?aR (fun _ _ h=>h) (fun _ h=>h.elim) ?aF ?aB ?aS ?aL ?_;(case aR=>exact cR m5);(case aB=>exact pB);(case aF=>exact(fun k_ hk=>⟨Kd.fresh' (Kd.R_lt (rX m4.out)) k_ hk,Kd.fresh' (Kd.R_lt (rX m5.out)) k_ hk⟩));(case aO=>exact(rX (Kd.R_mono t9.out (fun _ hk=>⟨hk.1.2,hk.2⟩))));(case aS=>exact(below_size pB));(case aL=>have:=LMc16.out;omega);intro z4 z5 ho hb hg hat;rw[← o9.out] at ho;have z6:=aM (ho);replace m4:=aM (Kd.R_after (ok:=(fun k_=>oN y9 l8.length z3 k_)) (rX m4.out) hg hat);replace m5:=aM (Kd.R_after (ok:=(oV j6)) (rX m5.out) hg hat);replace HB:=aM (hb);clear t9 ho hb hg hat;obtain⟨z7,z8,rfl⟩:=Kd.R_slice z6.out;obtain⟨z9,B0,B5,B9,C0⟩:=aI (Kd.R_reads' z6.out).2.2 (p0);cases B0))
         (try simp only[Act.put,sA,sZ,sC])
         go_cut [8] (fun l5 wc=>∃ (kq:Nat) (C1:List Int),Aside0 (Azz.j2 kq l0 l1 l7 C1 l9=some (b4,b5,b6))∧Aside0 (kq≤k2)∧Aside0 (rI wc w (oV l5) j6 l7)∧Aside0 (rI wc w (oV j6) l5 C1)∧Aside0 (bw w wc))
         case first =>
          have H:=r6.out;clear r6;replace H:=iE H;rcases H with⟨C3,C4,H⟩|⟨C2,C3,C4,H⟩
          ·(first|rw[C3]|(simp only[i64_w,i32_w];rw[C3])|skip)
           have H':=aM H;clear H;go_wp2
           go_meet
           case rel=>exact⟨_,(([]:List Int)),H',⟨by have:=f7.out;have:=m0.out;first|omega|exact Nat.le_refl _⟩,⟨by exact rX (Kd.R_mono m4.out (fun _ hk=>(by simp [Value.ownBlock])))⟩,⟨nK⟩,⟨pB⟩⟩
          ·(first|rw[C3]|(simp only[i64_w,i32_w];rw[C3])|skip)
           have H':=aM H;clear H;go_wp2
           go_meet
           case rel=>exact⟨_,(n8),H',⟨by have:=f7.out;have:=m0.out;first|omega|exact Nat.le_refl _⟩,⟨by exact rX (Kd.R_mono m4.out (fun _ hk=>hk.2))⟩,⟨by exact rX (Kd.R_mono z6.out (fun _ hk=>hk.1))⟩,⟨pB⟩⟩
         case rest =>
          clear r6;try clear a9
          obtain⟨kq,C1,HA,C6,m4,m5,HB⟩:=hcut;cases kq with
          | zero=>exact absurd HA.out (by simp [Azz.j2])
          | succ C7 =>
           have H:=HA.out;clear HA;simp only[Azz.j2] at H;obtain⟨C8,C9,H⟩:=bT H;(try dsimp only at H);obtain⟨D2,H⟩:=iN H;obtain⟨D3,H⟩:=iN H;obtain⟨D4,D5⟩:∃ y_:List Int,y_=(l7.set (l9:Int).toNat C8):=⟨_,rfl⟩;replace H:(if C8 > 0 then((Azq.f C7 l1 (([C8]:List Int))).bind fun D6=>((Azp.f C7 C1 D6).bind fun D7=>(Azz.l0 C7 l0 l1 D4 D7 (wrap64 (l9 - 1))))) else(Azz.l0 C7 l0 l1 D4 C1 (wrap64 (l9 - 1))))=some (b4,b5,b6):=yE D5 H
           have D8:=aM D5;clear D5;have D9:=aM H;clear H;obtain⟨E0,E1,rfl⟩:=Kd.R_slice m5.out;go_upto_if 54 with (first|((with_reducible refine gc 107 rfl ?_);refine gC 107 (some 48) Try.func107 #[.slice E0 C1.length E1,.slice a8 l1.length a9] ?_;(with_reducible refine(Bzz.calls C7 _ _ C1 _ _ l1 C8 _ ?_ ?_ ?_ ?_ C9.out).mono ?_);exact cR m5;exact lR m5;exact cB d9;exact e6.out;rintro e E2 ⟨rfl,hb⟩;refine⟨_,rfl,?_⟩;replace m4:=rB m4 hb;replace m5:=rB m5 hb;replace HB:=bB hb;clear hb;have E3:0≤(l9:Int):=oE aS;have E4:(l9:Int) < ((l7.length:Int):Int):=oE aS;obtain⟨E5,E6,E7,E8,E9,F0,F2⟩:=Kd.R_form m4.out (by omega);(first|cases E7|(injection E7 with ea_ en_ ec_;(first|subst ea_|(injection ea_ with ea_;subst ea_));subst ec_;clear en_));have F3:=aM E8;have F4:=aM F2;clear E8 E9 F2;obtain⟨F5,F6⟩:=Kd.R_celln 0 m4.out (l9:Int) E3 E4;replace E3:=eq_true E3;replace E4:=eq_true E4;obtain⟨F7,hz34_⟩:=Kd.R_celln 0 m4.out (l9:Int) (oE aS) (oE aS);have F8:=Kd.R_putg m4.out (l9:Int) C8)|((with_reducible refine gate_store (t:=3) (p:=52) rfl ?_);refine store_event (t:=3) (p:=52) (v:=?vo_w35) (w1:=(E2.setCell ⟨E5,(l9:Int).toNat,none⟩ (.int .i64 C8))) ?hg ?ho ?hn ?hr ?_;(case ho=>rfl);(case hg=>rfl);(case hn=>rfl);(case hr=>first|(go_simp;done)|(go_simp;rfl));intro F9 hw;have hg:E2.grownBy F9 (some E5):=(by rw[hw];exact F8.2);have hp_:rI F9 w (fun k_=>oN E0 C1.length E1 k_) (.slice (some ⟨E5,0,none⟩) l7.length E6) D4:=(by rw[hw,D8.out];exact F8.1);clear F8;replace m4:=aM (hp_);replace m5:=aM (Kd.R_after (v:=(.slice (some ⟨E5,0,none⟩) l7.length E6)) (v1:=(.slice (some ⟨E5,0,none⟩) l7.length E6)) (ok:=(fun _=>True)) (rX (Kd.R_mono m5.out (fun _ hk=>⟨trivial,hk⟩))) hg (.inl rfl));replace HB:=aM ((by rw[hw];exact below_set (HB.out) F3.out:bw w F9));clear hg hw hp_))
           have H:=D9.out;clear D9;by_cases G5:C8 > 0
           ·rw[if_pos G5] at H;have G9:decide (0 < C8)=true:=dE G5;clear G5;(first|rw[G9]|(simp only[i64_w,i32_w];rw[G9])|skip)
            obtain⟨H5,H6⟩:∃ y_:List Int,y_=(([C8]:List Int)):=⟨_,rfl⟩;replace H:((Azq.f C7 l1 H5).bind fun D6=>((Azp.f C7 C1 D6).bind fun D7=>(Azz.l0 C7 l0 l1 D4 D7 (wrap64 (l9 - 1)))))=some (b4,b5,b6):=yE H6 H
            have H7:=aM H6;clear H6;obtain⟨D6,H8,H⟩:=bT H;(try dsimp only at H);obtain⟨D7,H9,H⟩:=bT H;(try dsimp only at H);have H':=aM H;clear H;go_wp2_with (first|((with_reducible refine gd 58 rfl ?_);refine iL 58 [C8] ?_;intro I0 I3 I4 hb;replace I4:=rY H7 I4;have I5:=rL (rn (rn I4 m4) m5);replace m4:=rE m4 I4 hb;replace m5:=rE m5 I4 hb;replace HB:=bB hb;clear hb I4;obtain⟨I6,I7,rfl⟩:=Kd.R_slice I5.out)|((with_reducible refine gc 83 rfl ?_);refine gC 83 (some 59) Try.func83 #[.slice a8 l1.length a9,.slice I6 H5.length I7] ?_;(with_reducible refine(Azq.calls C7 _ _ l1 _ _ H5 D6 _ ?_ ?_ ?_ ?_ H8.out).mono ?_);exact cB d9;exact e6.out;exact cR I5;exact lR I5;rintro e I8 ⟨I9,rfl,J0,hb⟩;refine⟨_,rfl,?_⟩;have J1:=rL (rn (rn (rn J0 m4) m5) I5);replace m4:=rE m4 J0 hb;replace m5:=rE m5 J0 hb;replace I5:=rE I5 J0 hb;replace HB:=bB hb;clear hb J0;obtain⟨J2,J3,rfl⟩:=Kd.R_slice J1.out)|((with_reducible refine gc 106 rfl ?_);refine gC 106 (some 60) Try.func106 #[.slice E0 C1.length E1,.slice J2 D6.length J3] ?_;(with_reducible refine(Azp.calls C7 _ _ C1 _ _ D6 D7 _ ?_ ?_ ?_ ?_ H9.out).mono ?_);exact cR m5;exact lR m5;exact cR J1;exact lR J1;rintro e J4 ⟨J5,rfl,J0,hb⟩;refine⟨_,rfl,?_⟩;have J6:=rL (rn (rn (rn (rn J0 m4) m5) I5) J1);replace m4:=rE m4 J0 hb;replace m5:=rE m5 J0 hb;replace I5:=rE I5 J0 hb;replace J1:=rE J1 J0 hb;replace HB:=bB hb;clear hb J0))
            go_roundg C7
            case measure=>have:=f7.out;have:=m0.out;have:=C6.out;omega
            case rel=>exact⟨(D4),(D7),(wrap64 (l9 - 1)),sD,H',⟨by have:=f7.out;have:=m0.out;have:=C6.out;omega⟩,⟨by exact rX (Kd.R_mono m4.out (fun _ hk=>hk.2))⟩,⟨by exact rX (Kd.R_mono J6.out (fun _ hk=>hk.1.1.1.2))⟩,⟨pB⟩⟩
           ·rw[if_neg G5] at H;have G9:decide (0 < C8)=false:=decide_eq_false G5;clear G5;(first|rw[G9]|(simp only[i64_w,i32_w];rw[G9])|skip)
            have H':=aM H;clear H;go_wp2
            go_roundg C7
            case measure=>have:=f7.out;have:=m0.out;have:=C6.out;omega
            case rel=>exact⟨(D4),(C1),(wrap64 (l9 - 1)),sD,H',⟨by have:=f7.out;have:=m0.out;have:=C6.out;omega⟩,⟨rX m4.out⟩,⟨by exact rX (Kd.R_mono m5.out (fun _ hk=>hk.2))⟩,⟨pB⟩⟩
        ·rw[if_neg m6] at H;have m7:decide (0≤l9)=false:=decide_eq_false m6;clear m6;replace H:=bS H;obtain⟨⟨J7,J8⟩,J9,H⟩:=H;replace H:(some (J7,l8,0))=some (b4,b5,b6):=H;have K0:=aM J9;clear J9;obtain⟨rfl,rfl,rfl⟩:=q3 H;obtain⟨K1,K2,rfl⟩:=Kd.R_slice m4.out;go_wp2_with (first|((with_reducible refine gc 82 rfl ?_);refine gC 82 (some 63) Try.func82 #[.slice K1 l7.length K2] ?_;(with_reducible refine(Bzq.calls k2 _ _ l7 J7 J8 _ ?_ ?_ K0.out).mono ?_);exact cR m4;exact lR m4;rintro e K3 ⟨K4,rfl,J0,hb⟩;refine⟨_,rfl,?_⟩;have K5:=rL (rn (rn J0 m4) m5);replace m4:=rE m4 J0 hb;replace m5:=rE m5 J0 hb;replace HB:=bB hb;clear hb J0))
         go_ret3
         exact⟨_,_,eW,by exact rX (Kd.R_mono K5.out (fun _ hk=>hk.2)),by exact rX (Kd.R_mono m5.out (fun _ hk=>hk.2)),pB⟩
     ·rw[if_neg c9] at H;exact absurd H (by simp)

end Go.Proofs.Ytbnpcplckcipfaa.Print
