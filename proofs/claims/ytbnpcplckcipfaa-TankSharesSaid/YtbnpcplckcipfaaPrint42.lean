import Derived.Test.YtbnpcplckcipfaaPrint0
import Derived.Test.YtbnpcplckcipfaaPrint38
namespace Go.Proofs.Ytbnpcplckcipfaa.Print
open Go.RowKit Go.Proofs.YtbnpcplckcipfaaW.PrintWords Go.Proofs.YtbnpcplckcipfaaW.PrintLast Go.Proofs.YtbnpcplckcipfaaW.PrintMore
attribute [local go_sem] max2_int min2_int max_two min_two max_three min_three max_four min_four
set_option linter.unusedVariables false
set_option maxRecDepth 100000
set_option maxHeartbeats 8000000
set_option linter.unusedSimpArgs false

def Bzw.l0:Nat→List Int→List Int→List Int→Int→Int→Option (List Int)
 | 0,_,_,_,_,_=>none
 | k+1,x0,x1,x5,x6,x7=>if x7 < (x0.length:Int) then(if 0≤x7 then((Ezq.f x1 x7).bind fun t575=>(if(wrap64 ((wrap64 ((rd x0 x7) - t575)) - x6)) < 0 then(if x5.length < 17592186044416 then(Bzw.l0 k x0 x1 (x5 ++ [wrap64 ((wrap64 ((wrap64 ((rd x0 x7) - t575)) - x6))+1000000000)]) 1 (wrap64 (x7+1))) else(none)) else(if x5.length < 17592186044416 then(Bzw.l0 k x0 x1 (x5 ++ [wrap64 ((wrap64 ((rd x0 x7) - t575)) - x6)]) 0 (wrap64 (x7+1))) else(none)))) else(none)) else((Bzz.f k x5).bind fun bt582=>(some bt582.1))
def Bzw.f (k:Nat) (l0:List Int) (l1:List Int):Option (List Int):=Bzw.l0 k l0 l1 ([]:List Int) 0 0
theorem Bzw.mono_l:∀ k,(∀ a6 a7 a8 a9 b4,LeO (Bzw.l0 k a6 a7 a8 a9 b4) (Bzw.l0 (k+1) a6 a7 a8 a9 b4))
 | 0=>fun _ _ _ _ _ r h=>by simp [Bzw.l0] at h
 | k+1=>by
  have ih0:=Bzw.mono_l k
  ·intro a6 a7 a8 a9 b4;unfold Bzw.l0;have i0:=@Bzz.mono;exact mM
theorem Bzw.mono:∀ a6 a7 k,LeO (Bzw.f k a6 a7) (Bzw.f (k+1) a6 a7):=by
 intro a6 a7 k;have ih0:=Bzw.mono_l k;unfold Bzw.f;have i0:=@Bzz.mono;exact mM
theorem Bzw.calls (k:Nat) (a6:Option Addr) (a7:Nat) (l0:List Int) (a8:Option Addr) (a9:Nat) (l1:List Int) (r:List Int) (w:World) (b4:cI w a6 l0) (b5:l0.length≤a7) (b6:cI w a8 l1) (b7:l1.length≤a9) (h:Bzw.f k l0 l1=some r) :
  Calls Try.prog 106 #[.slice a6 l0.length a7,.slice a8 l1.length a9] w fun e w'=>∃ v0_:Value,e=.returned (v0_)∧rI w' w (fun _=>True) v0_ r∧bw w w':=by
 have b8:=aM b4;have b9:=aM b5;clear b4 b5;have d6:=aM b6;have d7:=aM b7;clear b6 b7;have HB:=aM (Below.refl w.heap.size w);have H:(Bzw.l0 k l0 l1 ([]:List Int) 0 0)=some r:=h;clear h;have H':=aM H;clear H;go_enter Try.func106,Try.ntmps106
 go_wp2
 repeat(go_quiet (fail);try go_wp2)
 go_loopg [5,6,7] k (fun kq d8 d9 e6 w'=>∃ (e7:List Int) (e8:Int) (e9:Int),d9=.int .i64 e8∧e6=.int .i64 e9∧Aside0 (Bzw.l0 kq l0 l1 e7 e8 e9=some r)∧Aside0 (kq≤k)∧Aside0 (rI w' w (fun _=>True) d8 e7)∧Aside0 (bw w w'))
 case atStart=>exact⟨(([]:List Int)),(0),(0),sD,sD,H',⟨Nat.le_refl _⟩,⟨nK⟩,⟨pB⟩⟩
 case round =>
  clear H';try clear a9
  obtain⟨e7,e8,e9,rfl,rfl,HA,f3,f4,HB⟩:=hrel;cases gk with
  | zero=>exact absurd HA.out (by simp [Bzw.l0])
  | succ k1 =>
   have H:=HA.out;clear HA;simp only[Bzw.l0] at H;by_cases c3:e9 < (l0.length:Int)
   ·rw[if_pos c3] at H;have f5:=dE c3;clear c3;obtain⟨f6,H⟩:=iN H;obtain⟨f7,f8,H⟩:=bT H;(try dsimp only at H);have f9:=aM H;clear H;obtain⟨g4,g5,g6,g7,g8⟩:=aI b8.out e9;cases g5
    replace g6:=hB HB g6;go_upto_if 26 with (first|(go_at_call 105;(with_reducible refine(Ezq.calls _ _ l1 e9 f7 _ ?_ ?_ f8.out).mono ?_);exact cB d6;exact d7.out;rintro e w' ⟨rfl,⟨nd,rfl⟩⟩;(try exact dD)))
    repeat(go_quiet (first|(go_at_call 105;(with_reducible refine(Ezq.calls _ _ l1 e9 f7 _ ?_ ?_ f8.out).mono ?_);exact cB d6;exact d7.out;rintro e w' ⟨rfl,⟨nd,rfl⟩⟩;(try exact dD)));go_upto_if 26 with (first|(go_at_call 105;(with_reducible refine(Ezq.calls _ _ l1 e9 f7 _ ?_ ?_ f8.out).mono ?_);exact cB d6;exact d7.out;rintro e w' ⟨rfl,⟨nd,rfl⟩⟩;(try exact dD))))
    have H:=f9.out;clear f9;by_cases c7:(wrap64 ((wrap64 ((rd l0 e9) - f7)) - e8)) < 0
    ·rw[if_pos c7] at H;have g9:decide ((wrap64 ((wrap64 ((rd l0 e9) - f7)) - e8)) < 0)=true:=dE c7;have j3:decide ((IntKind.i64.wrap ((IntKind.i64.wrap ((rd l0 e9) - f7)) - e8)) < 0)=true:=by have h_:=g9;first|exact h_|(simp only[i64_w];exact h_)
     clear c7;(first|rw[g9]|(simp only[i64_w,i32_w];rw[g9])|skip)
     obtain⟨c8,H⟩:=iO H;have LMc8:=aM c8;clear c8;obtain⟨j4,j5⟩:∃ y_:List Int,y_=(e7 ++ [wrap64 ((wrap64 ((wrap64 ((rd l0 e9) - f7)) - e8))+1000000000)]):=⟨_,rfl⟩;replace H:(Bzw.l0 k1 l0 l1 j4 1 (wrap64 (e9+1)))=some r:=yE j5 H
     have j6:=aM j5;clear j5;have H':=aM H;clear H;have fl_:True:=trivial;repeat((first|clear fl_|go_quiet (first|((with_reducible refine gate_builtin (b:=.append) (xs:=#[.tmp 29,.tmp 31]) rfl ?_);at_builtin;refine Kd.R_append (Kd.int .i64) (w0:=w) w.heap.size rfl (.tmp 29) (.tmp 31) 31 3 (.int .i64 0) 8 rfl Try.underlying31 info3 rfl (by decide) (by omega) u5 e7 (wrap64 ((wrap64 ((wrap64 ((rd l0 e9) - f7)) - e8))+1000000000)) [.int .i64 (wrap64 ((wrap64 ((wrap64 ((rd l0 e9) - f7)) - e8))+1000000000))] (fun _=>True) (fun _=>False) rfl rfl ?aP (fun _ hk=>hk.elim) ?aF ?aO ?aB ?aS ?aL ?_;(case aP=>exact rfl);(case aB=>exact pB);(case aF=>exact(fun _ _=>trivial));(case aO=>exact(rX f4.out));(case aS=>exact(below_size pB));(case aL=>have:=LMc8.out;omega);intro j7 j8 ho hb hg hat;rw[← j6.out] at ho;have j9:=aM (ho);replace HB:=aM (hb);clear f4 ho hb hg hat)));go_wp2_with (first|((with_reducible refine gate_builtin (b:=.append) (xs:=#[.tmp 29,.tmp 31]) rfl ?_);at_builtin;refine Kd.R_append (Kd.int .i64) (w0:=w) w.heap.size rfl (.tmp 29) (.tmp 31) 31 3 (.int .i64 0) 8 rfl Try.underlying31 info3 rfl (by decide) (by omega) u5 e7 (wrap64 ((wrap64 ((wrap64 ((rd l0 e9) - f7)) - e8))+1000000000)) [.int .i64 (wrap64 ((wrap64 ((wrap64 ((rd l0 e9) - f7)) - e8))+1000000000))] (fun _=>True) (fun _=>False) rfl rfl ?aP (fun _ hk=>hk.elim) ?aF ?aO ?aB ?aS ?aL ?_;(case aP=>exact rfl);(case aB=>exact pB);(case aF=>exact(fun _ _=>trivial));(case aO=>exact(rX f4.out));(case aS=>exact(below_size pB));(case aL=>have:=LMc8.out;omega);intro j7 j8 ho hb hg hat;rw[← j6.out] at ho;have j9:=aM (ho);replace HB:=aM (hb);clear f4 ho hb hg hat)))
     go_roundg k1
     case measure=>have:=f3.out;omega
     case rel=>exact⟨(j4),(1),(wrap64 (e9+1)),sD,sD,H',⟨by have:=f3.out;omega⟩,⟨rX j9.out⟩,⟨pB⟩⟩
    ·rw[if_neg c7] at H;have g9:decide ((wrap64 ((wrap64 ((rd l0 e9) - f7)) - e8)) < 0)=false:=decide_eq_false c7;have j3:decide ((IntKind.i64.wrap ((IntKind.i64.wrap ((rd l0 e9) - f7)) - e8)) < 0)=false:=by have h_:=g9;first|exact h_|(simp only[i64_w];exact h_)
     clear c7;(first|rw[g9]|(simp only[i64_w,i32_w];rw[g9])|skip)
     obtain⟨c10,H⟩:=iO H;have LMc10:=aM c10;clear c10;obtain⟨l5,l6⟩:∃ y_:List Int,y_=(e7 ++ [wrap64 ((wrap64 ((rd l0 e9) - f7)) - e8)]):=⟨_,rfl⟩;replace H:(Bzw.l0 k1 l0 l1 l5 0 (wrap64 (e9+1)))=some r:=yE l6 H
     have l7:=aM l6;clear l6;have H':=aM H;clear H;have fl_:True:=trivial;repeat((first|clear fl_|go_quiet (first|((with_reducible refine gate_builtin (b:=.append) (xs:=#[.tmp 29,.tmp 31]) rfl ?_);at_builtin;refine Kd.R_append (Kd.int .i64) (w0:=w) w.heap.size rfl (.tmp 29) (.tmp 31) 31 3 (.int .i64 0) 8 rfl Try.underlying31 info3 rfl (by decide) (by omega) u5 e7 (wrap64 ((wrap64 ((rd l0 e9) - f7)) - e8)) [.int .i64 (wrap64 ((wrap64 ((rd l0 e9) - f7)) - e8))] (fun _=>True) (fun _=>False) rfl rfl ?aP (fun _ hk=>hk.elim) ?aF ?aO ?aB ?aS ?aL ?_;(case aP=>exact rfl);(case aB=>exact pB);(case aF=>exact(fun _ _=>trivial));(case aO=>exact(rX f4.out));(case aS=>exact(below_size pB));(case aL=>have:=LMc10.out;omega);intro l8 l9 ho hb hg hat;rw[← l7.out] at ho;have m0:=aM (ho);replace HB:=aM (hb);clear f4 ho hb hg hat)));go_wp2_with (first|((with_reducible refine gate_builtin (b:=.append) (xs:=#[.tmp 29,.tmp 31]) rfl ?_);at_builtin;refine Kd.R_append (Kd.int .i64) (w0:=w) w.heap.size rfl (.tmp 29) (.tmp 31) 31 3 (.int .i64 0) 8 rfl Try.underlying31 info3 rfl (by decide) (by omega) u5 e7 (wrap64 ((wrap64 ((rd l0 e9) - f7)) - e8)) [.int .i64 (wrap64 ((wrap64 ((rd l0 e9) - f7)) - e8))] (fun _=>True) (fun _=>False) rfl rfl ?aP (fun _ hk=>hk.elim) ?aF ?aO ?aB ?aS ?aL ?_;(case aP=>exact rfl);(case aB=>exact pB);(case aF=>exact(fun _ _=>trivial));(case aO=>exact(rX f4.out));(case aS=>exact(below_size pB));(case aL=>have:=LMc10.out;omega);intro l8 l9 ho hb hg hat;rw[← l7.out] at ho;have m0:=aM (ho);replace HB:=aM (hb);clear f4 ho hb hg hat)))
     go_roundg k1
     case measure=>have:=f3.out;omega
     case rel=>exact⟨(l5),(0),(wrap64 (e9+1)),sD,sD,H',⟨by have:=f3.out;omega⟩,⟨rX m0.out⟩,⟨pB⟩⟩
   ·rw[if_neg c3] at H;have f5:decide (e9 < (l0.length:Int))=false:=decide_eq_false c3;clear c3;replace H:=bS H;obtain⟨⟨m4,m5⟩,m6,H⟩:=H;replace H:(some m4)=some r:=H;have m7:=aM m6;clear m6;obtain rfl:=Option.some.inj H;obtain⟨m8,m9,rfl⟩:=Kd.R_slice f4.out;have fl_:True:=trivial;repeat((first|clear fl_|go_quiet (first|(go_at_call 82;(with_reducible refine(Bzz.calls k1 _ _ e7 m4 m5 _ ?_ ?_ m7.out).mono ?_);exact cR f4;exact lR f4;rintro e n0 ⟨n7,rfl,n8,hb⟩;have n9:=rL (rn n8 f4);replace f4:=rE f4 n8 hb;replace HB:=bB hb;clear hb n8)));go_wp2_with (first|(go_at_call 82;(with_reducible refine(Bzz.calls k1 _ _ e7 m4 m5 _ ?_ ?_ m7.out).mono ?_);exact cR f4;exact lR f4;rintro e n0 ⟨n7,rfl,n8,hb⟩;have n9:=rL (rn n8 f4);replace f4:=rE f4 n8 hb;replace HB:=bB hb;clear hb n8)))
    go_ret
    exact⟨_,eW,by exact rX (Kd.R_mono n9.out (fun _ hk=>trivial)),pB⟩

def Bzq.l0:Nat→List Int→List Int→Int→Option (Int)
 | 0,_,_,_=>none
 | k+1,x0,x1,x5=>if x5≥0 then(if 0≤x5 then(if x5 < (x0.length:Int) then(if x5 < (x1.length:Int) then(if(rd x0 x5) < (rd x1 x5) then(some (-1)) else(if(rd x0 x5) > (rd x1 x5) then(some 1) else(Bzq.l0 k x0 x1 (wrap64 (x5 - 1))))) else(none)) else(none)) else(none)) else(some 0)
def Bzq.f (k:Nat) (l0:List Int) (l1:List Int):Option (Int):=if(l0.length:Int)=(l1.length:Int) then(Bzq.l0 k l0 l1 (wrap64 ((l0.length:Int) - 1))) else(if(l0.length:Int) < (l1.length:Int) then(some (-1)) else(some 1))
theorem Bzq.mono_l:∀ k,(∀ a6 a7 a8,LeO (Bzq.l0 k a6 a7 a8) (Bzq.l0 (k+1) a6 a7 a8))
 | 0=>fun _ _ _ r h=>by simp [Bzq.l0] at h
 | k+1=>by
  have ih0:=Bzq.mono_l k
  ·intro a6 a7 a8;unfold Bzq.l0;exact mM
theorem Bzq.mono:∀ a6 a7 k,LeO (Bzq.f k a6 a7) (Bzq.f (k+1) a6 a7):=by
 intro a6 a7 k;have ih0:=Bzq.mono_l k;unfold Bzq.f;exact mM
theorem Bzq.calls (k:Nat) (a6:Option Addr) (a7:Nat) (l0:List Int) (a8:Option Addr) (a9:Nat) (l1:List Int) (r:Int) (w:World) (b4:cI w a6 l0) (b5:l0.length≤a7) (b6:cI w a8 l1) (b7:l1.length≤a9) (h:Bzq.f k l0 l1=some r) :
  Calls Try.prog 99 #[.slice a6 l0.length a7,.slice a8 l1.length a9] w fun e w'=>e=.returned (.int .i64 r)∧Drawn0 w w':=by
 have b8:=aM b4;have b9:=aM b5;clear b4 b5;have d6:=aM b6;have d7:=aM b7;clear b6 b7;have H:(if(l0.length:Int)=(l1.length:Int) then(Bzq.l0 k l0 l1 (wrap64 ((l0.length:Int) - 1))) else(if(l0.length:Int) < (l1.length:Int) then(some (-1)) else(some 1)))=some r:=h
 clear h;by_cases c3:(l0.length:Int)=(l1.length:Int)
 ·rw[if_pos c3] at H;obtain⟨d8,d9⟩:=bE c3;have e6:(l0.length == l1.length)=true:=by first|simpa using c3|(simp at c3 ⊢;omega)
  clear c3;have H':=aM H;clear H;go_enter Try.func99,Try.ntmps99
  go_wp2
  repeat(go_quiet (fail);try go_wp2)
  go_loopg [5] k (fun kq e7 w'=>∃ (e8:Int),e7=.int .i64 e8∧Aside0 (Bzq.l0 kq l0 l1 e8=some r)∧Aside0 (kq≤k)∧Drawn0 w w')
  case atStart=>exact⟨(wrap64 ((l0.length:Int) - 1)),sD,H',⟨Nat.le_refl _⟩,dR⟩
  case round =>
   clear H';try clear a9
   obtain⟨e8,rfl,HA,e9,⟨f3,rfl⟩⟩:=hrel;cases gk with
   | zero=>exact absurd HA.out (by simp [Bzq.l0])
   | succ k1 =>
    have H:=HA.out;clear HA;simp only[Bzq.l0] at H;by_cases c4:e8≥0
    ·rw[if_pos c4] at H;have f4:decide (0≤e8)=true:=dE c4;clear c4;obtain⟨f5,H⟩:=iN H;obtain⟨f6,H⟩:=iN H;obtain⟨f7,H⟩:=iN H;replace H:=iD H;rcases H with⟨f8,H⟩|⟨f8,H⟩
     ·obtain rfl:=Option.some.inj H;obtain⟨f9,g4,g5,g6,g7⟩:=aI b8.out e8;cases g4;obtain⟨g8,g9,j3,j4,j5⟩:=aI d6.out e8;cases g9;go_wp2
      repeat(go_quiet (fail);try go_wp2)
      go_ret
      exact⟨sD,dR⟩
     ·by_cases c9:(rd l0 e8) > (rd l1 e8)
      ·rw[if_pos c9] at H;have j6:decide ((rd l1 e8) < (rd l0 e8))=true:=dE c9;clear c9;obtain rfl:=Option.some.inj H;obtain⟨f9,g4,g5,g6,g7⟩:=aI b8.out e8;cases g4;obtain⟨g8,g9,j3,j4,j5⟩:=aI d6.out e8;cases g9;obtain⟨j7,j8,j9,l5,l6⟩:=aI b8.out e8;obtain rfl:f9=j7:=(by injection j8);obtain⟨l7,l8,l9,m0,m4⟩:=aI d6.out e8;obtain rfl:g8=l7:=(by injection l8);go_wp2
       repeat(go_quiet (fail);try go_wp2)
       go_ret
       exact⟨sD,dR⟩
      ·rw[if_neg c9] at H;have j6:decide ((rd l1 e8) < (rd l0 e8))=false:=decide_eq_false c9;clear c9;have H':=aM H;clear H;obtain⟨f9,g4,g5,g6,g7⟩:=aI b8.out e8;cases g4;obtain⟨g8,g9,j3,j4,j5⟩:=aI d6.out e8;cases g9;obtain⟨j7,j8,j9,l5,l6⟩:=aI b8.out e8;obtain rfl:f9=j7:=(by injection j8);obtain⟨l7,l8,l9,m0,m4⟩:=aI d6.out e8;obtain rfl:g8=l7:=(by injection l8);go_wp2
       repeat(go_quiet (fail);try go_wp2)
       go_roundg k1
       case measure=>have:=e9.out;omega
       case rel=>exact⟨(wrap64 (e8 - 1)),sD,H',⟨by have:=e9.out;omega⟩,dR⟩
    ·rw[if_neg c4] at H;have f4:decide (0≤e8)=false:=decide_eq_false c4;clear c4;obtain rfl:=Option.some.inj H;go_wp2
     repeat(go_quiet (fail);try go_wp2)
     go_ret
     exact⟨sD,dR⟩
 ·rw[if_neg c3] at H;obtain⟨d8,d9⟩:=bI c3;have e6:(l0.length == l1.length)=false:=by first|simpa using c3|(simp at c3 ⊢;omega)
  by_cases c10:(l0.length:Int) < (l1.length:Int)
  ·rw[if_pos c10] at H;have m5:=dE c10;have m6:decide (l0.length < l1.length)=true:=dE (Int.ofNat_lt.mp c10);clear c10;obtain rfl:=Option.some.inj H;go_enter Try.func99,Try.ntmps99
   go_wp2
   repeat(go_quiet (fail);try go_wp2)
   go_ret
   exact⟨sD,dR⟩
  ·rw[if_neg c10] at H;have m5:decide ((l0.length:Int) < (l1.length:Int))=false:=decide_eq_false c10;have m6:decide (l0.length < l1.length)=false:=decide_eq_false (fun h=>c10 (Int.ofNat_lt.mpr h))
   clear c10;obtain rfl:=Option.some.inj H;go_enter Try.func99,Try.ntmps99
   go_wp2
   repeat(go_quiet (fail);try go_wp2)
   go_ret
   exact⟨sD,dR⟩


def Bzb.l0:Nat→List Int→List Int→Int→Int→Option (Int)
 | 0,_,_,_,_=>none
 | k+1,x0,x1,x5,x6=>if x5 < x6 then((Azw.f k x1 (([wrap64 (Int.tdiv (wrap64 ((wrap64 (x5+x6))+1)) 2)]:List Int))).bind fun t593=>((Bzq.f k t593 x0).bind fun t596=>(if t596≤0 then(Bzb.l0 k x0 x1 (wrap64 (Int.tdiv (wrap64 ((wrap64 (x5+x6))+1)) 2)) x6) else(Bzb.l0 k x0 x1 x5 (wrap64 ((wrap64 (Int.tdiv (wrap64 ((wrap64 (x5+x6))+1)) 2)) - 1)))))) else(some x5)
def Bzb.f (k:Nat) (l0:List Int) (l1:List Int):Option (Int):=Bzb.l0 k l0 l1 0 999999999
theorem Bzb.mono_l:∀ k,(∀ a6 a7 a8 a9,LeO (Bzb.l0 k a6 a7 a8 a9) (Bzb.l0 (k+1) a6 a7 a8 a9))
 | 0=>fun _ _ _ _ r h=>by simp [Bzb.l0] at h
 | k+1=>by
  have ih0:=Bzb.mono_l k
  ·intro a6 a7 a8 a9;unfold Bzb.l0;have i0:=@Bzq.mono;have i1:=@Azw.mono;exact mM
theorem Bzb.mono:∀ a6 a7 k,LeO (Bzb.f k a6 a7) (Bzb.f (k+1) a6 a7):=by
 intro a6 a7 k;have ih0:=Bzb.mono_l k;unfold Bzb.f;have i0:=@Bzq.mono;have i1:=@Azw.mono;exact mM
theorem Bzb.calls (k:Nat) (a6:Option Addr) (a7:Nat) (l0:List Int) (a8:Option Addr) (a9:Nat) (l1:List Int) (r:Int) (w:World) (b4:cI w a6 l0) (b5:l0.length≤a7) (b6:cI w a8 l1) (b7:l1.length≤a9) (h:Bzb.f k l0 l1=some r) :
  Calls Try.prog 107 #[.slice a6 l0.length a7,.slice a8 l1.length a9] w fun e w'=>e=.returned (.int .i64 r)∧bw w w':=by
 have b8:=aM b4;have b9:=aM b5;clear b4 b5;have d6:=aM b6;have d7:=aM b7;clear b6 b7;have HB:=aM (Below.refl w.heap.size w);have H:(Bzb.l0 k l0 l1 0 999999999)=some r:=h;clear h;have H':=aM H;clear H;go_enter Try.func107,Try.ntmps107
 go_wp2
 go_loopg [5,6] k (fun kq d8 d9 w'=>∃ (e6:Int) (e7:Int),d8=.int .i64 e6∧d9=.int .i64 e7∧Aside0 (Bzb.l0 kq l0 l1 e6 e7=some r)∧Aside0 (kq≤k)∧Aside0 (bw w w'))
 case atStart=>exact⟨(0),(999999999),sD,sD,H',⟨Nat.le_refl _⟩,⟨pB⟩⟩
 case round =>
  clear H';try clear a9
  obtain⟨e6,e7,rfl,rfl,HA,e8,HB⟩:=hrel;cases gk with
  | zero=>exact absurd HA.out (by simp [Bzb.l0])
  | succ k1 =>
   have H:=HA.out;clear HA;simp only[Bzb.l0] at H;replace H:=iD H;rcases H with⟨e9,H⟩|⟨e9,H⟩
   ·obtain⟨f3,f4⟩:∃ y_:List Int,y_=(([wrap64 (Int.tdiv (wrap64 ((wrap64 (e6+e7))+1)) 2)]:List Int)):=⟨_,rfl⟩;replace H:((Azw.f k1 l1 f3).bind fun f5=>((Bzq.f k1 f5 l0).bind fun f6=>(if f6≤0 then(Bzb.l0 k1 l0 l1 (wrap64 (Int.tdiv (wrap64 ((wrap64 (e6+e7))+1)) 2)) e7) else(Bzb.l0 k1 l0 l1 e6 (wrap64 ((wrap64 (Int.tdiv (wrap64 ((wrap64 (e6+e7))+1)) 2)) - 1))))))=some r:=yE f4 H
    have f7:=aM f4;clear f4;obtain⟨f5,f8,H⟩:=bT H;(try dsimp only at H);obtain⟨f6,f9,H⟩:=bT H;(try dsimp only at H);have g4:=aM H;clear H;go_upto_if 22 with (first|((with_reducible refine gate_dst (N:=18) rfl ?_);refine Kd.R_lit (Kd.int .i64) _ 3 ?hg (N:=18) ?hd (xs:=([wrap64 (Int.tdiv (wrap64 ((wrap64 (e6+e7))+1)) 2)]:List Int)) (inner:=[.int .i64 (wrap64 (Int.tdiv (wrap64 ((wrap64 (e6+e7))+1)) 2))]) (ok:=fun _=>True) (okp:=fun _=>True) ?hr ?hp (fun _ hk=>hk) trivial (Below.refl _ _) (Nat.le_refl _) (by simp) ?_;(case hd=>rfl);(case hg=>rfl);(case hr=>first|(go_simp;done)|(go_simp;rfl));(case hp=>exact(Reps.one (show Kd.M (Kd.int .i64) _ _ _ (wrap64 (Int.tdiv (wrap64 ((wrap64 (e6+e7))+1)) 2)) [.int .i64 (wrap64 (Int.tdiv (wrap64 ((wrap64 (e6+e7))+1)) 2))] from rfl) (Reps.none _ _)));intro g5 g6 g7 hb hg_ hnew_;clear hg_ hnew_;replace g7:=rY f7 g7;have g8:=rL g7;replace HB:=bB hb;clear hb g7;obtain⟨g9,j3,rfl⟩:=Kd.R_slice g8.out)|((with_reducible refine gc 83 rfl ?_);refine gC 83 (some 19) Try.func83 #[.slice a8 l1.length a9,.slice g9 f3.length j3] ?_;(with_reducible refine(Azw.calls k1 _ _ l1 _ _ f3 f5 _ ?_ ?_ ?_ ?_ f8.out).mono ?_);exact cB d6;exact d7.out;exact cR g8;exact lR g8;rintro e j4 ⟨j5,rfl,j6,hb⟩;refine⟨_,rfl,?_⟩;have j7:=rL (rn j6 g8);replace g8:=rE g8 j6 hb;replace HB:=bB hb;clear hb j6;obtain⟨j8,j9,rfl⟩:=Kd.R_slice j7.out)|((with_reducible refine gc 99 rfl ?_);refine gC 99 (some 21) Try.func99 #[.slice j8 f5.length j9,.slice a6 l0.length a7] ?_;(with_reducible refine(Bzq.calls k1 _ _ f5 _ _ l0 f6 _ ?_ ?_ ?_ ?_ f9.out).mono ?_);exact cR j7;exact lR j7;exact cB b8;exact b9.out;rintro e w' ⟨rfl,⟨nd,rfl⟩⟩;refine⟨_,rfl,?_⟩))
    have H:=g4.out;clear g4;replace H:=iD H;rcases H with⟨l6,H⟩|⟨l6,H⟩
    ·(first|rw[l6]|(simp only[i64_w,i32_w];rw[l6])|skip)
     have H':=aM H;clear H;go_wp2
     go_roundg k1
     case measure=>have:=e8.out;omega
     case rel=>exact⟨(wrap64 (Int.tdiv (wrap64 ((wrap64 (e6+e7))+1)) 2)),(e7),sD,sD,H',⟨by have:=e8.out;omega⟩,⟨pB⟩⟩
    ·(first|rw[l6]|(simp only[i64_w,i32_w];rw[l6])|skip)
     have H':=aM H;clear H;go_wp2
     go_roundg k1
     case measure=>have:=e8.out;omega
     case rel=>exact⟨(e6),(wrap64 ((wrap64 (Int.tdiv (wrap64 ((wrap64 (e6+e7))+1)) 2)) - 1)),sD,sD,H',⟨by have:=e8.out;omega⟩,⟨pB⟩⟩
   ·obtain rfl:=Option.some.inj H;go_wp2
    go_ret
    exact⟨eW,pB⟩


mutual
def Azj.j0:Nat→List Int→List Int→Bool→Option (List Int × List Int × Int)
 | 0,_,_,_=>none
 | k+1,x0,x1,x18=>if x18=true then(some (([]:List Int),([]:List Int),3)) else(if(x1.length:Int)=0 then(some (([]:List Int),([]:List Int),16)) else(if 0≤(x0.length:Int) then(if((x0.length:Int):Int).toNat≤35184372088832 then(Azj.l0 k x0 x1 (List.replicate ((x0.length:Int):Int).toNat 0) ([]:List Int) (wrap64 ((x0.length:Int) - 1))) else(none)) else(none)))
def Azj.l0:Nat→List Int→List Int→List Int→List Int→Int→Option (List Int × List Int × Int)
 | 0,_,_,_,_,_=>none
 | k+1,x0,x1,x7,x8,x9=>if x9≥0 then(if 0≤x9 then(if x9 < (x0.length:Int) then((some (([rd x0 x9]:List Int):List Int)).bind fun y607=>(if y607.length+x8.length < 17592186044416 then((some (y607 ++ x8:List Int)).bind fun y610=>(if 0≤(wrap64 ((y610.length:Int) - 1)) then(if(wrap64 ((y610.length:Int) - 1)) < (y610.length:Int) then(if(rd y610 (wrap64 ((y610.length:Int) - 1)))=0 then(Azj.j2 k x0 x1 x7 ([]:List Int) x9) else(Azj.j2 k x0 x1 x7 y610 x9)) else(none)) else(none))) else(none))) else(none)) else(none)) else((Bzz.f k x7).bind fun bt602=>(some (bt602.1,x8,0)))
def Azj.j2:Nat→List Int→List Int→List Int→List Int→Int→Option (List Int × List Int × Int)
 | 0,_,_,_,_,_=>none
 | k+1,x0,x1,x7,x8,x9=>(Bzb.f k x8 x1).bind fun t614=>(if 0≤x9 then(if x9 < (x7.length:Int) then((some (x7.set (x9:Int).toNat t614:List Int)).bind fun y615=>(if t614 > 0 then((Azw.f k x1 (([t614]:List Int))).bind fun t619=>((Bzw.f k x8 t619).bind fun t622=>(Azj.l0 k x0 x1 y615 t622 (wrap64 (x9 - 1))))) else(Azj.l0 k x0 x1 y615 x8 (wrap64 (x9 - 1))))) else(none)) else(none))
end
def Azj.f (k:Nat) (l0:List Int) (l1:List Int):Option (List Int × List Int × Int):=(Azz.f k l0).bind fun t597=>(if t597=true then((Azz.f k l1).bind fun t598=>(Azj.j0 k l0 l1 (!t598))) else(Azj.j0 k l0 l1 true))
theorem Azj.mono_l:∀ k,(∀ a6 a7 a8,LeO (Azj.j0 k a6 a7 a8) (Azj.j0 (k+1) a6 a7 a8))∧(∀ a6 a7 a8 a9 b4,LeO (Azj.l0 k a6 a7 a8 a9 b4) (Azj.l0 (k+1) a6 a7 a8 a9 b4))∧(∀ a6 a7 a8 a9 b4,LeO (Azj.j2 k a6 a7 a8 a9 b4) (Azj.j2 (k+1) a6 a7 a8 a9 b4))
 | 0=>⟨fun _ _ _ r h=>by simp [Azj.j0] at h,fun _ _ _ _ _ r h=>by simp [Azj.l0] at h,fun _ _ _ _ _ r h=>by simp [Azj.j2] at h⟩
 | k+1=>by
  obtain⟨ih0,ih1,ih2⟩:=Azj.mono_l k;have i0:=@Azz.mono;have i1:=@Bzb.mono;have i2:=@Bzz.mono;have i3:=@Bzw.mono;have i4:=@Azw.mono;refine⟨?_,?_,?_⟩
  ·intro a6 a7 a8;unfold Azj.j0;exact mM
  ·intro a6 a7 a8 a9 b4;unfold Azj.l0;exact mM
  ·intro a6 a7 a8 a9 b4;unfold Azj.j2;exact mM
theorem Azj.mono:∀ a6 a7 k,LeO (Azj.f k a6 a7) (Azj.f (k+1) a6 a7):=by
 intro a6 a7 k;obtain⟨ih0,ih1,ih2⟩:=Azj.mono_l k;unfold Azj.f;have i0:=@Azz.mono;have i1:=@Bzb.mono;have i2:=@Bzz.mono;have i3:=@Bzw.mono;have i4:=@Azw.mono;exact mM
theorem Azj.calls (k:Nat) (a6:Option Addr) (a7:Nat) (l0:List Int) (a8:Option Addr) (a9:Nat) (l1:List Int) (b4:List Int) (b5:List Int) (b6:Int) (w:World) (b7:cI w a6 l0) (b8:l0.length≤a7) (b9:cI w a8 l1) (d6:l1.length≤a9) (h:Azj.f k l0 l1=some (b4,b5,b6)) :
  Calls Try.prog 86 #[.slice a6 l0.length a7,.slice a8 l1.length a9] w fun e w'=>∃ v0_ v1_:Value,e=.returned (.tuple #[v0_,v1_,.int .i64 b6])∧rI w' w (oV v1_) v0_ b4∧rI w' w (oV v0_) v1_ b5∧bw w w':=by
 have d7:=aM b7;have d8:=aM b8;clear b7 b8;have d9:=aM b9;have e6:=aM d6;clear b9 d6;have HB:=aM (Below.refl w.heap.size w);have H:((Azz.f k l0).bind fun e7=>(if e7=true then((Azz.f k l1).bind fun e8=>(Azj.j0 k l0 l1 (!e8))) else(Azj.j0 k l0 l1 true)))=some (b4,b5,b6):=h
 clear h;have e9:=aM H;clear H;go_enter Try.func86,Try.ntmps86
 go_upto_region 1 with (fail)
 go_cut [18] (fun f3 wc=>∃ (kq:Nat) (f4:Bool),f3=.bool f4∧Aside0 (Azj.j0 kq l0 l1 f4=some (b4,b5,b6))∧Aside0 (kq≤k)∧Aside0 (bw w wc))
 case first =>
  have H:=e9.out;clear e9;obtain⟨e7,f5,H⟩:=bT H;(try dsimp only at H);by_cases c5:e7=true
  ·subst c5;rw[if_pos rfl] at H;obtain⟨e8,f6,H⟩:=bT H;(try dsimp only at H);have H':=aM H;clear H;go_wp2_with (first|((with_reducible refine gc 70 rfl ?_);refine gC 70 (some 12) Try.func70 #[.slice a6 l0.length a7] ?_;(with_reducible refine(Azz.calls k _ _ l0 true _ ?_ ?_ f5.out).mono ?_);exact cB d7;exact d8.out;rintro e w' ⟨rfl,⟨nd,rfl⟩⟩;refine⟨_,rfl,?_⟩)|(go_at_call 70;(with_reducible refine(Azz.calls k _ _ l1 e8 _ ?_ ?_ f6.out).mono ?_);exact cB d9;exact e6.out;rintro e w' ⟨rfl,⟨nd,rfl⟩⟩))
   go_meet
   case rel=>exact⟨_,(!e8),sD,H',⟨by first|omega|exact Nat.le_refl _⟩,⟨pB⟩⟩
  ·obtain rfl:=bN c5;rw[if_neg nF] at H
   have H':=aM H;clear H;go_wp2_with (first|((with_reducible refine gc 70 rfl ?_);refine gC 70 (some 12) Try.func70 #[.slice a6 l0.length a7] ?_;(with_reducible refine(Azz.calls k _ _ l0 false _ ?_ ?_ f5.out).mono ?_);exact cB d7;exact d8.out;rintro e w' ⟨rfl,⟨nd,rfl⟩⟩;refine⟨_,rfl,?_⟩))
   go_meet
   case rel=>exact⟨_,(true),sD,H',⟨by first|omega|exact Nat.le_refl _⟩,⟨pB⟩⟩
 case rest =>
  clear e9;try clear a9
  obtain⟨kq,f4,rfl,HA,f7,HB⟩:=hcut;cases kq with
  | zero=>exact absurd HA.out (by simp [Azj.j0])
  | succ f8 =>
   have H:=HA.out;clear HA;simp only[Azj.j0] at H;by_cases c7:f4=true
   ·subst c7;rw[if_pos rfl] at H;obtain⟨rfl,rfl,rfl⟩:=q3 H;go_wp2
    go_ret3
    exact⟨_,_,eW,nK,nK,pB⟩
   ·obtain rfl:=bN c7;rw[if_neg nF] at H
    replace H:=iE H;rcases H with⟨f9,g4,H⟩|⟨c8,f9,g4,H⟩
    ·obtain⟨rfl,rfl,rfl⟩:=q3 H;go_wp2
     go_ret3
     exact⟨_,_,eW,nK,nK,pB⟩
    ·have g5:¬ (l1=[]):=fun h_=>c8 (by rw[h_];rfl)
     by_cases c9:0≤(l0.length:Int)
     ·rw[if_pos c9] at H;have g6:=eq_true c9;have g7:=dE c9;clear c9;obtain⟨c10,H⟩:=iO H;have g8:=eq_true c10;have g9:decide (((l0.length:Int):Int).toNat≤35184372088832)=true:=dE c10;clear c10;obtain⟨j3,j4⟩:∃ y_:List Int,y_=(List.replicate ((l0.length:Int):Int).toNat 0):=⟨_,rfl⟩;replace H:(Azj.l0 f8 l0 l1 j3 ([]:List Int) (wrap64 ((l0.length:Int) - 1)))=some (b4,b5,b6):=yE j4 H
      have j5:=aM j4;clear j4;have H':=aM H;clear H;go_wp2_with (first|((with_reducible refine gate_dst (N:=24) rfl ?_);refine Kd.R_make (Kd.int .i64) _ 3 rfl (N:=24) rfl 31 _ _ rfl (l0.length:Int) rfl rfl Try.underlying31 (.int .i64 0) 8 info3 rfl (by decide) (by omega) 0 (ok:=fun _=>True) (okp:=fun _=>True) rfl (fun _ hk=>hk) trivial (oE aS) (Nat.le_trans (Nat.mul_le_mul_right _ (oE aS:(l0.length:Int).toNat≤35184372088832)) (by omega)) (Below.refl _ _) (Nat.le_refl _) ?_;intro j6 j7 j8 hb hg_ hnew_;clear hg_ hnew_;replace j8:=rY j5 j8;have j9:=rL j8;replace HB:=bB hb;clear hb j8))
      go_loopg [8,9] f8 (fun kq l5 l6 w'=>∃ (l7:List Int) (l8:List Int) (l9:Int),l6=.int .i64 l9∧Aside0 (Azj.l0 kq l0 l1 l7 l8 l9=some (b4,b5,b6))∧Aside0 (kq≤f8)∧Aside0 (rI w' w (oV l5) j6 l7)∧Aside0 (rI w' w (oV j6) l5 l8)∧Aside0 (bw w w'))
      case atStart=>exact⟨(j3),(([]:List Int)),(wrap64 ((l0.length:Int) - 1)),sD,H',⟨Nat.le_refl _⟩,⟨by exact rX (Kd.R_mono j9.out (fun _ hk=>(by simp [Value.ownBlock])))⟩,⟨nK⟩,⟨pB⟩⟩
      case round =>
       clear H';try clear a9
       obtain⟨l7,l8,l9,rfl,HA,m0,m4,m5,HB⟩:=hrel;cases gk with
       | zero=>exact absurd HA.out (by simp [Azj.l0])
       | succ k2 =>
        have H:=HA.out;clear HA;simp only[Azj.l0] at H;by_cases m6:l9≥0
        ·rw[if_pos m6] at H;have m7:decide (0≤l9)=true:=dE m6;clear m6;obtain⟨m8,H⟩:=iN H;obtain⟨m9,H⟩:=iN H;obtain⟨n0,n7⟩:∃ y_:List Int,y_=(([rd l0 l9]:List Int)):=⟨_,rfl⟩;replace H:(if n0.length+l8.length < 17592186044416 then((some (n0 ++ l8:List Int)).bind fun n8=>(if 0≤(wrap64 ((n8.length:Int) - 1)) then(if(wrap64 ((n8.length:Int) - 1)) < (n8.length:Int) then(if(rd n8 (wrap64 ((n8.length:Int) - 1)))=0 then(Azj.j2 k2 l0 l1 l7 ([]:List Int) l9) else(Azj.j2 k2 l0 l1 l7 n8 l9)) else(none)) else(none))) else(none))=some (b4,b5,b6):=yE n7 H
         have n9:=aM n7;clear n7;obtain⟨o0,H⟩:=iO H;have LMc16:=aM o0;clear o0;obtain⟨n8,o8⟩:∃ y_:List Int,y_=(n0 ++ l8):=⟨_,rfl⟩;replace H:(if 0≤(wrap64 ((n8.length:Int) - 1)) then(if(wrap64 ((n8.length:Int) - 1)) < (n8.length:Int) then(if(rd n8 (wrap64 ((n8.length:Int) - 1)))=0 then(Azj.j2 k2 l0 l1 l7 ([]:List Int) l9) else(Azj.j2 k2 l0 l1 l7 n8 l9)) else(none)) else(none))=some (b4,b5,b6):=yE o8 H
         have o9:=aM o8;clear o8;obtain⟨p0,p4⟩:∃ j_:Int,(wrap64 ((n8.length:Int) - 1))=j_:=⟨_,rfl⟩;replace H:(if 0≤(p0) then(if(p0) < (n8.length:Int) then(if(rd n8 (p0))=0 then(Azj.j2 k2 l0 l1 l7 ([]:List Int) l9) else(Azj.j2 k2 l0 l1 l7 n8 l9)) else(none)) else(none))=some (b4,b5,b6):=by first|(rw[p4] at H;exact H)|(simp only[p4] at H ⊢;exact H)
         have p7:(IntKind.i64.wrap ((n8.length:Int) - 1))=p0:=(i64_w _).trans p4;obtain⟨p9,H⟩:=iN H;obtain⟨r5,H⟩:=iN H;have r6:=aM H;clear H;obtain⟨r7,r8,r9,t4,t5⟩:=aI d7.out l9;cases r8
         replace r9:=hB HB r9;go_upto_if 45 with (first|((with_reducible refine gd 36 rfl ?_);refine iL 36 [rd l0 l9] ?_;intro t6 t7 t8 hb;replace t8:=rY n9 t8;have t9:=rL (rn (rn t8 m4) m5);replace m4:=rE m4 t8 hb;replace m5:=rE m5 t8 hb;replace HB:=bB hb;clear hb t8;obtain⟨z3,z4,rfl⟩:=Kd.R_slice m5.out)|((with_reducible refine gate_builtin (b:=.append) (xs:=#[.tmp 36,.tmp 37]) rfl ?_);at_builtin;refine Kd.R_append_rows (Kd.int .i64) (w0:=w) w.heap.size rfl (.tmp 36) (.tmp 37) 31 3 (.int .i64 0) 8 rfl Try.underlying31 info3 rfl (by decide) (by omega) t6 n0 l8 _ _ _ (fun k_=>oV j6 k_∧oN z3 l8.length z4 k_) (fun _=>False) rfl rfl ?aO ?aR (fun _ _ h=>h) (fun _ h=>h.elim) ?aF ?aB ?aS ?aL ?_;(case aR=>exact cR m5);(case aB=>exact pB);(case aF=>exact(fun k_ hk=>⟨Kd.fresh' (Kd.R_lt (rX m4.out)) k_ hk,Kd.fresh' (Kd.R_lt (rX m5.out)) k_ hk⟩));(case aO=>exact(rX (Kd.R_mono t9.out (fun _ hk=>⟨hk.1.2,hk.2⟩))));(case aS=>exact(below_size pB));(case aL=>have:=LMc16.out;omega);intro z5 z6 ho hb hg hat;rw[← o9.out] at ho;have z7:=aM (ho);replace m4:=aM (Kd.R_after (ok:=(fun k_=>oN z3 l8.length z4 k_)) (rX m4.out) hg hat);replace m5:=aM (Kd.R_after (ok:=(oV j6)) (rX m5.out) hg hat);replace HB:=aM (hb);clear t9 ho hb hg hat;obtain⟨z8,z9,rfl⟩:=Kd.R_slice z7.out;obtain⟨B0,B5,B9,C0,C1⟩:=aI (Kd.R_reads' z7.out).2.2 (p0);cases B5))
         (try simp only[Act.put,sA,sZ,sC])
         go_cut [8] (fun l5 wc=>∃ (kq:Nat) (C2:List Int),Aside0 (Azj.j2 kq l0 l1 l7 C2 l9=some (b4,b5,b6))∧Aside0 (kq≤k2)∧Aside0 (rI wc w (oV l5) j6 l7)∧Aside0 (rI wc w (oV j6) l5 C2)∧Aside0 (bw w wc))
         case first =>
          have H:=r6.out;clear r6;replace H:=iE H;rcases H with⟨C4,C6,H⟩|⟨C3,C4,C6,H⟩
          ·(first|rw[C4]|(simp only[i64_w,i32_w];rw[C4])|skip)
           have H':=aM H;clear H;go_wp2
           go_meet
           case rel=>exact⟨_,(([]:List Int)),H',⟨by have:=f7.out;have:=m0.out;first|omega|exact Nat.le_refl _⟩,⟨by exact rX (Kd.R_mono m4.out (fun _ hk=>(by simp [Value.ownBlock])))⟩,⟨nK⟩,⟨pB⟩⟩
          ·(first|rw[C4]|(simp only[i64_w,i32_w];rw[C4])|skip)
           have H':=aM H;clear H;go_wp2
           go_meet
           case rel=>exact⟨_,(n8),H',⟨by have:=f7.out;have:=m0.out;first|omega|exact Nat.le_refl _⟩,⟨by exact rX (Kd.R_mono m4.out (fun _ hk=>hk.2))⟩,⟨by exact rX (Kd.R_mono z7.out (fun _ hk=>hk.1))⟩,⟨pB⟩⟩
         case rest =>
          clear r6;try clear a9
          obtain⟨kq,C2,HA,C7,m4,m5,HB⟩:=hcut;cases kq with
          | zero=>exact absurd HA.out (by simp [Azj.j2])
          | succ C8 =>
           have H:=HA.out;clear HA;simp only[Azj.j2] at H;obtain⟨C9,D2,H⟩:=bT H;(try dsimp only at H);obtain⟨D3,H⟩:=iN H;obtain⟨D4,H⟩:=iN H;obtain⟨D5,D6⟩:∃ y_:List Int,y_=(l7.set (l9:Int).toNat C9):=⟨_,rfl⟩;replace H:(if C9 > 0 then((Azw.f C8 l1 (([C9]:List Int))).bind fun D7=>((Bzw.f C8 C2 D7).bind fun D8=>(Azj.l0 C8 l0 l1 D5 D8 (wrap64 (l9 - 1))))) else(Azj.l0 C8 l0 l1 D5 C2 (wrap64 (l9 - 1))))=some (b4,b5,b6):=yE D6 H
           have D9:=aM D6;clear D6;have E0:=aM H;clear H;obtain⟨E1,E2,rfl⟩:=Kd.R_slice m5.out;go_upto_if 54 with (first|((with_reducible refine gc 107 rfl ?_);refine gC 107 (some 48) Try.func107 #[.slice E1 C2.length E2,.slice a8 l1.length a9] ?_;(with_reducible refine(Bzb.calls C8 _ _ C2 _ _ l1 C9 _ ?_ ?_ ?_ ?_ D2.out).mono ?_);exact cR m5;exact lR m5;exact cB d9;exact e6.out;rintro e E3 ⟨rfl,hb⟩;refine⟨_,rfl,?_⟩;replace m4:=rB m4 hb;replace m5:=rB m5 hb;replace HB:=bB hb;clear hb;have E4:0≤(l9:Int):=oE aS;have E5:(l9:Int) < ((l7.length:Int):Int):=oE aS;obtain⟨E6,E7,E8,E9,F0,F2,F3⟩:=Kd.R_form m4.out (by omega);(first|cases E8|(injection E8 with ea_ en_ ec_;(first|subst ea_|(injection ea_ with ea_;subst ea_));subst ec_;clear en_));have F4:=aM E9;have F5:=aM F3;clear E9 F0 F3;obtain⟨F6,F7⟩:=Kd.R_celln 0 m4.out (l9:Int) E4 E5;replace E4:=eq_true E4;replace E5:=eq_true E5;obtain⟨F8,hz34_⟩:=Kd.R_celln 0 m4.out (l9:Int) (oE aS) (oE aS);have F9:=Kd.R_putg m4.out (l9:Int) C9)|((with_reducible refine gate_store (t:=3) (p:=52) rfl ?_);refine store_event (t:=3) (p:=52) (v:=?vo_w35) (w1:=(E3.setCell ⟨E6,(l9:Int).toNat,none⟩ (.int .i64 C9))) ?hg ?ho ?hn ?hr ?_;(case ho=>rfl);(case hg=>rfl);(case hn=>rfl);(case hr=>first|(go_simp;done)|(go_simp;rfl));intro G5 hw;have hg:E3.grownBy G5 (some E6):=(by rw[hw];exact F9.2);have hp_:rI G5 w (fun k_=>oN E1 C2.length E2 k_) (.slice (some ⟨E6,0,none⟩) l7.length E7) D5:=(by rw[hw,D9.out];exact F9.1);clear F9;replace m4:=aM (hp_);replace m5:=aM (Kd.R_after (v:=(.slice (some ⟨E6,0,none⟩) l7.length E7)) (v1:=(.slice (some ⟨E6,0,none⟩) l7.length E7)) (ok:=(fun _=>True)) (rX (Kd.R_mono m5.out (fun _ hk=>⟨trivial,hk⟩))) hg (.inl rfl));replace HB:=aM ((by rw[hw];exact below_set (HB.out) F4.out:bw w G5));clear hg hw hp_))
           have H:=E0.out;clear E0;by_cases G9:C9 > 0
           ·rw[if_pos G9] at H;have H5:decide (0 < C9)=true:=dE G9;clear G9;(first|rw[H5]|(simp only[i64_w,i32_w];rw[H5])|skip)
            obtain⟨H6,H7⟩:∃ y_:List Int,y_=(([C9]:List Int)):=⟨_,rfl⟩;replace H:((Azw.f C8 l1 H6).bind fun D7=>((Bzw.f C8 C2 D7).bind fun D8=>(Azj.l0 C8 l0 l1 D5 D8 (wrap64 (l9 - 1)))))=some (b4,b5,b6):=yE H7 H
            have H8:=aM H7;clear H7;obtain⟨D7,H9,H⟩:=bT H;(try dsimp only at H);obtain⟨D8,I0,H⟩:=bT H;(try dsimp only at H);have H':=aM H;clear H;go_wp2_with (first|((with_reducible refine gd 58 rfl ?_);refine iL 58 [C9] ?_;intro I3 I4 I5 hb;replace I5:=rY H8 I5;have I6:=rL (rn (rn I5 m4) m5);replace m4:=rE m4 I5 hb;replace m5:=rE m5 I5 hb;replace HB:=bB hb;clear hb I5;obtain⟨I7,I8,rfl⟩:=Kd.R_slice I6.out)|((with_reducible refine gc 83 rfl ?_);refine gC 83 (some 59) Try.func83 #[.slice a8 l1.length a9,.slice I7 H6.length I8] ?_;(with_reducible refine(Azw.calls C8 _ _ l1 _ _ H6 D7 _ ?_ ?_ ?_ ?_ H9.out).mono ?_);exact cB d9;exact e6.out;exact cR I6;exact lR I6;rintro e I9 ⟨J0,rfl,J1,hb⟩;refine⟨_,rfl,?_⟩;have J2:=rL (rn (rn (rn J1 m4) m5) I6);replace m4:=rE m4 J1 hb;replace m5:=rE m5 J1 hb;replace I6:=rE I6 J1 hb;replace HB:=bB hb;clear hb J1;obtain⟨J3,J4,rfl⟩:=Kd.R_slice J2.out)|((with_reducible refine gc 106 rfl ?_);refine gC 106 (some 60) Try.func106 #[.slice E1 C2.length E2,.slice J3 D7.length J4] ?_;(with_reducible refine(Bzw.calls C8 _ _ C2 _ _ D7 D8 _ ?_ ?_ ?_ ?_ I0.out).mono ?_);exact cR m5;exact lR m5;exact cR J2;exact lR J2;rintro e J5 ⟨J6,rfl,J1,hb⟩;refine⟨_,rfl,?_⟩;have J7:=rL (rn (rn (rn (rn J1 m4) m5) I6) J2);replace m4:=rE m4 J1 hb;replace m5:=rE m5 J1 hb;replace I6:=rE I6 J1 hb;replace J2:=rE J2 J1 hb;replace HB:=bB hb;clear hb J1))
            go_roundg C8
            case measure=>have:=f7.out;have:=m0.out;have:=C7.out;omega
            case rel=>exact⟨(D5),(D8),(wrap64 (l9 - 1)),sD,H',⟨by have:=f7.out;have:=m0.out;have:=C7.out;omega⟩,⟨by exact rX (Kd.R_mono m4.out (fun _ hk=>hk.2))⟩,⟨by exact rX (Kd.R_mono J7.out (fun _ hk=>hk.1.1.1.2))⟩,⟨pB⟩⟩
           ·rw[if_neg G9] at H;have H5:decide (0 < C9)=false:=decide_eq_false G9;clear G9;(first|rw[H5]|(simp only[i64_w,i32_w];rw[H5])|skip)
            have H':=aM H;clear H;go_wp2
            go_roundg C8
            case measure=>have:=f7.out;have:=m0.out;have:=C7.out;omega
            case rel=>exact⟨(D5),(C2),(wrap64 (l9 - 1)),sD,H',⟨by have:=f7.out;have:=m0.out;have:=C7.out;omega⟩,⟨rX m4.out⟩,⟨by exact rX (Kd.R_mono m5.out (fun _ hk=>hk.2))⟩,⟨pB⟩⟩
        ·rw[if_neg m6] at H;have m7:decide (0≤l9)=false:=decide_eq_false m6;clear m6;replace H:=bS H;obtain⟨⟨J8,J9⟩,K0,H⟩:=H;replace H:(some (J8,l8,0))=some (b4,b5,b6):=H;have K1:=aM K0;clear K0;obtain⟨rfl,rfl,rfl⟩:=q3 H;obtain⟨K2,K3,rfl⟩:=Kd.R_slice m4.out;go_wp2_with (first|((with_reducible refine gc 82 rfl ?_);refine gC 82 (some 63) Try.func82 #[.slice K2 l7.length K3] ?_;(with_reducible refine(Bzz.calls k2 _ _ l7 J8 J9 _ ?_ ?_ K1.out).mono ?_);exact cR m4;exact lR m4;rintro e K4 ⟨K5,rfl,J1,hb⟩;refine⟨_,rfl,?_⟩;have K6:=rL (rn (rn J1 m4) m5);replace m4:=rE m4 J1 hb;replace m5:=rE m5 J1 hb;replace HB:=bB hb;clear hb J1))
         go_ret3
         exact⟨_,_,eW,by exact rX (Kd.R_mono K6.out (fun _ hk=>hk.2)),by exact rX (Kd.R_mono m5.out (fun _ hk=>hk.2)),pB⟩
     ·rw[if_neg c9] at H;exact absurd H (by simp)


mutual
def Azb.j0:Nat→List Int→List Int→Bool→Option (List Int × Int)
 | 0,_,_,_=>none
 | k+1,x0,x1,x16=>if x16=true then(some (([]:List Int),3)) else((some (([]:List Int):List Int)).bind fun y627=>(if y627.length+x0.length < 17592186044416 then(Azb.l0 k (y627 ++ x0) x1) else(none)))
def Azb.l0:Nat→List Int→List Int→Option (List Int × Int)
 | 0,_,_=>none
 | k+1,x0,x1=>if(x1.length:Int) > 0 then((Azj.f k x0 x1).bind fun bt633=>((some (([]:List Int):List Int)).bind fun y640=>(if y640.length+x1.length < 17592186044416 then(Azb.l0 k (y640 ++ x1) bt633.2.1) else(none)))) else(some (x0,0))
end
def Azb.f (k:Nat) (l0:List Int) (l1:List Int):Option (List Int × Int):=(Azz.f k l0).bind fun t625=>(if t625=true then((Azz.f k l1).bind fun t626=>(Azb.j0 k l0 l1 (!t626))) else(Azb.j0 k l0 l1 true))
theorem Azb.mono_l:∀ k,(∀ a6 a7 a8,LeO (Azb.j0 k a6 a7 a8) (Azb.j0 (k+1) a6 a7 a8))∧(∀ a6 a7,LeO (Azb.l0 k a6 a7) (Azb.l0 (k+1) a6 a7))
 | 0=>⟨fun _ _ _ r h=>by simp [Azb.j0] at h,fun _ _ r h=>by simp [Azb.l0] at h⟩
 | k+1=>by
  obtain⟨ih0,ih1⟩:=Azb.mono_l k;have i0:=@Azj.mono;have i1:=@Azz.mono;refine⟨?_,?_⟩
  ·intro a6 a7 a8;unfold Azb.j0;exact mM
  ·intro a6 a7;unfold Azb.l0;exact mM
theorem Azb.mono:∀ a6 a7 k,LeO (Azb.f k a6 a7) (Azb.f (k+1) a6 a7):=by
 intro a6 a7 k;obtain⟨ih0,ih1⟩:=Azb.mono_l k;unfold Azb.f;have i0:=@Azj.mono;have i1:=@Azz.mono;exact mM
theorem Azb.calls (k:Nat) (a6:Option Addr) (a7:Nat) (l0:List Int) (a8:Nat→Prop) (a9:Option Addr) (b4:Nat) (l1:List Int) (b5:List Int) (b6:Int) (w:World) (b7:cI w a6 l0) (b8:l0.length≤a7) (b9:Kd.V (Kd.int .i64) 3 w w.heap.size (fun k_=>a8 k_) (.slice a9 l1.length b4) l1) (h:Azb.f k l0 l1=some (b5,b6)) :
  Calls Try.prog 71 #[.slice a6 l0.length a7,.slice a9 l1.length b4] w fun e w'=>∃ v0_:Value,e=.returned (.tuple #[v0_,.int .i64 b6])∧rI w' w (fun k_=>(w.heap.size≤k_)) v0_ b5∧bw w w':=by
 have d6:=aM b7;have d7:=aM b8;clear b7 b8;have d8:=aM (show Kd.V (Kd.int .i64) 3 w w.heap.size (fun k_=>(a8 k_∨w.heap.size≤k_)) (.slice a9 l1.length b4) l1 from Kd.V_mono b9 (fun k_ hk=>.inl hk))
 have HB:=aM (Below.refl w.heap.size w);have H:((Azz.f k l0).bind fun d9=>(if d9=true then((Azz.f k l1).bind fun e6=>(Azb.j0 k l0 l1 (!e6))) else(Azb.j0 k l0 l1 true)))=some (b5,b6):=h
 clear h;have e7:=aM H;clear H;go_enter Try.func71,Try.ntmps71
 go_upto_region 1 with (fail)
 go_cut [16] (fun e8 wc=>∃ (kq:Nat) (e9:Bool),e8=.bool e9∧Aside0 (Azb.j0 kq l0 l1 e9=some (b5,b6))∧Aside0 (kq≤k)∧Aside0 (Kd.V (Kd.int .i64) 3 wc w.heap.size (fun k_=>(a8 k_∨w.heap.size≤k_)) (.slice a9 l1.length b4) l1)∧Aside0 (bw w wc))
 case first =>
  have H:=e7.out;clear e7;obtain⟨d9,f3,H⟩:=bT H;(try dsimp only at H);by_cases c5:d9=true
  ·subst c5;rw[if_pos rfl] at H;obtain⟨e6,f4,H⟩:=bT H;(try dsimp only at H);have H':=aM H;clear H;go_wp2_with (first|((with_reducible refine gc 70 rfl ?_);refine gC 70 (some 10) Try.func70 #[.slice a6 l0.length a7] ?_;(with_reducible refine(Azz.calls k _ _ l0 true _ ?_ ?_ f3.out).mono ?_);exact cB d6;exact d7.out;rintro e w' ⟨rfl,⟨nd,rfl⟩⟩;refine⟨_,rfl,?_⟩)|(go_at_call 70;(with_reducible refine(Azz.calls k _ _ l1 e6 _ ?_ ?_ f4.out).mono ?_);exact cV d8;exact lV d8;rintro e w' ⟨rfl,⟨nd,rfl⟩⟩))
   go_meet
   case rel=>exact⟨_,(!e6),sD,H',⟨by first|omega|exact Nat.le_refl _⟩,⟨vX d8.out⟩,⟨pB⟩⟩
  ·obtain rfl:=bN c5;rw[if_neg nF] at H
   have H':=aM H;clear H;go_wp2_with (first|((with_reducible refine gc 70 rfl ?_);refine gC 70 (some 10) Try.func70 #[.slice a6 l0.length a7] ?_;(with_reducible refine(Azz.calls k _ _ l0 false _ ?_ ?_ f3.out).mono ?_);exact cB d6;exact d7.out;rintro e w' ⟨rfl,⟨nd,rfl⟩⟩;refine⟨_,rfl,?_⟩))
   go_meet
   case rel=>exact⟨_,(true),sD,H',⟨by first|omega|exact Nat.le_refl _⟩,⟨vX d8.out⟩,⟨pB⟩⟩
 case rest =>
  clear e7;try clear b4
  obtain⟨kq,e9,rfl,HA,f5,f6,HB⟩:=hcut;cases kq with
  | zero=>exact absurd HA.out (by simp [Azb.j0])
  | succ f7 =>
   have H:=HA.out;clear HA;simp only[Azb.j0] at H;by_cases c7:e9=true
   ·subst c7;rw[if_pos rfl] at H;obtain⟨rfl,rfl⟩:=q2 H;go_wp2
    go_ret2
    exact⟨_,eW,nK,pB⟩
   ·obtain rfl:=bN c7;rw[if_neg nF] at H
    obtain⟨f8,f9⟩:∃ y_:List Int,y_=(([]:List Int)):=⟨_,rfl⟩;replace H:(if f8.length+l0.length < 17592186044416 then(Azb.l0 f7 (f8 ++ l0) l1) else(none))=some (b5,b6):=yE f9 H
    have g4:=aM f9;clear f9;by_cases c8:f8.length+l0.length < 17592186044416
    ·rw[if_pos c8] at H;have LMc8:=aM c8;clear c8;obtain⟨g5,g6⟩:∃ y_:List Int,y_=(f8 ++ l0):=⟨_,rfl⟩;replace H:(Azb.l0 f7 g5 l1)=some (b5,b6):=yE g6 H
     have g7:=aM g6;clear g6;have H':=aM H;clear H;go_wp2_with (first|((with_reducible refine gd 17 rfl ?_);refine iL 17 [] ?_;intro g8 g9 j3 hb;replace j3:=rY g4 j3;have j4:=rL (Kd.R_newM (M:=fun k_=>(w.heap.size≤k_)) j3 (below_size pB) (fun k_ h_=>h_));replace f6:=vE f6 j3 hb;replace HB:=bB hb;clear hb j3)|((with_reducible refine gate_builtin (b:=.append) (xs:=#[.tmp 17,.tmp 18]) rfl ?_);at_builtin;refine Kd.R_append_rows (Kd.int .i64) (w0:=w) w.heap.size rfl (.tmp 17) (.tmp 18) 31 3 (.int .i64 0) 8 rfl Try.underlying31 info3 rfl (by decide) (by omega) g8 f8 l0 _ _ _ (fun k_=>(w.heap.size≤k_)) (fun _=>False) rfl rfl ?aO ?aR (fun _ _ h=>h) (fun _ h=>h.elim) ?aF ?aB ?aS ?aL ?_;(case aR=>exact cB d6);(case aB=>exact pB);(case aF=>exact(fun k_ hk=>(Nat.le_trans (below_size pB) hk)));(case aO=>exact(rX (Kd.R_mono j4.out (fun _ hk=>hk.1))));(case aS=>exact(below_size pB));(case aL=>have:=LMc8.out;omega);intro j5 j6 ho hb hg hat;rw[← g7.out] at ho;have j7:=aM (ho);replace f6:=aM (Kd.V_afterv (ok:=(fun k_=>(a8 k_∨w.heap.size≤k_))) (vX f6.out) hg hat);replace HB:=aM (hb);clear j4 ho hb hg hat))
     go_loopg [0,1] f7 (fun kq j8 j9 w'=>∃ (l5:List Int) (l6:List Int),Aside0 (Azb.l0 kq l5 l6=some (b5,b6))∧Aside0 (kq≤f7)∧Aside0 (rI w' w (fun k_=>(w.heap.size≤k_)) j8 l5)∧Aside0 (Kd.V (Kd.int .i64) 3 w' w.heap.size (fun k_=>(a8 k_∨w.heap.size≤k_)∧oV j8 k_) j9 l6)∧Aside0 (bw w w'))
     case atStart=>exact⟨(g5),(l1),H',⟨Nat.le_refl _⟩,⟨rX j7.out⟩,⟨vX f6.out⟩,⟨pB⟩⟩
     case round =>
      clear H';try clear b4
      obtain⟨l5,l6,HA,l7,l8,f6,HB⟩:=hrel;cases gk with
      | zero=>exact absurd HA.out (by simp [Azb.l0])
      | succ k2 =>
       have H:=HA.out;clear HA;simp only[Azb.l0] at H;by_cases l9:(l6.length:Int) > 0
       ·rw[if_pos l9] at H;have m0:decide (0 < (l6.length:Int))=true:=dE l9;have m4:decide (0 < l6.length)=true:=dE (by omega)
        clear l9;obtain⟨⟨m5,m6,m7⟩,m8,H⟩:=bT H;(try dsimp only at H);obtain⟨m9,n0⟩:∃ y_:List Int,y_=(([]:List Int)):=⟨_,rfl⟩;replace H:(if m9.length+l6.length < 17592186044416 then(Azb.l0 k2 (m9 ++ l6) m6) else(none))=some (b5,b6):=yE n0 H
        have n7:=aM n0;clear n0;obtain⟨n8,H⟩:=iO H;have LMc14:=aM n8;clear n8;obtain⟨n9,o0⟩:∃ y_:List Int,y_=(m9 ++ l6):=⟨_,rfl⟩;replace H:(Azb.l0 k2 n9 m6)=some (b5,b6):=yE o0 H
        have o8:=aM o0;clear o0;have H':=aM H;clear H;obtain⟨o9,p0,p4⟩:=Kd.V_slice f6.out;subst p4;obtain⟨p7,p9,rfl⟩:=Kd.R_slice l8.out;go_wp2_with (first|((with_reducible refine gc 86 rfl ?_);refine gC 86 (some 26) Try.func86 #[.slice p7 l5.length p9,.slice o9 l6.length p0] ?_;(with_reducible refine(Azj.calls k2 _ _ l5 _ _ l6 m5 m6 m7 _ ?_ ?_ ?_ ?_ m8.out).mono ?_);exact cR l8;exact lR l8;exact cV f6;exact lV f6;rintro e r5 ⟨r6,r7,rfl,r8,r9,hb⟩;refine⟨_,rfl,?_⟩;have t4:=rL (rn (Kd.R_newM (M:=fun k_=>(w.heap.size≤k_)) r8 (below_size pB) (fun k_ h_=>h_)) l8);have t5:=rL (rn (Kd.R_newM (M:=fun k_=>(w.heap.size≤k_)) r9 (below_size pB) (fun k_ h_=>h_)) l8);replace l8:=rO l8 hb r8 r9;replace f6:=vO f6 hb r8 r9;replace HB:=bB hb;clear hb r8 r9)|((with_reducible refine gd 30 rfl ?_);refine iL 30 [] ?_;intro t6 t7 t8 hb;replace t8:=rY n7 t8;have t9:=rL (rn (rn (rn (Kd.R_newM (M:=fun k_=>(w.heap.size≤k_)) t8 (below_size pB) (fun k_ h_=>h_)) l8) t4) t5);replace l8:=rE l8 t8 hb;replace f6:=vE f6 t8 hb;replace t4:=rE t4 t8 hb;replace t5:=rE t5 t8 hb;replace HB:=bB hb;clear hb t8)|((with_reducible refine gate_builtin (b:=.append) (xs:=#[.tmp 30,.tmp 31]) rfl ?_);at_builtin;refine Kd.R_append_rows (Kd.int .i64) (w0:=w) w.heap.size rfl (.tmp 30) (.tmp 31) 31 3 (.int .i64 0) 8 rfl Try.underlying31 info3 rfl (by decide) (by omega) t6 m9 l6 _ _ _ (fun k_=>(w.heap.size≤k_)∧oN p7 l5.length p9 k_∧oV r6 k_∧oV r7 k_) (fun _=>False) rfl rfl ?aO ?aR (fun _ _ h=>h) (fun _ h=>h.elim) ?aF ?aB ?aS ?aL ?_;(case aR=>exact cV f6);(case aB=>exact pB);(case aF=>exact(fun k_ hk=>⟨(Nat.le_trans (below_size pB) hk),Kd.fresh' (Kd.R_lt (rX l8.out)) k_ hk,Kd.fresh' (Kd.R_lt (rX t4.out)) k_ hk,Kd.fresh' (Kd.R_lt (rX t5.out)) k_ hk⟩));(case aO=>exact(rX (Kd.R_mono t9.out (fun _ hk=>⟨hk.1.1.1.1,⟨hk.1.1.2,⟨hk.1.2,hk.2⟩⟩⟩))));(case aS=>exact(below_size pB));(case aL=>have:=LMc14.out;omega);intro z3 z4 ho hb hg hat;rw[← o8.out] at ho;have z5:=aM (ho);replace l8:=aM (Kd.R_after (ok:=(fun k_=>(w.heap.size≤k_)∧oV r6 k_∧oV r7 k_)) (rX (Kd.R_mono l8.out (fun _ hk=>⟨⟨hk.1.1.1,⟨hk.1.1.2,hk.1.2⟩⟩,hk.2⟩))) hg hat);replace f6:=aM (Kd.V_afterv (ok:=(fun k_=>(a8 k_∨w.heap.size≤k_)∧oN p7 l5.length p9 k_∧oV r6 k_∧oV r7 k_)) (by exact vX (Kd.V_mono f6.out (fun _ hk=>⟨⟨hk.1.1.1.1,⟨hk.1.1.1.2,⟨hk.1.1.2,hk.1.2⟩⟩⟩,hk.2⟩))) hg hat);replace t4:=aM (Kd.R_after (ok:=(fun k_=>(w.heap.size≤k_)∧oN p7 l5.length p9 k_∧oV r7 k_)) (rX (Kd.R_mono t4.out (fun _ hk=>⟨⟨hk.1.1.1,⟨hk.1.2,hk.1.1.2⟩⟩,hk.2⟩))) hg hat);replace t5:=aM (Kd.R_after (ok:=(fun k_=>(w.heap.size≤k_)∧oN p7 l5.length p9 k_∧oV r6 k_)) (rX (Kd.R_mono t5.out (fun _ hk=>⟨⟨hk.1.1.1,⟨hk.1.2,hk.1.1.2⟩⟩,hk.2⟩))) hg hat);replace HB:=aM (hb);clear t9 ho hb hg hat))
        go_roundg k2
        case measure=>have:=f5.out;have:=l7.out;omega
        case rel=>exact⟨(n9),(m6),H',⟨by have:=f5.out;have:=l7.out;omega⟩,⟨by exact rX (Kd.R_mono z5.out (fun _ hk=>hk.1))⟩,⟨Kd.V_mono (Kd.R_V (rX t5.out)) (fun k_ hk=>by first|exact⟨(.inr hk.1.1),hk.2⟩|exact⟨(.inr (hk.1)),hk.2⟩|exact(.inr (hk)))⟩,⟨pB⟩⟩
       ·rw[if_neg l9] at H;have m0:decide (0 < (l6.length:Int))=false:=decide_eq_false l9;have m4:decide (0 < l6.length)=false:=decide_eq_false (by omega)
        clear l9;obtain⟨rfl,rfl⟩:=q2 H;obtain⟨z6,z7,z8⟩:=Kd.V_slice f6.out;subst z8;go_wp2
        go_ret2
        exact⟨_,eW,rX l8.out,pB⟩
    ·rw[if_neg c8] at H;exact absurd H (by simp)

def Czp.f (k:Nat) (a0:Bool) (l1:List Int) (l2:List Int):Option (Bool × List Int × List Int):=(Azb.f k l1 l2).bind fun bt647=>((Azj.f k l1 bt647.1).bind fun bt651=>((Azj.f k l2 bt647.1).bind fun bt658=>(if a0=true then(some (decide (0 < bt651.1.length),bt651.1,bt658.1)) else(some (false,bt651.1,bt658.1)))))
theorem Czp.mono:∀ a6 a7 a8 k,LeO (Czp.f k a6 a7 a8) (Czp.f (k+1) a6 a7 a8):=by
 intro a6 a7 a8 k;unfold Czp.f;have i0:=@Azj.mono;have i1:=@Azb.mono;exact mM
theorem Czp.calls (k:Nat) (a6:Bool) (a7:Option Addr) (a8:Nat) (l1:List Int) (a9:Option Addr) (c2:Nat) (l2:List Int) (b4:Bool) (b5:List Int) (b6:List Int) (w:World) (b7:cI w a7 l1) (b8:l1.length≤a8) (b9:cI w a9 l2) (d6:l2.length≤c2) (h:Czp.f k a6 l1 l2=some (b4,b5,b6)) :
  Calls Try.prog 58 #[.bool a6,.slice a7 l1.length a8,.slice a9 l2.length c2] w fun e w'=>∃ v1_ v2_:Value,e=.returned (.agg #[.bool b4,v1_,v2_])∧rI w' w (oV v2_) v1_ b5∧rI w' w (oV v1_) v2_ b6∧bw w w':=by
 have hu33:=Try.underlying33;have d7:=aM b7;have d8:=aM b8;clear b7 b8;have d9:=aM b9;have e6:=aM d6;clear b9 d6;have HB:=aM (Below.refl w.heap.size w);have H:((Azb.f k l1 l2).bind fun e7=>((Azj.f k l1 e7.1).bind fun e8=>((Azj.f k l2 e7.1).bind fun e9=>(if a6=true then(some (decide (0 < e8.1.length),e8.1,e9.1)) else(some (false,e8.1,e9.1))))))=some (b4,b5,b6):=h
 clear h;obtain⟨⟨f3,f4⟩,f5,H⟩:=bT H;(try dsimp only at H);obtain⟨⟨f6,f7,f8⟩,f9,H⟩:=bT H;(try dsimp only at H);obtain⟨⟨g4,g5,g6⟩,g7,H⟩:=bT H;(try dsimp only at H);by_cases c7:a6=true
 ·subst c7;rw[if_pos rfl] at H;obtain⟨rfl,rfl,rfl⟩:=q3 H;go_enter Try.func58,Try.ntmps58
  go_wp2_with (first|((with_reducible refine gd 6 rfl ?_);refine bzg 33 ?_;intro g8 hg g9 j3 hb;have j4:=gA w hg;replace HB:=bB hb;clear hb hg)|((with_reducible refine gc 71 rfl ?_);refine gC 71 (some 18) Try.func71 #[.slice a7 l1.length a8,.slice a9 l2.length c2] ?_;(with_reducible refine(Azb.calls k _ _ l1 (fun k_=>k_ < w.heap.size) _ _ l2 f3 f4 _ ?_ ?_ ?_ f5.out).mono ?_);exact cB d7;exact d8.out;exact Kd.V_mk e6.out (Kd.F_below (Kd.C_F (Kd.heap_int .i64) d9.out) pB);rintro e j6 ⟨j7,rfl,j8,hb⟩;refine⟨_,rfl,?_⟩;have j9:=rL (Kd.R_mono (ok':=fun k_=>True) j8 (fun _ hk_=>trivial));replace j3:=kb j3 hb;replace HB:=bB hb;clear hb j8;obtain⟨l5,l6,rfl⟩:=Kd.R_slice j9.out)|((with_reducible refine gc 86 rfl ?_);refine gC 86 (some 24) Try.func86 #[.slice a7 l1.length a8,.slice l5 f3.length l6] ?_;(with_reducible refine(Azj.calls k _ _ l1 _ _ f3 f6 f7 f8 _ ?_ ?_ ?_ ?_ f9.out).mono ?_);exact cB d7;exact d8.out;exact cR j9;exact lR j9;rintro e l7 ⟨l8,l9,rfl,j8,m0,hb⟩;refine⟨_,rfl,?_⟩;have m4:=rL (rn j8 j9);have m5:=rL (rn m0 j9);replace j9:=rO j9 hb j8 m0;replace j3:=kb j3 hb;replace HB:=bB hb;clear hb j8 m0)|((with_reducible refine gc 86 rfl ?_);refine gC 86 (some 31) Try.func86 #[.slice a9 l2.length c2,.slice l5 f3.length l6] ?_;(with_reducible refine(Azj.calls k _ _ l2 _ _ f3 g4 g5 g6 _ ?_ ?_ ?_ ?_ g7.out).mono ?_);exact cB d9;exact e6.out;exact cR j9;exact lR j9;rintro e m6 ⟨m7,m8,rfl,j8,m0,hb⟩;refine⟨_,rfl,?_⟩;have m9:=rL (rn (rn (rn j8 j9) m4) m5);have n0:=rL (rn (rn (rn m0 j9) m4) m5);replace j9:=rO j9 hb j8 m0;replace m4:=rO m4 hb j8 m0;replace m5:=rO m5 hb j8 m0;replace j3:=kb j3 hb;replace HB:=bB hb;clear hb j8 m0;obtain⟨n7,n8,rfl⟩:=Kd.R_slice m4.out;obtain⟨n9,o0,rfl⟩:=Kd.R_slice m9.out;obtain⟨o8,o9,p0,p4,p7,p9⟩:=bk3 j3))
  refine bodyPost_ret (results_cell_row rfl _ _ g8 33 #[.bool (decide (0 < f6.length)),.slice n7 f6.length n8,.slice n9 g4.length o0] (0,0) _ rfl (kQ j3) Try.underlying33 rfl (by kernel_rfl)) rfl ?_
  exact⟨_,_,eW,by exact Kd.R_mono (rT m4 j3) (fun _ hk=>hk.1.2),by exact Kd.R_mono (rT m9 j3) (fun _ hk=>hk.1.2),pB⟩
 ·obtain rfl:=bN c7;rw[if_neg nF] at H
  obtain⟨rfl,rfl,rfl⟩:=q3 H;go_enter Try.func58,Try.ntmps58
  go_wp2_with (first|((with_reducible refine gd 6 rfl ?_);refine bzg 33 ?_;intro g8 hg r5 j3 hb;have j4:=gA w hg;replace HB:=bB hb;clear hb hg)|((with_reducible refine gc 71 rfl ?_);refine gC 71 (some 18) Try.func71 #[.slice a7 l1.length a8,.slice a9 l2.length c2] ?_;(with_reducible refine(Azb.calls k _ _ l1 (fun k_=>k_ < w.heap.size) _ _ l2 f3 f4 _ ?_ ?_ ?_ f5.out).mono ?_);exact cB d7;exact d8.out;exact Kd.V_mk e6.out (Kd.F_below (Kd.C_F (Kd.heap_int .i64) d9.out) pB);rintro e r6 ⟨j7,rfl,j8,hb⟩;refine⟨_,rfl,?_⟩;have j9:=rL (Kd.R_mono (ok':=fun k_=>True) j8 (fun _ hk_=>trivial));replace j3:=kb j3 hb;replace HB:=bB hb;clear hb j8;obtain⟨r7,r8,rfl⟩:=Kd.R_slice j9.out)|((with_reducible refine gc 86 rfl ?_);refine gC 86 (some 24) Try.func86 #[.slice a7 l1.length a8,.slice r7 f3.length r8] ?_;(with_reducible refine(Azj.calls k _ _ l1 _ _ f3 f6 f7 f8 _ ?_ ?_ ?_ ?_ f9.out).mono ?_);exact cB d7;exact d8.out;exact cR j9;exact lR j9;rintro e r9 ⟨l8,l9,rfl,j8,m0,hb⟩;refine⟨_,rfl,?_⟩;have m4:=rL (rn j8 j9);have m5:=rL (rn m0 j9);replace j9:=rO j9 hb j8 m0;replace j3:=kb j3 hb;replace HB:=bB hb;clear hb j8 m0)|((with_reducible refine gc 86 rfl ?_);refine gC 86 (some 31) Try.func86 #[.slice a9 l2.length c2,.slice r7 f3.length r8] ?_;(with_reducible refine(Azj.calls k _ _ l2 _ _ f3 g4 g5 g6 _ ?_ ?_ ?_ ?_ g7.out).mono ?_);exact cB d9;exact e6.out;exact cR j9;exact lR j9;rintro e t4 ⟨m7,m8,rfl,j8,m0,hb⟩;refine⟨_,rfl,?_⟩;have m9:=rL (rn (rn (rn j8 j9) m4) m5);have n0:=rL (rn (rn (rn m0 j9) m4) m5);replace j9:=rO j9 hb j8 m0;replace m4:=rO m4 hb j8 m0;replace m5:=rO m5 hb j8 m0;replace j3:=kb j3 hb;replace HB:=bB hb;clear hb j8 m0;obtain⟨t5,t6,rfl⟩:=Kd.R_slice m9.out;obtain⟨t7,t8,rfl⟩:=Kd.R_slice m4.out;obtain⟨t9,z3,z4,z5,z6,z7⟩:=bk3 j3))
  refine bodyPost_ret (results_cell_row rfl _ _ g8 33 #[.bool false,.slice t7 f6.length t8,.slice t5 g4.length t6] (0,0) _ rfl (kQ j3) Try.underlying33 rfl (by kernel_rfl)) rfl ?_
  exact⟨_,_,eW,by exact Kd.R_mono (rT m4 j3) (fun _ hk=>hk.1.2),by exact Kd.R_mono (rT m9 j3) (fun _ hk=>hk.1.2),pB⟩


def Bzf.l0:Nat→Int→List Int→Option (List Int × Int)
 | 0,_,_=>none
 | k+1,x0,x4=>if x0 > 0 then(if x4.length < 17592186044416 then(Bzf.l0 k (wrap64 (Int.tdiv x0 1000000000)) (x4 ++ [Int.tmod x0 1000000000])) else(none)) else(some (x4,0))
def Bzf.f (k:Nat) (a0:Int):Option (List Int × Int):=if a0 < 0 then(some (([]:List Int),1)) else(Bzf.l0 k a0 ([]:List Int))
theorem Bzf.mono_l:∀ k,(∀ a6 a7,LeO (Bzf.l0 k a6 a7) (Bzf.l0 (k+1) a6 a7))
 | 0=>fun _ _ r h=>by simp [Bzf.l0] at h
 | k+1=>by
  have ih0:=Bzf.mono_l k
  ·intro a6 a7;unfold Bzf.l0;exact mM
theorem Bzf.mono:∀ a6 k,LeO (Bzf.f k a6) (Bzf.f (k+1) a6):=by
 intro a6 k;have ih0:=Bzf.mono_l k;unfold Bzf.f;exact mM
theorem Bzf.calls (k:Nat) (a6:Int) (a7:List Int) (a8:Int) (w:World) (h:Bzf.f k a6=some (a7,a8)) :
  Calls Try.prog 60 #[.int .i64 a6] w fun e w'=>∃ v0_:Value,e=.returned (.tuple #[v0_,.int .i64 a8])∧rI w' w (fun _=>True) v0_ a7∧bw w w':=by
 have HB:=aM (Below.refl w.heap.size w);have H:(if a6 < 0 then(some (([]:List Int),1)) else(Bzf.l0 k a6 ([]:List Int)))=some (a7,a8):=h
 clear h;replace H:=iD H;rcases H with⟨a9,H⟩|⟨a9,H⟩
 ·obtain⟨rfl,rfl⟩:=q2 H;go_enter Try.func60,Try.ntmps60
  go_wp2
  go_ret2
  exact⟨_,eW,nK,pB⟩
 ·have H':=aM H;clear H;go_enter Try.func60,Try.ntmps60
  go_wp2
  go_loopg [0,4] k (fun kq b4 b5 w'=>∃ (b6:Int) (b7:List Int),b4=.int .i64 b6∧Aside0 (Bzf.l0 kq b6 b7=some (a7,a8))∧Aside0 (kq≤k)∧Aside0 (rI w' w (fun _=>True) b5 b7)∧Aside0 (bw w w'))
  case atStart=>exact⟨(a6),(([]:List Int)),sD,H',⟨Nat.le_refl _⟩,⟨nK⟩,⟨pB⟩⟩
  case round =>
   clear H';try clear c2
   obtain⟨b6,b7,rfl,HA,b8,b9,HB⟩:=hrel;cases gk with
   | zero=>exact absurd HA.out (by simp [Bzf.l0])
   | succ k1 =>
    have H:=HA.out;clear HA;simp only[Bzf.l0] at H;by_cases c3:b6 > 0
    ·rw[if_pos c3] at H;have d6:decide (0 < b6)=true:=dE c3;clear c3;obtain⟨c4,H⟩:=iO H;have LMc4:=aM c4;clear c4;obtain⟨d7,d8⟩:∃ y_:List Int,y_=(b7 ++ [Int.tmod b6 1000000000]):=⟨_,rfl⟩;replace H:(Bzf.l0 k1 (wrap64 (Int.tdiv b6 1000000000)) d7)=some (a7,a8):=yE d8 H
     have d9:=aM d8;clear d8;have H':=aM H;clear H;go_wp2_with (first|((with_reducible refine gate_builtin (b:=.append) (xs:=#[.tmp 9,.tmp 12]) rfl ?_);at_builtin;refine Kd.R_append (Kd.int .i64) (w0:=w) w.heap.size rfl (.tmp 9) (.tmp 12) 31 3 (.int .i64 0) 8 rfl Try.underlying31 info3 rfl (by decide) (by omega) u4 b7 (Int.tmod b6 1000000000) [.int .i64 (Int.tmod b6 1000000000)] (fun _=>True) (fun _=>False) rfl rfl ?aP (fun _ hk=>hk.elim) ?aF ?aO ?aB ?aS ?aL ?_;(case aP=>exact rfl);(case aB=>exact pB);(case aF=>exact(fun _ _=>trivial));(case aO=>exact(rX b9.out));(case aS=>exact(below_size pB));(case aL=>have:=LMc4.out;omega);intro e6 e7 ho hb hg hat;rw[← d9.out] at ho;have e8:=aM (ho);replace HB:=aM (hb);clear b9 ho hb hg hat))
     go_roundg k1
     case measure=>have:=b8.out;omega
     case rel=>exact⟨(wrap64 (Int.tdiv b6 1000000000)),(d7),sD,H',⟨by have:=b8.out;omega⟩,⟨rX e8.out⟩,⟨pB⟩⟩
    ·rw[if_neg c3] at H;have d6:decide (0 < b6)=false:=decide_eq_false c3;clear c3;obtain⟨rfl,rfl⟩:=q2 H;go_wp2
     go_ret2
     exact⟨_,eW,rX b9.out,pB⟩

def Azx.j0:Nat→Int→Int→Bool→Option (Bool × List Int × List Int × Int)
 | 0,_,_,_=>none
 | k+1,x0,x1,x23=>if x23=true then(some (false,([]:List Int),([]:List Int),1)) else(if x1=0 then(some (false,([]:List Int),([]:List Int),16)) else((Bzf.f k (mx x0 (wrap64 (-x0)))).bind fun bt669=>((Bzf.f k (mx x1 (wrap64 (-x1)))).bind fun bt673=>((Czp.f k ((decide (x0 < 0)) != (decide (x1 < 0))) bt669.1 bt673.1).bind fun bt677=>(some (bt677.1,bt677.2.1,bt677.2.2,0))))))
def Azx.f (k:Nat) (a0:Int) (a1:Int):Option (Bool × List Int × List Int × Int):=if a0 < (-1125899906842624) then(Azx.j0 k a0 a1 true) else(if a0 > 1125899906842624 then(Azx.j0 k a0 a1 true) else(if a1 < (-1125899906842624) then(Azx.j0 k a0 a1 true) else(Azx.j0 k a0 a1 (decide (a1 > 1125899906842624)))))
theorem Azx.mono_l:∀ k,(∀ a6 a7 a8,LeO (Azx.j0 k a6 a7 a8) (Azx.j0 (k+1) a6 a7 a8))
 | 0=>fun _ _ _ r h=>by simp [Azx.j0] at h
 | k+1=>by
  have ih0:=Azx.mono_l k
  ·intro a6 a7 a8;unfold Azx.j0;have i0:=@Bzf.mono;have i1:=@Czp.mono;exact mM
theorem Azx.mono:∀ a6 a7 k,LeO (Azx.f k a6 a7) (Azx.f (k+1) a6 a7):=by
 intro a6 a7 k;have ih0:=Azx.mono_l k;unfold Azx.f;have i0:=@Bzf.mono;have i1:=@Czp.mono;exact mM
theorem Azx.calls (k:Nat) (a6:Int) (a7:Int) (a8:Bool) (a9:List Int) (b4:List Int) (b5:Int) (w:World) (h:Azx.f k a6 a7=some (a8,a9,b4,b5)) :
  Calls Try.prog 33 #[.int .i64 a6,.int .i64 a7] w fun e w'=>∃ v1_ v2_:Value,e=.returned (.tuple #[.agg #[.bool a8,v1_,v2_],.int .i64 b5])∧rI w' w (oV v2_) v1_ a9∧rI w' w (oV v1_) v2_ b4∧bw w w':=by
 have hu33:=Try.underlying33;have HB:=aM (Below.refl w.heap.size w);have H:(if a6 < (-1125899906842624) then(Azx.j0 k a6 a7 true) else(if a6 > 1125899906842624 then(Azx.j0 k a6 a7 true) else(if a7 < (-1125899906842624) then(Azx.j0 k a6 a7 true) else(Azx.j0 k a6 a7 (decide (a7 > 1125899906842624))))))=some (a8,a9,b4,b5):=h
 clear h;have b6:=aM H;clear H;go_enter Try.func33,Try.ntmps33
 go_upto_region 1 with (first|((with_reducible refine gd 4 rfl ?_);refine bz 33 ?_;intro b7 hg b8 b9 hb;have d6:=gA w hg;replace HB:=bB hb;clear hb hg))
 (try simp only[Act.put,sA,sZ,sC])
 go_cut [23] (fun d8 wc=>∃ (kq:Nat) (d9:Bool),d8=.bool d9∧Aside0 (Azx.j0 kq a6 a7 d9=some (a8,a9,b4,b5))∧Aside0 (kq≤k)∧Aside0 (wc.heap[b7]?=some (.cells #[.bool false,(.slice none 0 0),(.slice none 0 0)] 33 (0,0)))∧Aside0 (bw w wc))
 case first =>
  have H:=b6.out;clear b6;replace H:=iD H;rcases H with⟨e6,H⟩|⟨e6,H⟩
  ·(first|rw[e6]|(simp only[i64_w,i32_w];rw[e6])|skip)
   have H':=aM H;clear H;go_wp2
   go_meet
   case rel=>exact⟨_,(true),sD,H',⟨by first|omega|exact Nat.le_refl _⟩,⟨by exact kW b9⟩,⟨pB⟩⟩
  ·(first|rw[e6]|(simp only[i64_w,i32_w];rw[e6])|skip)
   by_cases c6:a6 > 1125899906842624
   ·rw[if_pos c6] at H;have e7:decide (1125899906842624 < a6)=true:=dE c6;clear c6;have H':=aM H;clear H;go_wp2
    go_meet
    case rel=>exact⟨_,(true),sD,H',⟨by first|omega|exact Nat.le_refl _⟩,⟨by exact kW b9⟩,⟨pB⟩⟩
   ·rw[if_neg c6] at H;have e7:decide (1125899906842624 < a6)=false:=decide_eq_false c6;clear c6;replace H:=iD H;rcases H with⟨e8,H⟩|⟨e8,H⟩
    ·have H':=aM H;clear H;go_wp2
     go_meet
     case rel=>exact⟨_,(true),sD,H',⟨by first|omega|exact Nat.le_refl _⟩,⟨by exact kW b9⟩,⟨pB⟩⟩
    ·have H':=aM H;clear H;go_wp2
     go_meet
     case rel=>exact⟨_,(decide (a7 > 1125899906842624)),sD,H',⟨by first|omega|exact Nat.le_refl _⟩,⟨by exact kW b9⟩,⟨pB⟩⟩
 case rest =>
  clear b6;try clear e9
  obtain⟨kq,d9,rfl,HA,f3,b9,HB⟩:=hcut;cases kq with
  | zero=>exact absurd HA.out (by simp [Azx.j0])
  | succ f4 =>
   have H:=HA.out;clear HA;simp only[Azx.j0] at H;by_cases c8:d9=true
   ·subst c8;rw[if_pos rfl] at H;obtain⟨rfl,rfl,rfl,rfl⟩:=q4 H;obtain⟨f5,f6,f7,f8,f9,g4⟩:=bk3 b9;go_wp2
    refine rC b7 33 #[.bool false,.slice none 0 0,.slice none 0 0] (kQ b9) Try.underlying33 ?_
    exact⟨_,_,eW,nK,nK,pB⟩
   ·obtain rfl:=bN c8;rw[if_neg nF] at H
    replace H:=iE H;rcases H with⟨g5,g6,H⟩|⟨c10,g5,g6,H⟩
    ·obtain⟨rfl,rfl,rfl,rfl⟩:=q4 H;obtain⟨g7,g8,g9,j3,j4,j5⟩:=bk3 b9;go_wp2
     refine rC b7 33 #[.bool false,.slice none 0 0,.slice none 0 0] (kQ b9) Try.underlying33 ?_
     exact⟨_,_,eW,nK,nK,pB⟩
    ·obtain⟨j6,j7⟩:∃ j_:Int,(mx a6 (wrap64 (-a6)))=j_:=⟨_,rfl⟩;replace H:((Bzf.f f4 (j6)).bind fun j8=>((Bzf.f f4 (mx a7 (wrap64 (-a7)))).bind fun j9=>((Czp.f f4 ((decide (a6 < 0)) != (decide (a7 < 0))) j8.1 j9.1).bind fun l5=>(some (l5.1,l5.2.1,l5.2.2,0)))))=some (a8,a9,b4,b5):=by first|(rw[j7] at H;exact H)|(simp only[j7] at H ⊢;exact H)
     have l6:(if a6 < (wrap64 (-a6)) then(wrap64 (-a6)) else a6)=j6:=j7
     obtain⟨⟨l7,l8⟩,l9,H⟩:=bT H;(try dsimp only at H);obtain⟨m0,m4⟩:∃ j_:Int,(mx a7 (wrap64 (-a7)))=j_:=⟨_,rfl⟩;replace H:((Bzf.f f4 (m0)).bind fun j9=>((Czp.f f4 ((decide (a6 < 0)) != (decide (a7 < 0))) l7 j9.1).bind fun l5=>(some (l5.1,l5.2.1,l5.2.2,0))))=some (a8,a9,b4,b5):=by first|(rw[m4] at H;exact H)|(simp only[m4] at H ⊢;exact H)
     (try rw[m4] at l9)
     have m5:(if a7 < (wrap64 (-a7)) then(wrap64 (-a7)) else a7)=m0:=m4
     obtain⟨⟨m6,m7⟩,m8,H⟩:=bT H;(try dsimp only at H);replace H:=bS H;obtain⟨⟨m9,n0,n7⟩,n8,H⟩:=H;replace H:(some (m9,n0,n7,0))=some (a8,a9,b4,b5):=H;have n9:=aM n8;clear n8;obtain⟨rfl,rfl,rfl,rfl⟩:=q4 H;go_wp2_with (first|((with_reducible refine gate_callee (f:=60) rfl ?_);refine goesL_ (some 33) rfl rfl Try.func60 (by kernel_rfl) rfl #[.int .i64 j6] rfl (by(try simp only[List.map_toArray,List.map_cons,List.map_nil]);first|done|(simp only[j7];rfl)|rfl|(simp only[List.length_drop,List.length_take];rfl)) ?_;(with_reducible refine(Bzf.calls f4 j6 l7 l8 _ l9.out).mono ?_);rintro e o0 ⟨o8,rfl,o9,hb⟩;refine⟨_,rfl,?_⟩;have p0:=rL o9;replace b9:=kb b9 hb;replace HB:=bB hb;clear hb o9)|((with_reducible refine gate_callee (f:=60) rfl ?_);refine goesL_ (some 41) rfl rfl Try.func60 (by kernel_rfl) rfl #[.int .i64 m0] rfl (by(try simp only[List.map_toArray,List.map_cons,List.map_nil]);first|done|(simp only[m4];rfl)|rfl|(simp only[List.length_drop,List.length_take];rfl)) ?_;(with_reducible refine(Bzf.calls f4 m0 m6 m7 _ m8.out).mono ?_);rintro e p4 ⟨p7,rfl,o9,hb⟩;refine⟨_,rfl,?_⟩;have p9:=rL (rn o9 p0);replace p0:=rE p0 o9 hb;replace b9:=kb b9 hb;replace HB:=bB hb;clear hb o9;obtain⟨r5,r6,rfl⟩:=Kd.R_slice p0.out;obtain⟨r7,r8,rfl⟩:=Kd.R_slice p9.out)|((with_reducible refine gc 58 rfl ?_);refine gC 58 (some 51) Try.func58 #[.bool ((decide (a6 < 0)) != (decide (a7 < 0))),.slice r5 l7.length r6,.slice r7 m6.length r8] ?_;(with_reducible refine(Czp.calls f4 ((decide (a6 < 0)) != (decide (a7 < 0))) _ _ l7 _ _ m6 m9 n0 n7 _ ?_ ?_ ?_ ?_ n9.out).mono ?_);exact cR p0;exact lR p0;exact cR p9;exact lR p9;rintro e r9 ⟨t4,t5,rfl,o9,t6,hb⟩;refine⟨_,rfl,?_⟩;have t7:=rL (rn (rn o9 p0) p9);have t8:=rL (rn (rn t6 p0) p9);replace p0:=rO p0 hb o9 t6;replace p9:=rO p9 hb o9 t6;replace b9:=kb b9 hb;replace HB:=bB hb;clear hb o9 t6;obtain⟨t9,z3,z4,z5,z6,z7⟩:=bk3 b9;obtain⟨z8,z9,rfl⟩:=Kd.R_slice t7.out;obtain⟨B0,B5,rfl⟩:=Kd.R_slice t8.out))
     refine rC b7 33 #[.bool m9,.slice z8 n0.length z9,.slice B0 n7.length B5] (kQ b9) Try.underlying33 ?_
     exact⟨_,_,by first|rfl|(simp [errW_none,errW_some] <;> rfl)|(simp only[← j7,← m4];first|rfl|(simp [errW_none,errW_some] <;> rfl))|(simp [*,errW_none,errW_some] <;> rfl),by exact Kd.R_mono (rT t7 b9) (fun _ hk=>hk.1.1),by exact Kd.R_mono (rT t8 b9) (fun _ hk=>hk.1.1),pB⟩

def Dzj.f (k:Nat) (a0:Int):Option (Bool × List Int × List Int × Int):=(Azx.f k a0 1).bind fun bt685=>(some (bt685.1,bt685.2.1,bt685.2.2.1,bt685.2.2.2))
theorem Dzj.mono:∀ a6 k,LeO (Dzj.f k a6) (Dzj.f (k+1) a6):=by
 intro a6 k;unfold Dzj.f;have i0:=@Azx.mono;exact mM
theorem Dzj.calls (k:Nat) (a6:Int) (a7:Bool) (a8:List Int) (a9:List Int) (b4:Int) (w:World) (h:Dzj.f k a6=some (a7,a8,a9,b4)) :
  Calls Try.prog 40 #[.int .i64 a6] w fun e w'=>∃ v1_ v2_:Value,e=.returned (.tuple #[.agg #[.bool a7,v1_,v2_],.int .i64 b4])∧rI w' w (oV v2_) v1_ a8∧rI w' w (oV v1_) v2_ a9∧bw w w':=by
 have hu33:=Try.underlying33;have HB:=aM (Below.refl w.heap.size w);have H:((Azx.f k a6 1).bind fun b5=>(some (b5.1,b5.2.1,b5.2.2.1,b5.2.2.2)))=some (a7,a8,a9,b4):=h
 clear h;replace H:=bS H;obtain⟨⟨b6,b7,b8,b9⟩,d6,H⟩:=H;replace H:(some (b6,b7,b8,b9))=some (a7,a8,a9,b4):=H;have d7:=aM d6;clear d6;obtain⟨rfl,rfl,rfl,rfl⟩:=q4 H;go_enter Try.func40,Try.ntmps40
 go_wp2_with (first|((with_reducible refine gd 2 rfl ?_);refine bz 33 ?_;intro d8 hg d9 e6 hb;have e7:=gA w hg;replace HB:=bB hb;clear hb hg)|((with_reducible refine gc 33 rfl ?_);refine gC 33 (some 5) Try.func33 #[.int .i64 a6,.int .i64 1] ?_;(with_reducible refine(Azx.calls k a6 1 b6 b7 b8 b9 _ d7.out).mono ?_);rintro e e9 ⟨f3,f4,rfl,f5,f6,hb⟩;refine⟨_,rfl,?_⟩;have f7:=rL f5;have f8:=rL f6;replace e6:=kb e6 hb;replace HB:=bB hb;clear hb f5 f6;obtain⟨f9,g4,g5,g6,g7,g8⟩:=bk3 e6;obtain⟨g9,j3,rfl⟩:=Kd.R_slice f7.out;obtain⟨j4,j5,rfl⟩:=Kd.R_slice f8.out))
 refine rC d8 33 #[.bool b6,.slice g9 b7.length j3,.slice j4 b8.length j5] (kQ e6) Try.underlying33 ?_
 exact⟨_,_,eW,by exact Kd.R_mono (rT f7 e6) (fun _ hk=>hk),by exact Kd.R_mono (rT f8 e6) (fun _ hk=>hk),pB⟩

def Ezv.f (k:Nat) (a0:Int):Option (Bool × List Int × List Int):=(Dzj.f k a0).bind fun bt694=>(some (bt694.1,bt694.2.1,bt694.2.2.1))
theorem Ezv.mono:∀ a6 k,LeO (Ezv.f k a6) (Ezv.f (k+1) a6):=by
 intro a6 k;unfold Ezv.f;have i0:=@Dzj.mono;exact mM
theorem Ezv.calls (k:Nat) (a6:Int) (a7:Bool) (a8:List Int) (a9:List Int) (w:World) (h:Ezv.f k a6=some (a7,a8,a9)) :
  Calls Try.prog 31 #[.int .i64 a6] w fun e w'=>∃ v1_ v2_:Value,e=.returned (.agg #[.bool a7,v1_,v2_])∧rI w' w (oV v2_) v1_ a8∧rI w' w (oV v1_) v2_ a9∧bw w w':=by
 have hu33:=Try.underlying33;have HB:=aM (Below.refl w.heap.size w);have H:((Dzj.f k a6).bind fun b4=>(some (b4.1,b4.2.1,b4.2.2.1)))=some (a7,a8,a9):=h
 clear h;replace H:=bS H;obtain⟨⟨b5,b6,b7,b8⟩,b9,H⟩:=H;replace H:(some (b5,b6,b7))=some (a7,a8,a9):=H;have d6:=aM b9;clear b9;obtain⟨rfl,rfl,rfl⟩:=q3 H;go_enter Try.func31,Try.ntmps31
 go_wp2_with (first|((with_reducible refine gd 2 rfl ?_);refine bz 33 ?_;intro d7 hg d8 d9 hb;have e6:=gA w hg;replace HB:=bB hb;clear hb hg)|((with_reducible refine gc 40 rfl ?_);refine gC 40 (some 7) Try.func40 #[.int .i64 a6] ?_;(with_reducible refine(Dzj.calls k a6 b5 b6 b7 b8 _ d6.out).mono ?_);rintro e e8 ⟨e9,f3,rfl,f4,f5,hb⟩;refine⟨_,rfl,?_⟩;have f6:=rL f4;have f7:=rL f5;replace d9:=kb d9 hb;replace HB:=bB hb;clear hb f4 f5)|((with_reducible refine gd 3 rfl ?_);refine bz 33 ?_;intro f8 hg f9 g4 hb;have g5:=gA w hg;have g7:=nl hg d9;have g8:=ng hg d9;replace f6:=rB f6 hb;replace f7:=rB f7 hb;replace d9:=kb d9 hb;replace HB:=bB hb;clear hb hg;have g9:=g8.out;have j3:=g7.out;obtain⟨j4,j5,j6,j7,j8,j9⟩:=bk3 g4;obtain⟨l5,l6,rfl⟩:=Kd.R_slice f6.out;obtain⟨l7,l8,rfl⟩:=Kd.R_slice f7.out;obtain⟨l9,m0,m4,m5,m6,m7⟩:=bk3 d9))
 refine bodyPost_ret (results_cell_row rfl _ _ d7 33 #[.bool b5,.slice l5 b6.length l6,.slice l7 b7.length l8] (0,0) _ rfl (by refine bD ?_;refine blk_put (cs:=#[.bool b5,.slice l5 b6.length l6,.slice none 0 0]) ?_ 2 _ rfl;refine bD ?_;refine blk_put (cs:=#[.bool b5,.slice none 0 0,.slice none 0 0]) ?_ 1 _ rfl;refine bD ?_;refine blk_put (cs:=#[.bool false,.slice none 0 0,.slice none 0 0]) ?_ 0 _ rfl;refine bD ?_;refine blk_far ?_ g7.out _;refine bD ?_;refine blk_far ?_ g7.out _;refine bD ?_;refine blk_far ?_ g7.out _;(with_reducible repeat(first|refine blk_drewN ?_ _|refine blk_drew ?_|refine blk_alloc ?_ _));exact d9.out) Try.underlying33 rfl (by kernel_rfl)) rfl ?_
 exact⟨_,_,eW,by exact rX (Kd.R_mono (Kd.R_far (p:=⟨d7,2,none⟩) (Kd.R_far (p:=⟨d7,1,none⟩) (Kd.R_far (p:=⟨d7,0,none⟩) (Kd.R_far (p:=⟨f8,2,none⟩) (Kd.R_far (p:=⟨f8,1,none⟩) (Kd.R_far (p:=⟨f8,0,none⟩) (Kd.R_types (Kd.R_types f6.out g4.out (by decide)) d9.out (by decide)) (fun _ hk=>hk.1.2) (.bool b5)) (fun _ hk=>hk.1.2) (.slice l5 b6.length l6)) (fun _ hk=>hk.1.2) (.slice l7 b7.length l8)) (fun _ hk=>hk.2) (.bool b5)) (fun _ hk=>hk.2) (.slice l5 b6.length l6)) (fun _ hk=>hk.2) (.slice l7 b7.length l8)) (fun _ hk=>hk.1.1)),by exact rX (Kd.R_mono (Kd.R_far (p:=⟨d7,2,none⟩) (Kd.R_far (p:=⟨d7,1,none⟩) (Kd.R_far (p:=⟨d7,0,none⟩) (Kd.R_far (p:=⟨f8,2,none⟩) (Kd.R_far (p:=⟨f8,1,none⟩) (Kd.R_far (p:=⟨f8,0,none⟩) (Kd.R_types (Kd.R_types f7.out g4.out (by decide)) d9.out (by decide)) (fun _ hk=>hk.1.2) (.bool b5)) (fun _ hk=>hk.1.2) (.slice l5 b6.length l6)) (fun _ hk=>hk.1.2) (.slice l7 b7.length l8)) (fun _ hk=>hk.2) (.bool b5)) (fun _ hk=>hk.2) (.slice l5 b6.length l6)) (fun _ hk=>hk.2) (.slice l7 b7.length l8)) (fun _ hk=>hk.1.1)),pB⟩

end Go.Proofs.Ytbnpcplckcipfaa.Print
