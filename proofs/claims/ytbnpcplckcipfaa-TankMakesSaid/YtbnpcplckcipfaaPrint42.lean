import Derived.Test.YtbnpcplckcipfaaPrint0
import Derived.Test.YtbnpcplckcipfaaPrint37
namespace Go.Proofs.Ytbnpcplckcipfaa.Print
open Go.RowKit Go.Proofs.YtbnpcplckcipfaaW.PrintWords Go.Proofs.YtbnpcplckcipfaaW.PrintLast Go.Proofs.YtbnpcplckcipfaaW.PrintMore
attribute [local go_sem] max2_int min2_int max_two min_two max_three min_three max_four min_four
set_option linter.unusedVariables false
set_option maxRecDepth 100000
set_option maxHeartbeats 8000000
set_option linter.unusedSimpArgs false

def Bzw.l0:Nat→List Int→List Int→List Int→Int→Int→Option (List Int)
 | 0,_,_,_,_,_=>none
 | k+1,x0,x1,x5,x6,x7=>if x7 < (x0.length:Int) then(if 0≤x7 then((Ezq.f x1 x7).bind fun t575=>(if(wrap64 ((wrap64 ((rd x0 x7) - t575)) - x6)) < 0 then(if x5.length < 17592186044416 then(Bzw.l0 k x0 x1 (x5 ++ [wrap64 ((wrap64 ((wrap64 ((rd x0 x7) - t575)) - x6))+1000000000)]) 1 (wrap64 (x7+1))) else(none)) else(if x5.length < 17592186044416 then(Bzw.l0 k x0 x1 (x5 ++ [wrap64 ((wrap64 ((rd x0 x7) - t575)) - x6)]) 0 (wrap64 (x7+1))) else(none)))) else(none)) else((Bzz.f k x5).bind fun bt582=>(some bt582.1))
def Bzw.f (k:Nat) (l0:List Int) (l1:List Int):Option (List Int):=Bzw.l0 k l0 l1 ([]:List Int) 0 0
theorem Bzw.mono_l:∀ k,(∀ a6 a7 a8 a9 b4,LeO (Bzw.l0 k a6 a7 a8 a9 b4) (Bzw.l0 (k+1) a6 a7 a8 a9 b4))
 | 0=>fun _ _ _ _ _ r h=>by simp [Bzw.l0] at h
 | k+1=>by
  have ih0:=Bzw.mono_l k
  ·intro a6 a7 a8 a9 b4;unfold Bzw.l0;have i0:=@Bzz.mono;exact mM
theorem Bzw.mono:∀ a6 a7 k,LeO (Bzw.f k a6 a7) (Bzw.f (k+1) a6 a7):=by
 intro a6 a7 k;have ih0:=Bzw.mono_l k;unfold Bzw.f;have i0:=@Bzz.mono;exact mM
theorem Bzw.calls (k:Nat) (a6:Option Addr) (a7:Nat) (l0:List Int) (a8:Option Addr) (a9:Nat) (l1:List Int) (r:List Int) (w:World) (b4:cI w a6 l0) (b5:l0.length≤a7) (b6:cI w a8 l1) (b7:l1.length≤a9) (h:Bzw.f k l0 l1=some r) :
  Calls Try.prog 106 #[.slice a6 l0.length a7,.slice a8 l1.length a9] w fun e w'=>∃ v0_:Value,e=.returned (v0_)∧rI w' w (fun _=>True) v0_ r∧bw w w':=by
 have b8:=aM b4;have b9:=aM b5;clear b4 b5;have d6:=aM b6;have d7:=aM b7;clear b6 b7;have HB:=aM (Below.refl w.heap.size w);have H:(Bzw.l0 k l0 l1 ([]:List Int) 0 0)=some r:=h;clear h;have H':=aM H;clear H;go_enter Try.func106,Try.ntmps106
 go_wp2
 repeat(go_quiet (fail);try go_wp2)
 go_loopg [5,6,7] k (fun kq d8 d9 e6 w'=>∃ (e7:List Int) (e8:Int) (e9:Int),d9=.int .i64 e8∧e6=.int .i64 e9∧Aside0 (Bzw.l0 kq l0 l1 e7 e8 e9=some r)∧Aside0 (kq≤k)∧Aside0 (rI w' w (fun _=>True) d8 e7)∧Aside0 (bw w w'))
 case atStart=>exact⟨(([]:List Int)),(0),(0),sD,sD,H',⟨Nat.le_refl _⟩,⟨nK⟩,⟨pB⟩⟩
 case round =>
  clear H';try clear a9
  obtain⟨e7,e8,e9,rfl,rfl,HA,f4,f5,HB⟩:=hrel;cases gk with
  | zero=>exact absurd HA.out (by simp [Bzw.l0])
  | succ k1 =>
   have H:=HA.out;clear HA;simp only[Bzw.l0] at H;by_cases c3:e9 < (l0.length:Int)
   ·rw[if_pos c3] at H;have f6:=dE c3;clear c3;obtain⟨f7,H⟩:=iN H;obtain⟨f8,f9,H⟩:=bT H;(try dsimp only at H);have g4:=aM H;clear H;obtain⟨g5,g6,g7,g8,g9⟩:=aI b8.out e9;cases g6
    replace g7:=hB HB g7;go_upto_if 26 with (first|(go_at_call 105;(with_reducible refine(Ezq.calls _ _ l1 e9 f8 _ ?_ ?_ f9.out).mono ?_);exact cB d6;exact d7.out;rintro e w' ⟨rfl,⟨nd,rfl⟩⟩;(try exact dD)))
    repeat(go_quiet (first|(go_at_call 105;(with_reducible refine(Ezq.calls _ _ l1 e9 f8 _ ?_ ?_ f9.out).mono ?_);exact cB d6;exact d7.out;rintro e w' ⟨rfl,⟨nd,rfl⟩⟩;(try exact dD)));go_upto_if 26 with (first|(go_at_call 105;(with_reducible refine(Ezq.calls _ _ l1 e9 f8 _ ?_ ?_ f9.out).mono ?_);exact cB d6;exact d7.out;rintro e w' ⟨rfl,⟨nd,rfl⟩⟩;(try exact dD))))
    have H:=g4.out;clear g4;by_cases c7:(wrap64 ((wrap64 ((rd l0 e9) - f8)) - e8)) < 0
    ·rw[if_pos c7] at H;have j3:decide ((wrap64 ((wrap64 ((rd l0 e9) - f8)) - e8)) < 0)=true:=dE c7;have j4:decide ((IntKind.i64.wrap ((IntKind.i64.wrap ((rd l0 e9) - f8)) - e8)) < 0)=true:=by have h_:=j3;first|exact h_|(simp only[i64_w];exact h_)
     clear c7;(first|rw[j3]|(simp only[i64_w,i32_w];rw[j3])|skip)
     obtain⟨c8,H⟩:=iO H;have LMc8:=aM c8;clear c8;obtain⟨j5,j6⟩:∃ y_:List Int,y_=(e7 ++ [wrap64 ((wrap64 ((wrap64 ((rd l0 e9) - f8)) - e8))+1000000000)]):=⟨_,rfl⟩;replace H:(Bzw.l0 k1 l0 l1 j5 1 (wrap64 (e9+1)))=some r:=yE j6 H
     have j7:=aM j6;clear j6;have H':=aM H;clear H;have fl_:True:=trivial;repeat((first|clear fl_|go_quiet (first|((with_reducible refine gate_builtin (b:=.append) (xs:=#[.tmp 29,.tmp 31]) rfl ?_);at_builtin;refine Kd.R_append (Kd.int .i64) (w0:=w) w.heap.size rfl (.tmp 29) (.tmp 31) 31 3 (.int .i64 0) 8 rfl Try.underlying31 info3 rfl (by decide) (by omega) u5 e7 (wrap64 ((wrap64 ((wrap64 ((rd l0 e9) - f8)) - e8))+1000000000)) [.int .i64 (wrap64 ((wrap64 ((wrap64 ((rd l0 e9) - f8)) - e8))+1000000000))] (fun _=>True) (fun _=>False) rfl rfl ?aP (fun _ hk=>hk.elim) ?aF ?aO ?aB ?aS ?aL ?_;(case aP=>exact rfl);(case aB=>exact pB);(case aF=>exact(fun _ _=>trivial));(case aO=>exact(rX f5.out));(case aS=>exact(below_size pB));(case aL=>have:=LMc8.out;omega);intro j8 j9 ho hb hg hat;rw[← j7.out] at ho;have l5:=aM (ho);replace HB:=aM (hb);clear f5 ho hb hg hat)));go_wp2_with (first|((with_reducible refine gate_builtin (b:=.append) (xs:=#[.tmp 29,.tmp 31]) rfl ?_);at_builtin;refine Kd.R_append (Kd.int .i64) (w0:=w) w.heap.size rfl (.tmp 29) (.tmp 31) 31 3 (.int .i64 0) 8 rfl Try.underlying31 info3 rfl (by decide) (by omega) u5 e7 (wrap64 ((wrap64 ((wrap64 ((rd l0 e9) - f8)) - e8))+1000000000)) [.int .i64 (wrap64 ((wrap64 ((wrap64 ((rd l0 e9) - f8)) - e8))+1000000000))] (fun _=>True) (fun _=>False) rfl rfl ?aP (fun _ hk=>hk.elim) ?aF ?aO ?aB ?aS ?aL ?_;(case aP=>exact rfl);(case aB=>exact pB);(case aF=>exact(fun _ _=>trivial));(case aO=>exact(rX f5.out));(case aS=>exact(below_size pB));(case aL=>have:=LMc8.out;omega);intro j8 j9 ho hb hg hat;rw[← j7.out] at ho;have l5:=aM (ho);replace HB:=aM (hb);clear f5 ho hb hg hat)))
     go_roundg k1
     case measure=>have:=f4.out;omega
     case rel=>exact⟨(j5),(1),(wrap64 (e9+1)),sD,sD,H',⟨by have:=f4.out;omega⟩,⟨rX l5.out⟩,⟨pB⟩⟩
    ·rw[if_neg c7] at H;have j3:decide ((wrap64 ((wrap64 ((rd l0 e9) - f8)) - e8)) < 0)=false:=decide_eq_false c7;have j4:decide ((IntKind.i64.wrap ((IntKind.i64.wrap ((rd l0 e9) - f8)) - e8)) < 0)=false:=by have h_:=j3;first|exact h_|(simp only[i64_w];exact h_)
     clear c7;(first|rw[j3]|(simp only[i64_w,i32_w];rw[j3])|skip)
     obtain⟨c10,H⟩:=iO H;have LMc10:=aM c10;clear c10;obtain⟨l6,l7⟩:∃ y_:List Int,y_=(e7 ++ [wrap64 ((wrap64 ((rd l0 e9) - f8)) - e8)]):=⟨_,rfl⟩;replace H:(Bzw.l0 k1 l0 l1 l6 0 (wrap64 (e9+1)))=some r:=yE l7 H
     have l8:=aM l7;clear l7;have H':=aM H;clear H;have fl_:True:=trivial;repeat((first|clear fl_|go_quiet (first|((with_reducible refine gate_builtin (b:=.append) (xs:=#[.tmp 29,.tmp 31]) rfl ?_);at_builtin;refine Kd.R_append (Kd.int .i64) (w0:=w) w.heap.size rfl (.tmp 29) (.tmp 31) 31 3 (.int .i64 0) 8 rfl Try.underlying31 info3 rfl (by decide) (by omega) u5 e7 (wrap64 ((wrap64 ((rd l0 e9) - f8)) - e8)) [.int .i64 (wrap64 ((wrap64 ((rd l0 e9) - f8)) - e8))] (fun _=>True) (fun _=>False) rfl rfl ?aP (fun _ hk=>hk.elim) ?aF ?aO ?aB ?aS ?aL ?_;(case aP=>exact rfl);(case aB=>exact pB);(case aF=>exact(fun _ _=>trivial));(case aO=>exact(rX f5.out));(case aS=>exact(below_size pB));(case aL=>have:=LMc10.out;omega);intro l9 m0 ho hb hg hat;rw[← l8.out] at ho;have m4:=aM (ho);replace HB:=aM (hb);clear f5 ho hb hg hat)));go_wp2_with (first|((with_reducible refine gate_builtin (b:=.append) (xs:=#[.tmp 29,.tmp 31]) rfl ?_);at_builtin;refine Kd.R_append (Kd.int .i64) (w0:=w) w.heap.size rfl (.tmp 29) (.tmp 31) 31 3 (.int .i64 0) 8 rfl Try.underlying31 info3 rfl (by decide) (by omega) u5 e7 (wrap64 ((wrap64 ((rd l0 e9) - f8)) - e8)) [.int .i64 (wrap64 ((wrap64 ((rd l0 e9) - f8)) - e8))] (fun _=>True) (fun _=>False) rfl rfl ?aP (fun _ hk=>hk.elim) ?aF ?aO ?aB ?aS ?aL ?_;(case aP=>exact rfl);(case aB=>exact pB);(case aF=>exact(fun _ _=>trivial));(case aO=>exact(rX f5.out));(case aS=>exact(below_size pB));(case aL=>have:=LMc10.out;omega);intro l9 m0 ho hb hg hat;rw[← l8.out] at ho;have m4:=aM (ho);replace HB:=aM (hb);clear f5 ho hb hg hat)))
     go_roundg k1
     case measure=>have:=f4.out;omega
     case rel=>exact⟨(l6),(0),(wrap64 (e9+1)),sD,sD,H',⟨by have:=f4.out;omega⟩,⟨rX m4.out⟩,⟨pB⟩⟩
   ·rw[if_neg c3] at H;have f6:decide (e9 < (l0.length:Int))=false:=decide_eq_false c3;clear c3;replace H:=bS H;obtain⟨⟨m5,m6⟩,m7,H⟩:=H;replace H:(some m5)=some r:=H;have m8:=aM m7;clear m7;obtain rfl:=Option.some.inj H;obtain⟨m9,n0,rfl⟩:=Kd.R_slice f5.out;have fl_:True:=trivial;repeat((first|clear fl_|go_quiet (first|(go_at_call 82;(with_reducible refine(Bzz.calls k1 _ _ e7 m5 m6 _ ?_ ?_ m8.out).mono ?_);exact cR f5;exact lR f5;rintro e n7 ⟨n8,rfl,n9,hb⟩;have o0:=rL (rn n9 f5);replace f5:=rE f5 n9 hb;replace HB:=bB hb;clear hb n9)));go_wp2_with (first|(go_at_call 82;(with_reducible refine(Bzz.calls k1 _ _ e7 m5 m6 _ ?_ ?_ m8.out).mono ?_);exact cR f5;exact lR f5;rintro e n7 ⟨n8,rfl,n9,hb⟩;have o0:=rL (rn n9 f5);replace f5:=rE f5 n9 hb;replace HB:=bB hb;clear hb n9)))
    go_ret
    exact⟨_,eW,by exact rX (Kd.R_mono o0.out (fun _ hk=>trivial)),pB⟩

def Bzq.l0:Nat→List Int→List Int→Int→Option (Int)
 | 0,_,_,_=>none
 | k+1,x0,x1,x5=>if x5≥0 then(if 0≤x5 then(if x5 < (x0.length:Int) then(if x5 < (x1.length:Int) then(if(rd x0 x5) < (rd x1 x5) then(some (-1)) else(if(rd x0 x5) > (rd x1 x5) then(some 1) else(Bzq.l0 k x0 x1 (wrap64 (x5 - 1))))) else(none)) else(none)) else(none)) else(some 0)
def Bzq.f (k:Nat) (l0:List Int) (l1:List Int):Option (Int):=if(l0.length:Int)=(l1.length:Int) then(Bzq.l0 k l0 l1 (wrap64 ((l0.length:Int) - 1))) else(if(l0.length:Int) < (l1.length:Int) then(some (-1)) else(some 1))
theorem Bzq.mono_l:∀ k,(∀ a6 a7 a8,LeO (Bzq.l0 k a6 a7 a8) (Bzq.l0 (k+1) a6 a7 a8))
 | 0=>fun _ _ _ r h=>by simp [Bzq.l0] at h
 | k+1=>by
  have ih0:=Bzq.mono_l k
  ·intro a6 a7 a8;unfold Bzq.l0;exact mM
theorem Bzq.mono:∀ a6 a7 k,LeO (Bzq.f k a6 a7) (Bzq.f (k+1) a6 a7):=by
 intro a6 a7 k;have ih0:=Bzq.mono_l k;unfold Bzq.f;exact mM
theorem Bzq.calls (k:Nat) (a6:Option Addr) (a7:Nat) (l0:List Int) (a8:Option Addr) (a9:Nat) (l1:List Int) (r:Int) (w:World) (b4:cI w a6 l0) (b5:l0.length≤a7) (b6:cI w a8 l1) (b7:l1.length≤a9) (h:Bzq.f k l0 l1=some r) :
  Calls Try.prog 99 #[.slice a6 l0.length a7,.slice a8 l1.length a9] w fun e w'=>e=.returned (.int .i64 r)∧Drawn0 w w':=by
 have b8:=aM b4;have b9:=aM b5;clear b4 b5;have d6:=aM b6;have d7:=aM b7;clear b6 b7;have H:(if(l0.length:Int)=(l1.length:Int) then(Bzq.l0 k l0 l1 (wrap64 ((l0.length:Int) - 1))) else(if(l0.length:Int) < (l1.length:Int) then(some (-1)) else(some 1)))=some r:=h
 clear h;by_cases c3:(l0.length:Int)=(l1.length:Int)
 ·rw[if_pos c3] at H;obtain⟨d8,d9⟩:=bE c3;have e6:(l0.length == l1.length)=true:=by first|simpa using c3|(simp at c3 ⊢;omega)
  clear c3;have H':=aM H;clear H;go_enter Try.func99,Try.ntmps99
  go_wp2
  repeat(go_quiet (fail);try go_wp2)
  go_loopg [5] k (fun kq e7 w'=>∃ (e8:Int),e7=.int .i64 e8∧Aside0 (Bzq.l0 kq l0 l1 e8=some r)∧Aside0 (kq≤k)∧Drawn0 w w')
  case atStart=>exact⟨(wrap64 ((l0.length:Int) - 1)),sD,H',⟨Nat.le_refl _⟩,dR⟩
  case round =>
   clear H';try clear a9
   obtain⟨e8,rfl,HA,e9,⟨f4,rfl⟩⟩:=hrel;cases gk with
   | zero=>exact absurd HA.out (by simp [Bzq.l0])
   | succ k1 =>
    have H:=HA.out;clear HA;simp only[Bzq.l0] at H;by_cases c4:e8≥0
    ·rw[if_pos c4] at H;have f5:decide (0≤e8)=true:=dE c4;clear c4;obtain⟨f6,H⟩:=iN H;obtain⟨f7,H⟩:=iN H;obtain⟨f8,H⟩:=iN H;replace H:=iD H;rcases H with⟨f9,H⟩|⟨f9,H⟩
     ·obtain rfl:=Option.some.inj H;obtain⟨g4,g5,g6,g7,g8⟩:=aI b8.out e8;cases g5;obtain⟨g9,j3,j4,j5,j6⟩:=aI d6.out e8;cases j3;go_wp2
      repeat(go_quiet (fail);try go_wp2)
      go_ret
      exact⟨sD,dR⟩
     ·by_cases c9:(rd l0 e8) > (rd l1 e8)
      ·rw[if_pos c9] at H;have j7:decide ((rd l1 e8) < (rd l0 e8))=true:=dE c9;clear c9;obtain rfl:=Option.some.inj H;obtain⟨g4,g5,g6,g7,g8⟩:=aI b8.out e8;cases g5;obtain⟨g9,j3,j4,j5,j6⟩:=aI d6.out e8;cases j3;obtain⟨j8,j9,l5,l6,l7⟩:=aI b8.out e8;obtain rfl:g4=j8:=(by injection j9);obtain⟨l8,l9,m0,m4,m5⟩:=aI d6.out e8;obtain rfl:g9=l8:=(by injection l9);go_wp2
       repeat(go_quiet (fail);try go_wp2)
       go_ret
       exact⟨sD,dR⟩
      ·rw[if_neg c9] at H;have j7:decide ((rd l1 e8) < (rd l0 e8))=false:=decide_eq_false c9;clear c9;have H':=aM H;clear H;obtain⟨g4,g5,g6,g7,g8⟩:=aI b8.out e8;cases g5;obtain⟨g9,j3,j4,j5,j6⟩:=aI d6.out e8;cases j3;obtain⟨j8,j9,l5,l6,l7⟩:=aI b8.out e8;obtain rfl:g4=j8:=(by injection j9);obtain⟨l8,l9,m0,m4,m5⟩:=aI d6.out e8;obtain rfl:g9=l8:=(by injection l9);go_wp2
       repeat(go_quiet (fail);try go_wp2)
       go_roundg k1
       case measure=>have:=e9.out;omega
       case rel=>exact⟨(wrap64 (e8 - 1)),sD,H',⟨by have:=e9.out;omega⟩,dR⟩
    ·rw[if_neg c4] at H;have f5:decide (0≤e8)=false:=decide_eq_false c4;clear c4;obtain rfl:=Option.some.inj H;go_wp2
     repeat(go_quiet (fail);try go_wp2)
     go_ret
     exact⟨sD,dR⟩
 ·rw[if_neg c3] at H;obtain⟨d8,d9⟩:=bI c3;have e6:(l0.length == l1.length)=false:=by first|simpa using c3|(simp at c3 ⊢;omega)
  by_cases c10:(l0.length:Int) < (l1.length:Int)
  ·rw[if_pos c10] at H;have m6:=dE c10;have m7:decide (l0.length < l1.length)=true:=dE (Int.ofNat_lt.mp c10);clear c10;obtain rfl:=Option.some.inj H;go_enter Try.func99,Try.ntmps99
   go_wp2
   repeat(go_quiet (fail);try go_wp2)
   go_ret
   exact⟨sD,dR⟩
  ·rw[if_neg c10] at H;have m6:decide ((l0.length:Int) < (l1.length:Int))=false:=decide_eq_false c10;have m7:decide (l0.length < l1.length)=false:=decide_eq_false (fun h=>c10 (Int.ofNat_lt.mpr h))
   clear c10;obtain rfl:=Option.some.inj H;go_enter Try.func99,Try.ntmps99
   go_wp2
   repeat(go_quiet (fail);try go_wp2)
   go_ret
   exact⟨sD,dR⟩


def Bzb.l0:Nat→List Int→List Int→Int→Int→Option (Int)
 | 0,_,_,_,_=>none
 | k+1,x0,x1,x5,x6=>if x5 < x6 then((Azj.f k x1 (([wrap64 (Int.tdiv (wrap64 ((wrap64 (x5+x6))+1)) 2)]:List Int))).bind fun t593=>((Bzq.f k t593 x0).bind fun t596=>(if t596≤0 then(Bzb.l0 k x0 x1 (wrap64 (Int.tdiv (wrap64 ((wrap64 (x5+x6))+1)) 2)) x6) else(Bzb.l0 k x0 x1 x5 (wrap64 ((wrap64 (Int.tdiv (wrap64 ((wrap64 (x5+x6))+1)) 2)) - 1)))))) else(some x5)
def Bzb.f (k:Nat) (l0:List Int) (l1:List Int):Option (Int):=Bzb.l0 k l0 l1 0 999999999
theorem Bzb.mono_l:∀ k,(∀ a6 a7 a8 a9,LeO (Bzb.l0 k a6 a7 a8 a9) (Bzb.l0 (k+1) a6 a7 a8 a9))
 | 0=>fun _ _ _ _ r h=>by simp [Bzb.l0] at h
 | k+1=>by
  have ih0:=Bzb.mono_l k
  ·intro a6 a7 a8 a9;unfold Bzb.l0;have i0:=@Bzq.mono;have i1:=@Azj.mono;exact mM
theorem Bzb.mono:∀ a6 a7 k,LeO (Bzb.f k a6 a7) (Bzb.f (k+1) a6 a7):=by
 intro a6 a7 k;have ih0:=Bzb.mono_l k;unfold Bzb.f;have i0:=@Bzq.mono;have i1:=@Azj.mono;exact mM
theorem Bzb.calls (k:Nat) (a6:Option Addr) (a7:Nat) (l0:List Int) (a8:Option Addr) (a9:Nat) (l1:List Int) (r:Int) (w:World) (b4:cI w a6 l0) (b5:l0.length≤a7) (b6:cI w a8 l1) (b7:l1.length≤a9) (h:Bzb.f k l0 l1=some r) :
  Calls Try.prog 107 #[.slice a6 l0.length a7,.slice a8 l1.length a9] w fun e w'=>e=.returned (.int .i64 r)∧bw w w':=by
 have b8:=aM b4;have b9:=aM b5;clear b4 b5;have d6:=aM b6;have d7:=aM b7;clear b6 b7;have HB:=aM (Below.refl w.heap.size w);have H:(Bzb.l0 k l0 l1 0 999999999)=some r:=h;clear h;have H':=aM H;clear H;go_enter Try.func107,Try.ntmps107
 go_wp2
 go_loopg [5,6] k (fun kq d8 d9 w'=>∃ (e6:Int) (e7:Int),d8=.int .i64 e6∧d9=.int .i64 e7∧Aside0 (Bzb.l0 kq l0 l1 e6 e7=some r)∧Aside0 (kq≤k)∧Aside0 (bw w w'))
 case atStart=>exact⟨(0),(999999999),sD,sD,H',⟨Nat.le_refl _⟩,⟨pB⟩⟩
 case round =>
  clear H';try clear a9
  obtain⟨e6,e7,rfl,rfl,HA,e8,HB⟩:=hrel;cases gk with
  | zero=>exact absurd HA.out (by simp [Bzb.l0])
  | succ k1 =>
   have H:=HA.out;clear HA;simp only[Bzb.l0] at H;replace H:=iD H;rcases H with⟨e9,H⟩|⟨e9,H⟩
   ·obtain⟨f4,f5⟩:∃ y_:List Int,y_=(([wrap64 (Int.tdiv (wrap64 ((wrap64 (e6+e7))+1)) 2)]:List Int)):=⟨_,rfl⟩;replace H:((Azj.f k1 l1 f4).bind fun f6=>((Bzq.f k1 f6 l0).bind fun f7=>(if f7≤0 then(Bzb.l0 k1 l0 l1 (wrap64 (Int.tdiv (wrap64 ((wrap64 (e6+e7))+1)) 2)) e7) else(Bzb.l0 k1 l0 l1 e6 (wrap64 ((wrap64 (Int.tdiv (wrap64 ((wrap64 (e6+e7))+1)) 2)) - 1))))))=some r:=yE f5 H
    have f8:=aM f5;clear f5;obtain⟨f6,f9,H⟩:=bT H;(try dsimp only at H);obtain⟨f7,g4,H⟩:=bT H;(try dsimp only at H);have g5:=aM H;clear H;go_upto_if 22 with (first|((with_reducible refine gate_dst (N:=18) rfl ?_);refine Kd.R_lit (Kd.int .i64) _ 3 ?hg (N:=18) ?hd (xs:=([wrap64 (Int.tdiv (wrap64 ((wrap64 (e6+e7))+1)) 2)]:List Int)) (inner:=[.int .i64 (wrap64 (Int.tdiv (wrap64 ((wrap64 (e6+e7))+1)) 2))]) (ok:=fun _=>True) (okp:=fun _=>True) ?hr ?hp (fun _ hk=>hk) trivial (Below.refl _ _) (Nat.le_refl _) (by simp) ?_;(case hd=>rfl);(case hg=>rfl);(case hr=>first|(go_simp;done)|(go_simp;rfl));(case hp=>exact(Reps.one (show Kd.M (Kd.int .i64) _ _ _ (wrap64 (Int.tdiv (wrap64 ((wrap64 (e6+e7))+1)) 2)) [.int .i64 (wrap64 (Int.tdiv (wrap64 ((wrap64 (e6+e7))+1)) 2))] from rfl) (Reps.none _ _)));intro g6 g7 g8 hb hg_ hnew_;clear hg_ hnew_;replace g8:=rY f8 g8;have g9:=rL g8;replace HB:=bB hb;clear hb g8;obtain⟨j3,j4,rfl⟩:=Kd.R_slice g9.out)|((with_reducible refine gc 83 rfl ?_);refine gC 83 (some 19) Try.func83 #[.slice a8 l1.length a9,.slice j3 f4.length j4] ?_;(with_reducible refine(Azj.calls k1 _ _ l1 _ _ f4 f6 _ ?_ ?_ ?_ ?_ f9.out).mono ?_);exact cB d6;exact d7.out;exact cR g9;exact lR g9;rintro e j5 ⟨j6,rfl,j7,hb⟩;refine⟨_,rfl,?_⟩;have j8:=rL (rn j7 g9);replace g9:=rE g9 j7 hb;replace HB:=bB hb;clear hb j7;obtain⟨j9,l5,rfl⟩:=Kd.R_slice j8.out)|((with_reducible refine gc 99 rfl ?_);refine gC 99 (some 21) Try.func99 #[.slice j9 f6.length l5,.slice a6 l0.length a7] ?_;(with_reducible refine(Bzq.calls k1 _ _ f6 _ _ l0 f7 _ ?_ ?_ ?_ ?_ g4.out).mono ?_);exact cR j8;exact lR j8;exact cB b8;exact b9.out;rintro e w' ⟨rfl,⟨nd,rfl⟩⟩;refine⟨_,rfl,?_⟩))
    have H:=g5.out;clear g5;replace H:=iD H;rcases H with⟨l7,H⟩|⟨l7,H⟩
    ·(first|rw[l7]|(simp only[i64_w,i32_w];rw[l7])|skip)
     have H':=aM H;clear H;go_wp2
     go_roundg k1
     case measure=>have:=e8.out;omega
     case rel=>exact⟨(wrap64 (Int.tdiv (wrap64 ((wrap64 (e6+e7))+1)) 2)),(e7),sD,sD,H',⟨by have:=e8.out;omega⟩,⟨pB⟩⟩
    ·(first|rw[l7]|(simp only[i64_w,i32_w];rw[l7])|skip)
     have H':=aM H;clear H;go_wp2
     go_roundg k1
     case measure=>have:=e8.out;omega
     case rel=>exact⟨(e6),(wrap64 ((wrap64 (Int.tdiv (wrap64 ((wrap64 (e6+e7))+1)) 2)) - 1)),sD,sD,H',⟨by have:=e8.out;omega⟩,⟨pB⟩⟩
   ·obtain rfl:=Option.some.inj H;go_wp2
    go_ret
    exact⟨eW,pB⟩


mutual
def Azq.j0:Nat→List Int→List Int→Bool→Option (List Int × List Int × Int)
 | 0,_,_,_=>none
 | k+1,x0,x1,x18=>if x18=true then(some (([]:List Int),([]:List Int),3)) else(if(x1.length:Int)=0 then(some (([]:List Int),([]:List Int),16)) else(if 0≤(x0.length:Int) then(if((x0.length:Int):Int).toNat≤35184372088832 then(Azq.l0 k x0 x1 (List.replicate ((x0.length:Int):Int).toNat 0) ([]:List Int) (wrap64 ((x0.length:Int) - 1))) else(none)) else(none)))
def Azq.l0:Nat→List Int→List Int→List Int→List Int→Int→Option (List Int × List Int × Int)
 | 0,_,_,_,_,_=>none
 | k+1,x0,x1,x7,x8,x9=>if x9≥0 then(if 0≤x9 then(if x9 < (x0.length:Int) then((some (([rd x0 x9]:List Int):List Int)).bind fun y607=>(if y607.length+x8.length < 17592186044416 then((some (y607 ++ x8:List Int)).bind fun y610=>(if 0≤(wrap64 ((y610.length:Int) - 1)) then(if(wrap64 ((y610.length:Int) - 1)) < (y610.length:Int) then(if(rd y610 (wrap64 ((y610.length:Int) - 1)))=0 then(Azq.j2 k x0 x1 x7 ([]:List Int) x9) else(Azq.j2 k x0 x1 x7 y610 x9)) else(none)) else(none))) else(none))) else(none)) else(none)) else((Bzz.f k x7).bind fun bt602=>(some (bt602.1,x8,0)))
def Azq.j2:Nat→List Int→List Int→List Int→List Int→Int→Option (List Int × List Int × Int)
 | 0,_,_,_,_,_=>none
 | k+1,x0,x1,x7,x8,x9=>(Bzb.f k x8 x1).bind fun t614=>(if 0≤x9 then(if x9 < (x7.length:Int) then((some (x7.set (x9:Int).toNat t614:List Int)).bind fun y615=>(if t614 > 0 then((Azj.f k x1 (([t614]:List Int))).bind fun t619=>((Bzw.f k x8 t619).bind fun t622=>(Azq.l0 k x0 x1 y615 t622 (wrap64 (x9 - 1))))) else(Azq.l0 k x0 x1 y615 x8 (wrap64 (x9 - 1))))) else(none)) else(none))
end
def Azq.f (k:Nat) (l0:List Int) (l1:List Int):Option (List Int × List Int × Int):=(Azz.f k l0).bind fun t597=>(if t597=true then((Azz.f k l1).bind fun t598=>(Azq.j0 k l0 l1 (!t598))) else(Azq.j0 k l0 l1 true))
theorem Azq.mono_l:∀ k,(∀ a6 a7 a8,LeO (Azq.j0 k a6 a7 a8) (Azq.j0 (k+1) a6 a7 a8))∧(∀ a6 a7 a8 a9 b4,LeO (Azq.l0 k a6 a7 a8 a9 b4) (Azq.l0 (k+1) a6 a7 a8 a9 b4))∧(∀ a6 a7 a8 a9 b4,LeO (Azq.j2 k a6 a7 a8 a9 b4) (Azq.j2 (k+1) a6 a7 a8 a9 b4))
 | 0=>⟨fun _ _ _ r h=>by simp [Azq.j0] at h,fun _ _ _ _ _ r h=>by simp [Azq.l0] at h,fun _ _ _ _ _ r h=>by simp [Azq.j2] at h⟩
 | k+1=>by
  obtain⟨ih0,ih1,ih2⟩:=Azq.mono_l k;have i0:=@Azz.mono;have i1:=@Bzb.mono;have i2:=@Bzz.mono;have i3:=@Bzw.mono;have i4:=@Azj.mono;refine⟨?_,?_,?_⟩
  ·intro a6 a7 a8;unfold Azq.j0;exact mM
  ·intro a6 a7 a8 a9 b4;unfold Azq.l0;exact mM
  ·intro a6 a7 a8 a9 b4;unfold Azq.j2;exact mM
theorem Azq.mono:∀ a6 a7 k,LeO (Azq.f k a6 a7) (Azq.f (k+1) a6 a7):=by
 intro a6 a7 k;obtain⟨ih0,ih1,ih2⟩:=Azq.mono_l k;unfold Azq.f;have i0:=@Azz.mono;have i1:=@Bzb.mono;have i2:=@Bzz.mono;have i3:=@Bzw.mono;have i4:=@Azj.mono;exact mM
theorem Azq.calls (k:Nat) (a6:Option Addr) (a7:Nat) (l0:List Int) (a8:Option Addr) (a9:Nat) (l1:List Int) (b4:List Int) (b5:List Int) (b6:Int) (w:World) (b7:cI w a6 l0) (b8:l0.length≤a7) (b9:cI w a8 l1) (d6:l1.length≤a9) (h:Azq.f k l0 l1=some (b4,b5,b6)) :
  Calls Try.prog 86 #[.slice a6 l0.length a7,.slice a8 l1.length a9] w fun e w'=>∃ v0_ v1_:Value,e=.returned (.tuple #[v0_,v1_,.int .i64 b6])∧rI w' w (oV v1_) v0_ b4∧rI w' w (oV v0_) v1_ b5∧bw w w':=by
 have d7:=aM b7;have d8:=aM b8;clear b7 b8;have d9:=aM b9;have e6:=aM d6;clear b9 d6;have HB:=aM (Below.refl w.heap.size w);have H:((Azz.f k l0).bind fun e7=>(if e7=true then((Azz.f k l1).bind fun e8=>(Azq.j0 k l0 l1 (!e8))) else(Azq.j0 k l0 l1 true)))=some (b4,b5,b6):=h
 clear h;have e9:=aM H;clear H;go_enter Try.func86,Try.ntmps86
 go_upto_region 1 with (fail)
 go_cut [18] (fun f4 wc=>∃ (kq:Nat) (f5:Bool),f4=.bool f5∧Aside0 (Azq.j0 kq l0 l1 f5=some (b4,b5,b6))∧Aside0 (kq≤k)∧Aside0 (bw w wc))
 case first =>
  have H:=e9.out;clear e9;obtain⟨e7,f6,H⟩:=bT H;(try dsimp only at H);by_cases c5:e7=true
  ·subst c5;rw[if_pos rfl] at H;obtain⟨e8,f7,H⟩:=bT H;(try dsimp only at H);have H':=aM H;clear H;go_wp2_with (first|((with_reducible refine gc 70 rfl ?_);refine gC 70 (some 12) Try.func70 #[.slice a6 l0.length a7] ?_;(with_reducible refine(Azz.calls k _ _ l0 true _ ?_ ?_ f6.out).mono ?_);exact cB d7;exact d8.out;rintro e w' ⟨rfl,⟨nd,rfl⟩⟩;refine⟨_,rfl,?_⟩)|(go_at_call 70;(with_reducible refine(Azz.calls k _ _ l1 e8 _ ?_ ?_ f7.out).mono ?_);exact cB d9;exact e6.out;rintro e w' ⟨rfl,⟨nd,rfl⟩⟩))
   go_meet
   case rel=>exact⟨_,(!e8),sD,H',⟨by first|omega|exact Nat.le_refl _⟩,⟨pB⟩⟩
  ·obtain rfl:=bN c5;rw[if_neg nF] at H
   have H':=aM H;clear H;go_wp2_with (first|((with_reducible refine gc 70 rfl ?_);refine gC 70 (some 12) Try.func70 #[.slice a6 l0.length a7] ?_;(with_reducible refine(Azz.calls k _ _ l0 false _ ?_ ?_ f6.out).mono ?_);exact cB d7;exact d8.out;rintro e w' ⟨rfl,⟨nd,rfl⟩⟩;refine⟨_,rfl,?_⟩))
   go_meet
   case rel=>exact⟨_,(true),sD,H',⟨by first|omega|exact Nat.le_refl _⟩,⟨pB⟩⟩
 case rest =>
  clear e9;try clear a9
  obtain⟨kq,f5,rfl,HA,f8,HB⟩:=hcut;cases kq with
  | zero=>exact absurd HA.out (by simp [Azq.j0])
  | succ f9 =>
   have H:=HA.out;clear HA;simp only[Azq.j0] at H;by_cases c7:f5=true
   ·subst c7;rw[if_pos rfl] at H;obtain⟨rfl,rfl,rfl⟩:=q3 H;go_wp2
    go_ret3
    exact⟨_,_,eW,nK,nK,pB⟩
   ·obtain rfl:=bN c7;rw[if_neg nF] at H
    replace H:=iE H;rcases H with⟨g4,g5,H⟩|⟨c8,g4,g5,H⟩
    ·obtain⟨rfl,rfl,rfl⟩:=q3 H;go_wp2
     go_ret3
     exact⟨_,_,eW,nK,nK,pB⟩
    ·have g6:¬ (l1=[]):=fun h_=>c8 (by rw[h_];rfl)
     by_cases c9:0≤(l0.length:Int)
     ·rw[if_pos c9] at H;have g7:=eq_true c9;have g8:=dE c9;clear c9;obtain⟨c10,H⟩:=iO H;have g9:=eq_true c10;have j3:decide (((l0.length:Int):Int).toNat≤35184372088832)=true:=dE c10;clear c10;obtain⟨j4,j5⟩:∃ y_:List Int,y_=(List.replicate ((l0.length:Int):Int).toNat 0):=⟨_,rfl⟩;replace H:(Azq.l0 f9 l0 l1 j4 ([]:List Int) (wrap64 ((l0.length:Int) - 1)))=some (b4,b5,b6):=yE j5 H
      have j6:=aM j5;clear j5;have H':=aM H;clear H;go_wp2_with (first|((with_reducible refine gate_dst (N:=24) rfl ?_);refine Kd.R_make (Kd.int .i64) _ 3 rfl (N:=24) rfl 31 _ _ rfl (l0.length:Int) rfl rfl Try.underlying31 (.int .i64 0) 8 info3 rfl (by decide) (by omega) 0 (ok:=fun _=>True) (okp:=fun _=>True) rfl (fun _ hk=>hk) trivial (oE aS) (Nat.le_trans (Nat.mul_le_mul_right _ (oE aS:(l0.length:Int).toNat≤35184372088832)) (by omega)) (Below.refl _ _) (Nat.le_refl _) ?_;intro j7 j8 j9 hb hg_ hnew_;clear hg_ hnew_;replace j9:=rY j6 j9;have l5:=rL j9;replace HB:=bB hb;clear hb j9))
      go_loopg [8,9] f9 (fun kq l6 l7 w'=>∃ (l8:List Int) (l9:List Int) (m0:Int),l7=.int .i64 m0∧Aside0 (Azq.l0 kq l0 l1 l8 l9 m0=some (b4,b5,b6))∧Aside0 (kq≤f9)∧Aside0 (rI w' w (oV l6) j7 l8)∧Aside0 (rI w' w (oV j7) l6 l9)∧Aside0 (bw w w'))
      case atStart=>exact⟨(j4),(([]:List Int)),(wrap64 ((l0.length:Int) - 1)),sD,H',⟨Nat.le_refl _⟩,⟨by exact rX (Kd.R_mono l5.out (fun _ hk=>(by simp [Value.ownBlock])))⟩,⟨nK⟩,⟨pB⟩⟩
      case round =>
       clear H';try clear a9
       obtain⟨l8,l9,m0,rfl,HA,m4,m5,m6,HB⟩:=hrel;cases gk with
       | zero=>exact absurd HA.out (by simp [Azq.l0])
       | succ k2 =>
        have H:=HA.out;clear HA;simp only[Azq.l0] at H;by_cases m7:m0≥0
        ·rw[if_pos m7] at H;have m8:decide (0≤m0)=true:=dE m7;clear m7;obtain⟨m9,H⟩:=iN H;obtain⟨n0,H⟩:=iN H;obtain⟨n7,n8⟩:∃ y_:List Int,y_=(([rd l0 m0]:List Int)):=⟨_,rfl⟩;replace H:(if n7.length+l9.length < 17592186044416 then((some (n7 ++ l9:List Int)).bind fun n9=>(if 0≤(wrap64 ((n9.length:Int) - 1)) then(if(wrap64 ((n9.length:Int) - 1)) < (n9.length:Int) then(if(rd n9 (wrap64 ((n9.length:Int) - 1)))=0 then(Azq.j2 k2 l0 l1 l8 ([]:List Int) m0) else(Azq.j2 k2 l0 l1 l8 n9 m0)) else(none)) else(none))) else(none))=some (b4,b5,b6):=yE n8 H
         have o0:=aM n8;clear n8;obtain⟨o8,H⟩:=iO H;have LMc16:=aM o8;clear o8;obtain⟨n9,o9⟩:∃ y_:List Int,y_=(n7 ++ l9):=⟨_,rfl⟩;replace H:(if 0≤(wrap64 ((n9.length:Int) - 1)) then(if(wrap64 ((n9.length:Int) - 1)) < (n9.length:Int) then(if(rd n9 (wrap64 ((n9.length:Int) - 1)))=0 then(Azq.j2 k2 l0 l1 l8 ([]:List Int) m0) else(Azq.j2 k2 l0 l1 l8 n9 m0)) else(none)) else(none))=some (b4,b5,b6):=yE o9 H
         have p0:=aM o9;clear o9;obtain⟨p4,p7⟩:∃ j_:Int,(wrap64 ((n9.length:Int) - 1))=j_:=⟨_,rfl⟩;replace H:(if 0≤(p4) then(if(p4) < (n9.length:Int) then(if(rd n9 (p4))=0 then(Azq.j2 k2 l0 l1 l8 ([]:List Int) m0) else(Azq.j2 k2 l0 l1 l8 n9 m0)) else(none)) else(none))=some (b4,b5,b6):=by first|(rw[p7] at H;exact H)|(simp only[p7] at H ⊢;exact H)
         have p9:(IntKind.i64.wrap ((n9.length:Int) - 1))=p4:=(i64_w _).trans p7;obtain⟨r5,H⟩:=iN H;obtain⟨r6,H⟩:=iN H;have r7:=aM H;clear H;obtain⟨r8,r9,t4,t5,t6⟩:=aI d7.out m0;cases r9
         replace t4:=hB HB t4;go_upto_if 45 with (first|((with_reducible refine gd 36 rfl ?_);refine iL 36 [rd l0 m0] ?_;intro t7 t8 t9 hb;replace t9:=rY o0 t9;have z3:=rL (rn (rn t9 m5) m6);replace m5:=rE m5 t9 hb;replace m6:=rE m6 t9 hb;replace HB:=bB hb;clear hb t9;obtain⟨z4,z5,rfl⟩:=Kd.R_slice m6.out)|((with_reducible refine gate_builtin (b:=.append) (xs:=#[.tmp 36,.tmp 37]) rfl ?_);at_builtin;refine Kd.R_append_rows (Kd.int .i64) (w0:=w) w.heap.size rfl (.tmp 36) (.tmp 37) 31 3 (.int .i64 0) 8 rfl Try.underlying31 info3 rfl (by decide) (by omega) t7 n7 l9 _ _ _ (fun k_=>oV j7 k_∧oN z4 l9.length z5 k_) (fun _=>False) rfl rfl ?aO ?aR (fun _ _ h=>h) (fun _ h=>h.elim) ?aF ?aB ?aS ?aL ?_;(case aR=>exact cR m6);(case aB=>exact pB);(case aF=>exact(fun k_ hk=>⟨Kd.fresh' (Kd.R_lt (rX m5.out)) k_ hk,Kd.fresh' (Kd.R_lt (rX m6.out)) k_ hk⟩));(case aO=>exact(rX (Kd.R_mono z3.out (fun _ hk=>⟨hk.1.2,hk.2⟩))));(case aS=>exact(below_size pB));(case aL=>have:=LMc16.out;omega);intro z6 z7 ho hb hg hat;rw[← p0.out] at ho;have z8:=aM (ho);replace m5:=aM (Kd.R_after (ok:=(fun k_=>oN z4 l9.length z5 k_)) (rX m5.out) hg hat);replace m6:=aM (Kd.R_after (ok:=(oV j7)) (rX m6.out) hg hat);replace HB:=aM (hb);clear z3 ho hb hg hat;obtain⟨z9,B0,rfl⟩:=Kd.R_slice z8.out;obtain⟨B5,B9,C0,C1,C2⟩:=aI (Kd.R_reads' z8.out).2.2 (p4);cases B9))
         (try simp only[Act.put,sA,sZ,sC])
         go_cut [8] (fun l6 wc=>∃ (kq:Nat) (C3:List Int),Aside0 (Azq.j2 kq l0 l1 l8 C3 m0=some (b4,b5,b6))∧Aside0 (kq≤k2)∧Aside0 (rI wc w (oV l6) j7 l8)∧Aside0 (rI wc w (oV j7) l6 C3)∧Aside0 (bw w wc))
         case first =>
          have H:=r7.out;clear r7;replace H:=iE H;rcases H with⟨C6,C7,H⟩|⟨C4,C6,C7,H⟩
          ·(first|rw[C6]|(simp only[i64_w,i32_w];rw[C6])|skip)
           have H':=aM H;clear H;go_wp2
           go_meet
           case rel=>exact⟨_,(([]:List Int)),H',⟨by have:=f8.out;have:=m4.out;first|omega|exact Nat.le_refl _⟩,⟨by exact rX (Kd.R_mono m5.out (fun _ hk=>(by simp [Value.ownBlock])))⟩,⟨nK⟩,⟨pB⟩⟩
          ·(first|rw[C6]|(simp only[i64_w,i32_w];rw[C6])|skip)
           have H':=aM H;clear H;go_wp2
           go_meet
           case rel=>exact⟨_,(n9),H',⟨by have:=f8.out;have:=m4.out;first|omega|exact Nat.le_refl _⟩,⟨by exact rX (Kd.R_mono m5.out (fun _ hk=>hk.2))⟩,⟨by exact rX (Kd.R_mono z8.out (fun _ hk=>hk.1))⟩,⟨pB⟩⟩
         case rest =>
          clear r7;try clear a9
          obtain⟨kq,C3,HA,C8,m5,m6,HB⟩:=hcut;cases kq with
          | zero=>exact absurd HA.out (by simp [Azq.j2])
          | succ C9 =>
           have H:=HA.out;clear HA;simp only[Azq.j2] at H;obtain⟨D2,D3,H⟩:=bT H;(try dsimp only at H);obtain⟨D4,H⟩:=iN H;obtain⟨D5,H⟩:=iN H;obtain⟨D6,D7⟩:∃ y_:List Int,y_=(l8.set (m0:Int).toNat D2):=⟨_,rfl⟩;replace H:(if D2 > 0 then((Azj.f C9 l1 (([D2]:List Int))).bind fun D8=>((Bzw.f C9 C3 D8).bind fun D9=>(Azq.l0 C9 l0 l1 D6 D9 (wrap64 (m0 - 1))))) else(Azq.l0 C9 l0 l1 D6 C3 (wrap64 (m0 - 1))))=some (b4,b5,b6):=yE D7 H
           have E0:=aM D7;clear D7;have E1:=aM H;clear H;obtain⟨E2,E3,rfl⟩:=Kd.R_slice m6.out;go_upto_if 54 with (first|((with_reducible refine gc 107 rfl ?_);refine gC 107 (some 48) Try.func107 #[.slice E2 C3.length E3,.slice a8 l1.length a9] ?_;(with_reducible refine(Bzb.calls C9 _ _ C3 _ _ l1 D2 _ ?_ ?_ ?_ ?_ D3.out).mono ?_);exact cR m6;exact lR m6;exact cB d9;exact e6.out;rintro e E4 ⟨rfl,hb⟩;refine⟨_,rfl,?_⟩;replace m5:=rB m5 hb;replace m6:=rB m6 hb;replace HB:=bB hb;clear hb;have E5:0≤(m0:Int):=oE aS;have E6:(m0:Int) < ((l8.length:Int):Int):=oE aS;obtain⟨E7,E8,E9,F0,F2,F3,F4⟩:=Kd.R_form m5.out (by omega);(first|cases E9|(injection E9 with ea_ en_ ec_;(first|subst ea_|(injection ea_ with ea_;subst ea_));subst ec_;clear en_));have F5:=aM F0;have F6:=aM F4;clear F0 F2 F4;obtain⟨F7,F8⟩:=Kd.R_celln 0 m5.out (m0:Int) E5 E6;replace E5:=eq_true E5;replace E6:=eq_true E6;obtain⟨F9,hz34_⟩:=Kd.R_celln 0 m5.out (m0:Int) (oE aS) (oE aS);have G5:=Kd.R_putg m5.out (m0:Int) D2)|((with_reducible refine gate_store (t:=3) (p:=52) rfl ?_);refine store_event (t:=3) (p:=52) (v:=?vo_w35) (w1:=(E4.setCell ⟨E7,(m0:Int).toNat,none⟩ (.int .i64 D2))) ?hg ?ho ?hn ?hr ?_;(case ho=>rfl);(case hg=>rfl);(case hn=>rfl);(case hr=>first|(go_simp;done)|(go_simp;rfl));intro G9 hw;have hg:E4.grownBy G9 (some E7):=(by rw[hw];exact G5.2);have hp_:rI G9 w (fun k_=>oN E2 C3.length E3 k_) (.slice (some ⟨E7,0,none⟩) l8.length E8) D6:=(by rw[hw,E0.out];exact G5.1);clear G5;replace m5:=aM (hp_);replace m6:=aM (Kd.R_after (v:=(.slice (some ⟨E7,0,none⟩) l8.length E8)) (v1:=(.slice (some ⟨E7,0,none⟩) l8.length E8)) (ok:=(fun _=>True)) (rX (Kd.R_mono m6.out (fun _ hk=>⟨trivial,hk⟩))) hg (.inl rfl));replace HB:=aM ((by rw[hw];exact below_set (HB.out) F5.out:bw w G9));clear hg hw hp_))
           have H:=E1.out;clear E1;by_cases H5:D2 > 0
           ·rw[if_pos H5] at H;have H6:decide (0 < D2)=true:=dE H5;clear H5;(first|rw[H6]|(simp only[i64_w,i32_w];rw[H6])|skip)
            obtain⟨H7,H8⟩:∃ y_:List Int,y_=(([D2]:List Int)):=⟨_,rfl⟩;replace H:((Azj.f C9 l1 H7).bind fun D8=>((Bzw.f C9 C3 D8).bind fun D9=>(Azq.l0 C9 l0 l1 D6 D9 (wrap64 (m0 - 1)))))=some (b4,b5,b6):=yE H8 H
            have H9:=aM H8;clear H8;obtain⟨D8,I0,H⟩:=bT H;(try dsimp only at H);obtain⟨D9,I3,H⟩:=bT H;(try dsimp only at H);have H':=aM H;clear H;go_wp2_with (first|((with_reducible refine gd 58 rfl ?_);refine iL 58 [D2] ?_;intro I4 I5 I6 hb;replace I6:=rY H9 I6;have I7:=rL (rn (rn I6 m5) m6);replace m5:=rE m5 I6 hb;replace m6:=rE m6 I6 hb;replace HB:=bB hb;clear hb I6;obtain⟨I8,I9,rfl⟩:=Kd.R_slice I7.out)|((with_reducible refine gc 83 rfl ?_);refine gC 83 (some 59) Try.func83 #[.slice a8 l1.length a9,.slice I8 H7.length I9] ?_;(with_reducible refine(Azj.calls C9 _ _ l1 _ _ H7 D8 _ ?_ ?_ ?_ ?_ I0.out).mono ?_);exact cB d9;exact e6.out;exact cR I7;exact lR I7;rintro e J0 ⟨J1,rfl,J2,hb⟩;refine⟨_,rfl,?_⟩;have J3:=rL (rn (rn (rn J2 m5) m6) I7);replace m5:=rE m5 J2 hb;replace m6:=rE m6 J2 hb;replace I7:=rE I7 J2 hb;replace HB:=bB hb;clear hb J2;obtain⟨J4,J5,rfl⟩:=Kd.R_slice J3.out)|((with_reducible refine gc 106 rfl ?_);refine gC 106 (some 60) Try.func106 #[.slice E2 C3.length E3,.slice J4 D8.length J5] ?_;(with_reducible refine(Bzw.calls C9 _ _ C3 _ _ D8 D9 _ ?_ ?_ ?_ ?_ I3.out).mono ?_);exact cR m6;exact lR m6;exact cR J3;exact lR J3;rintro e J6 ⟨J7,rfl,J2,hb⟩;refine⟨_,rfl,?_⟩;have J8:=rL (rn (rn (rn (rn J2 m5) m6) I7) J3);replace m5:=rE m5 J2 hb;replace m6:=rE m6 J2 hb;replace I7:=rE I7 J2 hb;replace J3:=rE J3 J2 hb;replace HB:=bB hb;clear hb J2))
            go_roundg C9
            case measure=>have:=f8.out;have:=m4.out;have:=C8.out;omega
            case rel=>exact⟨(D6),(D9),(wrap64 (m0 - 1)),sD,H',⟨by have:=f8.out;have:=m4.out;have:=C8.out;omega⟩,⟨by exact rX (Kd.R_mono m5.out (fun _ hk=>hk.2))⟩,⟨by exact rX (Kd.R_mono J8.out (fun _ hk=>hk.1.1.1.2))⟩,⟨pB⟩⟩
           ·rw[if_neg H5] at H;have H6:decide (0 < D2)=false:=decide_eq_false H5;clear H5;(first|rw[H6]|(simp only[i64_w,i32_w];rw[H6])|skip)
            have H':=aM H;clear H;go_wp2
            go_roundg C9
            case measure=>have:=f8.out;have:=m4.out;have:=C8.out;omega
            case rel=>exact⟨(D6),(C3),(wrap64 (m0 - 1)),sD,H',⟨by have:=f8.out;have:=m4.out;have:=C8.out;omega⟩,⟨rX m5.out⟩,⟨by exact rX (Kd.R_mono m6.out (fun _ hk=>hk.2))⟩,⟨pB⟩⟩
        ·rw[if_neg m7] at H;have m8:decide (0≤m0)=false:=decide_eq_false m7;clear m7;replace H:=bS H;obtain⟨⟨J9,K0⟩,K1,H⟩:=H;replace H:(some (J9,l9,0))=some (b4,b5,b6):=H;have K2:=aM K1;clear K1;obtain⟨rfl,rfl,rfl⟩:=q3 H;obtain⟨K3,K4,rfl⟩:=Kd.R_slice m5.out;go_wp2_with (first|((with_reducible refine gc 82 rfl ?_);refine gC 82 (some 63) Try.func82 #[.slice K3 l8.length K4] ?_;(with_reducible refine(Bzz.calls k2 _ _ l8 J9 K0 _ ?_ ?_ K2.out).mono ?_);exact cR m5;exact lR m5;rintro e K5 ⟨K6,rfl,J2,hb⟩;refine⟨_,rfl,?_⟩;have K7:=rL (rn (rn J2 m5) m6);replace m5:=rE m5 J2 hb;replace m6:=rE m6 J2 hb;replace HB:=bB hb;clear hb J2))
         go_ret3
         exact⟨_,_,eW,by exact rX (Kd.R_mono K7.out (fun _ hk=>hk.2)),by exact rX (Kd.R_mono m6.out (fun _ hk=>hk.2)),pB⟩
     ·rw[if_neg c9] at H;exact absurd H (by simp)


mutual
def Azm.j0:Nat→List Int→List Int→Bool→Option (List Int × Int)
 | 0,_,_,_=>none
 | k+1,x0,x1,x16=>if x16=true then(some (([]:List Int),3)) else((some (([]:List Int):List Int)).bind fun y627=>(if y627.length+x0.length < 17592186044416 then(Azm.l0 k (y627 ++ x0) x1) else(none)))
def Azm.l0:Nat→List Int→List Int→Option (List Int × Int)
 | 0,_,_=>none
 | k+1,x0,x1=>if(x1.length:Int) > 0 then((Azq.f k x0 x1).bind fun bt633=>((some (([]:List Int):List Int)).bind fun y640=>(if y640.length+x1.length < 17592186044416 then(Azm.l0 k (y640 ++ x1) bt633.2.1) else(none)))) else(some (x0,0))
end
def Azm.f (k:Nat) (l0:List Int) (l1:List Int):Option (List Int × Int):=(Azz.f k l0).bind fun t625=>(if t625=true then((Azz.f k l1).bind fun t626=>(Azm.j0 k l0 l1 (!t626))) else(Azm.j0 k l0 l1 true))
theorem Azm.mono_l:∀ k,(∀ a6 a7 a8,LeO (Azm.j0 k a6 a7 a8) (Azm.j0 (k+1) a6 a7 a8))∧(∀ a6 a7,LeO (Azm.l0 k a6 a7) (Azm.l0 (k+1) a6 a7))
 | 0=>⟨fun _ _ _ r h=>by simp [Azm.j0] at h,fun _ _ r h=>by simp [Azm.l0] at h⟩
 | k+1=>by
  obtain⟨ih0,ih1⟩:=Azm.mono_l k;have i0:=@Azq.mono;have i1:=@Azz.mono;refine⟨?_,?_⟩
  ·intro a6 a7 a8;unfold Azm.j0;exact mM
  ·intro a6 a7;unfold Azm.l0;exact mM
theorem Azm.mono:∀ a6 a7 k,LeO (Azm.f k a6 a7) (Azm.f (k+1) a6 a7):=by
 intro a6 a7 k;obtain⟨ih0,ih1⟩:=Azm.mono_l k;unfold Azm.f;have i0:=@Azq.mono;have i1:=@Azz.mono;exact mM
theorem Azm.calls (k:Nat) (a6:Option Addr) (a7:Nat) (l0:List Int) (a8:Nat→Prop) (a9:Option Addr) (b4:Nat) (l1:List Int) (b5:List Int) (b6:Int) (w:World) (b7:cI w a6 l0) (b8:l0.length≤a7) (b9:Kd.V (Kd.int .i64) 3 w w.heap.size (fun k_=>a8 k_) (.slice a9 l1.length b4) l1) (h:Azm.f k l0 l1=some (b5,b6)) :
  Calls Try.prog 71 #[.slice a6 l0.length a7,.slice a9 l1.length b4] w fun e w'=>∃ v0_:Value,e=.returned (.tuple #[v0_,.int .i64 b6])∧rI w' w (fun k_=>(w.heap.size≤k_)) v0_ b5∧bw w w':=by
 have d6:=aM b7;have d7:=aM b8;clear b7 b8;have d8:=aM (show Kd.V (Kd.int .i64) 3 w w.heap.size (fun k_=>(a8 k_∨w.heap.size≤k_)) (.slice a9 l1.length b4) l1 from Kd.V_mono b9 (fun k_ hk=>.inl hk))
 have HB:=aM (Below.refl w.heap.size w);have H:((Azz.f k l0).bind fun d9=>(if d9=true then((Azz.f k l1).bind fun e6=>(Azm.j0 k l0 l1 (!e6))) else(Azm.j0 k l0 l1 true)))=some (b5,b6):=h
 clear h;have e7:=aM H;clear H;go_enter Try.func71,Try.ntmps71
 go_upto_region 1 with (fail)
 go_cut [16] (fun e8 wc=>∃ (kq:Nat) (e9:Bool),e8=.bool e9∧Aside0 (Azm.j0 kq l0 l1 e9=some (b5,b6))∧Aside0 (kq≤k)∧Aside0 (Kd.V (Kd.int .i64) 3 wc w.heap.size (fun k_=>(a8 k_∨w.heap.size≤k_)) (.slice a9 l1.length b4) l1)∧Aside0 (bw w wc))
 case first =>
  have H:=e7.out;clear e7;obtain⟨d9,f4,H⟩:=bT H;(try dsimp only at H);by_cases c5:d9=true
  ·subst c5;rw[if_pos rfl] at H;obtain⟨e6,f5,H⟩:=bT H;(try dsimp only at H);have H':=aM H;clear H;go_wp2_with (first|((with_reducible refine gc 70 rfl ?_);refine gC 70 (some 10) Try.func70 #[.slice a6 l0.length a7] ?_;(with_reducible refine(Azz.calls k _ _ l0 true _ ?_ ?_ f4.out).mono ?_);exact cB d6;exact d7.out;rintro e w' ⟨rfl,⟨nd,rfl⟩⟩;refine⟨_,rfl,?_⟩)|(go_at_call 70;(with_reducible refine(Azz.calls k _ _ l1 e6 _ ?_ ?_ f5.out).mono ?_);exact cV d8;exact lV d8;rintro e w' ⟨rfl,⟨nd,rfl⟩⟩))
   go_meet
   case rel=>exact⟨_,(!e6),sD,H',⟨by first|omega|exact Nat.le_refl _⟩,⟨vX d8.out⟩,⟨pB⟩⟩
  ·obtain rfl:=bN c5;rw[if_neg nF] at H
   have H':=aM H;clear H;go_wp2_with (first|((with_reducible refine gc 70 rfl ?_);refine gC 70 (some 10) Try.func70 #[.slice a6 l0.length a7] ?_;(with_reducible refine(Azz.calls k _ _ l0 false _ ?_ ?_ f4.out).mono ?_);exact cB d6;exact d7.out;rintro e w' ⟨rfl,⟨nd,rfl⟩⟩;refine⟨_,rfl,?_⟩))
   go_meet
   case rel=>exact⟨_,(true),sD,H',⟨by first|omega|exact Nat.le_refl _⟩,⟨vX d8.out⟩,⟨pB⟩⟩
 case rest =>
  clear e7;try clear b4
  obtain⟨kq,e9,rfl,HA,f6,f7,HB⟩:=hcut;cases kq with
  | zero=>exact absurd HA.out (by simp [Azm.j0])
  | succ f8 =>
   have H:=HA.out;clear HA;simp only[Azm.j0] at H;by_cases c7:e9=true
   ·subst c7;rw[if_pos rfl] at H;obtain⟨rfl,rfl⟩:=q2 H;go_wp2
    go_ret2
    exact⟨_,eW,nK,pB⟩
   ·obtain rfl:=bN c7;rw[if_neg nF] at H
    obtain⟨f9,g4⟩:∃ y_:List Int,y_=(([]:List Int)):=⟨_,rfl⟩;replace H:(if f9.length+l0.length < 17592186044416 then(Azm.l0 f8 (f9 ++ l0) l1) else(none))=some (b5,b6):=yE g4 H
    have g5:=aM g4;clear g4;by_cases c8:f9.length+l0.length < 17592186044416
    ·rw[if_pos c8] at H;have LMc8:=aM c8;clear c8;obtain⟨g6,g7⟩:∃ y_:List Int,y_=(f9 ++ l0):=⟨_,rfl⟩;replace H:(Azm.l0 f8 g6 l1)=some (b5,b6):=yE g7 H
     have g8:=aM g7;clear g7;have H':=aM H;clear H;go_wp2_with (first|((with_reducible refine gd 17 rfl ?_);refine iL 17 [] ?_;intro g9 j3 j4 hb;replace j4:=rY g5 j4;have j5:=rL (Kd.R_newM (M:=fun k_=>(w.heap.size≤k_)) j4 (below_size pB) (fun k_ h_=>h_));replace f7:=vE f7 j4 hb;replace HB:=bB hb;clear hb j4)|((with_reducible refine gate_builtin (b:=.append) (xs:=#[.tmp 17,.tmp 18]) rfl ?_);at_builtin;refine Kd.R_append_rows (Kd.int .i64) (w0:=w) w.heap.size rfl (.tmp 17) (.tmp 18) 31 3 (.int .i64 0) 8 rfl Try.underlying31 info3 rfl (by decide) (by omega) g9 f9 l0 _ _ _ (fun k_=>(w.heap.size≤k_)) (fun _=>False) rfl rfl ?aO ?aR (fun _ _ h=>h) (fun _ h=>h.elim) ?aF ?aB ?aS ?aL ?_;(case aR=>exact cB d6);(case aB=>exact pB);(case aF=>exact(fun k_ hk=>(Nat.le_trans (below_size pB) hk)));(case aO=>exact(rX (Kd.R_mono j5.out (fun _ hk=>hk.1))));(case aS=>exact(below_size pB));(case aL=>have:=LMc8.out;omega);intro j6 j7 ho hb hg hat;rw[← g8.out] at ho;have j8:=aM (ho);replace f7:=aM (Kd.V_afterv (ok:=(fun k_=>(a8 k_∨w.heap.size≤k_))) (vX f7.out) hg hat);replace HB:=aM (hb);clear j5 ho hb hg hat))
     go_loopg [0,1] f8 (fun kq j9 l5 w'=>∃ (l6:List Int) (l7:List Int),Aside0 (Azm.l0 kq l6 l7=some (b5,b6))∧Aside0 (kq≤f8)∧Aside0 (rI w' w (fun k_=>(w.heap.size≤k_)) j9 l6)∧Aside0 (Kd.V (Kd.int .i64) 3 w' w.heap.size (fun k_=>(a8 k_∨w.heap.size≤k_)∧oV j9 k_) l5 l7)∧Aside0 (bw w w'))
     case atStart=>exact⟨(g6),(l1),H',⟨Nat.le_refl _⟩,⟨rX j8.out⟩,⟨vX f7.out⟩,⟨pB⟩⟩
     case round =>
      clear H';try clear b4
      obtain⟨l6,l7,HA,l8,l9,f7,HB⟩:=hrel;cases gk with
      | zero=>exact absurd HA.out (by simp [Azm.l0])
      | succ k2 =>
       have H:=HA.out;clear HA;simp only[Azm.l0] at H;by_cases m0:(l7.length:Int) > 0
       ·rw[if_pos m0] at H;have m4:decide (0 < (l7.length:Int))=true:=dE m0;have m5:decide (0 < l7.length)=true:=dE (by omega)
        clear m0;obtain⟨⟨m6,m7,m8⟩,m9,H⟩:=bT H;(try dsimp only at H);obtain⟨n0,n7⟩:∃ y_:List Int,y_=(([]:List Int)):=⟨_,rfl⟩;replace H:(if n0.length+l7.length < 17592186044416 then(Azm.l0 k2 (n0 ++ l7) m7) else(none))=some (b5,b6):=yE n7 H
        have n8:=aM n7;clear n7;obtain⟨n9,H⟩:=iO H;have LMc14:=aM n9;clear n9;obtain⟨o0,o8⟩:∃ y_:List Int,y_=(n0 ++ l7):=⟨_,rfl⟩;replace H:(Azm.l0 k2 o0 m7)=some (b5,b6):=yE o8 H
        have o9:=aM o8;clear o8;have H':=aM H;clear H;obtain⟨p0,p4,p7⟩:=Kd.V_slice f7.out;subst p7;obtain⟨p9,r5,rfl⟩:=Kd.R_slice l9.out;go_wp2_with (first|((with_reducible refine gc 86 rfl ?_);refine gC 86 (some 26) Try.func86 #[.slice p9 l6.length r5,.slice p0 l7.length p4] ?_;(with_reducible refine(Azq.calls k2 _ _ l6 _ _ l7 m6 m7 m8 _ ?_ ?_ ?_ ?_ m9.out).mono ?_);exact cR l9;exact lR l9;exact cV f7;exact lV f7;rintro e r6 ⟨r7,r8,rfl,r9,t4,hb⟩;refine⟨_,rfl,?_⟩;have t5:=rL (rn (Kd.R_newM (M:=fun k_=>(w.heap.size≤k_)) r9 (below_size pB) (fun k_ h_=>h_)) l9);have t6:=rL (rn (Kd.R_newM (M:=fun k_=>(w.heap.size≤k_)) t4 (below_size pB) (fun k_ h_=>h_)) l9);replace l9:=rO l9 hb r9 t4;replace f7:=vO f7 hb r9 t4;replace HB:=bB hb;clear hb r9 t4)|((with_reducible refine gd 30 rfl ?_);refine iL 30 [] ?_;intro t7 t8 t9 hb;replace t9:=rY n8 t9;have z3:=rL (rn (rn (rn (Kd.R_newM (M:=fun k_=>(w.heap.size≤k_)) t9 (below_size pB) (fun k_ h_=>h_)) l9) t5) t6);replace l9:=rE l9 t9 hb;replace f7:=vE f7 t9 hb;replace t5:=rE t5 t9 hb;replace t6:=rE t6 t9 hb;replace HB:=bB hb;clear hb t9)|((with_reducible refine gate_builtin (b:=.append) (xs:=#[.tmp 30,.tmp 31]) rfl ?_);at_builtin;refine Kd.R_append_rows (Kd.int .i64) (w0:=w) w.heap.size rfl (.tmp 30) (.tmp 31) 31 3 (.int .i64 0) 8 rfl Try.underlying31 info3 rfl (by decide) (by omega) t7 n0 l7 _ _ _ (fun k_=>(w.heap.size≤k_)∧oN p9 l6.length r5 k_∧oV r7 k_∧oV r8 k_) (fun _=>False) rfl rfl ?aO ?aR (fun _ _ h=>h) (fun _ h=>h.elim) ?aF ?aB ?aS ?aL ?_;(case aR=>exact cV f7);(case aB=>exact pB);(case aF=>exact(fun k_ hk=>⟨(Nat.le_trans (below_size pB) hk),Kd.fresh' (Kd.R_lt (rX l9.out)) k_ hk,Kd.fresh' (Kd.R_lt (rX t5.out)) k_ hk,Kd.fresh' (Kd.R_lt (rX t6.out)) k_ hk⟩));(case aO=>exact(rX (Kd.R_mono z3.out (fun _ hk=>⟨hk.1.1.1.1,⟨hk.1.1.2,⟨hk.1.2,hk.2⟩⟩⟩))));(case aS=>exact(below_size pB));(case aL=>have:=LMc14.out;omega);intro z4 z5 ho hb hg hat;rw[← o9.out] at ho;have z6:=aM (ho);replace l9:=aM (Kd.R_after (ok:=(fun k_=>(w.heap.size≤k_)∧oV r7 k_∧oV r8 k_)) (rX (Kd.R_mono l9.out (fun _ hk=>⟨⟨hk.1.1.1,⟨hk.1.1.2,hk.1.2⟩⟩,hk.2⟩))) hg hat);replace f7:=aM (Kd.V_afterv (ok:=(fun k_=>(a8 k_∨w.heap.size≤k_)∧oN p9 l6.length r5 k_∧oV r7 k_∧oV r8 k_)) (by exact vX (Kd.V_mono f7.out (fun _ hk=>⟨⟨hk.1.1.1.1,⟨hk.1.1.1.2,⟨hk.1.1.2,hk.1.2⟩⟩⟩,hk.2⟩))) hg hat);replace t5:=aM (Kd.R_after (ok:=(fun k_=>(w.heap.size≤k_)∧oN p9 l6.length r5 k_∧oV r8 k_)) (rX (Kd.R_mono t5.out (fun _ hk=>⟨⟨hk.1.1.1,⟨hk.1.2,hk.1.1.2⟩⟩,hk.2⟩))) hg hat);replace t6:=aM (Kd.R_after (ok:=(fun k_=>(w.heap.size≤k_)∧oN p9 l6.length r5 k_∧oV r7 k_)) (rX (Kd.R_mono t6.out (fun _ hk=>⟨⟨hk.1.1.1,⟨hk.1.2,hk.1.1.2⟩⟩,hk.2⟩))) hg hat);replace HB:=aM (hb);clear z3 ho hb hg hat))
        go_roundg k2
        case measure=>have:=f6.out;have:=l8.out;omega
        case rel=>exact⟨(o0),(m7),H',⟨by have:=f6.out;have:=l8.out;omega⟩,⟨by exact rX (Kd.R_mono z6.out (fun _ hk=>hk.1))⟩,⟨Kd.V_mono (Kd.R_V (rX t6.out)) (fun k_ hk=>by first|exact⟨(.inr hk.1.1),hk.2⟩|exact⟨(.inr (hk.1)),hk.2⟩|exact(.inr (hk)))⟩,⟨pB⟩⟩
       ·rw[if_neg m0] at H;have m4:decide (0 < (l7.length:Int))=false:=decide_eq_false m0;have m5:decide (0 < l7.length)=false:=decide_eq_false (by omega)
        clear m0;obtain⟨rfl,rfl⟩:=q2 H;obtain⟨z7,z8,z9⟩:=Kd.V_slice f7.out;subst z9;go_wp2
        go_ret2
        exact⟨_,eW,rX l9.out,pB⟩
    ·rw[if_neg c8] at H;exact absurd H (by simp)

def Dzz.f (k:Nat) (a0:Bool) (l1:List Int) (l2:List Int):Option (Bool × List Int × List Int):=(Azm.f k l1 l2).bind fun bt647=>((Azq.f k l1 bt647.1).bind fun bt651=>((Azq.f k l2 bt647.1).bind fun bt658=>(if a0=true then(some (decide (0 < bt651.1.length),bt651.1,bt658.1)) else(some (false,bt651.1,bt658.1)))))
theorem Dzz.mono:∀ a6 a7 a8 k,LeO (Dzz.f k a6 a7 a8) (Dzz.f (k+1) a6 a7 a8):=by
 intro a6 a7 a8 k;unfold Dzz.f;have i0:=@Azq.mono;have i1:=@Azm.mono;exact mM
theorem Dzz.calls (k:Nat) (a6:Bool) (a7:Option Addr) (a8:Nat) (l1:List Int) (a9:Option Addr) (c2:Nat) (l2:List Int) (b4:Bool) (b5:List Int) (b6:List Int) (w:World) (b7:cI w a7 l1) (b8:l1.length≤a8) (b9:cI w a9 l2) (d6:l2.length≤c2) (h:Dzz.f k a6 l1 l2=some (b4,b5,b6)) :
  Calls Try.prog 58 #[.bool a6,.slice a7 l1.length a8,.slice a9 l2.length c2] w fun e w'=>∃ v1_ v2_:Value,e=.returned (.agg #[.bool b4,v1_,v2_])∧rI w' w (oV v2_) v1_ b5∧rI w' w (oV v1_) v2_ b6∧bw w w':=by
 have hu33:=Try.underlying33;have d7:=aM b7;have d8:=aM b8;clear b7 b8;have d9:=aM b9;have e6:=aM d6;clear b9 d6;have HB:=aM (Below.refl w.heap.size w);have H:((Azm.f k l1 l2).bind fun e7=>((Azq.f k l1 e7.1).bind fun e8=>((Azq.f k l2 e7.1).bind fun e9=>(if a6=true then(some (decide (0 < e8.1.length),e8.1,e9.1)) else(some (false,e8.1,e9.1))))))=some (b4,b5,b6):=h
 clear h;obtain⟨⟨f4,f5⟩,f6,H⟩:=bT H;(try dsimp only at H);obtain⟨⟨f7,f8,f9⟩,g4,H⟩:=bT H;(try dsimp only at H);obtain⟨⟨g5,g6,g7⟩,g8,H⟩:=bT H;(try dsimp only at H);by_cases c7:a6=true
 ·subst c7;rw[if_pos rfl] at H;obtain⟨rfl,rfl,rfl⟩:=q3 H;go_enter Try.func58,Try.ntmps58
  go_wp2_with (first|((with_reducible refine gd 6 rfl ?_);refine bzg 33 ?_;intro g9 hg j3 j4 hb;have j5:=gA w hg;replace HB:=bB hb;clear hb hg)|((with_reducible refine gc 71 rfl ?_);refine gC 71 (some 18) Try.func71 #[.slice a7 l1.length a8,.slice a9 l2.length c2] ?_;(with_reducible refine(Azm.calls k _ _ l1 (fun k_=>k_ < w.heap.size) _ _ l2 f4 f5 _ ?_ ?_ ?_ f6.out).mono ?_);exact cB d7;exact d8.out;exact Kd.V_mk e6.out (Kd.F_below (Kd.C_F (Kd.heap_int .i64) d9.out) pB);rintro e j7 ⟨j8,rfl,j9,hb⟩;refine⟨_,rfl,?_⟩;have l5:=rL (Kd.R_mono (ok':=fun k_=>True) j9 (fun _ hk_=>trivial));replace j4:=kb j4 hb;replace HB:=bB hb;clear hb j9;obtain⟨l6,l7,rfl⟩:=Kd.R_slice l5.out)|((with_reducible refine gc 86 rfl ?_);refine gC 86 (some 24) Try.func86 #[.slice a7 l1.length a8,.slice l6 f4.length l7] ?_;(with_reducible refine(Azq.calls k _ _ l1 _ _ f4 f7 f8 f9 _ ?_ ?_ ?_ ?_ g4.out).mono ?_);exact cB d7;exact d8.out;exact cR l5;exact lR l5;rintro e l8 ⟨l9,m0,rfl,j9,m4,hb⟩;refine⟨_,rfl,?_⟩;have m5:=rL (rn j9 l5);have m6:=rL (rn m4 l5);replace l5:=rO l5 hb j9 m4;replace j4:=kb j4 hb;replace HB:=bB hb;clear hb j9 m4)|((with_reducible refine gc 86 rfl ?_);refine gC 86 (some 31) Try.func86 #[.slice a9 l2.length c2,.slice l6 f4.length l7] ?_;(with_reducible refine(Azq.calls k _ _ l2 _ _ f4 g5 g6 g7 _ ?_ ?_ ?_ ?_ g8.out).mono ?_);exact cB d9;exact e6.out;exact cR l5;exact lR l5;rintro e m7 ⟨m8,m9,rfl,j9,m4,hb⟩;refine⟨_,rfl,?_⟩;have n0:=rL (rn (rn (rn j9 l5) m5) m6);have n7:=rL (rn (rn (rn m4 l5) m5) m6);replace l5:=rO l5 hb j9 m4;replace m5:=rO m5 hb j9 m4;replace m6:=rO m6 hb j9 m4;replace j4:=kb j4 hb;replace HB:=bB hb;clear hb j9 m4;obtain⟨n8,n9,rfl⟩:=Kd.R_slice m5.out;obtain⟨o0,o8,rfl⟩:=Kd.R_slice n0.out;obtain⟨o9,p0,p4,p7,p9,r5⟩:=bk3 j4))
  refine bodyPost_ret (results_cell_row rfl _ _ g9 33 #[.bool (decide (0 < f7.length)),.slice n8 f7.length n9,.slice o0 g5.length o8] (0,0) _ rfl (kQ j4) Try.underlying33 rfl (by kernel_rfl)) rfl ?_
  exact⟨_,_,eW,by exact Kd.R_mono (rT m5 j4) (fun _ hk=>hk.1.2),by exact Kd.R_mono (rT n0 j4) (fun _ hk=>hk.1.2),pB⟩
 ·obtain rfl:=bN c7;rw[if_neg nF] at H
  obtain⟨rfl,rfl,rfl⟩:=q3 H;go_enter Try.func58,Try.ntmps58
  go_wp2_with (first|((with_reducible refine gd 6 rfl ?_);refine bzg 33 ?_;intro g9 hg r6 j4 hb;have j5:=gA w hg;replace HB:=bB hb;clear hb hg)|((with_reducible refine gc 71 rfl ?_);refine gC 71 (some 18) Try.func71 #[.slice a7 l1.length a8,.slice a9 l2.length c2] ?_;(with_reducible refine(Azm.calls k _ _ l1 (fun k_=>k_ < w.heap.size) _ _ l2 f4 f5 _ ?_ ?_ ?_ f6.out).mono ?_);exact cB d7;exact d8.out;exact Kd.V_mk e6.out (Kd.F_below (Kd.C_F (Kd.heap_int .i64) d9.out) pB);rintro e r7 ⟨j8,rfl,j9,hb⟩;refine⟨_,rfl,?_⟩;have l5:=rL (Kd.R_mono (ok':=fun k_=>True) j9 (fun _ hk_=>trivial));replace j4:=kb j4 hb;replace HB:=bB hb;clear hb j9;obtain⟨r8,r9,rfl⟩:=Kd.R_slice l5.out)|((with_reducible refine gc 86 rfl ?_);refine gC 86 (some 24) Try.func86 #[.slice a7 l1.length a8,.slice r8 f4.length r9] ?_;(with_reducible refine(Azq.calls k _ _ l1 _ _ f4 f7 f8 f9 _ ?_ ?_ ?_ ?_ g4.out).mono ?_);exact cB d7;exact d8.out;exact cR l5;exact lR l5;rintro e t4 ⟨l9,m0,rfl,j9,m4,hb⟩;refine⟨_,rfl,?_⟩;have m5:=rL (rn j9 l5);have m6:=rL (rn m4 l5);replace l5:=rO l5 hb j9 m4;replace j4:=kb j4 hb;replace HB:=bB hb;clear hb j9 m4)|((with_reducible refine gc 86 rfl ?_);refine gC 86 (some 31) Try.func86 #[.slice a9 l2.length c2,.slice r8 f4.length r9] ?_;(with_reducible refine(Azq.calls k _ _ l2 _ _ f4 g5 g6 g7 _ ?_ ?_ ?_ ?_ g8.out).mono ?_);exact cB d9;exact e6.out;exact cR l5;exact lR l5;rintro e t5 ⟨m8,m9,rfl,j9,m4,hb⟩;refine⟨_,rfl,?_⟩;have n0:=rL (rn (rn (rn j9 l5) m5) m6);have n7:=rL (rn (rn (rn m4 l5) m5) m6);replace l5:=rO l5 hb j9 m4;replace m5:=rO m5 hb j9 m4;replace m6:=rO m6 hb j9 m4;replace j4:=kb j4 hb;replace HB:=bB hb;clear hb j9 m4;obtain⟨t6,t7,rfl⟩:=Kd.R_slice n0.out;obtain⟨t8,t9,rfl⟩:=Kd.R_slice m5.out;obtain⟨z3,z4,z5,z6,z7,z8⟩:=bk3 j4))
  refine bodyPost_ret (results_cell_row rfl _ _ g9 33 #[.bool false,.slice t8 f7.length t9,.slice t6 g5.length t7] (0,0) _ rfl (kQ j4) Try.underlying33 rfl (by kernel_rfl)) rfl ?_
  exact⟨_,_,eW,by exact Kd.R_mono (rT m5 j4) (fun _ hk=>hk.1.2),by exact Kd.R_mono (rT n0 j4) (fun _ hk=>hk.1.2),pB⟩


def Bzf.l0:Nat→Int→List Int→Option (List Int × Int)
 | 0,_,_=>none
 | k+1,x0,x4=>if x0 > 0 then(if x4.length < 17592186044416 then(Bzf.l0 k (wrap64 (Int.tdiv x0 1000000000)) (x4 ++ [Int.tmod x0 1000000000])) else(none)) else(some (x4,0))
def Bzf.f (k:Nat) (a0:Int):Option (List Int × Int):=if a0 < 0 then(some (([]:List Int),1)) else(Bzf.l0 k a0 ([]:List Int))
theorem Bzf.mono_l:∀ k,(∀ a6 a7,LeO (Bzf.l0 k a6 a7) (Bzf.l0 (k+1) a6 a7))
 | 0=>fun _ _ r h=>by simp [Bzf.l0] at h
 | k+1=>by
  have ih0:=Bzf.mono_l k
  ·intro a6 a7;unfold Bzf.l0;exact mM
theorem Bzf.mono:∀ a6 k,LeO (Bzf.f k a6) (Bzf.f (k+1) a6):=by
 intro a6 k;have ih0:=Bzf.mono_l k;unfold Bzf.f;exact mM
theorem Bzf.calls (k:Nat) (a6:Int) (a7:List Int) (a8:Int) (w:World) (h:Bzf.f k a6=some (a7,a8)) :
  Calls Try.prog 60 #[.int .i64 a6] w fun e w'=>∃ v0_:Value,e=.returned (.tuple #[v0_,.int .i64 a8])∧rI w' w (fun _=>True) v0_ a7∧bw w w':=by
 have HB:=aM (Below.refl w.heap.size w);have H:(if a6 < 0 then(some (([]:List Int),1)) else(Bzf.l0 k a6 ([]:List Int)))=some (a7,a8):=h
 clear h;replace H:=iD H;rcases H with⟨a9,H⟩|⟨a9,H⟩
 ·obtain⟨rfl,rfl⟩:=q2 H;go_enter Try.func60,Try.ntmps60
  go_wp2
  go_ret2
  exact⟨_,eW,nK,pB⟩
 ·have H':=aM H;clear H;go_enter Try.func60,Try.ntmps60
  go_wp2
  go_loopg [0,4] k (fun kq b4 b5 w'=>∃ (b6:Int) (b7:List Int),b4=.int .i64 b6∧Aside0 (Bzf.l0 kq b6 b7=some (a7,a8))∧Aside0 (kq≤k)∧Aside0 (rI w' w (fun _=>True) b5 b7)∧Aside0 (bw w w'))
  case atStart=>exact⟨(a6),(([]:List Int)),sD,H',⟨Nat.le_refl _⟩,⟨nK⟩,⟨pB⟩⟩
  case round =>
   clear H';try clear c2
   obtain⟨b6,b7,rfl,HA,b8,b9,HB⟩:=hrel;cases gk with
   | zero=>exact absurd HA.out (by simp [Bzf.l0])
   | succ k1 =>
    have H:=HA.out;clear HA;simp only[Bzf.l0] at H;by_cases c3:b6 > 0
    ·rw[if_pos c3] at H;have d6:decide (0 < b6)=true:=dE c3;clear c3;obtain⟨c4,H⟩:=iO H;have LMc4:=aM c4;clear c4;obtain⟨d7,d8⟩:∃ y_:List Int,y_=(b7 ++ [Int.tmod b6 1000000000]):=⟨_,rfl⟩;replace H:(Bzf.l0 k1 (wrap64 (Int.tdiv b6 1000000000)) d7)=some (a7,a8):=yE d8 H
     have d9:=aM d8;clear d8;have H':=aM H;clear H;go_wp2_with (first|((with_reducible refine gate_builtin (b:=.append) (xs:=#[.tmp 9,.tmp 12]) rfl ?_);at_builtin;refine Kd.R_append (Kd.int .i64) (w0:=w) w.heap.size rfl (.tmp 9) (.tmp 12) 31 3 (.int .i64 0) 8 rfl Try.underlying31 info3 rfl (by decide) (by omega) u4 b7 (Int.tmod b6 1000000000) [.int .i64 (Int.tmod b6 1000000000)] (fun _=>True) (fun _=>False) rfl rfl ?aP (fun _ hk=>hk.elim) ?aF ?aO ?aB ?aS ?aL ?_;(case aP=>exact rfl);(case aB=>exact pB);(case aF=>exact(fun _ _=>trivial));(case aO=>exact(rX b9.out));(case aS=>exact(below_size pB));(case aL=>have:=LMc4.out;omega);intro e6 e7 ho hb hg hat;rw[← d9.out] at ho;have e8:=aM (ho);replace HB:=aM (hb);clear b9 ho hb hg hat))
     go_roundg k1
     case measure=>have:=b8.out;omega
     case rel=>exact⟨(wrap64 (Int.tdiv b6 1000000000)),(d7),sD,H',⟨by have:=b8.out;omega⟩,⟨rX e8.out⟩,⟨pB⟩⟩
    ·rw[if_neg c3] at H;have d6:decide (0 < b6)=false:=decide_eq_false c3;clear c3;obtain⟨rfl,rfl⟩:=q2 H;go_wp2
     go_ret2
     exact⟨_,eW,rX b9.out,pB⟩

def Azx.j0:Nat→Int→Int→Bool→Option (Bool × List Int × List Int × Int)
 | 0,_,_,_=>none
 | k+1,x0,x1,x23=>if x23=true then(some (false,([]:List Int),([]:List Int),1)) else(if x1=0 then(some (false,([]:List Int),([]:List Int),16)) else((Bzf.f k (mx x0 (wrap64 (-x0)))).bind fun bt669=>((Bzf.f k (mx x1 (wrap64 (-x1)))).bind fun bt673=>((Dzz.f k ((decide (x0 < 0)) != (decide (x1 < 0))) bt669.1 bt673.1).bind fun bt677=>(some (bt677.1,bt677.2.1,bt677.2.2,0))))))
def Azx.f (k:Nat) (a0:Int) (a1:Int):Option (Bool × List Int × List Int × Int):=if a0 < (-1125899906842624) then(Azx.j0 k a0 a1 true) else(if a0 > 1125899906842624 then(Azx.j0 k a0 a1 true) else(if a1 < (-1125899906842624) then(Azx.j0 k a0 a1 true) else(Azx.j0 k a0 a1 (decide (a1 > 1125899906842624)))))
theorem Azx.mono_l:∀ k,(∀ a6 a7 a8,LeO (Azx.j0 k a6 a7 a8) (Azx.j0 (k+1) a6 a7 a8))
 | 0=>fun _ _ _ r h=>by simp [Azx.j0] at h
 | k+1=>by
  have ih0:=Azx.mono_l k
  ·intro a6 a7 a8;unfold Azx.j0;have i0:=@Bzf.mono;have i1:=@Dzz.mono;exact mM
theorem Azx.mono:∀ a6 a7 k,LeO (Azx.f k a6 a7) (Azx.f (k+1) a6 a7):=by
 intro a6 a7 k;have ih0:=Azx.mono_l k;unfold Azx.f;have i0:=@Bzf.mono;have i1:=@Dzz.mono;exact mM
theorem Azx.calls (k:Nat) (a6:Int) (a7:Int) (a8:Bool) (a9:List Int) (b4:List Int) (b5:Int) (w:World) (h:Azx.f k a6 a7=some (a8,a9,b4,b5)) :
  Calls Try.prog 33 #[.int .i64 a6,.int .i64 a7] w fun e w'=>∃ v1_ v2_:Value,e=.returned (.tuple #[.agg #[.bool a8,v1_,v2_],.int .i64 b5])∧rI w' w (oV v2_) v1_ a9∧rI w' w (oV v1_) v2_ b4∧bw w w':=by
 have hu33:=Try.underlying33;have HB:=aM (Below.refl w.heap.size w);have H:(if a6 < (-1125899906842624) then(Azx.j0 k a6 a7 true) else(if a6 > 1125899906842624 then(Azx.j0 k a6 a7 true) else(if a7 < (-1125899906842624) then(Azx.j0 k a6 a7 true) else(Azx.j0 k a6 a7 (decide (a7 > 1125899906842624))))))=some (a8,a9,b4,b5):=h
 clear h;have b6:=aM H;clear H;go_enter Try.func33,Try.ntmps33
 go_upto_region 1 with (first|((with_reducible refine gd 4 rfl ?_);refine bz 33 ?_;intro b7 hg b8 b9 hb;have d6:=gA w hg;replace HB:=bB hb;clear hb hg))
 (try simp only[Act.put,sA,sZ,sC])
 go_cut [23] (fun d8 wc=>∃ (kq:Nat) (d9:Bool),d8=.bool d9∧Aside0 (Azx.j0 kq a6 a7 d9=some (a8,a9,b4,b5))∧Aside0 (kq≤k)∧Aside0 (wc.heap[b7]?=some (.cells #[.bool false,(.slice none 0 0),(.slice none 0 0)] 33 (0,0)))∧Aside0 (bw w wc))
 case first =>
  have H:=b6.out;clear b6;replace H:=iD H;rcases H with⟨e6,H⟩|⟨e6,H⟩
  ·(first|rw[e6]|(simp only[i64_w,i32_w];rw[e6])|skip)
   have H':=aM H;clear H;go_wp2
   go_meet
   case rel=>exact⟨_,(true),sD,H',⟨by first|omega|exact Nat.le_refl _⟩,⟨by exact kW b9⟩,⟨pB⟩⟩
  ·(first|rw[e6]|(simp only[i64_w,i32_w];rw[e6])|skip)
   by_cases c6:a6 > 1125899906842624
   ·rw[if_pos c6] at H;have e7:decide (1125899906842624 < a6)=true:=dE c6;clear c6;have H':=aM H;clear H;go_wp2
    go_meet
    case rel=>exact⟨_,(true),sD,H',⟨by first|omega|exact Nat.le_refl _⟩,⟨by exact kW b9⟩,⟨pB⟩⟩
   ·rw[if_neg c6] at H;have e7:decide (1125899906842624 < a6)=false:=decide_eq_false c6;clear c6;replace H:=iD H;rcases H with⟨e8,H⟩|⟨e8,H⟩
    ·have H':=aM H;clear H;go_wp2
     go_meet
     case rel=>exact⟨_,(true),sD,H',⟨by first|omega|exact Nat.le_refl _⟩,⟨by exact kW b9⟩,⟨pB⟩⟩
    ·have H':=aM H;clear H;go_wp2
     go_meet
     case rel=>exact⟨_,(decide (a7 > 1125899906842624)),sD,H',⟨by first|omega|exact Nat.le_refl _⟩,⟨by exact kW b9⟩,⟨pB⟩⟩
 case rest =>
  clear b6;try clear e9
  obtain⟨kq,d9,rfl,HA,f4,b9,HB⟩:=hcut;cases kq with
  | zero=>exact absurd HA.out (by simp [Azx.j0])
  | succ f5 =>
   have H:=HA.out;clear HA;simp only[Azx.j0] at H;by_cases c8:d9=true
   ·subst c8;rw[if_pos rfl] at H;obtain⟨rfl,rfl,rfl,rfl⟩:=q4 H;obtain⟨f6,f7,f8,f9,g4,g5⟩:=bk3 b9;go_wp2
    refine rC b7 33 #[.bool false,.slice none 0 0,.slice none 0 0] (kQ b9) Try.underlying33 ?_
    exact⟨_,_,eW,nK,nK,pB⟩
   ·obtain rfl:=bN c8;rw[if_neg nF] at H
    replace H:=iE H;rcases H with⟨g6,g7,H⟩|⟨c10,g6,g7,H⟩
    ·obtain⟨rfl,rfl,rfl,rfl⟩:=q4 H;obtain⟨g8,g9,j3,j4,j5,j6⟩:=bk3 b9;go_wp2
     refine rC b7 33 #[.bool false,.slice none 0 0,.slice none 0 0] (kQ b9) Try.underlying33 ?_
     exact⟨_,_,eW,nK,nK,pB⟩
    ·obtain⟨j7,j8⟩:∃ j_:Int,(mx a6 (wrap64 (-a6)))=j_:=⟨_,rfl⟩;replace H:((Bzf.f f5 (j7)).bind fun j9=>((Bzf.f f5 (mx a7 (wrap64 (-a7)))).bind fun l5=>((Dzz.f f5 ((decide (a6 < 0)) != (decide (a7 < 0))) j9.1 l5.1).bind fun l6=>(some (l6.1,l6.2.1,l6.2.2,0)))))=some (a8,a9,b4,b5):=by first|(rw[j8] at H;exact H)|(simp only[j8] at H ⊢;exact H)
     have l7:(if a6 < (wrap64 (-a6)) then(wrap64 (-a6)) else a6)=j7:=j8
     obtain⟨⟨l8,l9⟩,m0,H⟩:=bT H;(try dsimp only at H);obtain⟨m4,m5⟩:∃ j_:Int,(mx a7 (wrap64 (-a7)))=j_:=⟨_,rfl⟩;replace H:((Bzf.f f5 (m4)).bind fun l5=>((Dzz.f f5 ((decide (a6 < 0)) != (decide (a7 < 0))) l8 l5.1).bind fun l6=>(some (l6.1,l6.2.1,l6.2.2,0))))=some (a8,a9,b4,b5):=by first|(rw[m5] at H;exact H)|(simp only[m5] at H ⊢;exact H)
     (try rw[m5] at m0)
     have m6:(if a7 < (wrap64 (-a7)) then(wrap64 (-a7)) else a7)=m4:=m5
     obtain⟨⟨m7,m8⟩,m9,H⟩:=bT H;(try dsimp only at H);replace H:=bS H;obtain⟨⟨n0,n7,n8⟩,n9,H⟩:=H;replace H:(some (n0,n7,n8,0))=some (a8,a9,b4,b5):=H;have o0:=aM n9;clear n9;obtain⟨rfl,rfl,rfl,rfl⟩:=q4 H;go_wp2_with (first|((with_reducible refine gate_callee (f:=60) rfl ?_);refine goesL_ (some 33) rfl rfl Try.func60 (by kernel_rfl) rfl #[.int .i64 j7] rfl (by(try simp only[List.map_toArray,List.map_cons,List.map_nil]);first|done|(simp only[j8];rfl)|rfl|(simp only[List.length_drop,List.length_take];rfl)) ?_;(with_reducible refine(Bzf.calls f5 j7 l8 l9 _ m0.out).mono ?_);rintro e o8 ⟨o9,rfl,p0,hb⟩;refine⟨_,rfl,?_⟩;have p4:=rL p0;replace b9:=kb b9 hb;replace HB:=bB hb;clear hb p0)|((with_reducible refine gate_callee (f:=60) rfl ?_);refine goesL_ (some 41) rfl rfl Try.func60 (by kernel_rfl) rfl #[.int .i64 m4] rfl (by(try simp only[List.map_toArray,List.map_cons,List.map_nil]);first|done|(simp only[m5];rfl)|rfl|(simp only[List.length_drop,List.length_take];rfl)) ?_;(with_reducible refine(Bzf.calls f5 m4 m7 m8 _ m9.out).mono ?_);rintro e p7 ⟨p9,rfl,p0,hb⟩;refine⟨_,rfl,?_⟩;have r5:=rL (rn p0 p4);replace p4:=rE p4 p0 hb;replace b9:=kb b9 hb;replace HB:=bB hb;clear hb p0;obtain⟨r6,r7,rfl⟩:=Kd.R_slice p4.out;obtain⟨r8,r9,rfl⟩:=Kd.R_slice r5.out)|((with_reducible refine gc 58 rfl ?_);refine gC 58 (some 51) Try.func58 #[.bool ((decide (a6 < 0)) != (decide (a7 < 0))),.slice r6 l8.length r7,.slice r8 m7.length r9] ?_;(with_reducible refine(Dzz.calls f5 ((decide (a6 < 0)) != (decide (a7 < 0))) _ _ l8 _ _ m7 n0 n7 n8 _ ?_ ?_ ?_ ?_ o0.out).mono ?_);exact cR p4;exact lR p4;exact cR r5;exact lR r5;rintro e t4 ⟨t5,t6,rfl,p0,t7,hb⟩;refine⟨_,rfl,?_⟩;have t8:=rL (rn (rn p0 p4) r5);have t9:=rL (rn (rn t7 p4) r5);replace p4:=rO p4 hb p0 t7;replace r5:=rO r5 hb p0 t7;replace b9:=kb b9 hb;replace HB:=bB hb;clear hb p0 t7;obtain⟨z3,z4,z5,z6,z7,z8⟩:=bk3 b9;obtain⟨z9,B0,rfl⟩:=Kd.R_slice t8.out;obtain⟨B5,B9,rfl⟩:=Kd.R_slice t9.out))
     refine rC b7 33 #[.bool n0,.slice z9 n7.length B0,.slice B5 n8.length B9] (kQ b9) Try.underlying33 ?_
     exact⟨_,_,by first|rfl|(simp [errW_none,errW_some] <;> rfl)|(simp only[← j8,← m5];first|rfl|(simp [errW_none,errW_some] <;> rfl))|(simp [*,errW_none,errW_some] <;> rfl),by exact Kd.R_mono (rT t8 b9) (fun _ hk=>hk.1.1),by exact Kd.R_mono (rT t9 b9) (fun _ hk=>hk.1.1),pB⟩

def Czx.f (k:Nat) (a0:Int):Option (Bool × List Int × List Int × Int):=(Azx.f k a0 1).bind fun bt685=>(some (bt685.1,bt685.2.1,bt685.2.2.1,bt685.2.2.2))
theorem Czx.mono:∀ a6 k,LeO (Czx.f k a6) (Czx.f (k+1) a6):=by
 intro a6 k;unfold Czx.f;have i0:=@Azx.mono;exact mM
theorem Czx.calls (k:Nat) (a6:Int) (a7:Bool) (a8:List Int) (a9:List Int) (b4:Int) (w:World) (h:Czx.f k a6=some (a7,a8,a9,b4)) :
  Calls Try.prog 40 #[.int .i64 a6] w fun e w'=>∃ v1_ v2_:Value,e=.returned (.tuple #[.agg #[.bool a7,v1_,v2_],.int .i64 b4])∧rI w' w (oV v2_) v1_ a8∧rI w' w (oV v1_) v2_ a9∧bw w w':=by
 have hu33:=Try.underlying33;have HB:=aM (Below.refl w.heap.size w);have H:((Azx.f k a6 1).bind fun b5=>(some (b5.1,b5.2.1,b5.2.2.1,b5.2.2.2)))=some (a7,a8,a9,b4):=h
 clear h;replace H:=bS H;obtain⟨⟨b6,b7,b8,b9⟩,d6,H⟩:=H;replace H:(some (b6,b7,b8,b9))=some (a7,a8,a9,b4):=H;have d7:=aM d6;clear d6;obtain⟨rfl,rfl,rfl,rfl⟩:=q4 H;go_enter Try.func40,Try.ntmps40
 go_wp2_with (first|((with_reducible refine gd 2 rfl ?_);refine bz 33 ?_;intro d8 hg d9 e6 hb;have e7:=gA w hg;replace HB:=bB hb;clear hb hg)|((with_reducible refine gc 33 rfl ?_);refine gC 33 (some 5) Try.func33 #[.int .i64 a6,.int .i64 1] ?_;(with_reducible refine(Azx.calls k a6 1 b6 b7 b8 b9 _ d7.out).mono ?_);rintro e e9 ⟨f4,f5,rfl,f6,f7,hb⟩;refine⟨_,rfl,?_⟩;have f8:=rL f6;have f9:=rL f7;replace e6:=kb e6 hb;replace HB:=bB hb;clear hb f6 f7;obtain⟨g4,g5,g6,g7,g8,g9⟩:=bk3 e6;obtain⟨j3,j4,rfl⟩:=Kd.R_slice f8.out;obtain⟨j5,j6,rfl⟩:=Kd.R_slice f9.out))
 refine rC d8 33 #[.bool b6,.slice j3 b7.length j4,.slice j5 b8.length j6] (kQ e6) Try.underlying33 ?_
 exact⟨_,_,eW,by exact Kd.R_mono (rT f8 e6) (fun _ hk=>hk),by exact Kd.R_mono (rT f9 e6) (fun _ hk=>hk),pB⟩

def Ezv.f (k:Nat) (a0:Int):Option (Bool × List Int × List Int):=(Czx.f k a0).bind fun bt694=>(some (bt694.1,bt694.2.1,bt694.2.2.1))
theorem Ezv.mono:∀ a6 k,LeO (Ezv.f k a6) (Ezv.f (k+1) a6):=by
 intro a6 k;unfold Ezv.f;have i0:=@Czx.mono;exact mM
theorem Ezv.calls (k:Nat) (a6:Int) (a7:Bool) (a8:List Int) (a9:List Int) (w:World) (h:Ezv.f k a6=some (a7,a8,a9)) :
  Calls Try.prog 31 #[.int .i64 a6] w fun e w'=>∃ v1_ v2_:Value,e=.returned (.agg #[.bool a7,v1_,v2_])∧rI w' w (oV v2_) v1_ a8∧rI w' w (oV v1_) v2_ a9∧bw w w':=by
 have hu33:=Try.underlying33;have HB:=aM (Below.refl w.heap.size w);have H:((Czx.f k a6).bind fun b4=>(some (b4.1,b4.2.1,b4.2.2.1)))=some (a7,a8,a9):=h
 clear h;replace H:=bS H;obtain⟨⟨b5,b6,b7,b8⟩,b9,H⟩:=H;replace H:(some (b5,b6,b7))=some (a7,a8,a9):=H;have d6:=aM b9;clear b9;obtain⟨rfl,rfl,rfl⟩:=q3 H;go_enter Try.func31,Try.ntmps31
 go_wp2_with (first|((with_reducible refine gd 2 rfl ?_);refine bz 33 ?_;intro d7 hg d8 d9 hb;have e6:=gA w hg;replace HB:=bB hb;clear hb hg)|((with_reducible refine gc 40 rfl ?_);refine gC 40 (some 7) Try.func40 #[.int .i64 a6] ?_;(with_reducible refine(Czx.calls k a6 b5 b6 b7 b8 _ d6.out).mono ?_);rintro e e8 ⟨e9,f4,rfl,f5,f6,hb⟩;refine⟨_,rfl,?_⟩;have f7:=rL f5;have f8:=rL f6;replace d9:=kb d9 hb;replace HB:=bB hb;clear hb f5 f6)|((with_reducible refine gd 3 rfl ?_);refine bz 33 ?_;intro f9 hg g4 g5 hb;have g6:=gA w hg;have g8:=nl hg d9;have g9:=ng hg d9;replace f7:=rB f7 hb;replace f8:=rB f8 hb;replace d9:=kb d9 hb;replace HB:=bB hb;clear hb hg;have j3:=g9.out;have j4:=g8.out;obtain⟨j5,j6,j7,j8,j9,l5⟩:=bk3 g5;obtain⟨l6,l7,rfl⟩:=Kd.R_slice f7.out;obtain⟨l8,l9,rfl⟩:=Kd.R_slice f8.out;obtain⟨m0,m4,m5,m6,m7,m8⟩:=bk3 d9))
 refine bodyPost_ret (results_cell_row rfl _ _ d7 33 #[.bool b5,.slice l6 b6.length l7,.slice l8 b7.length l9] (0,0) _ rfl (by refine bD ?_;refine blk_put (cs:=#[.bool b5,.slice l6 b6.length l7,.slice none 0 0]) ?_ 2 _ rfl;refine bD ?_;refine blk_put (cs:=#[.bool b5,.slice none 0 0,.slice none 0 0]) ?_ 1 _ rfl;refine bD ?_;refine blk_put (cs:=#[.bool false,.slice none 0 0,.slice none 0 0]) ?_ 0 _ rfl;refine bD ?_;refine blk_far ?_ g8.out _;refine bD ?_;refine blk_far ?_ g8.out _;refine bD ?_;refine blk_far ?_ g8.out _;(with_reducible repeat(first|refine blk_drewN ?_ _|refine blk_drew ?_|refine blk_alloc ?_ _));exact d9.out) Try.underlying33 rfl (by kernel_rfl)) rfl ?_
 exact⟨_,_,eW,by exact rX (Kd.R_mono (Kd.R_far (p:=⟨d7,2,none⟩) (Kd.R_far (p:=⟨d7,1,none⟩) (Kd.R_far (p:=⟨d7,0,none⟩) (Kd.R_far (p:=⟨f9,2,none⟩) (Kd.R_far (p:=⟨f9,1,none⟩) (Kd.R_far (p:=⟨f9,0,none⟩) (Kd.R_types (Kd.R_types f7.out g5.out (by decide)) d9.out (by decide)) (fun _ hk=>hk.1.2) (.bool b5)) (fun _ hk=>hk.1.2) (.slice l6 b6.length l7)) (fun _ hk=>hk.1.2) (.slice l8 b7.length l9)) (fun _ hk=>hk.2) (.bool b5)) (fun _ hk=>hk.2) (.slice l6 b6.length l7)) (fun _ hk=>hk.2) (.slice l8 b7.length l9)) (fun _ hk=>hk.1.1)),by exact rX (Kd.R_mono (Kd.R_far (p:=⟨d7,2,none⟩) (Kd.R_far (p:=⟨d7,1,none⟩) (Kd.R_far (p:=⟨d7,0,none⟩) (Kd.R_far (p:=⟨f9,2,none⟩) (Kd.R_far (p:=⟨f9,1,none⟩) (Kd.R_far (p:=⟨f9,0,none⟩) (Kd.R_types (Kd.R_types f8.out g5.out (by decide)) d9.out (by decide)) (fun _ hk=>hk.1.2) (.bool b5)) (fun _ hk=>hk.1.2) (.slice l6 b6.length l7)) (fun _ hk=>hk.1.2) (.slice l8 b7.length l9)) (fun _ hk=>hk.2) (.bool b5)) (fun _ hk=>hk.2) (.slice l6 b6.length l7)) (fun _ hk=>hk.2) (.slice l8 b7.length l9)) (fun _ hk=>hk.1.1)),pB⟩

end Go.Proofs.Ytbnpcplckcipfaa.Print
