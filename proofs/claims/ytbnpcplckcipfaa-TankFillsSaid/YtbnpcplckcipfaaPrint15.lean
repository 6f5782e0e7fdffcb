import Derived.Test.YtbnpcplckcipfaaPrint0
namespace Go.Proofs.Ytbnpcplckcipfaa.Print
open Go.RowKit Go.Proofs.YtbnpcplckcipfaaW.PrintWords Go.Proofs.YtbnpcplckcipfaaW.PrintLast Go.Proofs.YtbnpcplckcipfaaW.PrintMore
attribute [local go_sem] max2_int min2_int max_two min_two max_three min_three max_four min_four
set_option linter.unusedVariables false
set_option maxRecDepth 100000
set_option maxHeartbeats 8000000
set_option linter.unusedSimpArgs false

def Czz.l0:Nat→List Int→List Int→Int→Option (Bool)
 | 0,_,_,_=>none
 | k+1,x0,x1,x5=>if x5 < (x0.length:Int) then(if 0≤x5 then(if x5 < (x1.length:Int) then(if(rd x0 x5)=(rd x1 x5) then(Czz.l0 k x0 x1 (wrap64 (x5+1))) else(some false)) else(none)) else(none)) else(some true)
def Czz.f (k:Nat) (l0:List Int) (l1:List Int):Option (Bool):=if(l0.length:Int)=(l1.length:Int) then(Czz.l0 k l0 l1 0) else(some false)
theorem Czz.mono_l:∀ k,(∀ a6 a7 a8,LeO (Czz.l0 k a6 a7 a8) (Czz.l0 (k+1) a6 a7 a8))
 | 0=>fun _ _ _ r h=>by simp [Czz.l0] at h
 | k+1=>by
  have ih0:=Czz.mono_l k
  ·intro a6 a7 a8;unfold Czz.l0;exact mM
theorem Czz.mono:∀ a6 a7 k,LeO (Czz.f k a6 a7) (Czz.f (k+1) a6 a7):=by
 intro a6 a7 k;have ih0:=Czz.mono_l k;unfold Czz.f;exact mM
theorem Czz.calls (k:Nat) (a6:Option Addr) (a7:Nat) (l0:List Int) (a8:Option Addr) (a9:Nat) (l1:List Int) (r:Bool) (w:World) (b4:cI w a6 l0) (b5:l0.length≤a7) (b6:cI w a8 l1) (b7:l1.length≤a9) (h:Czz.f k l0 l1=some r) :
  Calls Try.prog 42 #[.slice a6 l0.length a7,.slice a8 l1.length a9] w fun e w'=>e=.returned (.bool r)∧Drawn0 w w':=by
 have b8:=aM b4;have b9:=aM b5;clear b4 b5;have d6:=aM b6;have d7:=aM b7;clear b6 b7;have H:(if(l0.length:Int)=(l1.length:Int) then(Czz.l0 k l0 l1 0) else(some false))=some r:=h
 clear h;by_cases c3:(l0.length:Int)=(l1.length:Int)
 ·rw[if_pos c3] at H;obtain⟨d8,d9⟩:=bE c3;have e6:(l0.length == l1.length)=true:=by first|simpa using c3|(simp at c3 ⊢;omega)
  clear c3;have H':=aM H;clear H;go_enter Try.func42,Try.ntmps42
  go_wp2
  repeat(go_quiet (fail);try go_wp2)
  go_loopg [5] k (fun kq e7 w'=>∃ (e8:Int),e7=.int .i64 e8∧Aside0 (Czz.l0 kq l0 l1 e8=some r)∧Aside0 (kq≤k)∧Drawn0 w w')
  case atStart=>exact⟨(0),sD,H',⟨Nat.le_refl _⟩,dR⟩
  case round =>
   clear H';try clear a9
   obtain⟨e8,rfl,HA,e9,⟨f3,rfl⟩⟩:=hrel;cases gk with
   | zero=>exact absurd HA.out (by simp [Czz.l0])
   | succ k1 =>
    have H:=HA.out;clear HA;simp only[Czz.l0] at H;replace H:=iD H;rcases H with⟨f4,H⟩|⟨f4,H⟩
    ·obtain⟨f5,H⟩:=iN H;obtain⟨f6,H⟩:=iN H;replace H:=iE H;rcases H with⟨f7,f8,H⟩|⟨c7,f7,f8,H⟩
     ·have H':=aM H;clear H;obtain⟨f9,g4,g5,g6,g7⟩:=aI b8.out e8;cases g4;obtain⟨g8,g9,j3,j4,j5⟩:=aI d6.out e8;cases g9;go_wp2
      repeat(go_quiet (fail);try go_wp2)
      go_roundg k1
      case measure=>have:=e9.out;omega
      case rel=>exact⟨(wrap64 (e8+1)),sD,H',⟨by have:=e9.out;omega⟩,dR⟩
     ·obtain rfl:=Option.some.inj H;obtain⟨f9,g4,g5,g6,g7⟩:=aI b8.out e8;cases g4;obtain⟨g8,g9,j3,j4,j5⟩:=aI d6.out e8;cases g9;go_wp2
      repeat(go_quiet (fail);try go_wp2)
      go_ret
      exact⟨sD,dR⟩
    ·obtain rfl:=Option.some.inj H;go_wp2
     repeat(go_quiet (fail);try go_wp2)
     go_ret
     exact⟨sD,dR⟩
 ·rw[if_neg c3] at H;obtain⟨d8,d9⟩:=bI c3;have e6:(l0.length == l1.length)=false:=by first|simpa using c3|(simp at c3 ⊢;omega)
  obtain rfl:=Option.some.inj H;go_enter Try.func42,Try.ntmps42
  go_wp2
  repeat(go_quiet (fail);try go_wp2)
  go_ret
  exact⟨sD,dR⟩

def Dzb.f (k:Nat) (a0_0:Bool) (l0_1:List Int) (l0_2:List Int) (a1_0:Bool) (l1_1:List Int) (l1_2:List Int):Option (Bool):=if(a0_0 == a1_0)=true then((Czz.f k l0_1 l1_1).bind fun t293=>(if t293=true then((Czz.f k l0_2 l1_2).bind fun t294=>(some t294)) else(some false))) else(some false)
theorem Dzb.mono:∀ a6 a7 a8 a9 b4 b5 k,LeO (Dzb.f k a6 a7 a8 a9 b4 b5) (Dzb.f (k+1) a6 a7 a8 a9 b4 b5):=by
 intro a6 a7 a8 a9 b4 b5 k;unfold Dzb.f;have i0:=@Czz.mono;exact mM
theorem Dzb.calls (k:Nat) (a6:Bool) (a7:Option Addr) (a8:Nat) (a9:List Int) (b4:Option Addr) (b5:Nat) (b6:List Int) (b7:Bool) (b8:Option Addr) (b9:Nat) (d6:List Int) (d7:Option Addr) (d8:Nat) (d9:List Int) (r:Bool) (w:World) (e6:cI w a7 a9) (e7:a9.length≤a8) (e8:cI w b4 b6) (e9:b6.length≤b5) (f3:cI w b8 d6) (f4:d6.length≤b9) (f5:cI w d7 d9) (f6:d9.length≤d8) (h:Dzb.f k a6 a9 b6 b7 d6 d9=some r) :
  Calls Try.prog 19 #[.agg #[.bool a6,.slice a7 a9.length a8,.slice b4 b6.length b5],.agg #[.bool b7,.slice b8 d6.length b9,.slice d7 d9.length d8]] w fun e w'=>e=.returned (.bool r)∧bw w w':=by
 have hu33:=Try.underlying33;have f7:=aM e6;have f8:=aM e7;clear e6 e7;have f9:=aM e8;have g4:=aM e9;clear e8 e9;have g5:=aM f3;have g6:=aM f4;clear f3 f4;have g7:=aM f5;have g8:=aM f6;clear f5 f6;have HB:=aM (Below.refl w.heap.size w);have H:(if(a6 == b7)=true then((Czz.f k a9 d6).bind fun g9=>(if g9=true then((Czz.f k b6 d9).bind fun j3=>(some j3)) else(some false))) else(some false))=some r:=h
 clear h;by_cases c3:(a6 == b7)=true
 ·rw[if_pos c3] at H;have j4:(a6 == b7)=true:=c3;(try(have j5:decide (a6=b7)=true:=by simpa using c3))
  (try(have j6:(a6 == b7)=true:=by simpa using c3))
  clear c3;obtain⟨g9,j7,H⟩:=bT H;(try dsimp only at H);by_cases c5:g9=true
  ·subst c5;rw[if_pos rfl] at H;replace H:=bS H;obtain⟨j3,j8,H⟩:=H;replace H:(some j3)=some r:=H;have j9:=aM j8;clear j8;obtain rfl:=Option.some.inj H;go_enter Try.func19,Try.ntmps19
   go_wp2_with (first|((with_reducible refine gd 2 rfl ?_);refine bx #[.bool a6,.slice a7 a9.length a8,.slice b4 b6.length b5] 33 ?_;intro l5 hg l6 l7 hb;have l8:=gA w hg;replace HB:=bB hb;clear hb hg)|((with_reducible refine gd 3 rfl ?_);refine bx #[.bool b7,.slice b8 d6.length b9,.slice d7 d9.length d8] 33 ?_;intro m0 hg m4 m5 hb;have m6:=gA w hg;have m8:=nl hg l7;have m9:=ng hg l7;replace l7:=kb l7 hb;replace HB:=bB hb;clear hb hg;have n0:=m8.out;have n7:=m9.out;obtain⟨n8,n9,o0,o8,o9,p0⟩:=bk3 l7;obtain⟨p4,p7,p9,r5,r6,r7⟩:=bk3 m5)|(go_at_call 42;(with_reducible refine(Czz.calls k _ _ a9 _ _ d6 true _ ?_ ?_ ?_ ?_ j7.out).mono ?_);exact cB f7;exact f8.out;exact cB g5;exact g6.out;rintro e w' ⟨rfl,⟨nd,rfl⟩⟩)|(go_at_call 42;(with_reducible refine(Czz.calls k _ _ b6 _ _ d9 j3 _ ?_ ?_ ?_ ?_ j9.out).mono ?_);exact cB f9;exact g4.out;exact cB g7;exact g8.out;rintro e w' ⟨rfl,⟨nd,rfl⟩⟩))
   go_ret
   exact⟨eW,pB⟩
  ·obtain rfl:=bN c5;rw[if_neg nF] at H
   obtain rfl:=Option.some.inj H;go_enter Try.func19,Try.ntmps19
   go_wp2_with (first|((with_reducible refine gd 2 rfl ?_);refine bx #[.bool a6,.slice a7 a9.length a8,.slice b4 b6.length b5] 33 ?_;intro l5 hg r8 l7 hb;have l8:=gA w hg;replace HB:=bB hb;clear hb hg)|((with_reducible refine gd 3 rfl ?_);refine bx #[.bool b7,.slice b8 d6.length b9,.slice d7 d9.length d8] 33 ?_;intro m0 hg r9 m5 hb;have m6:=gA w hg;have m8:=nl hg l7;have m9:=ng hg l7;replace l7:=kb l7 hb;replace HB:=bB hb;clear hb hg;have t4:=m8.out;have t5:=m9.out;obtain⟨t6,t7,t8,t9,z3,z4⟩:=bk3 l7;obtain⟨z5,z6,z7,z8,z9,B0⟩:=bk3 m5)|(go_at_call 42;(with_reducible refine(Czz.calls k _ _ a9 _ _ d6 false _ ?_ ?_ ?_ ?_ j7.out).mono ?_);exact cB f7;exact f8.out;exact cB g5;exact g6.out;rintro e w' ⟨rfl,⟨nd,rfl⟩⟩))
   go_ret
   exact⟨eW,pB⟩
 ·rw[if_neg c3] at H;have j4:(a6 == b7)=false:=by simpa using c3
  (try(have j5:decide (a6=b7)=false:=by simpa using c3))
  (try(have j6:(a6 == b7)=false:=by simpa using c3))
  (try(have B5:¬ (a6=b7):=by simpa using c3))
  clear c3;obtain rfl:=Option.some.inj H;go_enter Try.func19,Try.ntmps19
  go_wp2_with (first|((with_reducible refine gd 2 rfl ?_);refine bx #[.bool a6,.slice a7 a9.length a8,.slice b4 b6.length b5] 33 ?_;intro l5 hg B9 l7 hb;have l8:=gA w hg;replace HB:=bB hb;clear hb hg)|((with_reducible refine gd 3 rfl ?_);refine bx #[.bool b7,.slice b8 d6.length b9,.slice d7 d9.length d8] 33 ?_;intro m0 hg C0 m5 hb;have m6:=gA w hg;have m8:=nl hg l7;have m9:=ng hg l7;replace l7:=kb l7 hb;replace HB:=bB hb;clear hb hg;have C1:=m8.out;have C2:=m9.out;obtain⟨C3,C4,C6,C7,C8,C9⟩:=bk3 l7;obtain⟨D2,D3,D4,D5,D6,D7⟩:=bk3 m5))
  go_ret
  exact⟨eW,pB⟩


def Azf.l0:Nat→List (S33)→List (S33)→Int→Option (Bool)
 | 0,_,_,_=>none
 | k+1,x0,x1,x5=>if x5 < (x0.length:Int) then(if 0≤x5 then(if x5 < (x1.length:Int) then((Dzb.f k ((rd_T33 x0 x5).f0) ((rd_T33 x0 x5).f1) ((rd_T33 x0 x5).f2) ((rd_T33 x1 x5).f0) ((rd_T33 x1 x5).f1) ((rd_T33 x1 x5).f2)).bind fun t297=>(if t297=true then(Azf.l0 k x0 x1 (wrap64 (x5+1))) else(some false))) else(none)) else(none)) else(some true)
def Azf.f (k:Nat) (l0:List (S33)) (l1:List (S33)):Option (Bool):=if(l0.length:Int)=(l1.length:Int) then(Azf.l0 k l0 l1 0) else(some false)
theorem Azf.mono_l:∀ k,(∀ a6 a7 a8,LeO (Azf.l0 k a6 a7 a8) (Azf.l0 (k+1) a6 a7 a8))
 | 0=>fun _ _ _ r h=>by simp [Azf.l0] at h
 | k+1=>by
  have ih0:=Azf.mono_l k
  ·intro a6 a7 a8;unfold Azf.l0;have i0:=@Dzb.mono;exact mM
theorem Azf.mono:∀ a6 a7 k,LeO (Azf.f k a6 a7) (Azf.f (k+1) a6 a7):=by
 intro a6 a7 k;have ih0:=Azf.mono_l k;unfold Azf.f;have i0:=@Dzb.mono;exact mM
def Azf.T6:Bool × List (List Nat × List Nat):=(true,[([],[]),([],[]),([0,1],[0,1]),([2],[2]),([],[]),([],[]),([4,5],[4,5]),([6],[6]),([3,7],[3,7]),([8],[8])])
def Azf.B6:List Nat:=[0,0,3,7,0,0,48,112,255,511]
theorem Azf.tab6:rtab .any (opsOf Try.f24 6)=Azf.T6:=by kernel_rfl
theorem Azf.bits6:waitsOk Azf.T6.2 Azf.B6=true:=by kernel_rfl
theorem Azf.calls (k:Nat) (a6:Option Addr) (a7:Nat) (l0:List (S33)) (a8:Option Addr) (a9:Nat) (l1:List (S33)) (r:Bool) (w:World) (b4:Kd.C k33 w a6 l0.length l0) (b5:l0.length≤a7) (b6:Kd.C k33 w a8 l1.length l1) (b7:l1.length≤a9) (h:Azf.f k l0 l1=some r) :
  Calls Try.prog 24 #[.slice a6 l0.length a7,.slice a8 l1.length a9] w fun e w'=>e=.returned (.bool r)∧bw w w':=by
 have hu33:=Try.underlying33;have b8:=aM b4;have b9:=aM b5;clear b4 b5;have d6:=aM b6;have d7:=aM b7;clear b6 b7;have HB:=aM (Below.refl w.heap.size w);have H:(if(l0.length:Int)=(l1.length:Int) then(Azf.l0 k l0 l1 0) else(some false))=some r:=h
 clear h;by_cases c3:(l0.length:Int)=(l1.length:Int)
 ·rw[if_pos c3] at H;obtain⟨d8,d9⟩:=bE c3;have e6:(l0.length == l1.length)=true:=by first|simpa using c3|(simp at c3 ⊢;omega)
  clear c3;have H':=aM H;clear H;go_enter Try.func24,Try.ntmps24
  go_wp2
  go_loopg [5] k (fun kq e7 w'=>∃ (e8:Int),e7=.int .i64 e8∧Aside0 (Azf.l0 kq l0 l1 e8=some r)∧Aside0 (kq≤k)∧Aside0 (bw w w'))
  case atStart=>exact⟨(0),sD,H',⟨Nat.le_refl _⟩,⟨pB⟩⟩
  case round =>
   clear H';try clear a9
   obtain⟨e8,rfl,HA,e9,HB⟩:=hrel;cases gk with
   | zero=>exact absurd HA.out (by simp [Azf.l0])
   | succ k1 =>
    have H:=HA.out;clear HA;simp only[Azf.l0] at H;replace H:=iD H;rcases H with⟨f3,H⟩|⟨f3,H⟩
    ·obtain⟨f4,H⟩:=iN H;obtain⟨f5,H⟩:=iN H;obtain⟨f6,f7,H⟩:=bT H;(try dsimp only at H);have f8:=aM H;clear H;try go_wp2
     have n0_:=aM (below_drew1 HB.out);clear HB;have HB:=n0_;clear n0_;obtain⟨f9,g4,g5,g6,g7,g8,g9,j3,j4,j5,j6,j7,j8⟩:=at_T33 b8.out e8 (oE aS) (oE aS);have j9:=j4;have l5:=j3;have l6:=g9;cases g8
     replace g9:=hB HB g9;replace j3:=hB HB j3;replace j4:=hB HB j4;have l7:=aM j6;have l8:=aM j5;clear j6 j5;have l9:=aM j8;have m0:=aM j7;clear j8 j7;have m4:=eT (e8);have m5:=eU (e8) l0.length;obtain⟨m6,m7,m8,m9,n0,n7,n8,n9,o0,o8,o9,p0,p4⟩:=at_T33 d6.out e8 (oE aS) (oE aS);have p7:=o0;have p9:=n9;have r5:=n8;cases n7
     replace n8:=hB HB n8;replace n9:=hB HB n9;replace o0:=hB HB o0;have r6:=aM o9;have r7:=aM o8;clear o9 o8;have r8:=aM p4;have r9:=aM p0;clear p4 p0;have t4:=eT (e8);have t5:=eU (e8) l1.length;refine start_ (n:=10) (S:=fun w'=>w'.cell? (f9.add ((e8).toNat * 3))=some (.bool ((rd_T33 l0 e8).f0))∧w'.cell? ⟨(f9.add ((e8).toNat * 3)).block,(f9.add ((e8).toNat * 3)).off+1,none⟩=some (.slice g4 ((rd_T33 l0 e8).f1).length g5)∧w'.cell? ⟨(f9.add ((e8).toNat * 3)).block,(f9.add ((e8).toNat * 3)).off+2,none⟩=some (.slice g6 ((rd_T33 l0 e8).f2).length g7)∧w'.cell? (m6.add ((e8).toNat * 3))=some (.bool ((rd_T33 l1 e8).f0))∧w'.cell? ⟨(m6.add ((e8).toNat * 3)).block,(m6.add ((e8).toNat * 3)).off+1,none⟩=some (.slice m7 ((rd_T33 l1 e8).f1).length m8)∧w'.cell? ⟨(m6.add ((e8).toNat * 3)).block,(m6.add ((e8).toNat * 3)).off+2,none⟩=some (.slice m9 ((rd_T33 l1 e8).f2).length n0)) (ds:=[]) (bA 10 0) (by kernel_rfl) rfl rfl ⟨(hB HB l6),(hB HB l5),(hB HB j9),(hB HB r5),(hB HB p9),(hB HB p7)⟩ (fun hHeld=>?_);refine with_tabW Azf.tab6 Azf.bits6 (fun HT_ HW_=>?_)
     generalize wr.drew=t6 at HB l7 l9 r6 r8 g9 j3 j4 n8 n9 o0 hHeld ⊢;refine pS 0 17 HT_ ?_;refine pS 1 18 HT_ ?_;refine pS 2 19 HT_ ?_;refine pS 4 21 HT_ ?_;refine pS 5 22 HT_ ?_;refine pS 6 23 HT_ ?_;refine tU 3 20 HT_ HW_ hHeld ?_;refine tU 7 24 HT_ HW_ hHeld ?_;refine oU 8 (some 25) HT_ fun K hK=>?_
     refine goes_ Try.func19 (by kernel_rfl) rfl #[.agg #[.bool ((rd_T33 l0 e8).f0),.slice g4 ((rd_T33 l0 e8).f1).length g5,.slice g6 ((rd_T33 l0 e8).f2).length g7],.agg #[.bool ((rd_T33 l1 e8).f0),.slice m7 ((rd_T33 l1 e8).f1).length m8,.slice m9 ((rd_T33 l1 e8).f2).length n0]] (by rfl) rfl rfl mA ?_
     with_reducible refine(Dzb.calls k1 ((rd_T33 l0 e8).f0) _ _ ((rd_T33 l0 e8).f1) _ _ ((rd_T33 l0 e8).f2) ((rd_T33 l1 e8).f0) _ _ ((rd_T33 l1 e8).f1) _ _ ((rd_T33 l1 e8).f2) f6 _ ?side1 ?side2 ?side3 ?side4 ?side5 ?side6 ?side7 ?side8 f7.out).mono ?_
     (case side1=>exact cB l7)
     (case side2=>exact l8.out)
     (case side3=>exact cB l9)
     (case side4=>exact m0.out)
     (case side5=>exact cB r6)
     (case side6=>exact r7.out)
     (case side7=>exact cB r8)
     (case side8=>exact r9.out)
     rintro e t7 ⟨rfl,hb⟩;refine⟨_,rfl,?_⟩;have n0_:=bB hb;clear HB;have HB:=n0_;clear n0_ hb
     (try clear t8)
     (try clear hk)
     (try clear hi)
     refine hK.out _ _ ⟨(hB HB l6),(hB HB l5),(hB HB j9),(hB HB r5),(hB HB p9),(hB HB p7)⟩ (fun hHeld=>?_)
     clear hK K;refine nm 25 ?_;refine pS 9 26 HT_ ?_;refine done_ (done_of HT_.out (by kernel_rfl)) ?_
     go_upto_if 26 with (fail)
     have H:=f8.out;clear f8;by_cases t9:f6=true
     ·subst t9;rw[if_pos rfl] at H;have H':=aM H;clear H;go_wp2
      go_roundg k1
      case measure=>have:=e9.out;omega
      case rel=>exact⟨(wrap64 (e8+1)),sD,H',⟨by have:=e9.out;omega⟩,⟨pB⟩⟩
     ·obtain rfl:=bN t9;rw[if_neg nF] at H
      obtain rfl:=Option.some.inj H;go_wp2
      go_ret
      exact⟨eW,pB⟩
    ·obtain rfl:=Option.some.inj H;go_wp2
     go_ret
     exact⟨eW,pB⟩
 ·rw[if_neg c3] at H;obtain⟨d8,d9⟩:=bI c3;have e6:(l0.length == l1.length)=false:=by first|simpa using c3|(simp at c3 ⊢;omega)
  obtain rfl:=Option.some.inj H;go_enter Try.func24,Try.ntmps24
  go_wp2
  go_ret
  exact⟨eW,pB⟩

def Dzp.f (k:Nat) (a0_0:Int) (l0_1:List (S33)) (a1_0:Int) (l1_1:List (S33)):Option (Bool):=if a0_0=a1_0 then((Azf.f k l0_1 l1_1).bind fun t300=>(some t300)) else(some false)
theorem Dzp.mono:∀ a6 a7 a8 a9 k,LeO (Dzp.f k a6 a7 a8 a9) (Dzp.f (k+1) a6 a7 a8 a9):=by
 intro a6 a7 a8 a9 k;unfold Dzp.f;have i0:=@Azf.mono;exact mM
theorem Dzp.calls (k:Nat) (a6:Int) (a7:Option Addr) (a8:Nat) (a9:List (S33)) (b4:Int) (b5:Option Addr) (b6:Nat) (b7:List (S33)) (r:Bool) (w:World) (b8:Kd.C k33 w a7 a9.length a9) (b9:a9.length≤a8) (d6:Kd.C k33 w b5 b7.length b7) (d7:b7.length≤b6) (h:Dzp.f k a6 a9 b4 b7=some r) :
  Calls Try.prog 16 #[.agg #[.int .i64 a6,.slice a7 a9.length a8],.agg #[.int .i64 b4,.slice b5 b7.length b6]] w fun e w'=>e=.returned (.bool r)∧bw w w':=by
 have hu24:=Try.underlying24;have d8:=aM b8;have d9:=aM b9;clear b8 b9;have e6:=aM d6;have e7:=aM d7;clear d6 d7;have HB:=aM (Below.refl w.heap.size w);have H:(if a6=b4 then((Azf.f k a9 b7).bind fun e8=>(some e8)) else(some false))=some r:=h
 clear h;replace H:=iE H;rcases H with⟨e9,f3,H⟩|⟨c3,e9,f3,H⟩
 ·replace H:=bS H;obtain⟨e8,f4,H⟩:=H;replace H:(some e8)=some r:=H;have f5:=aM f4;clear f4;obtain rfl:=Option.some.inj H;go_enter Try.func16,Try.ntmps16
  go_wp2_with (first|((with_reducible refine gd 2 rfl ?_);refine bx #[.int .i64 a6,.slice a7 a9.length a8] 24 ?_;intro f6 hg f7 f8 hb;have f9:=gA w hg;replace HB:=bB hb;clear hb hg)|((with_reducible refine gd 3 rfl ?_);refine bx #[.int .i64 b4,.slice b5 b7.length b6] 24 ?_;intro g5 hg g6 g7 hb;have g8:=gA w hg;have j3:=nl hg f8;have j4:=ng hg f8;replace f8:=kb f8 hb;replace HB:=bB hb;clear hb hg;have j5:=j3.out;have j6:=j4.out;obtain⟨j7,j8,j9,l5⟩:=bk2 f8;obtain⟨l6,l7,l8,l9⟩:=bk2 g7)|(go_at_call 24;(with_reducible refine(Azf.calls k _ _ a9 _ _ b7 e8 _ ?_ ?_ ?_ ?_ f5.out).mono ?_);exact cB d8;exact d9.out;exact cB e6;exact e7.out;rintro e m0 ⟨rfl,hb⟩;replace f8:=kb f8 hb;replace g7:=kb g7 hb;replace HB:=bB hb;clear hb))
  go_ret
  exact⟨eW,pB⟩
 ·obtain rfl:=Option.some.inj H;go_enter Try.func16,Try.ntmps16
  go_wp2_with (first|((with_reducible refine gd 2 rfl ?_);refine bx #[.int .i64 a6,.slice a7 a9.length a8] 24 ?_;intro f6 hg m4 f8 hb;have f9:=gA w hg;replace HB:=bB hb;clear hb hg)|((with_reducible refine gd 3 rfl ?_);refine bx #[.int .i64 b4,.slice b5 b7.length b6] 24 ?_;intro g5 hg m5 g7 hb;have g8:=gA w hg;have j3:=nl hg f8;have j4:=ng hg f8;replace f8:=kb f8 hb;replace HB:=bB hb;clear hb hg;have m6:=j3.out;have m7:=j4.out;obtain⟨m8,m9,n0,n7⟩:=bk2 f8;obtain⟨n8,n9,o0,o8⟩:=bk2 g7))
  go_ret
  exact⟨eW,pB⟩

end Go.Proofs.Ytbnpcplckcipfaa.Print
