import Derived.Test.YtbnpcplckcipfaaPrint0
import Derived.Test.YtbnpcplckcipfaaPrint10
namespace Go.Proofs.Ytbnpcplckcipfaa.Print
open Go.RowKit Go.Proofs.YtbnpcplckcipfaaW.PrintWords Go.Proofs.YtbnpcplckcipfaaW.PrintLast Go.Proofs.YtbnpcplckcipfaaW.PrintMore
attribute [local go_sem] max2_int min2_int max_two min_two max_three min_three max_four min_four
set_option linter.unusedVariables false
set_option maxRecDepth 100000
set_option maxHeartbeats 8000000
set_option linter.unusedSimpArgs false

def Bzw.l0:Nat→List Int→List Int→Int→Option (Bool)
 | 0,_,_,_=>none
 | k+1,x0,x1,x5=>if x5 < (x0.length:Int) then(if 0≤x5 then(if x5 < (x1.length:Int) then(if(rd x0 x5)=(rd x1 x5) then(Bzw.l0 k x0 x1 (wrap64 (x5+1))) else(some false)) else(none)) else(none)) else(some true)
def Bzw.f (k:Nat) (l0:List Int) (l1:List Int):Option (Bool):=if(l0.length:Int)=(l1.length:Int) then(Bzw.l0 k l0 l1 0) else(some false)
theorem Bzw.mono_l:∀ k,(∀ a6 a7 a8,LeO (Bzw.l0 k a6 a7 a8) (Bzw.l0 (k+1) a6 a7 a8))
 | 0=>fun _ _ _ r h=>by simp [Bzw.l0] at h
 | k+1=>by
  have ih0:=Bzw.mono_l k
  ·intro a6 a7 a8;unfold Bzw.l0;exact mM
theorem Bzw.mono:∀ a6 a7 k,LeO (Bzw.f k a6 a7) (Bzw.f (k+1) a6 a7):=by
 intro a6 a7 k;have ih0:=Bzw.mono_l k;unfold Bzw.f;exact mM
theorem Bzw.calls (k:Nat) (a6:Option Addr) (a7:Nat) (l0:List Int) (a8:Option Addr) (a9:Nat) (l1:List Int) (r:Bool) (w:World) (b4:cI w a6 l0) (b5:l0.length≤a7) (b6:cI w a8 l1) (b7:l1.length≤a9) (h:Bzw.f k l0 l1=some r) :
  Calls Try.prog 42 #[.slice a6 l0.length a7,.slice a8 l1.length a9] w fun e w'=>e=.returned (.bool r)∧Drawn0 w w':=by
 have b8:=aM b4;have b9:=aM b5;clear b4 b5;have d6:=aM b6;have d7:=aM b7;clear b6 b7;have H:(if(l0.length:Int)=(l1.length:Int) then(Bzw.l0 k l0 l1 0) else(some false))=some r:=h
 clear h;by_cases c3:(l0.length:Int)=(l1.length:Int)
 ·rw[if_pos c3] at H;obtain⟨d8,d9⟩:=bE c3;have e6:(l0.length == l1.length)=true:=by first|simpa using c3|(simp at c3 ⊢;omega)
  clear c3;have H':=aM H;clear H;go_enter Try.func42,Try.ntmps42
  go_wp2
  repeat(go_quiet (fail);try go_wp2)
  go_loopg [5] k (fun kq e7 w'=>∃ (e8:Int),e7=.int .i64 e8∧Aside0 (Bzw.l0 kq l0 l1 e8=some r)∧Aside0 (kq≤k)∧Drawn0 w w')
  case atStart=>exact⟨(0),sD,H',⟨Nat.le_refl _⟩,dR⟩
  case round =>
   clear H';try clear a9
   obtain⟨e8,rfl,HA,e9,⟨f3,rfl⟩⟩:=hrel;cases gk with
   | zero=>exact absurd HA.out (by simp [Bzw.l0])
   | succ k1 =>
    have H:=HA.out;clear HA;simp only[Bzw.l0] at H;replace H:=iD H;rcases H with⟨f4,H⟩|⟨f4,H⟩
    ·obtain⟨f5,H⟩:=iN H;obtain⟨f6,H⟩:=iN H;replace H:=iE H;rcases H with⟨f7,f8,H⟩|⟨c7,f7,f8,H⟩
     ·have H':=aM H;clear H;obtain⟨f9,g4,g5,g6,g7⟩:=aI b8.out e8;cases g4;obtain⟨g8,g9,j3,j4,j5⟩:=aI d6.out e8;cases g9;go_wp2
      repeat(go_quiet (fail);try go_wp2)
      go_roundg k1
      case measure=>have:=e9.out;omega
      case rel=>exact⟨(wrap64 (e8+1)),sD,H',⟨by have:=e9.out;omega⟩,dR⟩
     ·obtain rfl:=Option.some.inj H;obtain⟨f9,g4,g5,g6,g7⟩:=aI b8.out e8;cases g4;obtain⟨g8,g9,j3,j4,j5⟩:=aI d6.out e8;cases g9;go_wp2
      repeat(go_quiet (fail);try go_wp2)
      go_ret
      exact⟨sD,dR⟩
    ·obtain rfl:=Option.some.inj H;go_wp2
     repeat(go_quiet (fail);try go_wp2)
     go_ret
     exact⟨sD,dR⟩
 ·rw[if_neg c3] at H;obtain⟨d8,d9⟩:=bI c3;have e6:(l0.length == l1.length)=false:=by first|simpa using c3|(simp at c3 ⊢;omega)
  obtain rfl:=Option.some.inj H;go_enter Try.func42,Try.ntmps42
  go_wp2
  repeat(go_quiet (fail);try go_wp2)
  go_ret
  exact⟨sD,dR⟩

def Bzf.f (k:Nat) (a0_0:Bool) (l0_1:List Int) (l0_2:List Int) (a1_0:Bool) (l1_1:List Int) (l1_2:List Int):Option (Bool):=if(a0_0 == a1_0)=true then((Bzw.f k l0_1 l1_1).bind fun t293=>(if t293=true then((Bzw.f k l0_2 l1_2).bind fun t294=>(some t294)) else(some false))) else(some false)
theorem Bzf.mono:∀ a6 a7 a8 a9 b4 b5 k,LeO (Bzf.f k a6 a7 a8 a9 b4 b5) (Bzf.f (k+1) a6 a7 a8 a9 b4 b5):=by
 intro a6 a7 a8 a9 b4 b5 k;unfold Bzf.f;have i0:=@Bzw.mono;exact mM
theorem Bzf.calls (k:Nat) (a6:Bool) (a7:Option Addr) (a8:Nat) (a9:List Int) (b4:Option Addr) (b5:Nat) (b6:List Int) (b7:Bool) (b8:Option Addr) (b9:Nat) (d6:List Int) (d7:Option Addr) (d8:Nat) (d9:List Int) (r:Bool) (w:World) (e6:cI w a7 a9) (e7:a9.length≤a8) (e8:cI w b4 b6) (e9:b6.length≤b5) (f3:cI w b8 d6) (f4:d6.length≤b9) (f5:cI w d7 d9) (f6:d9.length≤d8) (h:Bzf.f k a6 a9 b6 b7 d6 d9=some r) :
  Calls Try.prog 19 #[.agg #[.bool a6,.slice a7 a9.length a8,.slice b4 b6.length b5],.agg #[.bool b7,.slice b8 d6.length b9,.slice d7 d9.length d8]] w fun e w'=>e=.returned (.bool r)∧bw w w':=by
 have hu33:=Try.underlying33;have f7:=aM e6;have f8:=aM e7;clear e6 e7;have f9:=aM e8;have g4:=aM e9;clear e8 e9;have g5:=aM f3;have g6:=aM f4;clear f3 f4;have g7:=aM f5;have g8:=aM f6;clear f5 f6;have HB:=aM (Below.refl w.heap.size w);have H:(if(a6 == b7)=true then((Bzw.f k a9 d6).bind fun g9=>(if g9=true then((Bzw.f k b6 d9).bind fun j3=>(some j3)) else(some false))) else(some false))=some r:=h
 clear h;by_cases c3:(a6 == b7)=true
 ·rw[if_pos c3] at H;have j4:(a6 == b7)=true:=c3;(try(have j5:decide (a6=b7)=true:=by simpa using c3))
  (try(have j6:(a6 == b7)=true:=by simpa using c3))
  clear c3;obtain⟨g9,j7,H⟩:=bT H;(try dsimp only at H);by_cases c5:g9=true
  ·subst c5;rw[if_pos rfl] at H;replace H:=bS H;obtain⟨j3,j8,H⟩:=H;replace H:(some j3)=some r:=H;have j9:=aM j8;clear j8;obtain rfl:=Option.some.inj H;go_enter Try.func19,Try.ntmps19
   go_wp2_with (first|((with_reducible refine gd 2 rfl ?_);refine bx #[.bool a6,.slice a7 a9.length a8,.slice b4 b6.length b5] 33 ?_;intro l5 hg l6 l7 hb;have l8:=gA w hg;replace HB:=bB hb;clear hb hg)|((with_reducible refine gd 3 rfl ?_);refine bx #[.bool b7,.slice b8 d6.length b9,.slice d7 d9.length d8] 33 ?_;intro m0 hg m4 m5 hb;have m6:=gA w hg;have m8:=nl hg l7;have m9:=ng hg l7;replace l7:=kb l7 hb;replace HB:=bB hb;clear hb hg;have n0:=m8.out;have n7:=m9.out;obtain⟨n8,n9,o0,o8,o9,p0⟩:=bk3 l7;obtain⟨p4,p7,p9,r5,r6,r7⟩:=bk3 m5)|(go_at_call 42;(with_reducible refine(Bzw.calls k _ _ a9 _ _ d6 true _ ?_ ?_ ?_ ?_ j7.out).mono ?_);exact cB f7;exact f8.out;exact cB g5;exact g6.out;rintro e w' ⟨rfl,⟨nd,rfl⟩⟩)|(go_at_call 42;(with_reducible refine(Bzw.calls k _ _ b6 _ _ d9 j3 _ ?_ ?_ ?_ ?_ j9.out).mono ?_);exact cB f9;exact g4.out;exact cB g7;exact g8.out;rintro e w' ⟨rfl,⟨nd,rfl⟩⟩))
   go_ret
   exact⟨eW,pB⟩
  ·obtain rfl:=bN c5;rw[if_neg nF] at H
   obtain rfl:=Option.some.inj H;go_enter Try.func19,Try.ntmps19
   go_wp2_with (first|((with_reducible refine gd 2 rfl ?_);refine bx #[.bool a6,.slice a7 a9.length a8,.slice b4 b6.length b5] 33 ?_;intro l5 hg r8 l7 hb;have l8:=gA w hg;replace HB:=bB hb;clear hb hg)|((with_reducible refine gd 3 rfl ?_);refine bx #[.bool b7,.slice b8 d6.length b9,.slice d7 d9.length d8] 33 ?_;intro m0 hg r9 m5 hb;have m6:=gA w hg;have m8:=nl hg l7;have m9:=ng hg l7;replace l7:=kb l7 hb;replace HB:=bB hb;clear hb hg;have t4:=m8.out;have t5:=m9.out;obtain⟨t6,t7,t8,t9,y9,z3⟩:=bk3 l7;obtain⟨z4,z5,z6,z7,z8,z9⟩:=bk3 m5)|(go_at_call 42;(with_reducible refine(Bzw.calls k _ _ a9 _ _ d6 false _ ?_ ?_ ?_ ?_ j7.out).mono ?_);exact cB f7;exact f8.out;exact cB g5;exact g6.out;rintro e w' ⟨rfl,⟨nd,rfl⟩⟩))
   go_ret
   exact⟨eW,pB⟩
 ·rw[if_neg c3] at H;have j4:(a6 == b7)=false:=by simpa using c3
  (try(have j5:decide (a6=b7)=false:=by simpa using c3))
  (try(have j6:(a6 == b7)=false:=by simpa using c3))
  (try(have B0:¬ (a6=b7):=by simpa using c3))
  clear c3;obtain rfl:=Option.some.inj H;go_enter Try.func19,Try.ntmps19
  go_wp2_with (first|((with_reducible refine gd 2 rfl ?_);refine bx #[.bool a6,.slice a7 a9.length a8,.slice b4 b6.length b5] 33 ?_;intro l5 hg B5 l7 hb;have l8:=gA w hg;replace HB:=bB hb;clear hb hg)|((with_reducible refine gd 3 rfl ?_);refine bx #[.bool b7,.slice b8 d6.length b9,.slice d7 d9.length d8] 33 ?_;intro m0 hg B9 m5 hb;have m6:=gA w hg;have m8:=nl hg l7;have m9:=ng hg l7;replace l7:=kb l7 hb;replace HB:=bB hb;clear hb hg;have C0:=m8.out;have C1:=m9.out;obtain⟨C2,C3,C4,C6,C7,C8⟩:=bk3 l7;obtain⟨C9,D2,D3,D4,D5,D6⟩:=bk3 m5))
  go_ret
  exact⟨eW,pB⟩


def Azy.l0:Nat→List (S33)→List (S33)→Int→Option (Bool)
 | 0,_,_,_=>none
 | k+1,x0,x1,x5=>if x5 < (x0.length:Int) then(if 0≤x5 then(if x5 < (x1.length:Int) then((Bzf.f k ((rd_T33 x0 x5).f0) ((rd_T33 x0 x5).f1) ((rd_T33 x0 x5).f2) ((rd_T33 x1 x5).f0) ((rd_T33 x1 x5).f1) ((rd_T33 x1 x5).f2)).bind fun t297=>(if t297=true then(Azy.l0 k x0 x1 (wrap64 (x5+1))) else(some false))) else(none)) else(none)) else(some true)
def Azy.f (k:Nat) (l0:List (S33)) (l1:List (S33)):Option (Bool):=if(l0.length:Int)=(l1.length:Int) then(Azy.l0 k l0 l1 0) else(some false)
theorem Azy.mono_l:∀ k,(∀ a6 a7 a8,LeO (Azy.l0 k a6 a7 a8) (Azy.l0 (k+1) a6 a7 a8))
 | 0=>fun _ _ _ r h=>by simp [Azy.l0] at h
 | k+1=>by
  have ih0:=Azy.mono_l k
  ·intro a6 a7 a8;unfold Azy.l0;have i0:=@Bzf.mono;exact mM
theorem Azy.mono:∀ a6 a7 k,LeO (Azy.f k a6 a7) (Azy.f (k+1) a6 a7):=by
 intro a6 a7 k;have ih0:=Azy.mono_l k;unfold Azy.f;have i0:=@Bzf.mono;exact mM
def Azy.T6:Bool × List (List Nat × List Nat):=(true,[([],[]),([],[]),([0,1],[0,1]),([2],[2]),([],[]),([],[]),([4,5],[4,5]),([6],[6]),([3,7],[3,7]),([8],[8])])
def Azy.B6:List Nat:=[0,0,3,7,0,0,48,112,255,511]
theorem Azy.tab6:rtab .any (opsOf Try.f24 6)=Azy.T6:=by kernel_rfl
theorem Azy.bits6:waitsOk Azy.T6.2 Azy.B6=true:=by kernel_rfl
theorem Azy.calls (k:Nat) (a6:Option Addr) (a7:Nat) (l0:List (S33)) (a8:Option Addr) (a9:Nat) (l1:List (S33)) (r:Bool) (w:World) (b4:Kd.C k33 w a6 l0.length l0) (b5:l0.length≤a7) (b6:Kd.C k33 w a8 l1.length l1) (b7:l1.length≤a9) (h:Azy.f k l0 l1=some r) :
  Calls Try.prog 24 #[.slice a6 l0.length a7,.slice a8 l1.length a9] w fun e w'=>e=.returned (.bool r)∧bw w w':=by
 have hu33:=Try.underlying33;have b8:=aM b4;have b9:=aM b5;clear b4 b5;have d6:=aM b6;have d7:=aM b7;clear b6 b7;have HB:=aM (Below.refl w.heap.size w);have H:(if(l0.length:Int)=(l1.length:Int) then(Azy.l0 k l0 l1 0) else(some false))=some r:=h
 clear h;by_cases c3:(l0.length:Int)=(l1.length:Int)
 ·rw[if_pos c3] at H;obtain⟨d8,d9⟩:=bE c3;have e6:(l0.length == l1.length)=true:=by first|simpa using c3|(simp at c3 ⊢;omega)
  clear c3;have H':=aM H;clear H;go_enter Try.func24,Try.ntmps24
  go_wp2
  go_loopg [5] k (fun kq e7 w'=>∃ (e8:Int),e7=.int .i64 e8∧Aside0 (Azy.l0 kq l0 l1 e8=some r)∧Aside0 (kq≤k)∧Aside0 (bw w w'))
  case atStart=>exact⟨(0),sD,H',⟨Nat.le_refl _⟩,⟨pB⟩⟩
  case round =>
   clear H';try clear a9
   obtain⟨e8,rfl,HA,e9,HB⟩:=hrel;cases gk with
   | zero=>exact absurd HA.out (by simp [Azy.l0])
   | succ k1 =>
    have H:=HA.out;clear HA;simp only[Azy.l0] at H;replace H:=iD H;rcases H with⟨f3,H⟩|⟨f3,H⟩
    ·obtain⟨f4,H⟩:=iN H;obtain⟨f5,H⟩:=iN H;obtain⟨f6,f7,H⟩:=bT H;(try dsimp only at H);have f8:=aM H;clear H;try go_wp2
     have n0_:=aM (below_drew1 HB.out);clear HB;have HB:=n0_;clear n0_;obtain⟨f9,g4,g5,g6,g7,g8,g9,j3,j4,j5,j6,j7,j8⟩:=at_T33 b8.out e8 (oE aS) (oE aS);have j9:=j4;have l5:=j3;have l6:=g9;cases g8
     replace g9:=hB HB g9;replace j3:=hB HB j3;replace j4:=hB HB j4;have l7:=aM j6;have l8:=aM j5;clear j6 j5;have l9:=aM j8;have m0:=aM j7;clear j8 j7;have m4:=eT (e8);have m5:=eU (e8) l0.length;obtain⟨m6,m7,m8,m9,n0,n7,n8,n9,o0,o8,o9,p0,p4⟩:=at_T33 d6.out e8 (oE aS) (oE aS);have p7:=o0;have p9:=n9;have r5:=n8;cases n7
     replace n8:=hB HB n8;replace n9:=hB HB n9;replace o0:=hB HB o0;have r6:=aM o9;have r7:=aM o8;clear o9 o8;have r8:=aM p4;have r9:=aM p0;clear p4 p0;have t4:=eT (e8);have t5:=eU (e8) l1.length;refine start_ (n:=10) (S:=fun w'=>w'.cell? (f9.add ((e8).toNat * 3))=some (.bool ((rd_T33 l0 e8).f0))∧w'.cell? ⟨(f9.add ((e8).toNat * 3)).block,(f9.add ((e8).toNat * 3)).off+1,none⟩=some (.slice g4 ((rd_T33 l0 e8).f1).length g5)∧w'.cell? ⟨(f9.add ((e8).toNat * 3)).block,(f9.add ((e8).toNat * 3)).off+2,none⟩=some (.slice g6 ((rd_T33 l0 e8).f2).length g7)∧w'.cell? (m6.add ((e8).toNat * 3))=some (.bool ((rd_T33 l1 e8).f0))∧w'.cell? ⟨(m6.add ((e8).toNat * 3)).block,(m6.add ((e8).toNat * 3)).off+1,none⟩=some (.slice m7 ((rd_T33 l1 e8).f1).length m8)∧w'.cell? ⟨(m6.add ((e8).toNat * 3)).block,(m6.add ((e8).toNat * 3)).off+2,none⟩=some (.slice m9 ((rd_T33 l1 e8).f2).length n0)) (ds:=[]) (bA 10 0) (by kernel_rfl) rfl rfl ⟨(hB HB l6),(hB HB l5),(hB HB j9),(hB HB r5),(hB HB p9),(hB HB p7)⟩ (fun hHeld=>?_);refine with_tabW Azy.tab6 Azy.bits6 (fun HT_ HW_=>?_)
     generalize wr.drew=t6 at HB l7 l9 r6 r8 g9 j3 j4 n8 n9 o0 hHeld ⊢;refine pS 0 17 HT_ ?_;refine pS 1 18 HT_ ?_;refine pS 2 19 HT_ ?_;refine pS 4 21 HT_ ?_;refine pS 5 22 HT_ ?_;refine pS 6 23 HT_ ?_;refine tU 3 20 HT_ HW_ hHeld ?_;refine tU 7 24 HT_ HW_ hHeld ?_;refine oU 8 (some 25) HT_ fun K hK=>?_
     refine goes_ Try.func19 (by kernel_rfl) rfl #[.agg #[.bool ((rd_T33 l0 e8).f0),.slice g4 ((rd_T33 l0 e8).f1).length g5,.slice g6 ((rd_T33 l0 e8).f2).length g7],.agg #[.bool ((rd_T33 l1 e8).f0),.slice m7 ((rd_T33 l1 e8).f1).length m8,.slice m9 ((rd_T33 l1 e8).f2).length n0]] (by rfl) rfl rfl mA ?_
     with_reducible refine(Bzf.calls k1 ((rd_T33 l0 e8).f0) _ _ ((rd_T33 l0 e8).f1) _ _ ((rd_T33 l0 e8).f2) ((rd_T33 l1 e8).f0) _ _ ((rd_T33 l1 e8).f1) _ _ ((rd_T33 l1 e8).f2) f6 _ ?side1 ?side2 ?side3 ?side4 ?side5 ?side6 ?side7 ?side8 f7.out).mono ?_
     (case side1=>exact cB l7)
     (case side2=>exact l8.out)
     (case side3=>exact cB l9)
     (case side4=>exact m0.out)
     (case side5=>exact cB r6)
     (case side6=>exact r7.out)
     (case side7=>exact cB r8)
     (case side8=>exact r9.out)
     rintro e t7 ⟨rfl,hb⟩;refine⟨_,rfl,?_⟩;have n0_:=bB hb;clear HB;have HB:=n0_;clear n0_ hb
     (try clear t8)
     (try clear hk)
     (try clear hi)
     refine hK.out _ _ ⟨(hB HB l6),(hB HB l5),(hB HB j9),(hB HB r5),(hB HB p9),(hB HB p7)⟩ (fun hHeld=>?_)
     clear hK K;refine nm 25 ?_;refine pS 9 26 HT_ ?_;refine done_ (done_of HT_.out (by kernel_rfl)) ?_
     go_upto_if 26 with (fail)
     have H:=f8.out;clear f8;by_cases t9:f6=true
     ·subst t9;rw[if_pos rfl] at H;have H':=aM H;clear H;go_wp2
      go_roundg k1
      case measure=>have:=e9.out;omega
      case rel=>exact⟨(wrap64 (e8+1)),sD,H',⟨by have:=e9.out;omega⟩,⟨pB⟩⟩
     ·obtain rfl:=bN t9;rw[if_neg nF] at H
      obtain rfl:=Option.some.inj H;go_wp2
      go_ret
      exact⟨eW,pB⟩
    ·obtain rfl:=Option.some.inj H;go_wp2
     go_ret
     exact⟨eW,pB⟩
 ·rw[if_neg c3] at H;obtain⟨d8,d9⟩:=bI c3;have e6:(l0.length == l1.length)=false:=by first|simpa using c3|(simp at c3 ⊢;omega)
  obtain rfl:=Option.some.inj H;go_enter Try.func24,Try.ntmps24
  go_wp2
  go_ret
  exact⟨eW,pB⟩

def Dzk.f (k:Nat) (a0_0:Int) (l0_1:List (S33)) (a1_0:Int) (l1_1:List (S33)):Option (Bool):=if a0_0=a1_0 then((Azy.f k l0_1 l1_1).bind fun t300=>(some t300)) else(some false)
theorem Dzk.mono:∀ a6 a7 a8 a9 k,LeO (Dzk.f k a6 a7 a8 a9) (Dzk.f (k+1) a6 a7 a8 a9):=by
 intro a6 a7 a8 a9 k;unfold Dzk.f;have i0:=@Azy.mono;exact mM
theorem Dzk.calls (k:Nat) (a6:Int) (a7:Option Addr) (a8:Nat) (a9:List (S33)) (b4:Int) (b5:Option Addr) (b6:Nat) (b7:List (S33)) (r:Bool) (w:World) (b8:Kd.C k33 w a7 a9.length a9) (b9:a9.length≤a8) (d6:Kd.C k33 w b5 b7.length b7) (d7:b7.length≤b6) (h:Dzk.f k a6 a9 b4 b7=some r) :
  Calls Try.prog 16 #[.agg #[.int .i64 a6,.slice a7 a9.length a8],.agg #[.int .i64 b4,.slice b5 b7.length b6]] w fun e w'=>e=.returned (.bool r)∧bw w w':=by
 have hu24:=Try.underlying24;have d8:=aM b8;have d9:=aM b9;clear b8 b9;have e6:=aM d6;have e7:=aM d7;clear d6 d7;have HB:=aM (Below.refl w.heap.size w);have H:(if a6=b4 then((Azy.f k a9 b7).bind fun e8=>(some e8)) else(some false))=some r:=h
 clear h;replace H:=iE H;rcases H with⟨e9,f3,H⟩|⟨c3,e9,f3,H⟩
 ·replace H:=bS H;obtain⟨e8,f4,H⟩:=H;replace H:(some e8)=some r:=H;have f5:=aM f4;clear f4;obtain rfl:=Option.some.inj H;go_enter Try.func16,Try.ntmps16
  go_wp2_with (first|((with_reducible refine gd 2 rfl ?_);refine bx #[.int .i64 a6,.slice a7 a9.length a8] 24 ?_;intro f6 hg f7 f8 hb;have f9:=gA w hg;replace HB:=bB hb;clear hb hg)|((with_reducible refine gd 3 rfl ?_);refine bx #[.int .i64 b4,.slice b5 b7.length b6] 24 ?_;intro g5 hg g6 g7 hb;have g8:=gA w hg;have j3:=nl hg f8;have j4:=ng hg f8;replace f8:=kb f8 hb;replace HB:=bB hb;clear hb hg;have j5:=j3.out;have j6:=j4.out;obtain⟨j7,j8,j9,l5⟩:=bk2 f8;obtain⟨l6,l7,l8,l9⟩:=bk2 g7)|(go_at_call 24;(with_reducible refine(Azy.calls k _ _ a9 _ _ b7 e8 _ ?_ ?_ ?_ ?_ f5.out).mono ?_);exact cB d8;exact d9.out;exact cB e6;exact e7.out;rintro e m0 ⟨rfl,hb⟩;replace f8:=kb f8 hb;replace g7:=kb g7 hb;replace HB:=bB hb;clear hb))
  go_ret
  exact⟨eW,pB⟩
 ·obtain rfl:=Option.some.inj H;go_enter Try.func16,Try.ntmps16
  go_wp2_with (first|((with_reducible refine gd 2 rfl ?_);refine bx #[.int .i64 a6,.slice a7 a9.length a8] 24 ?_;intro f6 hg m4 f8 hb;have f9:=gA w hg;replace HB:=bB hb;clear hb hg)|((with_reducible refine gd 3 rfl ?_);refine bx #[.int .i64 b4,.slice b5 b7.length b6] 24 ?_;intro g5 hg m5 g7 hb;have g8:=gA w hg;have j3:=nl hg f8;have j4:=ng hg f8;replace f8:=kb f8 hb;replace HB:=bB hb;clear hb hg;have m6:=j3.out;have m7:=j4.out;obtain⟨m8,m9,n0,n7⟩:=bk2 f8;obtain⟨n8,n9,o0,o8⟩:=bk2 g7))
  go_ret
  exact⟨eW,pB⟩


def Ezj.f (k:Nat) (a0_0:Bool) (l0_1:List Int) (l0_2:List Int):Option (Bool):=(Azw.f k l0_1).bind fun t302=>(if t302=true then((Azw.f k l0_2).bind fun t303=>(if t303=true then(if(l0_2.length:Int)=0 then(some false) else(if a0_0=true then(if(l0_1.length:Int)=0 then(some false) else((Bzx.f k l0_1 l0_2).bind fun bt304=>(if bt304.2=0 then(if(bt304.1.length:Int)=1 then(if 0 < (bt304.1.length:Int) then(some ((rd bt304.1 0) == 1)) else(none)) else(some false)) else(some false)))) else((Bzx.f k l0_1 l0_2).bind fun bt309=>(if bt309.2=0 then(if(bt309.1.length:Int)=1 then(if 0 < (bt309.1.length:Int) then(some ((rd bt309.1 0) == 1)) else(none)) else(some false)) else(some false))))) else(some false))) else(some false))
theorem Ezj.mono:∀ a6 a7 a8 k,LeO (Ezj.f k a6 a7 a8) (Ezj.f (k+1) a6 a7 a8):=by
 intro a6 a7 a8 k;unfold Ezj.f;have i0:=@Bzx.mono;have i1:=@Azw.mono;exact mM
theorem Ezj.calls (k:Nat) (a6:Bool) (a7:Option Addr) (a8:Nat) (a9:List Int) (b4:Option Addr) (b5:Nat) (b6:List Int) (r:Bool) (w:World) (b7:cI w a7 a9) (b8:a9.length≤a8) (b9:cI w b4 b6) (d6:b6.length≤b5) (h:Ezj.f k a6 a9 b6=some r) :
  Calls Try.prog 37 #[.agg #[.bool a6,.slice a7 a9.length a8,.slice b4 b6.length b5]] w fun e w'=>e=.returned (.bool r)∧bw w w':=by
 have hu33:=Try.underlying33;have d7:=aM b7;have d8:=aM b8;clear b7 b8;have d9:=aM b9;have e6:=aM d6;clear b9 d6;have HB:=aM (Below.refl w.heap.size w);have H:((Azw.f k a9).bind fun e7=>(if e7=true then((Azw.f k b6).bind fun e8=>(if e8=true then(if(b6.length:Int)=0 then(some false) else(if a6=true then(if(a9.length:Int)=0 then(some false) else((Bzx.f k a9 b6).bind fun e9=>(if e9.2=0 then(if(e9.1.length:Int)=1 then(if 0 < (e9.1.length:Int) then(some ((rd e9.1 0) == 1)) else(none)) else(some false)) else(some false)))) else((Bzx.f k a9 b6).bind fun f3=>(if f3.2=0 then(if(f3.1.length:Int)=1 then(if 0 < (f3.1.length:Int) then(some ((rd f3.1 0) == 1)) else(none)) else(some false)) else(some false))))) else(some false))) else(some false)))=some r:=h
 clear h;obtain⟨e7,f4,H⟩:=bT H;(try dsimp only at H);by_cases c3:e7=true
 ·subst c3;rw[if_pos rfl] at H;obtain⟨e8,f5,H⟩:=bT H;(try dsimp only at H);by_cases c5:e8=true
  ·subst c5;rw[if_pos rfl] at H;replace H:=iE H;rcases H with⟨f6,f7,H⟩|⟨c6,f6,f7,H⟩
   ·obtain rfl:=Option.some.inj H;go_enter Try.func37,Try.ntmps37
    go_wp2_with (first|((with_reducible refine gd 1 rfl ?_);refine bxg #[.bool a6,.slice a7 a9.length a8,.slice b4 b6.length b5] 33 ?_;intro f8 hg f9 g4 hb;have g5:=gA w hg;replace HB:=bB hb;clear hb hg;obtain⟨g7,g8,g9,j3,j4,j5⟩:=bk3 g4)|((with_reducible refine gc 65 rfl ?_);refine gC 65 (some 7) Try.func65 #[.slice a7 a9.length a8] ?_;(with_reducible refine(Azw.calls k _ _ a9 true _ ?_ ?_ f4.out).mono ?_);exact cB d7;exact d8.out;rintro e w' ⟨rfl,⟨nd,rfl⟩⟩;refine⟨_,rfl,?_⟩)|(go_at_call 65;(with_reducible refine(Azw.calls k _ _ b6 true _ ?_ ?_ f5.out).mono ?_);exact cB d9;exact e6.out;rintro e w' ⟨rfl,⟨nd,rfl⟩⟩))
    go_ret
    exact⟨eW,pB⟩
   ·have j6:¬ (b6=[]):=fun h_=>c6 (by rw[h_];rfl)
    by_cases c9:a6=true
    ·subst c9;rw[if_pos rfl] at H;have j7:=aM H;clear H;go_enter Try.func37,Try.ntmps37
     go_upto_if 30 with (first|((with_reducible refine gd 1 rfl ?_);refine bxg #[.bool true,.slice a7 a9.length a8,.slice b4 b6.length b5] 33 ?_;intro f8 hg j8 g4 hb;have g5:=gA w hg;replace HB:=bB hb;clear hb hg;obtain⟨j9,l5,l6,l7,l8,l9⟩:=bk3 g4)|((with_reducible refine gc 65 rfl ?_);refine gC 65 (some 7) Try.func65 #[.slice a7 a9.length a8] ?_;(with_reducible refine(Azw.calls k _ _ a9 true _ ?_ ?_ f4.out).mono ?_);exact cB d7;exact d8.out;rintro e w' ⟨rfl,⟨nd,rfl⟩⟩;refine⟨_,rfl,?_⟩)|(go_at_call 65;(with_reducible refine(Azw.calls k _ _ b6 true _ ?_ ?_ f5.out).mono ?_);exact cB d9;exact e6.out;rintro e w' ⟨rfl,⟨nd,rfl⟩⟩))
     have H:=j7.out;clear j7;replace H:=iE H;rcases H with⟨m4,m5,H⟩|⟨m0,m4,m5,H⟩
     ·(first|rw[m4]|(simp only[i64_w,i32_w];rw[m4])|skip)
      obtain rfl:=Option.some.inj H;go_wp2
      go_ret
      exact⟨eW,pB⟩
     ·have m6:¬ (a9=[]):=fun h_=>m0 (by rw[h_];rfl)
      (first|rw[m4]|(simp only[i64_w,i32_w];rw[m4])|skip)
      obtain⟨⟨m7,m8⟩,m9,H⟩:=bT H;(try dsimp only at H);replace H:=iE H;rcases H with⟨n7,n8,H⟩|⟨n0,n7,n8,H⟩
      ·replace H:=iE H;rcases H with⟨o0,o8,H⟩|⟨n9,o0,o8,H⟩
       ·obtain⟨o9,H⟩:=iO H;have p0:decide (0 < (m7.length:Int))=true:=dE o9;have p4:decide (0 < m7.length)=true:=dE (by omega)
        clear o9;obtain rfl:=Option.some.inj H;obtain⟨p7,p9,r5,r6,r7,r8⟩:=bk3 g4;go_wp2_with (first|((with_reducible refine gc 66 rfl ?_);refine gC 66 (some 36) Try.func66 #[.slice a7 a9.length a8,.slice b4 b6.length b5] ?_;(with_reducible refine(Bzx.calls k (fun k_=>k_ < w.heap.size) _ _ a9 (fun k_=>k_ < w.heap.size) _ _ b6 m7 m8 _ ?_ ?_ m9.out).mono ?_);exact Kd.V_mk d8.out (Kd.F_below (Kd.C_F (Kd.heap_int .i64) d7.out) pB);exact Kd.V_mk e6.out (Kd.F_below (Kd.C_F (Kd.heap_int .i64) d9.out) pB);rintro e r9 ⟨t4,rfl,t5,hb⟩;refine⟨_,rfl,?_⟩;have t6:=rL (Kd.R_mono (ok':=fun k_=>True) t5 (fun _ hk_=>trivial));replace g4:=kb g4 hb;replace HB:=bB hb;clear hb t5;obtain⟨t7,t8,rfl⟩:=Kd.R_slice t6.out;have t9:0≤(0:Int):=(by omega);have y9:0 < (m7.length:Int):=oE aS;obtain⟨z3,z4,z5⟩:=Kd.at_int (Kd.R_reads' t6.out).2.2 0 t9 y9;cases z4;have z6:(0 < m7.length)=True:=eq_true (by omega);(try rw[show((0:Int)).toNat=0 from rfl] at z5);(try rw[Addr.add_zero'] at z5);replace t9:=eq_true t9;replace y9:=eq_true y9))
        go_ret
        exact⟨eW,pB⟩
       ·obtain rfl:=Option.some.inj H;obtain⟨z7,z8,z9,B0,B5,B9⟩:=bk3 g4;go_wp2_with (first|((with_reducible refine gc 66 rfl ?_);refine gC 66 (some 36) Try.func66 #[.slice a7 a9.length a8,.slice b4 b6.length b5] ?_;(with_reducible refine(Bzx.calls k (fun k_=>k_ < w.heap.size) _ _ a9 (fun k_=>k_ < w.heap.size) _ _ b6 m7 m8 _ ?_ ?_ m9.out).mono ?_);exact Kd.V_mk d8.out (Kd.F_below (Kd.C_F (Kd.heap_int .i64) d7.out) pB);exact Kd.V_mk e6.out (Kd.F_below (Kd.C_F (Kd.heap_int .i64) d9.out) pB);rintro e C0 ⟨t4,rfl,t5,hb⟩;refine⟨_,rfl,?_⟩;have t6:=rL (Kd.R_mono (ok':=fun k_=>True) t5 (fun _ hk_=>trivial));replace g4:=kb g4 hb;replace HB:=bB hb;clear hb t5;obtain⟨C1,C2,rfl⟩:=Kd.R_slice t6.out))
        go_ret
        exact⟨eW,pB⟩
      ·obtain rfl:=Option.some.inj H;obtain⟨C3,C4,C6,C7,C8,C9⟩:=bk3 g4;go_wp2_with (first|((with_reducible refine gc 66 rfl ?_);refine gC 66 (some 36) Try.func66 #[.slice a7 a9.length a8,.slice b4 b6.length b5] ?_;(with_reducible refine(Bzx.calls k (fun k_=>k_ < w.heap.size) _ _ a9 (fun k_=>k_ < w.heap.size) _ _ b6 m7 m8 _ ?_ ?_ m9.out).mono ?_);exact Kd.V_mk d8.out (Kd.F_below (Kd.C_F (Kd.heap_int .i64) d7.out) pB);exact Kd.V_mk e6.out (Kd.F_below (Kd.C_F (Kd.heap_int .i64) d9.out) pB);rintro e D2 ⟨t4,rfl,t5,hb⟩;refine⟨_,rfl,?_⟩;have t6:=rL (Kd.R_mono (ok':=fun k_=>True) t5 (fun _ hk_=>trivial));replace g4:=kb g4 hb;replace HB:=bB hb;clear hb t5))
       go_ret
       exact⟨eW,pB⟩
    ·obtain rfl:=bN c9;rw[if_neg nF] at H
     obtain⟨⟨D3,D4⟩,D5,H⟩:=bT H;(try dsimp only at H);replace H:=iE H;rcases H with⟨D7,D8,H⟩|⟨D6,D7,D8,H⟩
     ·replace H:=iE H;rcases H with⟨E0,E1,H⟩|⟨D9,E0,E1,H⟩
      ·obtain⟨E2,H⟩:=iO H;have E3:decide (0 < (D3.length:Int))=true:=dE E2;have E4:decide (0 < D3.length)=true:=dE (by omega)
       clear E2;obtain rfl:=Option.some.inj H;go_enter Try.func37,Try.ntmps37
       go_wp2_with (first|((with_reducible refine gd 1 rfl ?_);refine bxg #[.bool false,.slice a7 a9.length a8,.slice b4 b6.length b5] 33 ?_;intro f8 hg E5 g4 hb;have g5:=gA w hg;replace HB:=bB hb;clear hb hg;obtain⟨E6,E7,E8,E9,F0,F2⟩:=bk3 g4)|((with_reducible refine gc 65 rfl ?_);refine gC 65 (some 7) Try.func65 #[.slice a7 a9.length a8] ?_;(with_reducible refine(Azw.calls k _ _ a9 true _ ?_ ?_ f4.out).mono ?_);exact cB d7;exact d8.out;rintro e w' ⟨rfl,⟨nd,rfl⟩⟩;refine⟨_,rfl,?_⟩)|(go_at_call 65;(with_reducible refine(Azw.calls k _ _ b6 true _ ?_ ?_ f5.out).mono ?_);exact cB d9;exact e6.out;rintro e w' ⟨rfl,⟨nd,rfl⟩⟩)|((with_reducible refine gc 66 rfl ?_);refine gC 66 (some 36) Try.func66 #[.slice a7 a9.length a8,.slice b4 b6.length b5] ?_;(with_reducible refine(Bzx.calls k (fun k_=>k_ < w.heap.size) _ _ a9 (fun k_=>k_ < w.heap.size) _ _ b6 D3 D4 _ ?_ ?_ D5.out).mono ?_);exact Kd.V_mk d8.out (Kd.F_below (Kd.C_F (Kd.heap_int .i64) d7.out) pB);exact Kd.V_mk e6.out (Kd.F_below (Kd.C_F (Kd.heap_int .i64) d9.out) pB);rintro e F3 ⟨F4,rfl,t5,hb⟩;refine⟨_,rfl,?_⟩;have F5:=rL (Kd.R_mono (ok':=fun k_=>True) t5 (fun _ hk_=>trivial));replace g4:=kb g4 hb;replace HB:=bB hb;clear hb t5;obtain⟨F6,F7,rfl⟩:=Kd.R_slice F5.out;have F8:0≤(0:Int):=(by omega);have F9:0 < (D3.length:Int):=oE aS;obtain⟨G5,G9,H5⟩:=Kd.at_int (Kd.R_reads' F5.out).2.2 0 F8 F9;cases G9;have H6:(0 < D3.length)=True:=eq_true (by omega);(try rw[show((0:Int)).toNat=0 from rfl] at H5);(try rw[Addr.add_zero'] at H5);replace F8:=eq_true F8;replace F9:=eq_true F9))
       go_ret
       exact⟨eW,pB⟩
      ·obtain rfl:=Option.some.inj H;go_enter Try.func37,Try.ntmps37
       go_wp2_with (first|((with_reducible refine gd 1 rfl ?_);refine bxg #[.bool false,.slice a7 a9.length a8,.slice b4 b6.length b5] 33 ?_;intro f8 hg H7 g4 hb;have g5:=gA w hg;replace HB:=bB hb;clear hb hg;obtain⟨H8,H9,I0,I3,I4,I5⟩:=bk3 g4)|((with_reducible refine gc 65 rfl ?_);refine gC 65 (some 7) Try.func65 #[.slice a7 a9.length a8] ?_;(with_reducible refine(Azw.calls k _ _ a9 true _ ?_ ?_ f4.out).mono ?_);exact cB d7;exact d8.out;rintro e w' ⟨rfl,⟨nd,rfl⟩⟩;refine⟨_,rfl,?_⟩)|(go_at_call 65;(with_reducible refine(Azw.calls k _ _ b6 true _ ?_ ?_ f5.out).mono ?_);exact cB d9;exact e6.out;rintro e w' ⟨rfl,⟨nd,rfl⟩⟩)|((with_reducible refine gc 66 rfl ?_);refine gC 66 (some 36) Try.func66 #[.slice a7 a9.length a8,.slice b4 b6.length b5] ?_;(with_reducible refine(Bzx.calls k (fun k_=>k_ < w.heap.size) _ _ a9 (fun k_=>k_ < w.heap.size) _ _ b6 D3 D4 _ ?_ ?_ D5.out).mono ?_);exact Kd.V_mk d8.out (Kd.F_below (Kd.C_F (Kd.heap_int .i64) d7.out) pB);exact Kd.V_mk e6.out (Kd.F_below (Kd.C_F (Kd.heap_int .i64) d9.out) pB);rintro e I6 ⟨F4,rfl,t5,hb⟩;refine⟨_,rfl,?_⟩;have F5:=rL (Kd.R_mono (ok':=fun k_=>True) t5 (fun _ hk_=>trivial));replace g4:=kb g4 hb;replace HB:=bB hb;clear hb t5;obtain⟨I7,I8,rfl⟩:=Kd.R_slice F5.out))
       go_ret
       exact⟨eW,pB⟩
     ·obtain rfl:=Option.some.inj H;go_enter Try.func37,Try.ntmps37
      go_wp2_with (first|((with_reducible refine gd 1 rfl ?_);refine bxg #[.bool false,.slice a7 a9.length a8,.slice b4 b6.length b5] 33 ?_;intro f8 hg I9 g4 hb;have g5:=gA w hg;replace HB:=bB hb;clear hb hg;obtain⟨J0,J1,J2,J3,J4,J5⟩:=bk3 g4)|((with_reducible refine gc 65 rfl ?_);refine gC 65 (some 7) Try.func65 #[.slice a7 a9.length a8] ?_;(with_reducible refine(Azw.calls k _ _ a9 true _ ?_ ?_ f4.out).mono ?_);exact cB d7;exact d8.out;rintro e w' ⟨rfl,⟨nd,rfl⟩⟩;refine⟨_,rfl,?_⟩)|(go_at_call 65;(with_reducible refine(Azw.calls k _ _ b6 true _ ?_ ?_ f5.out).mono ?_);exact cB d9;exact e6.out;rintro e w' ⟨rfl,⟨nd,rfl⟩⟩)|((with_reducible refine gc 66 rfl ?_);refine gC 66 (some 36) Try.func66 #[.slice a7 a9.length a8,.slice b4 b6.length b5] ?_;(with_reducible refine(Bzx.calls k (fun k_=>k_ < w.heap.size) _ _ a9 (fun k_=>k_ < w.heap.size) _ _ b6 D3 D4 _ ?_ ?_ D5.out).mono ?_);exact Kd.V_mk d8.out (Kd.F_below (Kd.C_F (Kd.heap_int .i64) d7.out) pB);exact Kd.V_mk e6.out (Kd.F_below (Kd.C_F (Kd.heap_int .i64) d9.out) pB);rintro e J6 ⟨F4,rfl,t5,hb⟩;refine⟨_,rfl,?_⟩;have F5:=rL (Kd.R_mono (ok':=fun k_=>True) t5 (fun _ hk_=>trivial));replace g4:=kb g4 hb;replace HB:=bB hb;clear hb t5))
      go_ret
      exact⟨eW,pB⟩
  ·obtain rfl:=bN c5;rw[if_neg nF] at H
   obtain rfl:=Option.some.inj H;go_enter Try.func37,Try.ntmps37
   go_wp2_with (first|((with_reducible refine gd 1 rfl ?_);refine bxg #[.bool a6,.slice a7 a9.length a8,.slice b4 b6.length b5] 33 ?_;intro f8 hg J7 g4 hb;have g5:=gA w hg;replace HB:=bB hb;clear hb hg;obtain⟨J8,J9,K0,K1,K2,K3⟩:=bk3 g4)|((with_reducible refine gc 65 rfl ?_);refine gC 65 (some 7) Try.func65 #[.slice a7 a9.length a8] ?_;(with_reducible refine(Azw.calls k _ _ a9 true _ ?_ ?_ f4.out).mono ?_);exact cB d7;exact d8.out;rintro e w' ⟨rfl,⟨nd,rfl⟩⟩;refine⟨_,rfl,?_⟩)|(go_at_call 65;(with_reducible refine(Azw.calls k _ _ b6 false _ ?_ ?_ f5.out).mono ?_);exact cB d9;exact e6.out;rintro e w' ⟨rfl,⟨nd,rfl⟩⟩))
   go_ret
   exact⟨eW,pB⟩
 ·obtain rfl:=bN c3;rw[if_neg nF] at H
  obtain rfl:=Option.some.inj H;go_enter Try.func37,Try.ntmps37
  go_wp2_with (first|((with_reducible refine gd 1 rfl ?_);refine bxg #[.bool a6,.slice a7 a9.length a8,.slice b4 b6.length b5] 33 ?_;intro f8 hg K4 g4 hb;have g5:=gA w hg;replace HB:=bB hb;clear hb hg;obtain⟨K5,K6,K7,K8,K9,L0⟩:=bk3 g4)|((with_reducible refine gc 65 rfl ?_);refine gC 65 (some 7) Try.func65 #[.slice a7 a9.length a8] ?_;(with_reducible refine(Azw.calls k _ _ a9 false _ ?_ ?_ f4.out).mono ?_);exact cB d7;exact d8.out;rintro e w' ⟨rfl,⟨nd,rfl⟩⟩;refine⟨_,rfl,?_⟩))
  go_ret
  exact⟨eW,pB⟩

def Bzk.l0:Nat→List (S33)→Int→Int→Option (Bool)
 | 0,_,_,_=>none
 | k+1,x5,x6,x7=>if x7 < x6 then(if 0≤x7 then(if x7 < (x5.length:Int) then((Ezj.f k ((rd_T33 x5 x7).f0) ((rd_T33 x5 x7).f1) ((rd_T33 x5 x7).f2)).bind fun t316=>(if t316=true then(Bzk.l0 k x5 x6 (wrap64 (x7+1))) else(some false))) else(none)) else(none)) else(some true)
def Bzk.f (k:Nat) (l0:List (S33)):Option (Bool):=Bzk.l0 k l0 (l0.length:Int) 0
theorem Bzk.mono_l:∀ k,(∀ a6 a7 a8,LeO (Bzk.l0 k a6 a7 a8) (Bzk.l0 (k+1) a6 a7 a8))
 | 0=>fun _ _ _ r h=>by simp [Bzk.l0] at h
 | k+1=>by
  have ih0:=Bzk.mono_l k
  ·intro a6 a7 a8;unfold Bzk.l0;have i0:=@Ezj.mono;exact mM
theorem Bzk.mono:∀ a6 k,LeO (Bzk.f k a6) (Bzk.f (k+1) a6):=by
 intro a6 k;have ih0:=Bzk.mono_l k;unfold Bzk.f;have i0:=@Ezj.mono;exact mM
theorem Bzk.calls (k:Nat) (a6:Option Addr) (a7:Nat) (l0:List (S33)) (r:Bool) (w:World) (a8:Kd.C k33 w a6 l0.length l0) (a9:l0.length≤a7) (h:Bzk.f k l0=some r) :
  Calls Try.prog 62 #[.slice a6 l0.length a7] w fun e w'=>e=.returned (.bool r)∧bw w w':=by
 have hu33:=Try.underlying33;have b4:=aM a8;have b5:=aM a9;clear a8 a9;have HB:=aM (Below.refl w.heap.size w);have H:(Bzk.l0 k l0 (l0.length:Int) 0)=some r:=h;clear h;have H':=aM H;clear H;go_enter Try.func62,Try.ntmps62
 go_wp2
 go_loopg [7] k (fun kq b6 w'=>∃ (b7:Int),b6=.int .i64 b7∧Aside0 (Bzk.l0 kq l0 (l0.length:Int) b7=some r)∧Aside0 (kq≤k)∧Aside0 (bw w w'))
 case atStart=>exact⟨(0),sD,H',⟨Nat.le_refl _⟩,⟨pB⟩⟩
 case round =>
  clear H';obtain⟨b7,rfl,HA,b8,HB⟩:=hrel;cases gk with
  | zero=>exact absurd HA.out (by simp [Bzk.l0])
  | succ k1 =>
   have H:=HA.out;clear HA;simp only[Bzk.l0] at H;replace H:=iD H;rcases H with⟨b9,H⟩|⟨b9,H⟩
   ·obtain⟨d6,H⟩:=iN H;obtain⟨d7,H⟩:=iN H;obtain⟨d8,d9,H⟩:=bT H;(try dsimp only at H);have e6:=aM H;clear H;obtain⟨e7,e8,e9,f3,f4,f5,f6,f7,f8,f9,g4,g5,g6⟩:=at_T33 b4.out b7 (oE aS) (oE aS);cases f5
    replace f6:=hB HB f6;replace f7:=hB HB f7;replace f8:=hB HB f8;have g7:=aM g4;have g8:=aM f9;clear g4 f9;have g9:=aM g6;have j3:=aM g5;clear g6 g5;have j4:=eT (b7);have j5:=eU (b7) l0.length;go_upto_if 13 with (first|((with_reducible refine gd 4 rfl ?_);refine bz 33 ?_;intro j6 hg j7 j8 hb;have j9:=gA w hg;replace HB:=bB hb;clear hb hg;obtain⟨l6,l7,l8,l9,m0,m4⟩:=bk3 j8)|((with_reducible refine gc 37 rfl ?_);refine gC 37 (some 12) Try.func37 #[.agg #[.bool ((rd_T33 l0 b7).f0),.slice e8 ((rd_T33 l0 b7).f1).length e9,.slice f3 ((rd_T33 l0 b7).f2).length f4]] ?_;(with_reducible refine(Ezj.calls k1 ((rd_T33 l0 b7).f0) _ _ ((rd_T33 l0 b7).f1) _ _ ((rd_T33 l0 b7).f2) d8 _ ?_ ?_ ?_ ?_ d9.out).mono ?_);exact Kd.C_below g7.out pB;exact g8.out;exact Kd.C_below g9.out pB;exact j3.out;rintro e m5 ⟨rfl,hb⟩;refine⟨_,rfl,?_⟩;replace j8:=kP (o':=.cells #[.bool ((rd_T33 l0 b7).f0),.slice e8 ((rd_T33 l0 b7).f1).length e9,.slice f3 ((rd_T33 l0 b7).f2).length f4] 33 (0,0)) j8 hb;replace HB:=bB hb;clear hb))
    have H:=e6.out;clear e6;by_cases c10:d8=true
    ·subst c10;rw[if_pos rfl] at H;have H':=aM H;clear H;go_wp2
     go_roundg k1
     case measure=>have:=b8.out;omega
     case rel=>exact⟨(wrap64 (b7+1)),sD,H',⟨by have:=b8.out;omega⟩,⟨pB⟩⟩
    ·obtain rfl:=bN c10;rw[if_neg nF] at H
     obtain rfl:=Option.some.inj H;go_wp2
     go_ret
     exact⟨eW,pB⟩
   ·obtain rfl:=Option.some.inj H;go_wp2
    go_ret
    exact⟨eW,pB⟩

def Gzb.f  : Option (List Int):=some (([1]:List Int))
theorem Gzb.calls  (r:List Int) (w:World) (h:Gzb.f  = some r) :
  Calls Try.prog 63 #[] w fun e w'=>∃ v0_:Value,e=.returned (v0_)∧rI w' w (fun _=>True) v0_ r∧bw w w':=by
 have HB:=aM (Below.refl w.heap.size w);have H:(some (([1]:List Int)))=some r:=h;clear h;obtain⟨a6,a7⟩:∃ y_:List Int,y_=(([1]:List Int)):=⟨_,rfl⟩;replace H:(some a6)=some r:=yE a7 H
 have a8:=aM a7;clear a7;obtain rfl:=Option.some.inj H;go_enter Try.func63,Try.ntmps63
 go_wp2_with (first|((with_reducible refine gd 1 rfl ?_);refine iL 1 [1] ?_;intro a9 b4 b5 hb;replace b5:=rY a8 b5;have b6:=rL b5;replace HB:=bB hb;clear hb b5))
 go_ret
 exact⟨_,eW,rX b6.out,pB⟩


def Ezv.f (k:Nat) (l0:List Int):Option (List Int × Int):=(Azb.f k l0).bind fun t325=>(if(t325.length:Int) > 48 then(some (([]:List Int),2)) else(some (t325,0)))
theorem Ezv.mono:∀ a6 k,LeO (Ezv.f k a6) (Ezv.f (k+1) a6):=by
 intro a6 k;unfold Ezv.f;have i0:=@Azb.mono;exact mM
theorem Ezv.calls (k:Nat) (a6:Nat→Prop) (u9000_:Value) (l0:List Int) (a7:List Int) (a8:Int) (a9 w:World) (hB:Below a9.heap.size a9 w) (b4:Kd.R (Kd.int .i64) 3 w a9.heap.size a6 u9000_ l0) (h:Ezv.f k l0=some (a7,a8)) :
  Calls Try.prog 110 #[u9000_] w fun e w'=>∃ v0_:Value,e=.returned (.tuple #[v0_,.int .i64 a8])∧Kd.R (Kd.int .i64) 3 w' a9.heap.size (fun k_=>(a6 k_∨w.heap.size≤k_)) v0_ a7∧Below a9.heap.size a9 w'∧Kept w w' (fun k_=>a6 k_):=by
 have b5:=aM (show Kd.R (Kd.int .i64) 3 w a9.heap.size (fun k_=>(a6 k_∨w.heap.size≤k_)) u9000_ l0 from Kd.R_mono b4 (fun k_ hk=>(.inl hk)))
 have HK:=aM (Kept.refl w (fun k_=>a6 k_))
 have HW0:=aM hB.size;have HB:=aM hB;clear hB;have H:((Azb.f k l0).bind fun b6=>(if(b6.length:Int) > 48 then(some (([]:List Int),2)) else(some (b6,0))))=some (a7,a8):=h
 clear h;obtain⟨b6,b7,H⟩:=bT H;(try dsimp only at H);have b8:=aM H;clear H;obtain⟨b9,d6,rfl⟩:=Kd.R_slice b5.out;go_enter Try.func110,Try.ntmps110
 go_upto_if 9 with (first|((with_reducible refine gc 92 rfl ?_);refine gC 92 (some 6) Try.func92 #[.slice b9 l0.length d6] ?_;(with_reducible refine(Azb.calls k (fun k_=>some k_=(.slice b9 l0.length d6:Value).ownBlock) (.slice b9 l0.length d6) l0 b6 a9 _ ?_ ?_ b7.out).mono ?_);exact pB;exact Kd.R_tight rfl b5.out;rintro e d7 ⟨d8,rfl,b4,hb,hkp⟩;refine⟨_,rfl,?_⟩;have d9:=aM (Kd.R_mono (ok':=fun k_=>(a6 k_∨w.heap.size≤k_)) b4 (fun k_ hk_=>Or.elim hk_ (fun hs_=>(b5.out.1 k_ (hs_).symm)) (fun hn_=>(.inr (Nat.le_trans (by first|exact HK.out.1|exact(show Kept w _ (fun k_=>a6 k_) from kK HK).1) hn_)))));replace HK:=aM (Kept.then_ (S:=(fun k_=>a6 k_)) (kK HK) hkp (fun k_ hs_=>(fun e_=>(b5.out.1 k_ e_.symm)) hs_));replace HB:=aM (hb);clear b5 hb hkp b4;obtain⟨e6,e7,rfl⟩:=Kd.R_slice d9.out))
 have H:=b8.out;clear b8;by_cases c7:(b6.length:Int) > 48
 ·rw[if_pos c7] at H;have e8:decide (48 < (b6.length:Int))=true:=dE c7;have e9:decide (48 < b6.length)=true:=dE (by omega)
  clear c7;(first|rw[e8]|(simp only[i64_w,i32_w];rw[e8])|skip)
  obtain⟨rfl,rfl⟩:=q2 H;go_wp2
  go_ret2
  exact⟨_,eW,nK,pB,kK HK⟩
 ·rw[if_neg c7] at H;have e8:decide (48 < (b6.length:Int))=false:=decide_eq_false c7;have e9:decide (48 < b6.length)=false:=decide_eq_false (by omega)
  clear c7;(first|rw[e8]|(simp only[i64_w,i32_w];rw[e8])|skip)
  obtain⟨rfl,rfl⟩:=q2 H;go_wp2
  go_ret2
  exact⟨_,eW,rX d9.out,pB,kK HK⟩


mutual
def Bzp.j0:Nat→List Int→List Int→Bool→Option (List Int × Int)
 | 0,_,_,_=>none
 | k+1,x0,x1,x18=>if x18=true then(some (([]:List Int),3)) else(if 0≤(wrap64 ((wrap64 ((x0.length:Int)+(x1.length:Int)))+1)) then(if(wrap64 ((wrap64 ((x0.length:Int)+(x1.length:Int)))+1):Int).toNat≤35184372088832 then(Bzp.l0 k x0 x1 (List.replicate (wrap64 ((wrap64 ((x0.length:Int)+(x1.length:Int)))+1):Int).toNat 0) (x0.length:Int) 0) else(none)) else(none))
def Bzp.l0:Nat→List Int→List Int→List Int→Int→Int→Option (List Int × Int)
 | 0,_,_,_,_,_=>none
 | k+1,x0,x1,x6,x27,x28=>if x28 < x27 then(Bzp.l1 k x0 x1 x6 x28 0 x27 x28 (x1.length:Int) 0) else((Ezv.f k x6).bind fun bt333=>(some (bt333.1,bt333.2)))
def Bzp.l1:Nat→List Int→List Int→List Int→Int→Int→Int→Int→Int→Int→Option (List Int × Int)
 | 0,_,_,_,_,_,_,_,_,_=>none
 | k+1,x0,x1,x6,x7,x8,x27,x28,x32,x33=>if x33 < x32 then(if 0≤(wrap64 (x7+x33)) then(if(wrap64 (x7+x33)) < (x6.length:Int) then(if 0≤x7 then(if x7 < (x0.length:Int) then(if 0≤x33 then(if x33 < (x1.length:Int) then(Bzp.l1 k x0 x1 (x6.set ((wrap64 (x7+x33)):Int).toNat (Int.tmod (wrap64 ((wrap64 ((rd x6 (wrap64 (x7+x33)))+(wrap64 ((rd x0 x7) * (rd x1 x33)))))+x8)) 1000000000)) x7 (wrap64 (Int.tdiv (wrap64 ((wrap64 ((rd x6 (wrap64 (x7+x33)))+(wrap64 ((rd x0 x7) * (rd x1 x33)))))+x8)) 1000000000)) x27 x28 x32 (wrap64 (x33+1))) else(none)) else(none)) else(none)) else(none)) else(none)) else(none)) else(if 0≤(wrap64 (x7+(x1.length:Int))) then(if(wrap64 (x7+(x1.length:Int))) < (x6.length:Int) then(Bzp.l0 k x0 x1 (x6.set ((wrap64 (x7+(x1.length:Int))):Int).toNat x8) x27 (wrap64 (x28+1))) else(none)) else(none))
end
def Bzp.f (k:Nat) (l0:List Int) (l1:List Int):Option (List Int × Int):=(Azw.f k l0).bind fun t328=>(if t328=true then((Azw.f k l1).bind fun t329=>(Bzp.j0 k l0 l1 (!t329))) else(Bzp.j0 k l0 l1 true))
theorem Bzp.mono_l:∀ k,(∀ a6 a7 a8,LeO (Bzp.j0 k a6 a7 a8) (Bzp.j0 (k+1) a6 a7 a8))∧(∀ a6 a7 a8 a9 b4,LeO (Bzp.l0 k a6 a7 a8 a9 b4) (Bzp.l0 (k+1) a6 a7 a8 a9 b4))∧(∀ a6 a7 a8 a9 b4 b5 b6 b7 b8,LeO (Bzp.l1 k a6 a7 a8 a9 b4 b5 b6 b7 b8) (Bzp.l1 (k+1) a6 a7 a8 a9 b4 b5 b6 b7 b8))
 | 0=>⟨fun _ _ _ r h=>by simp [Bzp.j0] at h,fun _ _ _ _ _ r h=>by simp [Bzp.l0] at h,fun _ _ _ _ _ _ _ _ _ r h=>by simp [Bzp.l1] at h⟩
 | k+1=>by
  obtain⟨ih0,ih1,ih2⟩:=Bzp.mono_l k;have i0:=@Azw.mono;have i1:=@Ezv.mono;refine⟨?_,?_,?_⟩
  ·intro a6 a7 a8;unfold Bzp.j0;exact mM
  ·intro a6 a7 a8 a9 b4;unfold Bzp.l0;exact mM
  ·intro a6 a7 a8 a9 b4 b5 b6 b7 b8;unfold Bzp.l1;exact mM
theorem Bzp.mono:∀ a6 a7 k,LeO (Bzp.f k a6 a7) (Bzp.f (k+1) a6 a7):=by
 intro a6 a7 k;obtain⟨ih0,ih1,ih2⟩:=Bzp.mono_l k;unfold Bzp.f;have i0:=@Azw.mono;have i1:=@Ezv.mono;exact mM
theorem Bzp.calls (k:Nat) (a6:Option Addr) (a7:Nat) (l0:List Int) (a8:Option Addr) (a9:Nat) (l1:List Int) (b4:List Int) (b5:Int) (w:World) (b6:cI w a6 l0) (b7:l0.length≤a7) (b8:cI w a8 l1) (b9:l1.length≤a9) (h:Bzp.f k l0 l1=some (b4,b5)) :
  Calls Try.prog 97 #[.slice a6 l0.length a7,.slice a8 l1.length a9] w fun e w'=>∃ v0_:Value,e=.returned (.tuple #[v0_,.int .i64 b5])∧rI w' w (fun _=>True) v0_ b4∧bw w w':=by
 have d6:=aM b6;have d7:=aM b7;clear b6 b7;have d8:=aM b8;have d9:=aM b9;clear b8 b9;have HB:=aM (Below.refl w.heap.size w);have H:((Azw.f k l0).bind fun e6=>(if e6=true then((Azw.f k l1).bind fun e7=>(Bzp.j0 k l0 l1 (!e7))) else(Bzp.j0 k l0 l1 true)))=some (b4,b5):=h
 clear h;have e8:=aM H;clear H;go_enter Try.func97,Try.ntmps97
 go_upto_region 1 with (fail)
 repeat(go_quiet (fail);go_upto_region 1 with (fail))
 go_cut [18] (fun e9 wc=>∃ (kq:Nat) (f3:Bool),e9=.bool f3∧Aside0 (Bzp.j0 kq l0 l1 f3=some (b4,b5))∧Aside0 (kq≤k)∧Aside0 (bw w wc))
 case first =>
  have H:=e8.out;clear e8;obtain⟨e6,f4,H⟩:=bT H;(try dsimp only at H);by_cases c5:e6=true
  ·subst c5;rw[if_pos rfl] at H;obtain⟨e7,f5,H⟩:=bT H;(try dsimp only at H);have H':=aM H;clear H;have fl_:True:=trivial;repeat((first|clear fl_|go_quiet (first|(go_at_call 65;(with_reducible refine(Azw.calls k _ _ l0 true _ ?_ ?_ f4.out).mono ?_);exact cB d6;exact d7.out;rintro e w' ⟨rfl,⟨nd,rfl⟩⟩;(try exact dD))|(go_at_call 65;(with_reducible refine(Azw.calls k _ _ l1 e7 _ ?_ ?_ f5.out).mono ?_);exact cB d8;exact d9.out;rintro e w' ⟨rfl,⟨nd,rfl⟩⟩;(try exact dD))));go_wp2_with (first|(go_at_call 65;(with_reducible refine(Azw.calls k _ _ l0 true _ ?_ ?_ f4.out).mono ?_);exact cB d6;exact d7.out;rintro e w' ⟨rfl,⟨nd,rfl⟩⟩;(try exact dD))|(go_at_call 65;(with_reducible refine(Azw.calls k _ _ l1 e7 _ ?_ ?_ f5.out).mono ?_);exact cB d8;exact d9.out;rintro e w' ⟨rfl,⟨nd,rfl⟩⟩;(try exact dD))))
   go_meet
   case rel=>exact⟨_,(!e7),sD,H',⟨by first|omega|exact Nat.le_refl _⟩,⟨pB⟩⟩
  ·obtain rfl:=bN c5;rw[if_neg nF] at H
   have H':=aM H;clear H;have fl_:True:=trivial;repeat((first|clear fl_|go_quiet (first|(go_at_call 65;(with_reducible refine(Azw.calls k _ _ l0 false _ ?_ ?_ f4.out).mono ?_);exact cB d6;exact d7.out;rintro e w' ⟨rfl,⟨nd,rfl⟩⟩;(try exact dD))));go_wp2_with (first|(go_at_call 65;(with_reducible refine(Azw.calls k _ _ l0 false _ ?_ ?_ f4.out).mono ?_);exact cB d6;exact d7.out;rintro e w' ⟨rfl,⟨nd,rfl⟩⟩;(try exact dD))))
   go_meet
   case rel=>exact⟨_,(true),sD,H',⟨by first|omega|exact Nat.le_refl _⟩,⟨pB⟩⟩
 case rest =>
  clear e8;try clear a9
  obtain⟨kq,f3,rfl,HA,f6,HB⟩:=hcut;cases kq with
  | zero=>exact absurd HA.out (by simp [Bzp.j0])
  | succ f7 =>
   have H:=HA.out;clear HA;simp only[Bzp.j0] at H;by_cases c7:f3=true
   ·subst c7;rw[if_pos rfl] at H;obtain⟨rfl,rfl⟩:=q2 H;go_wp2
    repeat(go_quiet (fail);try go_wp2)
    go_ret2
    exact⟨_,eW,nK,pB⟩
   ·obtain rfl:=bN c7;rw[if_neg nF] at H
    obtain⟨f8,f9⟩:∃ j_:Int,(wrap64 ((wrap64 ((l0.length:Int)+(l1.length:Int)))+1))=j_:=⟨_,rfl⟩;replace H:(if 0≤(f8) then(if(f8:Int).toNat≤35184372088832 then(Bzp.l0 f7 l0 l1 (List.replicate (f8:Int).toNat 0) (l0.length:Int) 0) else(none)) else(none))=some (b4,b5):=by first|(rw[f9] at H;exact H)|(simp only[f9] at H ⊢;exact H)
    have g4:(IntKind.i64.wrap ((wrap64 ((l0.length:Int)+(l1.length:Int)))+1))=f8:=(i64_w _).trans f9;by_cases c9:0≤(f8)
    ·rw[if_pos c9] at H;have g5:=eq_true c9;have g6:=dE c9;clear c9;obtain⟨c10,H⟩:=iO H;have g7:=eq_true c10;have g8:decide ((f8:Int).toNat≤35184372088832)=true:=dE c10;clear c10;obtain⟨g9,j3⟩:∃ y_:List Int,y_=(List.replicate (f8:Int).toNat 0):=⟨_,rfl⟩;replace H:(Bzp.l0 f7 l0 l1 g9 (l0.length:Int) 0)=some (b4,b5):=yE j3 H
     have j4:=aM j3;clear j3;have H':=aM H;clear H;have fl_:True:=trivial;repeat((first|clear fl_|go_quiet (first|((with_reducible refine gate_dst (N:=25) rfl ?_);refine Kd.R_make (Kd.int .i64) _ 3 rfl (N:=25) rfl 30 _ _ rfl f8 rfl rfl Try.underlying30 (.int .i64 0) 8 info3 rfl (by decide) (by omega) 0 (ok:=fun _=>True) (okp:=fun _=>True) rfl (fun _ hk=>hk) trivial (oE aS) (Nat.le_trans (Nat.mul_le_mul_right _ (oE aS:f8.toNat≤35184372088832)) (by omega)) (Below.refl _ _) (Nat.le_refl _) ?_;intro j5 j6 j7 hb hg_ hnew_;clear hg_ hnew_;replace j7:=rY j4 j7;have j8:=rL j7;replace HB:=bB hb;clear hb j7)));go_wp2_with (first|((with_reducible refine gate_dst (N:=25) rfl ?_);refine Kd.R_make (Kd.int .i64) _ 3 rfl (N:=25) rfl 30 _ _ rfl f8 rfl rfl Try.underlying30 (.int .i64 0) 8 info3 rfl (by decide) (by omega) 0 (ok:=fun _=>True) (okp:=fun _=>True) rfl (fun _ hk=>hk) trivial (oE aS) (Nat.le_trans (Nat.mul_le_mul_right _ (oE aS:f8.toNat≤35184372088832)) (by omega)) (Below.refl _ _) (Nat.le_refl _) ?_;intro j5 j6 j7 hb hg_ hnew_;clear hg_ hnew_;replace j7:=rY j4 j7;have j8:=rL j7;replace HB:=bB hb;clear hb j7)))
     go_loopg [28] f7 (fun kq j9 w'=>∃ (l5:List Int) (l6:Int),j9=.int .i64 l6∧Aside0 (Bzp.l0 kq l0 l1 l5 (l0.length:Int) l6=some (b4,b5))∧Aside0 (kq≤f7)∧Aside0 (rI w' w (fun _=>True) j5 l5)∧Aside0 (bw w w'))
     case atStart=>exact⟨(g9),(0),sD,H',⟨Nat.le_refl _⟩,⟨rX j8.out⟩,⟨pB⟩⟩
     case round =>
      clear H';try clear a9
      obtain⟨l5,l6,rfl,HA,l7,l8,HB⟩:=hrel;cases gk with
      | zero=>exact absurd HA.out (by simp [Bzp.l0])
      | succ k2 =>
       have H:=HA.out;clear HA;simp only[Bzp.l0] at H;replace H:=iD H;rcases H with⟨m0,H⟩|⟨m0,H⟩
       ·have H':=aM H;clear H;go_wp2
        repeat(go_quiet (fail);try go_wp2)
        go_loopg [8,33] k2 (fun kq m4 m5 w'=>∃ (m6:List Int) (m7:Int) (m8:Int),m4=.int .i64 m7∧m5=.int .i64 m8∧Aside0 (Bzp.l1 kq l0 l1 m6 l6 m7 (l0.length:Int) l6 (l1.length:Int) m8=some (b4,b5))∧Aside0 (kq≤k2)∧Aside0 (rI w' w (fun _=>True) j5 m6)∧Aside0 (bw w w'))
        case atStart=>exact⟨(l5),(0),(0),sD,sD,H',⟨Nat.le_refl _⟩,⟨rX l8.out⟩,⟨pB⟩⟩
        case round =>
         clear H';try clear a9
         obtain⟨m6,m7,m8,rfl,rfl,HA,m9,l8,HB⟩:=hrel;cases gk with
         | zero=>exact absurd HA.out (by simp [Bzp.l1])
         | succ k3 =>
          have H:=HA.out;clear HA;simp only[Bzp.l1] at H;replace H:=iD H;rcases H with⟨n7,H⟩|⟨n7,H⟩
          ·obtain⟨n8,n9⟩:∃ j_:Int,(wrap64 (l6+m8))=j_:=⟨_,rfl⟩;replace H:(if 0≤(n8) then(if(n8) < (m6.length:Int) then(if 0≤l6 then(if l6 < (l0.length:Int) then(if 0≤m8 then(if m8 < (l1.length:Int) then(Bzp.l1 k3 l0 l1 (m6.set ((n8):Int).toNat (Int.tmod (wrap64 ((wrap64 ((rd m6 (n8))+(wrap64 ((rd l0 l6) * (rd l1 m8)))))+m7)) 1000000000)) l6 (wrap64 (Int.tdiv (wrap64 ((wrap64 ((rd m6 (n8))+(wrap64 ((rd l0 l6) * (rd l1 m8)))))+m7)) 1000000000)) (l0.length:Int) l6 (l1.length:Int) (wrap64 (m8+1))) else(none)) else(none)) else(none)) else(none)) else(none)) else(none))=some (b4,b5):=by first|(rw[n9] at H;exact H)|(simp only[n9] at H ⊢;exact H)
           have o0:(IntKind.i64.wrap (l6+m8))=n8:=(i64_w _).trans n9;obtain⟨o8,H⟩:=iN H;obtain⟨o9,H⟩:=iN H;obtain⟨p0,H⟩:=iN H;obtain⟨p4,H⟩:=iN H;obtain⟨p7,H⟩:=iN H;obtain⟨p9,H⟩:=iN H;obtain⟨r5,r6⟩:∃ y_:List Int,y_=(m6.set ((n8):Int).toNat (Int.tmod (wrap64 ((wrap64 ((rd m6 (n8))+(wrap64 ((rd l0 l6) * (rd l1 m8)))))+m7)) 1000000000)):=⟨_,rfl⟩;replace H:(Bzp.l1 k3 l0 l1 r5 l6 (wrap64 (Int.tdiv (wrap64 ((wrap64 ((rd m6 (n8))+(wrap64 ((rd l0 l6) * (rd l1 m8)))))+m7)) 1000000000)) (l0.length:Int) l6 (l1.length:Int) (wrap64 (m8+1)))=some (b4,b5):=yE r6 H
           have r7:=aM r6;clear r6;have H':=aM H;clear H;obtain⟨r8,r9,rfl⟩:=Kd.R_slice l8.out;obtain⟨t4,t5,t6,t7,t8⟩:=aI (Kd.R_reads' l8.out).2.2 (n8);cases t5;obtain⟨t9,y9,z3,z4,z5⟩:=aI d6.out l6;cases y9
           replace z3:=hB HB z3;obtain⟨z6,z7,z8,z9,B0⟩:=aI d8.out m8;cases z7
           replace z8:=hB HB z8;have B5:0≤((n8):Int):=oE aS
           have B9:((n8):Int) < ((m6.length:Int):Int):=oE aS
           obtain⟨C0,C1,C2,C3,C4,C6,C7⟩:=Kd.R_form l8.out (by omega)
           (first|cases C2|(injection C2 with ea_ en_ ec_;(first|subst ea_|(injection ea_ with ea_;subst ea_));subst ec_;clear en_))
           have C8:=aM C3;have C9:=aM C7;clear C3 C4 C7;(first|simp only[add_plain] at t6|skip)
           obtain⟨D2,D3⟩:=Kd.R_celln 0 l8.out ((n8):Int) B5 B9;replace B5:=eq_true B5;replace B9:=eq_true B9;have D4:=Kd.R_putg l8.out ((n8):Int) (Int.tmod (wrap64 ((wrap64 ((rd m6 (n8))+(wrap64 ((rd l0 l6) * (rd l1 m8)))))+m7)) 1000000000);have fl_:True:=trivial;repeat((first|clear fl_|go_quiet (first|((with_reducible refine gate_store (t:=3) (p:=62) rfl ?_);(try(rw[drewN_self wr];generalize hq_:World.drewN wr _=wr;have n0_:=aM (Kd.R_at hq_ l8.out);have n1_:=aM (below_at hq_ HB.out);clear hq_ l8 HB;have l8:=n0_;have HB:=n1_;clear n0_ n1_;(try(obtain⟨D2,D3⟩:=Kd.R_celln 0 l8.out ((n8):Int) (of_eq_true B5) (of_eq_true B9)));(try(have D4:=Kd.R_putg l8.out ((n8):Int) (Int.tmod (wrap64 ((wrap64 ((rd m6 (n8))+(wrap64 ((rd l0 l6) * (rd l1 m8)))))+m7)) 1000000000)))));refine store_event (t:=3) (p:=62) (v:=?vo_w25) (w1:=(wr.setCell ⟨C0,((n8):Int).toNat,none⟩ (.int .i64 (Int.tmod (wrap64 ((wrap64 ((rd m6 (n8))+(wrap64 ((rd l0 l6) * (rd l1 m8)))))+m7)) 1000000000)))) ?hg ?ho ?hn ?hr ?_;(case ho=>rfl);(case hg=>rfl);(case hn=>rfl);(case hr=>first|(go_simp;done)|(go_simp;rfl));intro D5 hw;have hg:wr.grownBy D5 (some C0):=(by rw[hw];exact D4.2);have hp_:rI D5 w (fun _=>True) (.slice (some ⟨C0,0,none⟩) m6.length r9) r5:=(by rw[hw,r7.out];exact D4.1);clear D4;replace l8:=aM (hp_);replace HB:=aM ((by rw[hw];exact below_set (HB.out) C8.out:bw w D5));clear hg hw hp_)));go_wp2_with (first|((with_reducible refine gate_store (t:=3) (p:=62) rfl ?_);(try(rw[drewN_self wr];generalize hq_:World.drewN wr _=wr;have n0_:=aM (Kd.R_at hq_ l8.out);have n1_:=aM (below_at hq_ HB.out);clear hq_ l8 HB;have l8:=n0_;have HB:=n1_;clear n0_ n1_;(try(obtain⟨D2,D3⟩:=Kd.R_celln 0 l8.out ((n8):Int) (of_eq_true B5) (of_eq_true B9)));(try(have D4:=Kd.R_putg l8.out ((n8):Int) (Int.tmod (wrap64 ((wrap64 ((rd m6 (n8))+(wrap64 ((rd l0 l6) * (rd l1 m8)))))+m7)) 1000000000)))));refine store_event (t:=3) (p:=62) (v:=?vo_w25) (w1:=(wr.setCell ⟨C0,((n8):Int).toNat,none⟩ (.int .i64 (Int.tmod (wrap64 ((wrap64 ((rd m6 (n8))+(wrap64 ((rd l0 l6) * (rd l1 m8)))))+m7)) 1000000000)))) ?hg ?ho ?hn ?hr ?_;(case ho=>rfl);(case hg=>rfl);(case hn=>rfl);(case hr=>first|(go_simp;done)|(go_simp;rfl));intro D5 hw;have hg:wr.grownBy D5 (some C0):=(by rw[hw];exact D4.2);have hp_:rI D5 w (fun _=>True) (.slice (some ⟨C0,0,none⟩) m6.length r9) r5:=(by rw[hw,r7.out];exact D4.1);clear D4;replace l8:=aM (hp_);replace HB:=aM ((by rw[hw];exact below_set (HB.out) C8.out:bw w D5));clear hg hw hp_)))
           go_roundg k3
           case measure=>have:=f6.out;have:=l7.out;have:=m9.out;omega
           case rel=>exact⟨(r5),(wrap64 (Int.tdiv (wrap64 ((wrap64 ((rd m6 (n8))+(wrap64 ((rd l0 l6) * (rd l1 m8)))))+m7)) 1000000000)),(wrap64 (m8+1)),(by first|rfl|(simp;done)|(simp only[← n9] <;> (first|rfl|simp))|(simp [*];done)),sD,H',⟨by have:=f6.out;have:=l7.out;have:=m9.out;omega⟩,⟨rX l8.out⟩,⟨pB⟩⟩
          ·obtain⟨D6,D7⟩:∃ j_:Int,(wrap64 (l6+(l1.length:Int)))=j_:=⟨_,rfl⟩;replace H:(if 0≤(D6) then(if(D6) < (m6.length:Int) then(Bzp.l0 k3 l0 l1 (m6.set ((D6):Int).toNat m7) (l0.length:Int) (wrap64 (l6+1))) else(none)) else(none))=some (b4,b5):=by first|(rw[D7] at H;exact H)|(simp only[D7] at H ⊢;exact H)
           have D8:(IntKind.i64.wrap (l6+(l1.length:Int)))=D6:=(i64_w _).trans D7;obtain⟨D9,H⟩:=iN H;obtain⟨E0,H⟩:=iN H;obtain⟨E1,E2⟩:∃ y_:List Int,y_=(m6.set ((D6):Int).toNat m7):=⟨_,rfl⟩;replace H:(Bzp.l0 k3 l0 l1 E1 (l0.length:Int) (wrap64 (l6+1)))=some (b4,b5):=yE E2 H
           have E3:=aM E2;clear E2;have H':=aM H;clear H;have E4:0≤((D6):Int):=oE aS
           have E5:((D6):Int) < ((m6.length:Int):Int):=oE aS
           obtain⟨E6,E7,E8,E9,F0,F2,F3⟩:=Kd.R_form l8.out (by omega)
           (first|cases E8|(injection E8 with ea_ en_ ec_;(first|subst ea_|(injection ea_ with ea_;subst ea_));subst ec_;clear en_))
           have F4:=aM E9;have F5:=aM F3;clear E9 F0 F3;obtain⟨F6,F7⟩:=Kd.R_celln 0 l8.out ((D6):Int) E4 E5;replace E4:=eq_true E4;replace E5:=eq_true E5;have F8:=Kd.R_putg l8.out ((D6):Int) m7;have fl_:True:=trivial;repeat((first|clear fl_|go_quiet (first|((with_reducible refine gate_store (t:=3) (p:=70) rfl ?_);(try(rw[drewN_self wr];generalize hq_:World.drewN wr _=wr;have n0_:=aM (Kd.R_at hq_ l8.out);have n1_:=aM (below_at hq_ HB.out);clear hq_ l8 HB;have l8:=n0_;have HB:=n1_;clear n0_ n1_;(try(obtain⟨F6,F7⟩:=Kd.R_celln 0 l8.out ((D6):Int) (of_eq_true E4) (of_eq_true E5)));(try(have F8:=Kd.R_putg l8.out ((D6):Int) m7))));refine store_event (t:=3) (p:=70) (v:=?vo_w31) (w1:=(wr.setCell ⟨E6,((D6):Int).toNat,none⟩ (.int .i64 m7))) ?hg ?ho ?hn ?hr ?_;(case ho=>rfl);(case hg=>rfl);(case hn=>rfl);(case hr=>first|(go_simp;done)|(go_simp;rfl));intro F9 hw;have hg:wr.grownBy F9 (some E6):=(by rw[hw];exact F8.2);have hp_:rI F9 w (fun _=>True) (.slice (some ⟨E6,0,none⟩) m6.length E7) E1:=(by rw[hw,E3.out];exact F8.1);clear F8;replace l8:=aM (hp_);replace HB:=aM ((by rw[hw];exact below_set (HB.out) F4.out:bw w F9));clear hg hw hp_)));go_wp2_with (first|((with_reducible refine gate_store (t:=3) (p:=70) rfl ?_);(try(rw[drewN_self wr];generalize hq_:World.drewN wr _=wr;have n0_:=aM (Kd.R_at hq_ l8.out);have n1_:=aM (below_at hq_ HB.out);clear hq_ l8 HB;have l8:=n0_;have HB:=n1_;clear n0_ n1_;(try(obtain⟨F6,F7⟩:=Kd.R_celln 0 l8.out ((D6):Int) (of_eq_true E4) (of_eq_true E5)));(try(have F8:=Kd.R_putg l8.out ((D6):Int) m7))));refine store_event (t:=3) (p:=70) (v:=?vo_w31) (w1:=(wr.setCell ⟨E6,((D6):Int).toNat,none⟩ (.int .i64 m7))) ?hg ?ho ?hn ?hr ?_;(case ho=>rfl);(case hg=>rfl);(case hn=>rfl);(case hr=>first|(go_simp;done)|(go_simp;rfl));intro F9 hw;have hg:wr.grownBy F9 (some E6):=(by rw[hw];exact F8.2);have hp_:rI F9 w (fun _=>True) (.slice (some ⟨E6,0,none⟩) m6.length E7) E1:=(by rw[hw,E3.out];exact F8.1);clear F8;replace l8:=aM (hp_);replace HB:=aM ((by rw[hw];exact below_set (HB.out) F4.out:bw w F9));clear hg hw hp_)))
           go_roundg k3
           case measure=>have:=f6.out;have:=l7.out;have:=m9.out;omega
           case rel=>exact⟨(E1),(wrap64 (l6+1)),sD,H',⟨by have:=f6.out;have:=l7.out;have:=m9.out;omega⟩,⟨rX l8.out⟩,⟨pB⟩⟩
       ·replace H:=bS H;obtain⟨⟨G5,G9⟩,H5,H⟩:=H;replace H:(some (G5,G9))=some (b4,b5):=H;have H6:=aM H5;clear H5;obtain⟨rfl,rfl⟩:=q2 H;obtain⟨H7,H8,rfl⟩:=Kd.R_slice l8.out;have fl_:True:=trivial;repeat((first|clear fl_|go_quiet (first|(go_at_call 110;(with_reducible refine(Ezv.calls k2 (fun k_=>some k_=(.slice H7 l5.length H8:Value).ownBlock) (.slice H7 l5.length H8) l5 G5 G9 w _ ?_ ?_ H6.out).mono ?_);exact pB;exact Kd.R_tight rfl l8.out;rintro e H9 ⟨I0,rfl,I3,hb,hkp⟩;have I4:=aM (Kd.R_mono (ok':=fun k_=>True) I3 (fun k_ hk_=>trivial));replace HB:=aM (hb);clear l8 hb hkp I3)));go_wp2_with (first|(go_at_call 110;(with_reducible refine(Ezv.calls k2 (fun k_=>some k_=(.slice H7 l5.length H8:Value).ownBlock) (.slice H7 l5.length H8) l5 G5 G9 w _ ?_ ?_ H6.out).mono ?_);exact pB;exact Kd.R_tight rfl l8.out;rintro e H9 ⟨I0,rfl,I3,hb,hkp⟩;have I4:=aM (Kd.R_mono (ok':=fun k_=>True) I3 (fun k_ hk_=>trivial));replace HB:=aM (hb);clear l8 hb hkp I3)))
        go_ret2
        exact⟨_,by first|rfl|(simp [errW_none,errW_some] <;> rfl)|(simp only[← f9];first|rfl|(simp [errW_none,errW_some] <;> rfl))|(simp [*,errW_none,errW_some] <;> rfl),rX I4.out,pB⟩
    ·rw[if_neg c9] at H;exact absurd H (by simp)

end Go.Proofs.Ytbnpcplckcipfaa.Print
