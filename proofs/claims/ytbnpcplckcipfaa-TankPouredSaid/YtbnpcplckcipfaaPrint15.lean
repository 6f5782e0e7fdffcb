import Derived.Test.YtbnpcplckcipfaaPrint0
namespace Go.Proofs.Ytbnpcplckcipfaa.Print
open Go.RowKit Go.Proofs.YtbnpcplckcipfaaW.PrintWords Go.Proofs.YtbnpcplckcipfaaW.PrintLast Go.Proofs.YtbnpcplckcipfaaW.PrintMore
attribute [local go_sem] dF dG eB eD dm dn dH dI
set_option linter.unusedVariables false
set_option maxRecDepth 100000
set_option maxHeartbeats 8000000
set_option linter.unusedSimpArgs false

def Bzb.l0:Nat→List Int→List Int→Int→Option (Bool)
 | 0,_,_,_=>none
 | k+1,x0,x1,x5=>if x5 < (x0.length:Int) then(if 0≤x5 then(if x5 < (x1.length:Int) then(if(rd x0 x5)=(rd x1 x5) then(Bzb.l0 k x0 x1 (wrap64 (x5+1))) else(some false)) else(none)) else(none)) else(some true)
def Bzb.f (k:Nat) (l0:List Int) (l1:List Int):Option (Bool):=if(l0.length:Int)=(l1.length:Int) then(Bzb.l0 k l0 l1 0) else(some false)
theorem Bzb.mono_l:∀ k,(∀ a6 a7 a8,LeO (Bzb.l0 k a6 a7 a8) (Bzb.l0 (k+1) a6 a7 a8))
 | 0=>fun _ _ _ r h=>by simp [Bzb.l0] at h
 | k+1=>by
  have ih0:=Bzb.mono_l k
  ·intro a6 a7 a8;unfold Bzb.l0;exact mM
theorem Bzb.mono:∀ a6 a7 k,LeO (Bzb.f k a6 a7) (Bzb.f (k+1) a6 a7):=by
 intro a6 a7 k;have ih0:=Bzb.mono_l k;unfold Bzb.f;exact mM
theorem Bzb.calls (k:Nat) (a6:Option Addr) (a7:Nat) (l0:List Int) (a8:Option Addr) (a9:Nat) (l1:List Int) (r:Bool) (w:World) (b4:cI w a6 l0) (b5:l0.length≤a7) (b6:cI w a8 l1) (b7:l1.length≤a9) (h:Bzb.f k l0 l1=some r) :
  Calls Try.prog 42 #[.slice a6 l0.length a7,.slice a8 l1.length a9] w fun e w'=>e=.returned (.bool r)∧dC w w':=by
 have b8:=aM b4;have b9:=aM b5;clear b4 b5;have d6:=aM b6;have d7:=aM b7;clear b6 b7;have H:(if(l0.length:Int)=(l1.length:Int) then(Bzb.l0 k l0 l1 0) else(some false))=some r:=h
 clear h;by_cases c3:(l0.length:Int)=(l1.length:Int)
 ·rw[if_pos c3] at H;obtain⟨d8,d9⟩:=bE c3;have e6:(l0.length == l1.length)=true:=by first|simpa using c3|(simp at c3 ⊢;omega)
  clear c3;have H':=aM H;clear H;go_enter Try.func42,Try.ntmps42
  go_wp2
  repeat(go_quiet (fail);try go_wp2)
  go_loopg [5] k (fun kq e7 w'=>∃ (f6:Int),e7=.int .i64 f6∧ae (Bzb.l0 kq l0 l1 f6=some r)∧ae (kq≤k)∧dC w w')
  case atStart=>exact⟨(0),sD,H',⟨Nat.le_refl _⟩,dR⟩
  case round =>
   clear H';try clear a9
   obtain⟨f6,rfl,HA,f7,⟨f8,rfl⟩⟩:=hrel;cases gk with
   | zero=>exact absurd HA.out (by simp [Bzb.l0])
   | succ k1 =>
    have H:=HA.out;clear HA;simp only[Bzb.l0] at H;replace H:=iD H;rcases H with⟨g5,H⟩|⟨g5,H⟩
    ·obtain⟨g8,H⟩:=iN H;obtain⟨g9,H⟩:=iN H;replace H:=iE H;rcases H with⟨j3,j4,H⟩|⟨c7,j3,j4,H⟩
     ·have H':=aM H;clear H;obtain⟨j5,j6,j7,j8,j9⟩:=aI b8.out f6;cases j6;obtain⟨l5,l6,l7,l8,l9⟩:=aI d6.out f6;cases l6;go_wp2
      repeat(go_quiet (fail);try go_wp2)
      go_roundg k1
      case measure=>have:=f7.out;omega
      case rel=>exact⟨(wrap64 (f6+1)),sD,H',⟨by have:=f7.out;omega⟩,dR⟩
     ·obtain rfl:=Option.some.inj H;obtain⟨j5,j6,j7,j8,j9⟩:=aI b8.out f6;cases j6;obtain⟨l5,l6,l7,l8,l9⟩:=aI d6.out f6;cases l6;go_wp2
      repeat(go_quiet (fail);try go_wp2)
      go_ret
      exact⟨sD,dR⟩
    ·obtain rfl:=Option.some.inj H;go_wp2
     repeat(go_quiet (fail);try go_wp2)
     go_ret
     exact⟨sD,dR⟩
 ·rw[if_neg c3] at H;obtain⟨d8,d9⟩:=bI c3;have e6:(l0.length == l1.length)=false:=by first|simpa using c3|(simp at c3 ⊢;omega)
  obtain rfl:=Option.some.inj H;go_enter Try.func42,Try.ntmps42
  go_wp2
  repeat(go_quiet (fail);try go_wp2)
  go_ret
  exact⟨sD,dR⟩

def Czw.f (k:Nat) (a0_0:Bool) (l0_1:List Int) (l0_2:List Int) (a1_0:Bool) (l1_1:List Int) (l1_2:List Int):Option (Bool):=if(a0_0 == a1_0)=true then((Bzb.f k l0_1 l1_1).bind fun t293=>(if t293=true then((Bzb.f k l0_2 l1_2).bind fun t294=>(some t294)) else(some false))) else(some false)
theorem Czw.mono:∀ a6 a7 a8 a9 b4 b5 k,LeO (Czw.f k a6 a7 a8 a9 b4 b5) (Czw.f (k+1) a6 a7 a8 a9 b4 b5):=by
 intro a6 a7 a8 a9 b4 b5 k;unfold Czw.f;have i0:=@Bzb.mono;exact mM
theorem Czw.calls (k:Nat) (a6:Bool) (a7:Option Addr) (a8:Nat) (a9:List Int) (b4:Option Addr) (b5:Nat) (b6:List Int) (b7:Bool) (b8:Option Addr) (b9:Nat) (d6:List Int) (d7:Option Addr) (d8:Nat) (d9:List Int) (r:Bool) (w:World) (e6:cI w a7 a9) (e7:a9.length≤a8) (f6:cI w b4 b6) (f7:b6.length≤b5) (f8:cI w b8 d6) (g5:d6.length≤b9) (g8:cI w d7 d9) (g9:d9.length≤d8) (h:Czw.f k a6 a9 b6 b7 d6 d9=some r) :
  Calls Try.prog 19 #[.agg #[.bool a6,.slice a7 a9.length a8,.slice b4 b6.length b5],.agg #[.bool b7,.slice b8 d6.length b9,.slice d7 d9.length d8]] w fun e w'=>e=.returned (.bool r)∧bw w w':=by
 have hu33:=Try.underlying33;have j3:=aM e6;have j4:=aM e7;clear e6 e7;have j5:=aM f6;have j6:=aM f7;clear f6 f7;have j7:=aM f8;have j8:=aM g5;clear f8 g5;have j9:=aM g8;have l5:=aM g9;clear g8 g9;have HB:=aM (Below.refl w.heap.size w);have H:(if(a6 == b7)=true then((Bzb.f k a9 d6).bind fun l6=>(if l6=true then((Bzb.f k b6 d9).bind fun l7=>(some l7)) else(some false))) else(some false))=some r:=h
 clear h;have l8:=aM H;clear H;go_enter Try.func19,Try.ntmps19
 go_upto_region 1 with (first|((with_reducible refine gd 2 rfl ?_);refine bx #[.bool a6,.slice a7 a9.length a8,.slice b4 b6.length b5] 33 ?_;intro l9 hg m0 m4 hb;have m5:=gA w hg;replace HB:=bB hb;clear hb hg)|((with_reducible refine gd 3 rfl ?_);refine bx #[.bool b7,.slice b8 d6.length b9,.slice d7 d9.length d8] 33 ?_;intro m7 hg m8 m9 hb;have n0:=gA w hg;have n8:=nl hg m4;have n9:=ng hg m4;replace m4:=kb m4 hb;replace HB:=bB hb;clear hb hg))
 have H:=l8.out;clear l8;by_cases c6:(a6 == b7)=true
 ·rw[if_pos c6] at H;have o0:(a6 == b7)=true:=c6;(try(have o8:decide (a6=b7)=true:=by simpa using c6))
  (try(have o9:(a6 == b7)=true:=by simpa using c6))
  clear c6;obtain⟨l6,p9,H⟩:=bT H;(try dsimp only at H);by_cases c8:l6=true
  ·subst c8;rw[if_pos rfl] at H;replace H:=bS H;obtain⟨l7,r6,H⟩:=H;replace H:(some l7)=some r:=H;have r7:=aM r6;clear r6;obtain rfl:=Option.some.inj H;have r8:=n8.out;have r9:=n9.out;obtain⟨t4,t5,t6,t7,t8,t9⟩:=bk3 m4;obtain⟨z3,z4,z5,z6,z7,z8⟩:=bk3 m9;go_wp2_with (first|(go_at_call 42;(with_reducible refine(Bzb.calls k _ _ a9 _ _ d6 true _ ?_ ?_ ?_ ?_ p9.out).mono ?_);exact cB j3;exact j4.out;exact cB j7;exact j8.out;rintro e w' ⟨rfl,⟨nd,rfl⟩⟩)|(go_at_call 42;(with_reducible refine(Bzb.calls k _ _ b6 _ _ d9 l7 _ ?_ ?_ ?_ ?_ r7.out).mono ?_);exact cB j5;exact j6.out;exact cB j9;exact l5.out;rintro e w' ⟨rfl,⟨nd,rfl⟩⟩))
   go_ret
   exact⟨eW,pB⟩
  ·obtain rfl:=bN c8;rw[if_neg nF] at H
   obtain rfl:=Option.some.inj H;have z9:=n8.out;have B0:=n9.out;obtain⟨B5,B9,C0,C1,C2,C3⟩:=bk3 m4;obtain⟨C4,C6,C7,C8,C9,D4⟩:=bk3 m9;go_wp2_with (first|(go_at_call 42;(with_reducible refine(Bzb.calls k _ _ a9 _ _ d6 false _ ?_ ?_ ?_ ?_ p9.out).mono ?_);exact cB j3;exact j4.out;exact cB j7;exact j8.out;rintro e w' ⟨rfl,⟨nd,rfl⟩⟩))
   go_ret
   exact⟨eW,pB⟩
 ·rw[if_neg c6] at H;have o0:(a6 == b7)=false:=by simpa using c6
  (try(have o8:decide (a6=b7)=false:=by simpa using c6))
  (try(have o9:(a6 == b7)=false:=by simpa using c6))
  (try(have D5:¬ (a6=b7):=by simpa using c6))
  clear c6;obtain rfl:=Option.some.inj H;have D6:=n8.out;have D7:=n9.out;obtain⟨D8,D9,E0,E1,E2,E3⟩:=bk3 m4;obtain⟨E4,E5,E6,E7,E8,E9⟩:=bk3 m9;go_wp2
  go_ret
  exact⟨eW,pB⟩


def Azm.l0:Nat→List (S33)→List (S33)→Int→Option (Bool)
 | 0,_,_,_=>none
 | k+1,x0,x1,x5=>if x5 < (x0.length:Int) then(if 0≤x5 then(if x5 < (x1.length:Int) then((Czw.f k ((ag x0 x5).f0) ((ag x0 x5).f1) ((ag x0 x5).f2) ((ag x1 x5).f0) ((ag x1 x5).f1) ((ag x1 x5).f2)).bind fun t297=>(if t297=true then(Azm.l0 k x0 x1 (wrap64 (x5+1))) else(some false))) else(none)) else(none)) else(some true)
def Azm.f (k:Nat) (l0:List (S33)) (l1:List (S33)):Option (Bool):=if(l0.length:Int)=(l1.length:Int) then(Azm.l0 k l0 l1 0) else(some false)
theorem Azm.mono_l:∀ k,(∀ a6 a7 a8,LeO (Azm.l0 k a6 a7 a8) (Azm.l0 (k+1) a6 a7 a8))
 | 0=>fun _ _ _ r h=>by simp [Azm.l0] at h
 | k+1=>by
  have ih0:=Azm.mono_l k
  ·intro a6 a7 a8;unfold Azm.l0;have i0:=@Czw.mono;exact mM
theorem Azm.mono:∀ a6 a7 k,LeO (Azm.f k a6 a7) (Azm.f (k+1) a6 a7):=by
 intro a6 a7 k;have ih0:=Azm.mono_l k;unfold Azm.f;have i0:=@Czw.mono;exact mM
def Azm.T6:Bool × List (List Nat × List Nat):=(true,[([],[]),([],[]),([0,1],[0,1]),([2],[2]),([],[]),([],[]),([4,5],[4,5]),([6],[6]),([3,7],[3,7]),([8],[8])])
def Azm.B6:List Nat:=[0,0,3,7,0,0,48,112,255,511]
theorem Azm.ER:ik .any (opsOf Try.f24 6)=Azm.T6:=by kernel_rfl
theorem Azm.EF:gM Azm.T6.2 Azm.B6=true:=by kernel_rfl
theorem Azm.calls (k:Nat) (a6:Option Addr) (a7:Nat) (l0:List (S33)) (a8:Option Addr) (a9:Nat) (l1:List (S33)) (r:Bool) (w:World) (b4:Kd.C k33 w a6 l0.length l0) (b5:l0.length≤a7) (b6:Kd.C k33 w a8 l1.length l1) (b7:l1.length≤a9) (h:Azm.f k l0 l1=some r) :
  Calls Try.prog 24 #[.slice a6 l0.length a7,.slice a8 l1.length a9] w fun e w'=>e=.returned (.bool r)∧bw w w':=by
 have hu33:=Try.underlying33;have b8:=aM b4;have b9:=aM b5;clear b4 b5;have d6:=aM b6;have d7:=aM b7;clear b6 b7;have HB:=aM (Below.refl w.heap.size w);have H:(if(l0.length:Int)=(l1.length:Int) then(Azm.l0 k l0 l1 0) else(some false))=some r:=h
 clear h;by_cases c3:(l0.length:Int)=(l1.length:Int)
 ·rw[if_pos c3] at H;obtain⟨d8,d9⟩:=bE c3;have e6:(l0.length == l1.length)=true:=by first|simpa using c3|(simp at c3 ⊢;omega)
  clear c3;have H':=aM H;clear H;go_enter Try.func24,Try.ntmps24
  go_wp2
  go_loopg [5] k (fun kq e7 w'=>∃ (f6:Int),e7=.int .i64 f6∧ae (Azm.l0 kq l0 l1 f6=some r)∧ae (kq≤k)∧ae (bw w w'))
  case atStart=>exact⟨(0),sD,H',⟨Nat.le_refl _⟩,⟨pB⟩⟩
  case round =>
   clear H';try clear a9
   obtain⟨f6,rfl,HA,f7,HB⟩:=hrel;cases gk with
   | zero=>exact absurd HA.out (by simp [Azm.l0])
   | succ k1 =>
    have H:=HA.out;clear HA;simp only[Azm.l0] at H;replace H:=iD H;rcases H with⟨f8,H⟩|⟨f8,H⟩
    ·obtain⟨g5,H⟩:=iN H;obtain⟨g8,H⟩:=iN H;obtain⟨g9,j3,H⟩:=bT H;(try dsimp only at H);have j4:=aM H;clear H;try go_wp2
     have n0_:=aM (dA HB.out);clear HB;have HB:=n0_;clear n0_;obtain⟨j5,j6,j7,j8,j9,l5,l6,l7,l8,l9,m0,m4,m5⟩:=gT b8.out f6 (oE aS) (oE aS);have m6:=l8;have m7:=l7;have m8:=l6;cases l5
     replace l6:=hB HB l6;replace l7:=hB HB l7;replace l8:=hB HB l8;have m9:=aM m0;have n0:=aM l9;clear m0 l9;have n7:=aM m5;have n8:=aM m4;clear m5 m4;have n9:=eT (f6);have o0:=eU (f6) l0.length;obtain⟨o8,o9,p9,r6,r7,r8,r9,t4,t5,t6,t7,t8,t9⟩:=gT d6.out f6 (oE aS) (oE aS);have z3:=t5;have z4:=t4;have z5:=r9;cases r8
     replace r9:=hB HB r9;replace t4:=hB HB t4;replace t5:=hB HB t5;have z6:=aM t7;have z7:=aM t6;clear t7 t6;have z8:=aM t9;have z9:=aM t8;clear t9 t8;have B0:=eT (f6);have B5:=eU (f6) l1.length;refine gz (n:=10) (S:=fun w'=>w'.cell? (j5.add ((f6).toNat * 3))=some (.bool ((ag l0 f6).f0))∧w'.cell? ⟨(j5.add ((f6).toNat * 3)).block,(j5.add ((f6).toNat * 3)).off+1,none⟩=some (.slice j6 ((ag l0 f6).f1).length j7)∧w'.cell? ⟨(j5.add ((f6).toNat * 3)).block,(j5.add ((f6).toNat * 3)).off+2,none⟩=some (.slice j8 ((ag l0 f6).f2).length j9)∧w'.cell? (o8.add ((f6).toNat * 3))=some (.bool ((ag l1 f6).f0))∧w'.cell? ⟨(o8.add ((f6).toNat * 3)).block,(o8.add ((f6).toNat * 3)).off+1,none⟩=some (.slice o9 ((ag l1 f6).f1).length p9)∧w'.cell? ⟨(o8.add ((f6).toNat * 3)).block,(o8.add ((f6).toNat * 3)).off+2,none⟩=some (.slice r6 ((ag l1 f6).f2).length r7)) (ds:=[]) (bA 10 0) (by kernel_rfl) rfl rfl ⟨(hB HB m8),(hB HB m7),(hB HB m6),(hB HB z5),(hB HB z4),(hB HB z3)⟩ (fun hHeld=>?_);refine fF Azm.ER Azm.EF (fun HT_ HW_=>?_)
     generalize wr.drew=B9 at HB m9 n7 z6 z8 l6 l7 l8 r9 t4 t5 hHeld ⊢;refine pS 0 17 HT_ ?_;refine pS 1 18 HT_ ?_;refine pS 2 19 HT_ ?_;refine pS 4 21 HT_ ?_;refine pS 5 22 HT_ ?_;refine pS 6 23 HT_ ?_;refine tU 3 20 HT_ HW_ hHeld ?_;refine tU 7 24 HT_ HW_ hHeld ?_;refine oU 8 (some 25) HT_ fun K hK=>?_
     refine eH Try.func19 (by kernel_rfl) rfl #[.agg #[.bool ((ag l0 f6).f0),.slice j6 ((ag l0 f6).f1).length j7,.slice j8 ((ag l0 f6).f2).length j9],.agg #[.bool ((ag l1 f6).f0),.slice o9 ((ag l1 f6).f1).length p9,.slice r6 ((ag l1 f6).f2).length r7]] (by rfl) rfl rfl mA ?_
     with_reducible refine(Czw.calls k1 ((ag l0 f6).f0) _ _ ((ag l0 f6).f1) _ _ ((ag l0 f6).f2) ((ag l1 f6).f0) _ _ ((ag l1 f6).f1) _ _ ((ag l1 f6).f2) g9 _ ?side1 ?side2 ?side3 ?side4 ?side5 ?side6 ?side7 ?side8 j3.out).mono ?_
     (case side1=>exact cB m9)
     (case side2=>exact n0.out)
     (case side3=>exact cB n7)
     (case side4=>exact n8.out)
     (case side5=>exact cB z6)
     (case side6=>exact z7.out)
     (case side7=>exact cB z8)
     (case side8=>exact z9.out)
     rintro e C0 ⟨rfl,hb⟩;refine⟨_,rfl,?_⟩;have n0_:=bB hb;clear HB;have HB:=n0_;clear n0_ hb
     (try clear C1)
     (try clear hk)
     (try clear hi)
     refine hK.out _ _ ⟨(hB HB m8),(hB HB m7),(hB HB m6),(hB HB z5),(hB HB z4),(hB HB z3)⟩ (fun hHeld=>?_)
     clear hK K;refine nm 25 ?_;refine pS 9 26 HT_ ?_;refine gZ (il HT_.out (by kernel_rfl)) ?_
     go_upto_if 26 with (fail)
     have H:=j4.out;clear j4;by_cases C2:g9=true
     ·subst C2;rw[if_pos rfl] at H;have H':=aM H;clear H;go_wp2
      go_roundg k1
      case measure=>have:=f7.out;omega
      case rel=>exact⟨(wrap64 (f6+1)),sD,H',⟨by have:=f7.out;omega⟩,⟨pB⟩⟩
     ·obtain rfl:=bN C2;rw[if_neg nF] at H
      obtain rfl:=Option.some.inj H;go_wp2
      go_ret
      exact⟨eW,pB⟩
    ·obtain rfl:=Option.some.inj H;go_wp2
     go_ret
     exact⟨eW,pB⟩
 ·rw[if_neg c3] at H;obtain⟨d8,d9⟩:=bI c3;have e6:(l0.length == l1.length)=false:=by first|simpa using c3|(simp at c3 ⊢;omega)
  obtain rfl:=Option.some.inj H;go_enter Try.func24,Try.ntmps24
  go_wp2
  go_ret
  exact⟨eW,pB⟩

def Ezj.f (k:Nat) (a0_0:Int) (l0_1:List (S33)) (a1_0:Int) (l1_1:List (S33)):Option (Bool):=if a0_0=a1_0 then((Azm.f k l0_1 l1_1).bind fun t300=>(some t300)) else(some false)
theorem Ezj.mono:∀ a6 a7 a8 a9 k,LeO (Ezj.f k a6 a7 a8 a9) (Ezj.f (k+1) a6 a7 a8 a9):=by
 intro a6 a7 a8 a9 k;unfold Ezj.f;have i0:=@Azm.mono;exact mM
theorem Ezj.calls (k:Nat) (a6:Int) (a7:Option Addr) (a8:Nat) (a9:List (S33)) (b4:Int) (b5:Option Addr) (b6:Nat) (b7:List (S33)) (r:Bool) (w:World) (b8:Kd.C k33 w a7 a9.length a9) (b9:a9.length≤a8) (d6:Kd.C k33 w b5 b7.length b7) (d7:b7.length≤b6) (h:Ezj.f k a6 a9 b4 b7=some r) :
  Calls Try.prog 16 #[.agg #[.int .i64 a6,.slice a7 a9.length a8],.agg #[.int .i64 b4,.slice b5 b7.length b6]] w fun e w'=>e=.returned (.bool r)∧bw w w':=by
 have hu24:=Try.underlying24;have d8:=aM b8;have d9:=aM b9;clear b8 b9;have e6:=aM d6;have e7:=aM d7;clear d6 d7;have HB:=aM (Below.refl w.heap.size w);have H:(if a6=b4 then((Azm.f k a9 b7).bind fun f6=>(some f6)) else(some false))=some r:=h
 clear h;have f7:=aM H;clear H;go_enter Try.func16,Try.ntmps16
 go_upto_region 1 with (first|((with_reducible refine gd 2 rfl ?_);refine bx #[.int .i64 a6,.slice a7 a9.length a8] 24 ?_;intro f8 hg g5 g8 hb;have g9:=gA w hg;replace HB:=bB hb;clear hb hg)|((with_reducible refine gd 3 rfl ?_);refine bx #[.int .i64 b4,.slice b5 b7.length b6] 24 ?_;intro j4 hg j5 j6 hb;have j7:=gA w hg;have j9:=nl hg g8;have l5:=ng hg g8;replace g8:=kb g8 hb;replace HB:=bB hb;clear hb hg))
 have H:=f7.out;clear f7;replace H:=iE H;rcases H with⟨l6,l7,H⟩|⟨c6,l6,l7,H⟩
 ·replace H:=bS H;obtain⟨f6,l8,H⟩:=H;replace H:(some f6)=some r:=H;have l9:=aM l8;clear l8;obtain rfl:=Option.some.inj H;have m0:=j9.out;have m4:=l5.out;obtain⟨m5,m6,m7,m8⟩:=bk2 g8;obtain⟨m9,n0,n7,n8⟩:=bk2 j6;go_wp2_with (first|(go_at_call 24;(with_reducible refine(Azm.calls k _ _ a9 _ _ b7 f6 _ ?_ ?_ ?_ ?_ l9.out).mono ?_);exact cB d8;exact d9.out;exact cB e6;exact e7.out;rintro e n9 ⟨rfl,hb⟩;replace g8:=kb g8 hb;replace j6:=kb j6 hb;replace HB:=bB hb;clear hb))
  go_ret
  exact⟨eW,pB⟩
 ·obtain rfl:=Option.some.inj H;have o0:=j9.out;have o8:=l5.out;obtain⟨o9,p9,r6,r7⟩:=bk2 g8;obtain⟨r8,r9,t4,t5⟩:=bk2 j6;go_wp2
  go_ret
  exact⟨eW,pB⟩

end Go.Proofs.Ytbnpcplckcipfaa.Print
