import Derived.Test.YtokkiljkgejnhaaPrint0
import Derived.Test.YtokkiljkgejnhaaPrint25
namespace Go.Proofs.Ytokkiljkgejnhaa.Print
open Go.RowKit Go.Proofs.YtokkiljkgejnhaaW.PrintWords Go.Proofs.YtokkiljkgejnhaaW.PrintLast Go.Proofs.YtokkiljkgejnhaaW.PrintMore
attribute [local go_sem] max2_int min2_int max_two min_two max_three min_three max_four min_four
set_option linter.unusedVariables false
set_option maxRecDepth 100000
set_option maxHeartbeats 8000000
set_option linter.unusedSimpArgs false

def Azf.l0:Nat→List Int→List Int→Int→Option (Bool)
 | 0,_,_,_=>none
 | k+1,x0,x1,x5=>if x5 < (x0.length:Int) then(if 0≤x5 then(if x5 < (x1.length:Int) then(if(rd x0 x5)=(rd x1 x5) then(Azf.l0 k x0 x1 (wrap64 (x5+1))) else(some false)) else(none)) else(none)) else(some true)
def Azf.f (k:Nat) (l0:List Int) (l1:List Int):Option (Bool):=if(l0.length:Int)=(l1.length:Int) then(Azf.l0 k l0 l1 0) else(some false)
theorem Azf.mono_l:∀ k,(∀ a6 a7 a8,LeO (Azf.l0 k a6 a7 a8) (Azf.l0 (k+1) a6 a7 a8))
 | 0=>fun _ _ _ r h=>by simp [Azf.l0] at h
 | k+1=>by
  have ih0:=Azf.mono_l k
  ·intro a6 a7 a8;unfold Azf.l0;exact mM
theorem Azf.mono:∀ a6 a7 k,LeO (Azf.f k a6 a7) (Azf.f (k+1) a6 a7):=by
 intro a6 a7 k;have ih0:=Azf.mono_l k;unfold Azf.f;exact mM
theorem Azf.calls (k:Nat) (a6:Option Addr) (a7:Nat) (l0:List Int) (a8:Option Addr) (b4:Nat) (l1:List Int) (r:Bool) (w:World) (b5:Kd.C (Kd.int .i64) w a6 l0.length l0) (b6:l0.length≤a7) (b7:Kd.C (Kd.int .i64) w a8 l1.length l1) (b8:l1.length≤b4) (h:Azf.f k l0 l1=some r) :
  Calls Try.prog 46 #[.slice a6 l0.length a7,.slice a8 l1.length b4] w fun e w'=>e=.returned (.bool r)∧Drawn0 w w':=by
 have b9:=aM b5;have d0:=aM b6;clear b5 b6;have d6:=aM b7;have d7:=aM b8;clear b7 b8;have H:(if(l0.length:Int)=(l1.length:Int) then(Azf.l0 k l0 l1 0) else(some false))=some r:=h
 clear h;by_cases c3:(l0.length:Int)=(l1.length:Int)
 ·rw[if_pos c3] at H;have d8:((l0.length:Int) == (l1.length:Int))=true:=beq_iff_eq.mpr c3;have d9:((l0.length:Int) != (l1.length:Int))=false:=bne_eq_false_iff_eq.mpr c3;have e6:(l0.length == l1.length)=true:=by first|simpa using c3|(simp at c3 ⊢;omega)
  clear c3;have H':=aM H;clear H;go_enter Try.func46,Try.ntmps46
  go_wp2
  repeat(go_quiet (fail);try go_wp2)
  go_loopg [5] k (fun kq e7 w'=>∃ (e8:Int),e7=.int .i64 e8∧Aside0 (Azf.l0 kq l0 l1 e8=some r)∧Aside0 (kq≤k)∧Drawn0 w w')
  case atStart=>exact⟨(0),sD,H',⟨Nat.le_refl _⟩,dR⟩
  case round =>
   clear H';try clear b4
   try clear e9
   try clear c3
   try clear d8
   try clear d9
   try clear e6
   obtain⟨e8,rfl,HA,f3,⟨f4,rfl⟩⟩:=hrel;cases gk with
   | zero=>exact absurd HA.out (by simp [Azf.l0])
   | succ k1 =>
    have H:=HA.out;clear HA;simp only[Azf.l0] at H;by_cases c4:e8 < (l0.length:Int)
    ·rw[if_pos c4] at H;have f6:=dE c4;clear c4;obtain⟨f9,H⟩:=iN H;obtain⟨g4,H⟩:=iN H;by_cases c7:(rd l0 e8)=(rd l1 e8)
     ·rw[if_pos c7] at H;have g5:((rd l0 e8) == (rd l1 e8))=true:=beq_iff_eq.mpr c7;have g6:((rd l0 e8) != (rd l1 e8))=false:=bne_eq_false_iff_eq.mpr c7;clear c7;have H':=aM H;clear H;obtain⟨g7,g8,g9,j5,j6⟩:=aI b9.out e8;cases g8;obtain⟨j7,j8,j9,l5,l6⟩:=aI d6.out e8;cases j8;go_wp2
      repeat(go_quiet (fail);try go_wp2)
      go_roundg k1
      case measure=>have:=f3.out;omega
      case rel=>exact⟨(wrap64 (e8+1)),sD,H',⟨by have:=f3.out;omega⟩,dR⟩
     ·rw[if_neg c7] at H;have g5:((rd l0 e8) == (rd l1 e8))=false:=beq_eq_false_iff_ne.mpr c7;have g6:((rd l0 e8) != (rd l1 e8))=true:=bne_iff_ne.mpr c7;obtain rfl:=Option.some.inj H;obtain⟨g7,g8,g9,j5,j6⟩:=aI b9.out e8;cases g8;obtain⟨j7,j8,j9,l5,l6⟩:=aI d6.out e8;cases j8;go_wp2
      repeat(go_quiet (fail);try go_wp2)
      go_ret
      exact⟨sD,dR⟩
    ·rw[if_neg c4] at H;have f6:decide (e8 < (l0.length:Int))=false:=decide_eq_false c4;clear c4;obtain rfl:=Option.some.inj H;go_wp2
     repeat(go_quiet (fail);try go_wp2)
     go_ret
     exact⟨sD,dR⟩
 ·rw[if_neg c3] at H;have d8:((l0.length:Int) == (l1.length:Int))=false:=beq_eq_false_iff_ne.mpr c3;have d9:((l0.length:Int) != (l1.length:Int))=true:=bne_iff_ne.mpr c3;have e6:(l0.length == l1.length)=false:=by first|simpa using c3|(simp at c3 ⊢;omega)
  obtain rfl:=Option.some.inj H;go_enter Try.func46,Try.ntmps46
  go_wp2
  repeat(go_quiet (fail);try go_wp2)
  go_ret
  exact⟨sD,dR⟩

def Azm.f (k:Nat) (a0_0:Bool) (l0_1:List Int) (l0_2:List Int) (a1_0:Bool) (l1_1:List Int) (l1_2:List Int):Option (Bool):=if(a0_0 == a1_0)=true then((Azf.f k l0_1 l1_1).bind fun t432=>(if t432=true then((Azf.f k l0_2 l1_2).bind fun t433=>(some t433)) else(some false))) else(some false)
theorem Azm.mono:∀ a6 a7 a8 b4 b5 b6 k,LeO (Azm.f k a6 a7 a8 b4 b5 b6) (Azm.f (k+1) a6 a7 a8 b4 b5 b6):=by
 intro a6 a7 a8 b4 b5 b6 k;unfold Azm.f;have i0:=@Azf.mono;exact mM
theorem Azm.calls (k:Nat) (a6:Bool) (a7:Option Addr) (a8:Nat) (b4:List Int) (b5:Option Addr) (b6:Nat) (b7:List Int) (b8:Bool) (b9:Option Addr) (d0:Nat) (d6:List Int) (d7:Option Addr) (d8:Nat) (d9:List Int) (r:Bool) (w:World) (e6:Kd.C (Kd.int .i64) w a7 b4.length b4) (e7:b4.length≤a8) (e8:Kd.C (Kd.int .i64) w b5 b7.length b7) (e9:b7.length≤b6) (f3:Kd.C (Kd.int .i64) w b9 d6.length d6) (f4:d6.length≤d0) (f6:Kd.C (Kd.int .i64) w d7 d9.length d9) (f9:d9.length≤d8) (h:Azm.f k a6 b4 b7 b8 d6 d9=some r) :
  Calls Try.prog 27 #[.agg #[.bool a6,.slice a7 b4.length a8,.slice b5 b7.length b6],.agg #[.bool b8,.slice b9 d6.length d0,.slice d7 d9.length d8]] w fun e w'=>e=.returned (.bool r)∧Below w.heap.size w w':=by
 have hu38:=Try.underlying38;have g4:=aM e6;have g5:=aM e7;clear e6 e7;have g6:=aM e8;have g7:=aM e9;clear e8 e9;have g8:=aM f3;have g9:=aM f4;clear f3 f4;have j5:=aM f6;have j6:=aM f9;clear f6 f9;have HB:=aM (Below.refl w.heap.size w);have H:(if(a6 == b8)=true then((Azf.f k b4 d6).bind fun j7=>(if j7=true then((Azf.f k b7 d9).bind fun j8=>(some j8)) else(some false))) else(some false))=some r:=h
 clear h;by_cases c3:(a6 == b8)=true
 ·rw[if_pos c3] at H;have j9:(a6 == b8)=true:=c3;(try(have l5:decide (a6=b8)=true:=by simpa using c3))
  (try(have l6:(a6 == b8)=true:=by simpa using c3))
  clear c3;obtain⟨j7,l7,H⟩:=bT H;(try dsimp only at H);by_cases c5:j7=true
  ·subst c5;rw[if_pos rfl] at H;replace H:=bS H;obtain⟨j8,l8,H⟩:=H;replace H:(some j8)=some r:=H;have l9:=aM l8;clear l8;obtain rfl:=Option.some.inj H;go_enter Try.func27,Try.ntmps27
   go_wp2_with (first|((with_reducible refine gd 2 rfl ?_);refine bx #[.bool a6,.slice a7 b4.length a8,.slice b5 b7.length b6] 38 ?_;intro m0 hg m2 m3 hb;have m4:=gA w hg;have m5:=gA w hg;replace HB:=bB hb;clear hb hg)|((with_reducible refine gd 3 rfl ?_);refine bx #[.bool b8,.slice b9 d6.length d0,.slice d7 d9.length d8] 38 ?_;intro m6 hg m7 m8 hb;have m9:=gA w hg;have n0:=gA w hg;have n6:=nl hg m3;have n7:=ng hg m3;replace m3:=kb m3 hb;replace HB:=bB hb;clear hb hg;have n8:=n6.out;have n9:=n7.out;obtain⟨o0,o8,o9,p0,p4,p5⟩:=bk3 m3;obtain⟨p9,r5,r6,r7,r8,r9⟩:=bk3 m8)|(go_at_call 46;(with_reducible refine(Azf.calls k _ _ b4 _ _ d6 true _ ?_ ?_ ?_ ?_ l7.out).mono ?_);exact cB g4;exact g5.out;exact cB g8;exact g9.out;rintro e w' ⟨rfl,⟨nd,rfl⟩⟩)|(go_at_call 46;(with_reducible refine(Azf.calls k _ _ b7 _ _ d9 j8 _ ?_ ?_ ?_ ?_ l9.out).mono ?_);exact cB g6;exact g7.out;exact cB j5;exact j6.out;rintro e w' ⟨rfl,⟨nd,rfl⟩⟩))
   go_ret
   exact⟨eW,pB⟩
  ·obtain rfl:=bN c5;rw[if_neg nF] at H
   obtain rfl:=Option.some.inj H;go_enter Try.func27,Try.ntmps27
   go_wp2_with (first|((with_reducible refine gd 2 rfl ?_);refine bx #[.bool a6,.slice a7 b4.length a8,.slice b5 b7.length b6] 38 ?_;intro m0 hg t6 m3 hb;have m4:=gA w hg;have m5:=gA w hg;replace HB:=bB hb;clear hb hg)|((with_reducible refine gd 3 rfl ?_);refine bx #[.bool b8,.slice b9 d6.length d0,.slice d7 d9.length d8] 38 ?_;intro m6 hg t7 m8 hb;have m9:=gA w hg;have n0:=gA w hg;have n6:=nl hg m3;have n7:=ng hg m3;replace m3:=kb m3 hb;replace HB:=bB hb;clear hb hg;have t8:=n6.out;have z1:=n7.out;obtain⟨z2,z6,z7,z8,B0,B5⟩:=bk3 m3;obtain⟨B6,B8,B9,C0,C1,C2⟩:=bk3 m8)|(go_at_call 46;(with_reducible refine(Azf.calls k _ _ b4 _ _ d6 false _ ?_ ?_ ?_ ?_ l7.out).mono ?_);exact cB g4;exact g5.out;exact cB g8;exact g9.out;rintro e w' ⟨rfl,⟨nd,rfl⟩⟩))
   go_ret
   exact⟨eW,pB⟩
 ·rw[if_neg c3] at H;have j9:(a6 == b8)=false:=by simpa using c3
  (try(have l5:decide (a6=b8)=false:=by simpa using c3))
  (try(have l6:(a6 == b8)=false:=by simpa using c3))
  (try(have C3:¬ (a6=b8):=by simpa using c3))
  clear c3;obtain rfl:=Option.some.inj H;go_enter Try.func27,Try.ntmps27
  go_wp2_with (first|((with_reducible refine gd 2 rfl ?_);refine bx #[.bool a6,.slice a7 b4.length a8,.slice b5 b7.length b6] 38 ?_;intro m0 hg C4 m3 hb;have m4:=gA w hg;have m5:=gA w hg;replace HB:=bB hb;clear hb hg)|((with_reducible refine gd 3 rfl ?_);refine bx #[.bool b8,.slice b9 d6.length d0,.slice d7 d9.length d8] 38 ?_;intro m6 hg C6 m8 hb;have m9:=gA w hg;have n0:=gA w hg;have n6:=nl hg m3;have n7:=ng hg m3;replace m3:=kb m3 hb;replace HB:=bB hb;clear hb hg;have C7:=n6.out;have C8:=n7.out;obtain⟨C9,D0,D1,D2,D3,D4⟩:=bk3 m3;obtain⟨D5,D6,D7,D8,D9,E0⟩:=bk3 m8))
  go_ret
  exact⟨eW,pB⟩

def Dzj.f (k:Nat) (a0_0:Bool) (l0_1:List Int) (l0_2:List Int) (a1:Int) (a2:Int):Option (Bool):=(Czx.f k a1 a2).bind fun bt435=>(if bt435.2.2.2=0 then((Azm.f k a0_0 l0_1 l0_2 bt435.1 bt435.2.1 bt435.2.2.1).bind fun t444=>(some t444)) else(some false))
theorem Dzj.mono:∀ a6 a7 a8 b4 b5 k,LeO (Dzj.f k a6 a7 a8 b4 b5) (Dzj.f (k+1) a6 a7 a8 b4 b5):=by
 intro a6 a7 a8 b4 b5 k;unfold Dzj.f;have i0:=@Azm.mono;have i1:=@Czx.mono;exact mM
theorem Dzj.calls (k:Nat) (a6:Bool) (a7:Option Addr) (a8:Nat) (b4:List Int) (b5:Option Addr) (b6:Nat) (b7:List Int) (b8:Int) (b9:Int) (r:Bool) (w:World) (d0:Kd.C (Kd.int .i64) w a7 b4.length b4) (d6:b4.length≤a8) (d7:Kd.C (Kd.int .i64) w b5 b7.length b7) (d8:b7.length≤b6) (h:Dzj.f k a6 b4 b7 b8 b9=some r) :
  Calls Try.prog 21 #[.agg #[.bool a6,.slice a7 b4.length a8,.slice b5 b7.length b6],.int .i64 b8,.int .i64 b9] w fun e w'=>e=.returned (.bool r)∧Below w.heap.size w w':=by
 have hu38:=Try.underlying38;have d9:=aM d0;have e6:=aM d6;clear d0 d6;have e7:=aM d7;have e8:=aM d8;clear d7 d8;have HB:=aM (Below.refl w.heap.size w);have H:((Czx.f k b8 b9).bind fun e9=>(if e9.2.2.2=0 then((Azm.f k a6 b4 b7 e9.1 e9.2.1 e9.2.2.1).bind fun f3=>(some f3)) else(some false)))=some r:=h
 clear h;obtain⟨⟨f4,f6,f9,g4⟩,g5,H⟩:=bT H;(try dsimp only at H);by_cases c5:g4=0
 ·rw[if_pos c5] at H;have g6:(g4 == 0)=true:=beq_iff_eq.mpr c5;have g7:(g4 != 0)=false:=bne_eq_false_iff_eq.mpr c5;clear c5;replace H:=bS H;obtain⟨f3,g8,H⟩:=H;replace H:(some f3)=some r:=H;have g9:=aM g8;clear g8;obtain rfl:=Option.some.inj H;go_enter Try.func21,Try.ntmps21
  go_wp2_with (first|((with_reducible refine gd 3 rfl ?_);refine bx #[.bool a6,.slice a7 b4.length a8,.slice b5 b7.length b6] 38 ?_;intro j5 hg j6 j7 hb;have j8:=gA w hg;have j9:=gA w hg;replace HB:=bB hb;clear hb hg)|((with_reducible refine gc 38 rfl ?_);refine gC 38 (some 12) Try.func38 #[.int .i64 b8,.int .i64 b9] ?_;(with_reducible refine(Czx.calls k b8 b9 f4 f6 f9 g4 _ g5.out).mono ?_);rintro e l5 ⟨l6,l7,rfl,l8,l9,hb⟩;refine⟨_,rfl,?_⟩;have m0:=rL l8;have m2:=rL l9;replace j7:=kb j7 hb;replace HB:=bB hb;clear hb l8 l9)|((with_reducible refine gd 7 rfl ?_);refine bx #[.bool false,.slice none 0 0,.slice none 0 0] 38 ?_;intro m3 hg m4 m5 hb;have m6:=gA w hg;have m7:=gA w hg;have m8:=nl hg j7;have m9:=ng hg j7;replace m0:=rB m0 hb;replace m2:=rB m2 hb;replace j7:=kb j7 hb;replace HB:=bB hb;clear hb hg;have n0:=m9.out;have n6:=m8.out;obtain⟨n7,n8,n9,o0,o8,o9⟩:=bk3 m5;obtain⟨p0,p4,rfl⟩:=Kd.R_slice m0.out;obtain⟨p5,p9,rfl⟩:=Kd.R_slice m2.out;obtain⟨r5,r6,r7,r8,r9,t6⟩:=bk3 j7)|(go_at_call 27;(with_reducible refine(Azm.calls k a6 _ _ b4 _ _ b7 f4 _ _ f6 _ _ f9 f3 _ ?_ ?_ ?_ ?_ ?_ ?_ ?_ ?_ g9.out).mono ?_);exact Kd.C_below d9.out pB;exact e6.out;exact Kd.C_below e7.out pB;exact e8.out;(focus(refine(Kd.R_reads' (e:=3) (base:=w.heap.size) (ok:=fun k_=>some k_≠(.slice p5 f9.length p9:Value).ownBlock) (n:=f6.length) (c:=p4) ?_).2.2;exact(rT m0 m5)));exact lR m0;(focus(refine(Kd.R_reads' (e:=3) (base:=w.heap.size) (ok:=fun k_=>some k_≠(.slice p0 f6.length p4:Value).ownBlock) (n:=f9.length) (c:=p9) ?_).2.2;exact(rT m2 m5)));exact lR m2;rintro e t7 ⟨rfl,hb⟩;replace m0:=rb (rT m0 m5) hb;replace m2:=rb (rT m2 m5) hb;replace j7:=kF j7 m8 hb;replace m5:=kP (o':=.cells #[.bool f4,.slice p0 f6.length p4,.slice p5 f9.length p9] 38 (0,0)) m5 hb;replace HB:=bB hb;clear hb))
  go_ret
  exact⟨eW,pB⟩
 ·rw[if_neg c5] at H;have g6:(g4 == 0)=false:=beq_eq_false_iff_ne.mpr c5;have g7:(g4 != 0)=true:=bne_iff_ne.mpr c5;obtain rfl:=Option.some.inj H;go_enter Try.func21,Try.ntmps21
  go_wp2_with (first|((with_reducible refine gd 3 rfl ?_);refine bx #[.bool a6,.slice a7 b4.length a8,.slice b5 b7.length b6] 38 ?_;intro j5 hg t8 j7 hb;have j8:=gA w hg;have j9:=gA w hg;replace HB:=bB hb;clear hb hg)|((with_reducible refine gc 38 rfl ?_);refine gC 38 (some 12) Try.func38 #[.int .i64 b8,.int .i64 b9] ?_;(with_reducible refine(Czx.calls k b8 b9 f4 f6 f9 g4 _ g5.out).mono ?_);rintro e z1 ⟨l6,l7,rfl,l8,l9,hb⟩;refine⟨_,rfl,?_⟩;have m0:=rL l8;have m2:=rL l9;replace j7:=kb j7 hb;replace HB:=bB hb;clear hb l8 l9)|((with_reducible refine gd 7 rfl ?_);refine bx #[.bool false,.slice none 0 0,.slice none 0 0] 38 ?_;intro m3 hg z2 m5 hb;have m6:=gA w hg;have m7:=gA w hg;have m8:=nl hg j7;have m9:=ng hg j7;replace m0:=rB m0 hb;replace m2:=rB m2 hb;replace j7:=kb j7 hb;replace HB:=bB hb;clear hb hg;have z6:=m9.out;have z7:=m8.out;obtain⟨z8,B0,B5,B6,B8,B9⟩:=bk3 m5;obtain⟨C0,C1,rfl⟩:=Kd.R_slice m0.out;obtain⟨C2,C3,rfl⟩:=Kd.R_slice m2.out))
  go_ret
  exact⟨eW,pB⟩

def Ezq.f (k:Nat) (a0:Int):Option (Bool × List Int × List Int × Int):=(Czx.f k a0 1).bind fun bt446=>(some (bt446.1,bt446.2.1,bt446.2.2.1,bt446.2.2.2))
theorem Ezq.mono:∀ a6 k,LeO (Ezq.f k a6) (Ezq.f (k+1) a6):=by
 intro a6 k;unfold Ezq.f;have i0:=@Czx.mono;exact mM
theorem Ezq.calls (k:Nat) (a6:Int) (a7:Bool) (a8:List Int) (b4:List Int) (b5:Int) (w:World) (h:Ezq.f k a6=some (a7,a8,b4,b5)) :
  Calls Try.prog 28 #[.int .i64 a6] w fun e w'=>∃ v1_ v2_:Value,e=.returned (.tuple #[.agg #[.bool a7,v1_,v2_],.int .i64 b5])∧Kd.R (Kd.int .i64) 3 w' w.heap.size (fun k_=>some k_≠(v2_:Value).ownBlock) v1_ a8∧Kd.R (Kd.int .i64) 3 w' w.heap.size (fun k_=>some k_≠(v1_:Value).ownBlock) v2_ b4∧Below w.heap.size w w':=by
 have hu38:=Try.underlying38;have HB:=aM (Below.refl w.heap.size w);have H:((Czx.f k a6 1).bind fun b6=>(some (b6.1,b6.2.1,b6.2.2.1,b6.2.2.2)))=some (a7,a8,b4,b5):=h
 clear h;replace H:=bS H;obtain⟨⟨b7,b8,b9,d0⟩,d6,H⟩:=H;replace H:(some (b7,b8,b9,d0))=some (a7,a8,b4,b5):=H;have d7:=aM d6;clear d6;obtain⟨rfl,rfl,rfl,rfl⟩:=q4 H;go_enter Try.func28,Try.ntmps28
 go_wp2_with (first|((with_reducible refine gd 2 rfl ?_);refine bx #[.bool false,.slice none 0 0,.slice none 0 0] 38 ?_;intro d8 hg d9 e6 hb;have e7:=gA w hg;have e8:=gA w hg;replace HB:=bB hb;clear hb hg)|((with_reducible refine gc 38 rfl ?_);refine gC 38 (some 5) Try.func38 #[.int .i64 a6,.int .i64 1] ?_;(with_reducible refine(Czx.calls k a6 1 b7 b8 b9 d0 _ d7.out).mono ?_);rintro e e9 ⟨f3,f4,rfl,f6,f9,hb⟩;refine⟨_,rfl,?_⟩;have g4:=rL f6;have g5:=rL f9;replace e6:=kb e6 hb;replace HB:=bB hb;clear hb f6 f9;obtain⟨g6,g7,g8,g9,j5,j6⟩:=bk3 e6;obtain⟨j7,j8,rfl⟩:=Kd.R_slice g4.out;obtain⟨j9,l5,rfl⟩:=Kd.R_slice g5.out))
 refine bodyPost_ret (results_ct rfl _ _ d8 38 #[.bool b7,.slice j7 b8.length j8,.slice j9 b9.length l5] (0,0) _ rfl (kQ e6) Try.underlying38 rfl (by kernel_rfl)) rfl ?_
 exact⟨_,_,eW,by exact Kd.R_mono (rT g4 e6) (fun _ hk=>hk),by exact Kd.R_mono (rT g5 e6) (fun _ hk=>hk),pB⟩

end Go.Proofs.Ytokkiljkgejnhaa.Print
