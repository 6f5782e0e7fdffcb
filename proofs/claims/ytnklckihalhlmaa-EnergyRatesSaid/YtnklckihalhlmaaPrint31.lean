import Derived.Test.YtnklckihalhlmaaPrint0
namespace Go.Proofs.Ytnklckihalhlmaa.Print
open Go.RowKit Go.Proofs.YtnklckihalhlmaaW.PrintWords Go.Proofs.YtnklckihalhlmaaW.PrintLast Go.Proofs.YtnklckihalhlmaaW.PrintMore
attribute [local go_sem] max2_int min2_int max_two min_two max_three min_three max_four min_four
set_option linter.unusedVariables false
set_option maxRecDepth 100000
set_option maxHeartbeats 8000000
set_option linter.unusedSimpArgs false

def Czk.l0:Nat→List Int→List Int→Int→Option (Bool)
 | 0,_,_,_=>none
 | k+1,x0,x1,x5=>if x5 < (x0.length:Int) then(if 0≤x5 then(if x5 < (x1.length:Int) then(if(rd x0 x5)=(rd x1 x5) then(Czk.l0 k x0 x1 (wrap64 (x5+1))) else(some false)) else(none)) else(none)) else(some true)
def Czk.f (k:Nat) (l0:List Int) (l1:List Int):Option (Bool):=if(l0.length:Int)=(l1.length:Int) then(Czk.l0 k l0 l1 0) else(some false)
theorem Czk.mono_l:∀ k,(∀ y0 y1 y2,LeO (Czk.l0 k y0 y1 y2) (Czk.l0 (k+1) y0 y1 y2))
 | 0=>fun _ _ _ r h=>by simp [Czk.l0] at h
 | k+1=>by
  have ih0:=Czk.mono_l k
  ·intro y0 y1 y2;unfold Czk.l0;exact mM
theorem Czk.mono:∀ a0 a1 k,LeO (Czk.f k a0 a1) (Czk.f (k+1) a0 a1):=by
 intro a0 a1 k;have ih0:=Czk.mono_l k;unfold Czk.f;exact mM
theorem Czk.calls (k:Nat) (A0:Option Addr) (c0:Nat) (l0:List Int) (A1:Option Addr) (c1:Nat) (l1:List Int) (r:Bool) (w:World) (hr0:Kd.C (Kd.int .i64) w A0 l0.length l0) (hc0:l0.length≤c0) (hr1:Kd.C (Kd.int .i64) w A1 l1.length l1) (hc1:l1.length≤c1) (h:Czk.f k l0 l1=some r) :
  Calls Try.prog 41 #[.slice A0 l0.length c0,.slice A1 l1.length c1] w fun e w'=>e=.returned (.bool r)∧Drawn0 w w':=by
 have HR0:=aM hr0;have HC0:=aM hc0;clear hr0 hc0;have HR1:=aM hr1;have HC1:=aM hc1;clear hr1 hc1;have H:(if(l0.length:Int)=(l1.length:Int) then(Czk.l0 k l0 l1 0) else(some false))=some r:=h
 clear h;by_cases c3:(l0.length:Int)=(l1.length:Int)
 ·rw[if_pos c3] at H;have c3b0:((l0.length:Int) == (l1.length:Int))=true:=beq_iff_eq.mpr c3;have c3b1:((l0.length:Int) != (l1.length:Int))=false:=bne_eq_false_iff_eq.mpr c3;have c3b2:(l0.length == l1.length)=true:=by first|simpa using c3|(simp at c3 ⊢;omega)
  clear c3;have H':=aM H;clear H;go_enter Try.func41,Try.ntmps41
  go_wp2
  repeat(go_quiet (fail);try go_wp2)
  go_loopg [5] k (fun kq v5 w'=>∃ (x5_1:Int),v5=.int .i64 x5_1∧Aside0 (Czk.l0 kq l0 l1 x5_1=some r)∧Aside0 (kq≤k)∧Drawn0 w w')
  case atStart=>exact⟨(0),sD,H',⟨Nat.le_refl _⟩,dR⟩
  case round =>
   clear H';try clear c1
   try clear p2
   try clear c3
   try clear c3b0
   try clear c3b1
   try clear c3b2
   obtain⟨x5_1,rfl,HA,HK1,⟨m1,rfl⟩⟩:=hrel;cases gk with
   | zero=>exact absurd HA.out (by simp [Czk.l0])
   | succ k1 =>
    have H:=HA.out;clear HA;simp only[Czk.l0] at H;by_cases c4:x5_1 < (l0.length:Int)
    ·rw[if_pos c4] at H;have c4b0:=dE c4;clear c4;obtain⟨c5b0,H⟩:=iN H;obtain⟨c6b0,H⟩:=iN H;by_cases c7:(rd l0 x5_1)=(rd l1 x5_1)
     ·rw[if_pos c7] at H;have c7b0:((rd l0 x5_1) == (rd l1 x5_1))=true:=beq_iff_eq.mpr c7;have c7b1:((rd l0 x5_1) != (rd l1 x5_1))=false:=bne_eq_false_iff_eq.mpr c7;clear c7;have H':=aM H;clear H;obtain⟨ad437,e437,hx437_0,p437,q437⟩:=aI HR0.out x5_1;cases e437;obtain⟨ad438,e438,hx438_0,p438,q438⟩:=aI HR1.out x5_1;cases e438;go_wp2
      repeat(go_quiet (fail);try go_wp2)
      go_roundg k1
      case measure=>have:=HK1.out;omega
      case rel=>exact⟨(wrap64 (x5_1+1)),sD,H',⟨by have:=HK1.out;omega⟩,dR⟩
     ·rw[if_neg c7] at H;have c7b0:((rd l0 x5_1) == (rd l1 x5_1))=false:=beq_eq_false_iff_ne.mpr c7;have c7b1:((rd l0 x5_1) != (rd l1 x5_1))=true:=bne_iff_ne.mpr c7;obtain rfl:=Option.some.inj H;obtain⟨ad437,e437,hx437_0,p437,q437⟩:=aI HR0.out x5_1;cases e437;obtain⟨ad438,e438,hx438_0,p438,q438⟩:=aI HR1.out x5_1;cases e438;go_wp2
      repeat(go_quiet (fail);try go_wp2)
      go_ret
      exact⟨sD,dR⟩
    ·rw[if_neg c4] at H;have c4b0:decide (x5_1 < (l0.length:Int))=false:=decide_eq_false c4;clear c4;obtain rfl:=Option.some.inj H;go_wp2
     repeat(go_quiet (fail);try go_wp2)
     go_ret
     exact⟨sD,dR⟩
 ·rw[if_neg c3] at H;have c3b0:((l0.length:Int) == (l1.length:Int))=false:=beq_eq_false_iff_ne.mpr c3;have c3b1:((l0.length:Int) != (l1.length:Int))=true:=bne_iff_ne.mpr c3;have c3b2:(l0.length == l1.length)=false:=by first|simpa using c3|(simp at c3 ⊢;omega)
  obtain rfl:=Option.some.inj H;go_enter Try.func41,Try.ntmps41
  go_wp2
  repeat(go_quiet (fail);try go_wp2)
  go_ret
  exact⟨sD,dR⟩

def Dzv.f (k:Nat) (a0_0:Bool) (l0_1:List Int) (l0_2:List Int) (a1_0:Bool) (l1_1:List Int) (l1_2:List Int):Option (Bool):=if(a0_0 == a1_0)=true then((Czk.f k l0_1 l1_1).bind fun t441=>(if t441=true then((Czk.f k l0_2 l1_2).bind fun t442=>(some t442)) else(some false))) else(some false)
theorem Dzv.mono:∀ a0 a1 a2 a3 a4 a5 k,LeO (Dzv.f k a0 a1 a2 a3 a4 a5) (Dzv.f (k+1) a0 a1 a2 a3 a4 a5):=by
 intro a0 a1 a2 a3 a4 a5 k;unfold Dzv.f;have i0:=@Czk.mono;exact mM
theorem Dzv.calls (k:Nat) (a0_0:Bool) (A0_1:Option Addr) (c0_1:Nat) (l0_1:List Int) (A0_2:Option Addr) (c0_2:Nat) (l0_2:List Int) (a1_0:Bool) (A1_1:Option Addr) (c1_1:Nat) (l1_1:List Int) (A1_2:Option Addr) (c1_2:Nat) (l1_2:List Int) (r:Bool) (w:World) (hr0_1:Kd.C (Kd.int .i64) w A0_1 l0_1.length l0_1) (hc0_1:l0_1.length≤c0_1) (hr0_2:Kd.C (Kd.int .i64) w A0_2 l0_2.length l0_2) (hc0_2:l0_2.length≤c0_2) (hr1_1:Kd.C (Kd.int .i64) w A1_1 l1_1.length l1_1) (hc1_1:l1_1.length≤c1_1) (hr1_2:Kd.C (Kd.int .i64) w A1_2 l1_2.length l1_2) (hc1_2:l1_2.length≤c1_2) (h:Dzv.f k a0_0 l0_1 l0_2 a1_0 l1_1 l1_2=some r) :
  Calls Try.prog 23 #[.agg #[.bool a0_0,.slice A0_1 l0_1.length c0_1,.slice A0_2 l0_2.length c0_2],.agg #[.bool a1_0,.slice A1_1 l1_1.length c1_1,.slice A1_2 l1_2.length c1_2]] w fun e w'=>e=.returned (.bool r)∧Below w.heap.size w w':=by
 have hu39:=Try.underlying39;have HR0_1:=aM hr0_1;have HC0_1:=aM hc0_1;clear hr0_1 hc0_1;have HR0_2:=aM hr0_2;have HC0_2:=aM hc0_2;clear hr0_2 hc0_2;have HR1_1:=aM hr1_1;have HC1_1:=aM hc1_1;clear hr1_1 hc1_1;have HR1_2:=aM hr1_2;have HC1_2:=aM hc1_2;clear hr1_2 hc1_2;have HB:=aM (Below.refl w.heap.size w);have H:(if(a0_0 == a1_0)=true then((Czk.f k l0_1 l1_1).bind fun t441=>(if t441=true then((Czk.f k l0_2 l1_2).bind fun t442=>(some t442)) else(some false))) else(some false))=some r:=h
 clear h;by_cases c3:(a0_0 == a1_0)=true
 ·rw[if_pos c3] at H;have c3b0:(a0_0 == a1_0)=true:=c3;(try(have c3b1:decide (a0_0=a1_0)=true:=by simpa using c3))
  (try(have c3b2:(a0_0 == a1_0)=true:=by simpa using c3))
  clear c3;obtain⟨t441,A4,H⟩:=bT H;(try dsimp only at H);by_cases c5:t441=true
  ·subst c5;rw[if_pos rfl] at H;replace H:=bS H;obtain⟨t442,A60,H⟩:=H;replace H:(some t442)=some r:=H;have A6:=aM A60;clear A60;obtain rfl:=Option.some.inj H;go_enter Try.func23,Try.ntmps23
   go_wp2_with (first|((with_reducible refine gd 2 rfl ?_);refine bx #[.bool a0_0,.slice A0_1 l0_1.length c0_1,.slice A0_2 l0_2.length c0_2] 39 ?_;intro gb439 hg w7 BK439 hb;have GW439:=gA w hg;have GE439:=gA w hg;replace HB:=bB hb;clear hb hg)|((with_reducible refine gd 3 rfl ?_);refine bx #[.bool a1_0,.slice A1_1 l1_1.length c1_1,.slice A1_2 l1_2.length c1_2] 39 ?_;intro gb440 hg w8 BK440 hb;have GW440:=gA w hg;have GE440:=gA w hg;have NB439_440:=nl hg BK439;have NB440_439:=ng hg BK439;replace BK439:=kb BK439 hb;replace HB:=bB hb;clear hb hg;have hnb9:=NB439_440.out;have hnc9:=NB440_439.out;obtain⟨hcz10_0,hcz10_1,hcz10_2,hfz10_0,hfz10_1,hfz10_2⟩:=bk3 BK439;obtain⟨hcz11_0,hcz11_1,hcz11_2,hfz11_0,hfz11_1,hfz11_2⟩:=bk3 BK440)|(go_at_call 41;(with_reducible refine(Czk.calls k _ _ l0_1 _ _ l1_1 true _ ?side1 ?side2 ?side3 ?side4 A4.out).mono ?_);(case side1=>exact cB HR0_1);(case side2=>exact HC0_1.out);(case side3=>exact cB HR1_1);(case side4=>exact HC1_1.out);rintro e w' ⟨rfl,⟨nd,rfl⟩⟩)|(go_at_call 41;(with_reducible refine(Czk.calls k _ _ l0_2 _ _ l1_2 t442 _ ?side1 ?side2 ?side3 ?side4 A6.out).mono ?_);(case side1=>exact cB HR0_2);(case side2=>exact HC0_2.out);(case side3=>exact cB HR1_2);(case side4=>exact HC1_2.out);rintro e w' ⟨rfl,⟨nd,rfl⟩⟩))
   go_ret
   exact⟨eW,pB⟩
  ·obtain rfl:=bN c5;rw[if_neg nF] at H
   obtain rfl:=Option.some.inj H;go_enter Try.func23,Try.ntmps23
   go_wp2_with (first|((with_reducible refine gd 2 rfl ?_);refine bx #[.bool a0_0,.slice A0_1 l0_1.length c0_1,.slice A0_2 l0_2.length c0_2] 39 ?_;intro gb439 hg w12 BK439 hb;have GW439:=gA w hg;have GE439:=gA w hg;replace HB:=bB hb;clear hb hg)|((with_reducible refine gd 3 rfl ?_);refine bx #[.bool a1_0,.slice A1_1 l1_1.length c1_1,.slice A1_2 l1_2.length c1_2] 39 ?_;intro gb440 hg w13 BK440 hb;have GW440:=gA w hg;have GE440:=gA w hg;have NB439_440:=nl hg BK439;have NB440_439:=ng hg BK439;replace BK439:=kb BK439 hb;replace HB:=bB hb;clear hb hg;have hnb14:=NB439_440.out;have hnc14:=NB440_439.out;obtain⟨hcz15_0,hcz15_1,hcz15_2,hfz15_0,hfz15_1,hfz15_2⟩:=bk3 BK439;obtain⟨hcz16_0,hcz16_1,hcz16_2,hfz16_0,hfz16_1,hfz16_2⟩:=bk3 BK440)|(go_at_call 41;(with_reducible refine(Czk.calls k _ _ l0_1 _ _ l1_1 false _ ?side1 ?side2 ?side3 ?side4 A4.out).mono ?_);(case side1=>exact cB HR0_1);(case side2=>exact HC0_1.out);(case side3=>exact cB HR1_1);(case side4=>exact HC1_1.out);rintro e w' ⟨rfl,⟨nd,rfl⟩⟩))
   go_ret
   exact⟨eW,pB⟩
 ·rw[if_neg c3] at H;have c3b0:(a0_0 == a1_0)=false:=by simpa using c3
  (try(have c3b1:decide (a0_0=a1_0)=false:=by simpa using c3))
  (try(have c3b2:(a0_0 == a1_0)=false:=by simpa using c3))
  (try(have c3b3:¬ (a0_0=a1_0):=by simpa using c3))
  clear c3;obtain rfl:=Option.some.inj H;go_enter Try.func23,Try.ntmps23
  go_wp2_with (first|((with_reducible refine gd 2 rfl ?_);refine bx #[.bool a0_0,.slice A0_1 l0_1.length c0_1,.slice A0_2 l0_2.length c0_2] 39 ?_;intro gb439 hg w17 BK439 hb;have GW439:=gA w hg;have GE439:=gA w hg;replace HB:=bB hb;clear hb hg)|((with_reducible refine gd 3 rfl ?_);refine bx #[.bool a1_0,.slice A1_1 l1_1.length c1_1,.slice A1_2 l1_2.length c1_2] 39 ?_;intro gb440 hg w18 BK440 hb;have GW440:=gA w hg;have GE440:=gA w hg;have NB439_440:=nl hg BK439;have NB440_439:=ng hg BK439;replace BK439:=kb BK439 hb;replace HB:=bB hb;clear hb hg;have hnb19:=NB439_440.out;have hnc19:=NB440_439.out;obtain⟨hcz20_0,hcz20_1,hcz20_2,hfz20_0,hfz20_1,hfz20_2⟩:=bk3 BK439;obtain⟨hcz21_0,hcz21_1,hcz21_2,hfz21_0,hfz21_1,hfz21_2⟩:=bk3 BK440))
  go_ret
  exact⟨eW,pB⟩

def Czb.l0:Nat→Int→List Int→Option (List Int × Int)
 | 0,_,_=>none
 | k+1,x0,x4=>if x0 > 0 then(if x4.length < 17592186044416 then(Czb.l0 k (wrap64 (Int.tdiv x0 1000000000)) (x4 ++ [Int.tmod x0 1000000000])) else(none)) else(some (x4,0))
def Czb.f (k:Nat) (a0:Int):Option (List Int × Int):=if a0 < 0 then(some (([]:List Int),1)) else(Czb.l0 k a0 ([]:List Int))
theorem Czb.mono_l:∀ k,(∀ y0 y1,LeO (Czb.l0 k y0 y1) (Czb.l0 (k+1) y0 y1))
 | 0=>fun _ _ r h=>by simp [Czb.l0] at h
 | k+1=>by
  have ih0:=Czb.mono_l k
  ·intro y0 y1;unfold Czb.l0;exact mM
theorem Czb.mono:∀ a0 k,LeO (Czb.f k a0) (Czb.f (k+1) a0):=by
 intro a0 k;have ih0:=Czb.mono_l k;unfold Czb.f;exact mM
theorem Czb.calls (k:Nat) (a0:Int) (r1:List Int) (r2:Int) (w:World) (h:Czb.f k a0=some (r1,r2)) :
  Calls Try.prog 45 #[.int .i64 a0] w fun e w'=>∃ v0_:Value,e=.returned (.tuple #[v0_,.int .i64 r2])∧Kd.R (Kd.int .i64) 3 w' w.heap.size (fun _=>True) v0_ r1∧Below w.heap.size w w':=by
 have HB:=aM (Below.refl w.heap.size w);have H:(if a0 < 0 then(some (([]:List Int),1)) else(Czb.l0 k a0 ([]:List Int)))=some (r1,r2):=h
 clear h;by_cases c2:a0 < 0
 ·rw[if_pos c2] at H;have c2b0:=dE c2;clear c2;obtain⟨rfl,rfl⟩:=q2 H;go_enter Try.func45,Try.ntmps45
  go_wp2
  go_ret2
  exact⟨_,eW,nK,pB⟩
 ·rw[if_neg c2] at H;have c2b0:decide (a0 < 0)=false:=decide_eq_false c2;clear c2;have H':=aM H;clear H;go_enter Try.func45,Try.ntmps45
  go_wp2
  go_loopg [0,4] k (fun kq v0 v4 w'=>∃ (x0_1:Int) (x4_1:List Int),v0=.int .i64 x0_1∧Aside0 (Czb.l0 kq x0_1 x4_1=some (r1,r2))∧Aside0 (kq≤k)∧Aside0 (Kd.R (Kd.int .i64) 3 w' w.heap.size (fun _=>True) v4 x4_1)∧Aside0 (Below w.heap.size w w'))
  case atStart=>exact⟨(a0),(([]:List Int)),sD,H',⟨Nat.le_refl _⟩,⟨nK⟩,⟨pB⟩⟩
  case round =>
   clear H';try clear c2
   try clear c2b0
   try clear p2
   obtain⟨x0_1,x4_1,rfl,HA,HK1,HO_4,HB⟩:=hrel;cases gk with
   | zero=>exact absurd HA.out (by simp [Czb.l0])
   | succ k1 =>
    have H:=HA.out;clear HA;simp only[Czb.l0] at H;by_cases c3:x0_1 > 0
    ·rw[if_pos c3] at H;have c3b0:decide (0 < x0_1)=true:=dE c3;clear c3;obtain⟨c4,H⟩:=iO H;have LMc4:=aM c4;clear c4;obtain⟨y443,hy443⟩:∃ y_:List Int,y_=(x4_1 ++ [Int.tmod x0_1 1000000000]):=⟨_,rfl⟩;replace H:(Czb.l0 k1 (wrap64 (Int.tdiv x0_1 1000000000)) y443)=some (r1,r2):=yE hy443 H
     have Ny443:=aM hy443;clear hy443;have H':=aM H;clear H;go_wp2_with (first|((with_reducible refine gate_builtin (b:=.append) (xs:=#[.tmp 9,.tmp 12]) rfl ?_);at_builtin;refine Kd.R_append (Kd.int .i64) (w0:=w) w.heap.size rfl (.tmp 9) (.tmp 12) 37 3 (.int .i64 0) 8 rfl Try.underlying37 info3 rfl (by decide) (by omega) u4 x4_1 (Int.tmod x0_1 1000000000) [.int .i64 (Int.tmod x0_1 1000000000)] (fun _=>True) (fun _=>False) rfl rfl ?aP (fun _ hk=>hk.elim) ?aF ?aO ?aB ?aS ?aL ?_;(case aP=>exact rfl);(case aB=>exact pB);(case aF=>exact(fun _ _=>trivial));(case aO=>exact(rX HO_4.out));(case aS=>exact(below_size pB));(case aL=>have:=LMc4.out;omega);intro v444 w5 ho hb hg hat;rw[← Ny443.out] at ho;have HO445:=aM (ho);replace HB:=aM (hb);clear HO_4;clear ho hb hg hat))
     go_roundg k1
     case measure=>have:=HK1.out;omega
     case rel=>exact⟨(wrap64 (Int.tdiv x0_1 1000000000)),(y443),sD,H',⟨by have:=HK1.out;omega⟩,⟨rX HO445.out⟩,⟨pB⟩⟩
    ·rw[if_neg c3] at H;have c3b0:decide (0 < x0_1)=false:=decide_eq_false c3;clear c3;obtain⟨rfl,rfl⟩:=q2 H;go_wp2
     go_ret2
     exact⟨_,eW,rX HO_4.out,pB⟩

end Go.Proofs.Ytnklckihalhlmaa.Print
