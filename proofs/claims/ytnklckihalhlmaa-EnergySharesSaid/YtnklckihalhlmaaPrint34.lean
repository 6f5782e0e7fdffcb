import Derived.Test.YtnklckihalhlmaaPrint0
namespace Go.Proofs.Ytnklckihalhlmaa.Print
open Go.RowKit Go.Proofs.YtnklckihalhlmaaW.PrintWords Go.Proofs.YtnklckihalhlmaaW.PrintLast Go.Proofs.YtnklckihalhlmaaW.PrintMore
attribute [local go_sem] max2_int min2_int max_two min_two max_three min_three max_four min_four
set_option linter.unusedVariables false
set_option maxRecDepth 100000
set_option maxHeartbeats 8000000
set_option linter.unusedSimpArgs false

def Czk.l0:Nat→List Int→List Int→Int→Option (Bool)
 | 0,_,_,_=>none
 | k+1,x0,x1,x5=>if x5 < (x0.length:Int) then(if 0≤x5 then(if x5 < (x1.length:Int) then(if(rd x0 x5)=(rd x1 x5) then(Czk.l0 k x0 x1 (wrap64 (x5+1))) else(some false)) else(none)) else(none)) else(some true)
def Czk.f (k:Nat) (l0:List Int) (l1:List Int):Option (Bool):=if(l0.length:Int)=(l1.length:Int) then(Czk.l0 k l0 l1 0) else(some false)
theorem Czk.mono_l:∀ k,(∀ a6 a7 a8,LeO (Czk.l0 k a6 a7 a8) (Czk.l0 (k+1) a6 a7 a8))
 | 0=>fun _ _ _ r h=>by simp [Czk.l0] at h
 | k+1=>by
  have ih0:=Czk.mono_l k
  ·intro a6 a7 a8;unfold Czk.l0;exact mM
theorem Czk.mono:∀ a6 a7 k,LeO (Czk.f k a6 a7) (Czk.f (k+1) a6 a7):=by
 intro a6 a7 k;have ih0:=Czk.mono_l k;unfold Czk.f;exact mM
theorem Czk.calls (k:Nat) (a6:Option Addr) (a7:Nat) (l0:List Int) (a8:Option Addr) (a9:Nat) (l1:List Int) (r:Bool) (w:World) (b3:Kd.C (Kd.int .i64) w a6 l0.length l0) (b4:l0.length≤a7) (b5:Kd.C (Kd.int .i64) w a8 l1.length l1) (b6:l1.length≤a9) (h:Czk.f k l0 l1=some r) :
  Calls Try.prog 41 #[.slice a6 l0.length a7,.slice a8 l1.length a9] w fun e w'=>e=.returned (.bool r)∧Drawn0 w w':=by
 have b7:=aM b3;have b8:=aM b4;clear b3 b4;have b9:=aM b5;have d0:=aM b6;clear b5 b6;have H:(if(l0.length:Int)=(l1.length:Int) then(Czk.l0 k l0 l1 0) else(some false))=some r:=h
 clear h;by_cases c3:(l0.length:Int)=(l1.length:Int)
 ·rw[if_pos c3] at H;obtain⟨d1,d3⟩:=bE c3;have d4:(l0.length == l1.length)=true:=by first|simpa using c3|(simp at c3 ⊢;omega)
  clear c3;have H':=aM H;clear H;go_enter Try.func41,Try.ntmps41
  go_wp2
  repeat(go_quiet (fail);try go_wp2)
  go_loopg [5] k (fun kq d5 w'=>∃ (d6:Int),d5=.int .i64 d6∧Aside0 (Czk.l0 kq l0 l1 d6=some r)∧Aside0 (kq≤k)∧Drawn0 w w')
  case atStart=>exact⟨(0),sD,H',⟨Nat.le_refl _⟩,dR⟩
  case round =>
   clear H';try clear a9
   obtain⟨d6,rfl,HA,d7,⟨d8,rfl⟩⟩:=hrel;cases gk with
   | zero=>exact absurd HA.out (by simp [Czk.l0])
   | succ k1 =>
    have H:=HA.out;clear HA;simp only[Czk.l0] at H;by_cases c4:d6 < (l0.length:Int)
    ·rw[if_pos c4] at H;have d9:=dE c4;clear c4;obtain⟨e6,H⟩:=iN H;obtain⟨e7,H⟩:=iN H;by_cases c7:(rd l0 d6)=(rd l1 d6)
     ·rw[if_pos c7] at H;obtain⟨e8,f3⟩:=bE c7;clear c7;have H':=aM H;clear H;obtain⟨f4,f5,f6,f7,f8⟩:=aI b7.out d6;cases f5;obtain⟨f9,g6,g7,g8,g9⟩:=aI b9.out d6;cases g6;go_wp2
      repeat(go_quiet (fail);try go_wp2)
      go_roundg k1
      case measure=>have:=d7.out;omega
      case rel=>exact⟨(wrap64 (d6+1)),sD,H',⟨by have:=d7.out;omega⟩,dR⟩
     ·rw[if_neg c7] at H;obtain⟨e8,f3⟩:=bI c7;obtain rfl:=Option.some.inj H;obtain⟨f4,f5,f6,f7,f8⟩:=aI b7.out d6;cases f5;obtain⟨f9,g6,g7,g8,g9⟩:=aI b9.out d6;cases g6;go_wp2
      repeat(go_quiet (fail);try go_wp2)
      go_ret
      exact⟨sD,dR⟩
    ·rw[if_neg c4] at H;have d9:decide (d6 < (l0.length:Int))=false:=decide_eq_false c4;clear c4;obtain rfl:=Option.some.inj H;go_wp2
     repeat(go_quiet (fail);try go_wp2)
     go_ret
     exact⟨sD,dR⟩
 ·rw[if_neg c3] at H;obtain⟨d1,d3⟩:=bI c3;have d4:(l0.length == l1.length)=false:=by first|simpa using c3|(simp at c3 ⊢;omega)
  obtain rfl:=Option.some.inj H;go_enter Try.func41,Try.ntmps41
  go_wp2
  repeat(go_quiet (fail);try go_wp2)
  go_ret
  exact⟨sD,dR⟩

def Ezq.f (k:Nat) (a0_0:Bool) (l0_1:List Int) (l0_2:List Int) (a1_0:Bool) (l1_1:List Int) (l1_2:List Int):Option (Bool):=if(a0_0 == a1_0)=true then((Czk.f k l0_1 l1_1).bind fun t486=>(if t486=true then((Czk.f k l0_2 l1_2).bind fun t487=>(some t487)) else(some false))) else(some false)
theorem Ezq.mono:∀ a6 a7 a8 a9 b3 b4 k,LeO (Ezq.f k a6 a7 a8 a9 b3 b4) (Ezq.f (k+1) a6 a7 a8 a9 b3 b4):=by
 intro a6 a7 a8 a9 b3 b4 k;unfold Ezq.f;have i0:=@Czk.mono;exact mM
theorem Ezq.calls (k:Nat) (a6:Bool) (a7:Option Addr) (a8:Nat) (a9:List Int) (b3:Option Addr) (b4:Nat) (b5:List Int) (b6:Bool) (b7:Option Addr) (b8:Nat) (b9:List Int) (d0:Option Addr) (d1:Nat) (d3:List Int) (r:Bool) (w:World) (d4:Kd.C (Kd.int .i64) w a7 a9.length a9) (d5:a9.length≤a8) (d6:Kd.C (Kd.int .i64) w b3 b5.length b5) (d7:b5.length≤b4) (d8:Kd.C (Kd.int .i64) w b7 b9.length b9) (d9:b9.length≤b8) (e6:Kd.C (Kd.int .i64) w d0 d3.length d3) (e7:d3.length≤d1) (h:Ezq.f k a6 a9 b5 b6 b9 d3=some r) :
  Calls Try.prog 23 #[.agg #[.bool a6,.slice a7 a9.length a8,.slice b3 b5.length b4],.agg #[.bool b6,.slice b7 b9.length b8,.slice d0 d3.length d1]] w fun e w'=>e=.returned (.bool r)∧Below w.heap.size w w':=by
 have hu39:=Try.underlying39;have e8:=aM d4;have f3:=aM d5;clear d4 d5;have f4:=aM d6;have f5:=aM d7;clear d6 d7;have f6:=aM d8;have f7:=aM d9;clear d8 d9;have f8:=aM e6;have f9:=aM e7;clear e6 e7;have HB:=aM (Below.refl w.heap.size w);have H:(if(a6 == b6)=true then((Czk.f k a9 b9).bind fun g6=>(if g6=true then((Czk.f k b5 d3).bind fun g7=>(some g7)) else(some false))) else(some false))=some r:=h
 clear h;by_cases c3:(a6 == b6)=true
 ·rw[if_pos c3] at H;have g8:(a6 == b6)=true:=c3;(try(have g9:decide (a6=b6)=true:=by simpa using c3))
  (try(have j5:(a6 == b6)=true:=by simpa using c3))
  clear c3;obtain⟨g6,j9,H⟩:=bT H;(try dsimp only at H);by_cases c5:g6=true
  ·subst c5;rw[if_pos rfl] at H;replace H:=bS H;obtain⟨g7,l5,H⟩:=H;replace H:(some g7)=some r:=H;have l6:=aM l5;clear l5;obtain rfl:=Option.some.inj H;go_enter Try.func23,Try.ntmps23
   go_wp2_with (first|((with_reducible refine gd 2 rfl ?_);refine bx #[.bool a6,.slice a7 a9.length a8,.slice b3 b5.length b4] 39 ?_;intro l7 hg l8 l9 hb;have m4:=gA w hg;have m5:=gA w hg;replace HB:=bB hb;clear hb hg)|((with_reducible refine gd 3 rfl ?_);refine bx #[.bool b6,.slice b7 b9.length b8,.slice d0 d3.length d1] 39 ?_;intro m6 hg m7 m8 hb;have m9:=gA w hg;have n0:=gA w hg;have n1:=nl hg l9;have n2:=ng hg l9;replace l9:=kb l9 hb;replace HB:=bB hb;clear hb hg;have n3:=n1.out;have n4:=n2.out;obtain⟨n5,n6,n7,n8,n9,o0⟩:=bk3 l9;obtain⟨o1,o2,o3,o4,o5,o6⟩:=bk3 m8)|(go_at_call 41;(with_reducible refine(Czk.calls k _ _ a9 _ _ b9 true _ ?_ ?_ ?_ ?_ j9.out).mono ?_);exact cB e8;exact f3.out;exact cB f6;exact f7.out;rintro e w' ⟨rfl,⟨nd,rfl⟩⟩)|(go_at_call 41;(with_reducible refine(Czk.calls k _ _ b5 _ _ d3 g7 _ ?_ ?_ ?_ ?_ l6.out).mono ?_);exact cB f4;exact f5.out;exact cB f8;exact f9.out;rintro e w' ⟨rfl,⟨nd,rfl⟩⟩))
   go_ret
   exact⟨eW,pB⟩
  ·obtain rfl:=bN c5;rw[if_neg nF] at H
   obtain rfl:=Option.some.inj H;go_enter Try.func23,Try.ntmps23
   go_wp2_with (first|((with_reducible refine gd 2 rfl ?_);refine bx #[.bool a6,.slice a7 a9.length a8,.slice b3 b5.length b4] 39 ?_;intro l7 hg o7 l9 hb;have m4:=gA w hg;have m5:=gA w hg;replace HB:=bB hb;clear hb hg)|((with_reducible refine gd 3 rfl ?_);refine bx #[.bool b6,.slice b7 b9.length b8,.slice d0 d3.length d1] 39 ?_;intro m6 hg o8 m8 hb;have m9:=gA w hg;have n0:=gA w hg;have n1:=nl hg l9;have n2:=ng hg l9;replace l9:=kb l9 hb;replace HB:=bB hb;clear hb hg;have o9:=n1.out;have p3:=n2.out;obtain⟨p7,p9,r5,r6,r7,r8⟩:=bk3 l9;obtain⟨r9,t0,t1,t2,t3,t4⟩:=bk3 m8)|(go_at_call 41;(with_reducible refine(Czk.calls k _ _ a9 _ _ b9 false _ ?_ ?_ ?_ ?_ j9.out).mono ?_);exact cB e8;exact f3.out;exact cB f6;exact f7.out;rintro e w' ⟨rfl,⟨nd,rfl⟩⟩))
   go_ret
   exact⟨eW,pB⟩
 ·rw[if_neg c3] at H;have g8:(a6 == b6)=false:=by simpa using c3
  (try(have g9:decide (a6=b6)=false:=by simpa using c3))
  (try(have j5:(a6 == b6)=false:=by simpa using c3))
  (try(have t5:¬ (a6=b6):=by simpa using c3))
  clear c3;obtain rfl:=Option.some.inj H;go_enter Try.func23,Try.ntmps23
  go_wp2_with (first|((with_reducible refine gd 2 rfl ?_);refine bx #[.bool a6,.slice a7 a9.length a8,.slice b3 b5.length b4] 39 ?_;intro l7 hg t6 l9 hb;have m4:=gA w hg;have m5:=gA w hg;replace HB:=bB hb;clear hb hg)|((with_reducible refine gd 3 rfl ?_);refine bx #[.bool b6,.slice b7 b9.length b8,.slice d0 d3.length d1] 39 ?_;intro m6 hg t7 m8 hb;have m9:=gA w hg;have n0:=gA w hg;have n1:=nl hg l9;have n2:=ng hg l9;replace l9:=kb l9 hb;replace HB:=bB hb;clear hb hg;have t8:=n1.out;have t9:=n2.out;obtain⟨z3,z4,z5,z6,z7,z8⟩:=bk3 l9;obtain⟨z9,B0,B1,B8,C0,C1⟩:=bk3 m8))
  go_ret
  exact⟨eW,pB⟩

def Czp.l0:Nat→Int→List Int→Option (List Int × Int)
 | 0,_,_=>none
 | k+1,x0,x4=>if x0 > 0 then(if x4.length < 17592186044416 then(Czp.l0 k (wrap64 (Int.tdiv x0 1000000000)) (x4 ++ [Int.tmod x0 1000000000])) else(none)) else(some (x4,0))
def Czp.f (k:Nat) (a0:Int):Option (List Int × Int):=if a0 < 0 then(some (([]:List Int),1)) else(Czp.l0 k a0 ([]:List Int))
theorem Czp.mono_l:∀ k,(∀ a6 a7,LeO (Czp.l0 k a6 a7) (Czp.l0 (k+1) a6 a7))
 | 0=>fun _ _ r h=>by simp [Czp.l0] at h
 | k+1=>by
  have ih0:=Czp.mono_l k
  ·intro a6 a7;unfold Czp.l0;exact mM
theorem Czp.mono:∀ a6 k,LeO (Czp.f k a6) (Czp.f (k+1) a6):=by
 intro a6 k;have ih0:=Czp.mono_l k;unfold Czp.f;exact mM
theorem Czp.calls (k:Nat) (a6:Int) (a7:List Int) (a8:Int) (w:World) (h:Czp.f k a6=some (a7,a8)) :
  Calls Try.prog 45 #[.int .i64 a6] w fun e w'=>∃ v0_:Value,e=.returned (.tuple #[v0_,.int .i64 a8])∧Kd.R (Kd.int .i64) 3 w' w.heap.size (fun _=>True) v0_ a7∧Below w.heap.size w w':=by
 have HB:=aM (Below.refl w.heap.size w);have H:(if a6 < 0 then(some (([]:List Int),1)) else(Czp.l0 k a6 ([]:List Int)))=some (a7,a8):=h
 clear h;by_cases c2:a6 < 0
 ·rw[if_pos c2] at H;have a9:=dE c2;clear c2;obtain⟨rfl,rfl⟩:=q2 H;go_enter Try.func45,Try.ntmps45
  go_wp2
  go_ret2
  exact⟨_,eW,nK,pB⟩
 ·rw[if_neg c2] at H;have a9:decide (a6 < 0)=false:=decide_eq_false c2;clear c2;have H':=aM H;clear H;go_enter Try.func45,Try.ntmps45
  go_wp2
  go_loopg [0,4] k (fun kq b3 b4 w'=>∃ (b5:Int) (b6:List Int),b3=.int .i64 b5∧Aside0 (Czp.l0 kq b5 b6=some (a7,a8))∧Aside0 (kq≤k)∧Aside0 (Kd.R (Kd.int .i64) 3 w' w.heap.size (fun _=>True) b4 b6)∧Aside0 (Below w.heap.size w w'))
  case atStart=>exact⟨(a6),(([]:List Int)),sD,H',⟨Nat.le_refl _⟩,⟨nK⟩,⟨pB⟩⟩
  case round =>
   clear H';try clear c2
   obtain⟨b5,b6,rfl,HA,b7,b8,HB⟩:=hrel;cases gk with
   | zero=>exact absurd HA.out (by simp [Czp.l0])
   | succ k1 =>
    have H:=HA.out;clear HA;simp only[Czp.l0] at H;by_cases c3:b5 > 0
    ·rw[if_pos c3] at H;have b9:decide (0 < b5)=true:=dE c3;clear c3;obtain⟨c4,H⟩:=iO H;have LMc4:=aM c4;clear c4;obtain⟨d0,d1⟩:∃ y_:List Int,y_=(b6 ++ [Int.tmod b5 1000000000]):=⟨_,rfl⟩;replace H:(Czp.l0 k1 (wrap64 (Int.tdiv b5 1000000000)) d0)=some (a7,a8):=yE d1 H
     have d3:=aM d1;clear d1;have H':=aM H;clear H;go_wp2_with (first|((with_reducible refine gate_builtin (b:=.append) (xs:=#[.tmp 9,.tmp 12]) rfl ?_);at_builtin;refine Kd.R_append (Kd.int .i64) (w0:=w) w.heap.size rfl (.tmp 9) (.tmp 12) 37 3 (.int .i64 0) 8 rfl Try.underlying37 info3 rfl (by decide) (by omega) u4 b6 (Int.tmod b5 1000000000) [.int .i64 (Int.tmod b5 1000000000)] (fun _=>True) (fun _=>False) rfl rfl ?aP (fun _ hk=>hk.elim) ?aF ?aO ?aB ?aS ?aL ?_;(case aP=>exact rfl);(case aB=>exact pB);(case aF=>exact(fun _ _=>trivial));(case aO=>exact(rX b8.out));(case aS=>exact(below_size pB));(case aL=>have:=LMc4.out;omega);intro d4 d5 ho hb hg hat;rw[← d3.out] at ho;have d6:=aM (ho);replace HB:=aM (hb);clear b8 ho hb hg hat))
     go_roundg k1
     case measure=>have:=b7.out;omega
     case rel=>exact⟨(wrap64 (Int.tdiv b5 1000000000)),(d0),sD,H',⟨by have:=b7.out;omega⟩,⟨rX d6.out⟩,⟨pB⟩⟩
    ·rw[if_neg c3] at H;have b9:decide (0 < b5)=false:=decide_eq_false c3;clear c3;obtain⟨rfl,rfl⟩:=q2 H;go_wp2
     go_ret2
     exact⟨_,eW,rX b8.out,pB⟩


mutual
def Azy.j0:Nat→List Int→Bool→Option (Bool)
 | 0,_,_=>none
 | k+1,x0,x20=>if x20=true then(some false) else(Azy.l0 k x0 0)
def Azy.l0:Nat→List Int→Int→Option (Bool)
 | 0,_,_=>none
 | k+1,x0,x3=>if x3 < (x0.length:Int) then(if 0≤x3 then(if(rd x0 x3) < 0 then(some false) else(if(rd x0 x3)≥1000000000 then(some false) else(Azy.l0 k x0 (wrap64 (x3+1))))) else(none)) else(some true)
end
def Azy.f (k:Nat) (l0:List Int):Option (Bool):=if(l0.length:Int) > 48 then(Azy.j0 k l0 true) else(if(l0.length:Int) > 0 then(if 0≤(wrap64 ((l0.length:Int) - 1)) then(if(wrap64 ((l0.length:Int) - 1)) < (l0.length:Int) then(Azy.j0 k l0 ((rd l0 (wrap64 ((l0.length:Int) - 1))) == 0)) else(none)) else(none)) else(Azy.j0 k l0 false))
theorem Azy.mono_l:∀ k,(∀ a6 a7,LeO (Azy.j0 k a6 a7) (Azy.j0 (k+1) a6 a7))∧(∀ a6 a7,LeO (Azy.l0 k a6 a7) (Azy.l0 (k+1) a6 a7))
 | 0=>⟨fun _ _ r h=>by simp [Azy.j0] at h,fun _ _ r h=>by simp [Azy.l0] at h⟩
 | k+1=>by
  obtain⟨ih0,ih1⟩:=Azy.mono_l k;refine⟨?_,?_⟩
  ·intro a6 a7;unfold Azy.j0;exact mM
  ·intro a6 a7;unfold Azy.l0;exact mM
theorem Azy.mono:∀ a6 k,LeO (Azy.f k a6) (Azy.f (k+1) a6):=by
 intro a6 k;obtain⟨ih0,ih1⟩:=Azy.mono_l k;unfold Azy.f;exact mM
theorem Azy.calls (k:Nat) (a6:Option Addr) (a7:Nat) (l0:List Int) (r:Bool) (w:World) (a8:Kd.C (Kd.int .i64) w a6 l0.length l0) (a9:l0.length≤a7) (h:Azy.f k l0=some r) :
  Calls Try.prog 42 #[.slice a6 l0.length a7] w fun e w'=>e=.returned (.bool r)∧Drawn0 w w':=by
 have b3:=aM a8;have b4:=aM a9;clear a8 a9;have H:(if(l0.length:Int) > 48 then(Azy.j0 k l0 true) else(if(l0.length:Int) > 0 then(if 0≤(wrap64 ((l0.length:Int) - 1)) then(if(wrap64 ((l0.length:Int) - 1)) < (l0.length:Int) then(Azy.j0 k l0 ((rd l0 (wrap64 ((l0.length:Int) - 1))) == 0)) else(none)) else(none)) else(Azy.j0 k l0 false)))=some r:=h
 clear h;have b5:=aM H;clear H;go_enter Try.func42,Try.ntmps42
 go_upto_region 1 with (fail)
 go_cut [20] (fun b6 wc=>∃ (kq:Nat) (b7:Bool),b6=.bool b7∧Aside0 (Azy.j0 kq l0 b7=some r)∧Aside0 (kq≤k)∧Drawn0 w wc)
 case first =>
  have H:=b5.out;clear b5;by_cases c3:(l0.length:Int) > 48
  ·rw[if_pos c3] at H;have b8:decide (48 < (l0.length:Int))=true:=dE c3;have b9:decide (48 < l0.length)=true:=dE (by omega)
   clear c3;(first|rw[b8]|(simp only[i64_w,i32_w];rw[b8])|skip)
   have H':=aM H;clear H;go_wp2
   go_meet
   case rel=>exact⟨_,(true),sD,H',⟨by first|omega|exact Nat.le_refl _⟩,dR⟩
  ·rw[if_neg c3] at H;have b8:decide (48 < (l0.length:Int))=false:=decide_eq_false c3;have b9:decide (48 < l0.length)=false:=decide_eq_false (by omega)
   clear c3;(first|rw[b8]|(simp only[i64_w,i32_w];rw[b8])|skip)
   by_cases c4:(l0.length:Int) > 0
   ·rw[if_pos c4] at H;have d0:decide (0 < (l0.length:Int))=true:=dE c4;have d1:decide (0 < l0.length)=true:=dE (by omega)
    clear c4;obtain⟨d3,d4⟩:∃ j_:Int,(wrap64 ((l0.length:Int) - 1))=j_:=⟨_,rfl⟩;replace H:(if 0≤(d3) then(if(d3) < (l0.length:Int) then(Azy.j0 k l0 ((rd l0 (d3)) == 0)) else(none)) else(none))=some r:=by first|(rw[d4] at H;exact H)|(simp only[d4] at H ⊢;exact H)
    have d5:(IntKind.i64.wrap ((l0.length:Int) - 1))=d3:=(i64_w _).trans d4;obtain⟨d6,H⟩:=iN H;obtain⟨d7,H⟩:=iN H;have H':=aM H;clear H;obtain⟨d8,d9,e6,e7,e8⟩:=aI b3.out (d3);cases d9;go_wp2
    go_meet
    case rel=>exact⟨_,(((rd l0 (d3)) == 0)),(by first|rfl|(simp;done)|(simp only[← d4] <;> (first|rfl|simp))|(simp [*];done)),H',⟨by first|omega|exact Nat.le_refl _⟩,dR⟩
   ·rw[if_neg c4] at H;have d0:decide (0 < (l0.length:Int))=false:=decide_eq_false c4;have d1:decide (0 < l0.length)=false:=decide_eq_false (by omega)
    clear c4;have H':=aM H;clear H;go_wp2
    go_meet
    case rel=>exact⟨_,(false),sD,H',⟨by first|omega|exact Nat.le_refl _⟩,dR⟩
 case rest =>
  clear b5;try clear p2
  obtain⟨kq,b7,rfl,HA,f3,⟨mc1,rfl⟩⟩:=hcut;cases kq with
  | zero=>exact absurd HA.out (by simp [Azy.j0])
  | succ f4 =>
   have H:=HA.out;clear HA;simp only[Azy.j0] at H;by_cases c8:b7=true
   ·subst c8;rw[if_pos rfl] at H;obtain rfl:=Option.some.inj H;go_wp2
    go_ret
    exact⟨sD,dR⟩
   ·obtain rfl:=bN c8;rw[if_neg nF] at H
    have H':=aM H;clear H;go_wp2
    go_loopg [3] f4 (fun kq f5 w'=>∃ (f6:Int),f5=.int .i64 f6∧Aside0 (Azy.l0 kq l0 f6=some r)∧Aside0 (kq≤f4)∧Drawn0 w w')
    case atStart=>exact⟨(0),sD,H',⟨Nat.le_refl _⟩,dR⟩
    case round =>
     clear H';try clear f7
     obtain⟨f6,rfl,HA,f8,⟨f9,rfl⟩⟩:=hrel;cases gk with
     | zero=>exact absurd HA.out (by simp [Azy.l0])
     | succ k2 =>
      have H:=HA.out;clear HA;simp only[Azy.l0] at H;by_cases c9:f6 < (l0.length:Int)
      ·rw[if_pos c9] at H;have g6:=dE c9;clear c9;obtain⟨g7,H⟩:=iN H;by_cases g8:(rd l0 f6) < 0
       ·rw[if_pos g8] at H;have g9:=dE g8;clear g8;obtain rfl:=Option.some.inj H;obtain⟨j5,j9,l5,l6,l7⟩:=aI b3.out f6;cases j9;go_wp2
        go_ret
        exact⟨sD,dR⟩
       ·rw[if_neg g8] at H;have g9:decide ((rd l0 f6) < 0)=false:=decide_eq_false g8;clear g8;by_cases l8:(rd l0 f6)≥1000000000
        ·rw[if_pos l8] at H;have l9:decide (1000000000≤(rd l0 f6))=true:=dE l8;clear l8;obtain rfl:=Option.some.inj H;obtain⟨j5,j9,l5,l6,l7⟩:=aI b3.out f6;cases j9;obtain⟨m4,m5,m6,m7,m8⟩:=aI b3.out f6;obtain rfl:j5=m4:=(by injection m5);go_wp2
         go_ret
         exact⟨sD,dR⟩
        ·rw[if_neg l8] at H;have l9:decide (1000000000≤(rd l0 f6))=false:=decide_eq_false l8;clear l8;have H':=aM H;clear H;obtain⟨j5,j9,l5,l6,l7⟩:=aI b3.out f6;cases j9;obtain⟨m4,m5,m6,m7,m8⟩:=aI b3.out f6;obtain rfl:j5=m4:=(by injection m5);go_wp2
         go_roundg k2
         case measure=>have:=f3.out;have:=f8.out;omega
         case rel=>exact⟨(wrap64 (f6+1)),sD,H',⟨by have:=f3.out;have:=f8.out;omega⟩,dR⟩
      ·rw[if_neg c9] at H;have g6:decide (f6 < (l0.length:Int))=false:=decide_eq_false c9;clear c9;obtain rfl:=Option.some.inj H;go_wp2
       go_ret
       exact⟨sD,dR⟩


def Bzb.l0:Nat→List Int→Int→Option (List Int × Int)
 | 0,_,_=>none
 | k+1,x0,x4=>if x4 > 0 then(if 0≤(wrap64 (x4 - 1)) then(if(wrap64 (x4 - 1)) < (x0.length:Int) then(if(rd x0 (wrap64 (x4 - 1)))=0 then(Bzb.l0 k x0 (wrap64 (x4 - 1))) else(if x4 > 48 then(some (([]:List Int),2)) else((some (([]:List Int):List Int)).bind fun y495=>(if 0≤x4 then(if x4≤(x0.length:Int) then(if y495.length+(x0.take (x4:Int).toNat).length < 17592186044416 then(some ((y495 ++ (x0.take (x4:Int).toNat)),0)) else(none)) else(none)) else(none))))) else(none)) else(none)) else(if x4 > 48 then(some (([]:List Int),2)) else((some (([]:List Int):List Int)).bind fun y502=>(if 0≤x4 then(if x4≤(x0.length:Int) then(if y502.length+(x0.take (x4:Int).toNat).length < 17592186044416 then(some ((y502 ++ (x0.take (x4:Int).toNat)),0)) else(none)) else(none)) else(none))))
def Bzb.f (k:Nat) (l0:List Int):Option (List Int × Int):=Bzb.l0 k l0 (l0.length:Int)
theorem Bzb.mono_l:∀ k,(∀ a6 a7,LeO (Bzb.l0 k a6 a7) (Bzb.l0 (k+1) a6 a7))
 | 0=>fun _ _ r h=>by simp [Bzb.l0] at h
 | k+1=>by
  have ih0:=Bzb.mono_l k
  ·intro a6 a7;unfold Bzb.l0;exact mM
theorem Bzb.mono:∀ a6 k,LeO (Bzb.f k a6) (Bzb.f (k+1) a6):=by
 intro a6 k;have ih0:=Bzb.mono_l k;unfold Bzb.f;exact mM
theorem Bzb.calls (k:Nat) (a6:Option Addr) (a7:Nat) (l0:List Int) (a8:List Int) (a9:Int) (w:World) (b3:Kd.C (Kd.int .i64) w a6 l0.length l0) (b4:l0.length≤a7) (h:Bzb.f k l0=some (a8,a9)) :
  Calls Try.prog 65 #[.slice a6 l0.length a7] w fun e w'=>∃ v0_:Value,e=.returned (.tuple #[v0_,.int .i64 a9])∧Kd.R (Kd.int .i64) 3 w' w.heap.size (fun _=>True) v0_ a8∧Below w.heap.size w w':=by
 have b5:=aM b3;have b6:=aM b4;clear b3 b4;have HB:=aM (Below.refl w.heap.size w);have H:(Bzb.l0 k l0 (l0.length:Int))=some (a8,a9):=h;clear h;have H':=aM H;clear H;go_enter Try.func65,Try.ntmps65
 go_wp2
 go_loopg [4] k (fun kq b7 w'=>∃ (b8:Int),b7=.int .i64 b8∧Aside0 (Bzb.l0 kq l0 b8=some (a8,a9))∧Aside0 (kq≤k)∧Aside0 (Below w.heap.size w w'))
 case atStart=>exact⟨((l0.length:Int)),sD,H',⟨Nat.le_refl _⟩,⟨pB⟩⟩
 case round =>
  clear H';obtain⟨b8,rfl,HA,b9,HB⟩:=hrel;cases gk with
  | zero=>exact absurd HA.out (by simp [Bzb.l0])
  | succ k1 =>
   have H:=HA.out;clear HA;simp only[Bzb.l0] at H;by_cases c2:b8 > 0
   ·rw[if_pos c2] at H;have d0:decide (0 < b8)=true:=dE c2;clear c2;obtain⟨d1,d3⟩:∃ j_:Int,(wrap64 (b8 - 1))=j_:=⟨_,rfl⟩;replace H:(if 0≤(d1) then(if(d1) < (l0.length:Int) then(if(rd l0 (d1))=0 then(Bzb.l0 k1 l0 d1) else(if b8 > 48 then(some (([]:List Int),2)) else((some (([]:List Int):List Int)).bind fun d4=>(if 0≤b8 then(if b8≤(l0.length:Int) then(if d4.length+(l0.take (b8:Int).toNat).length < 17592186044416 then(some ((d4 ++ (l0.take (b8:Int).toNat)),0)) else(none)) else(none)) else(none))))) else(none)) else(none))=some (a8,a9):=by first|(rw[d3] at H;exact H)|(simp only[d3] at H ⊢;exact H)
    have d5:(IntKind.i64.wrap (b8 - 1))=d1:=(i64_w _).trans d3;obtain⟨d6,H⟩:=iN H;obtain⟨d7,H⟩:=iN H;by_cases c6:(rd l0 (d1))=0
    ·rw[if_pos c6] at H;obtain⟨d8,d9⟩:=bE c6;clear c6;have H':=aM H;clear H;obtain⟨e6,e7,e8,f3,f4⟩:=aI b5.out (d1);cases e7
     replace e8:=hB HB e8;go_wp2
     go_roundg k1
     case measure=>have:=b9.out;omega
     case rel=>exact⟨(d1),(by first|rfl|(simp;done)|(simp only[← d3] <;> (first|rfl|simp))|(simp [*];done)),H',⟨by have:=b9.out;omega⟩,⟨pB⟩⟩
    ·rw[if_neg c6] at H;obtain⟨d8,d9⟩:=bI c6;by_cases c7:b8 > 48
     ·rw[if_pos c7] at H;have f5:decide (48 < b8)=true:=dE c7;clear c7;obtain⟨rfl,rfl⟩:=q2 H;obtain⟨e6,e7,e8,f3,f4⟩:=aI b5.out (d1);cases e7
      replace e8:=hB HB e8;go_wp2
      go_ret2
      exact⟨_,by first|rfl|(simp [errW_none,errW_some] <;> rfl)|(simp only[← d3];first|rfl|(simp [errW_none,errW_some] <;> rfl))|(simp [*,errW_none,errW_some] <;> rfl),nK,pB⟩
     ·rw[if_neg c7] at H;have f5:decide (48 < b8)=false:=decide_eq_false c7;clear c7;obtain⟨d4,f6⟩:∃ y_:List Int,y_=(([]:List Int)):=⟨_,rfl⟩;replace H:(if 0≤b8 then(if b8≤(l0.length:Int) then(if d4.length+(l0.take (b8:Int).toNat).length < 17592186044416 then(some ((d4 ++ (l0.take (b8:Int).toNat)),0)) else(none)) else(none)) else(none))=some (a8,a9):=yE f6 H
      have f7:=aM f6;clear f6;obtain⟨c8,H⟩:=iO H;have f8:=eq_true c8;have f9:decide (0≤b8)=true:=dE c8;clear c8;obtain⟨c9,H⟩:=iO H;have g6:=eq_true c9;have g7:decide (b8≤(l0.length:Int))=true:=dE c9;clear c9;obtain⟨c10,H⟩:=iO H;have LMc10:=aM c10;clear c10;obtain⟨g8,g9⟩:∃ y_:List Int,y_=(d4 ++ (l0.take (b8:Int).toNat)):=⟨_,rfl⟩;replace H:(some (g8,0))=some (a8,a9):=yE g9 H
      have j5:=aM g9;clear g9;obtain⟨rfl,rfl⟩:=q2 H;obtain⟨e6,e7,e8,f3,f4⟩:=aI b5.out (d1);cases e7
      replace e8:=hB HB e8;go_wp2_with (first|((with_reducible refine gd 21 rfl ?_);refine iL 21 [] ?_;intro j9 l5 l6 hb;replace l6:=rY f7 l6;have l7:=rL l6;replace HB:=bB hb;clear hb l6;obtain⟨i013,l8,_,hsz13,_⟩:=info_parts info3;obtain⟨hcut13,l9,hC13⟩:=print_take_of (P:=Try.prog) (Value.int .i64) 0 37 3 .i64 Try.underlying37 l8 hsz13 (some e6) a7 l0 b8 (oE aS) (oE aS) b6.out;have m4:=aM (Kd.C_of_reads (h1:=fun _=>rfl) (l9 _ (Kd.reads_of_C b5.out)));have m5:=aM hC13;clear l9 hC13 l8 hsz13)|((with_reducible refine gate_builtin (b:=.append) (xs:=#[.tmp 21,.tmp 24]) rfl ?_);at_builtin;refine Kd.R_append_rows (Kd.int .i64) (w0:=w) w.heap.size rfl (.tmp 21) (.tmp 24) 37 3 (.int .i64 0) 8 rfl Try.underlying37 info3 rfl (by decide) (by omega) j9 d4 (l0.take (b8:Int).toNat) _ _ _ (fun _=>True) (fun _=>False) rfl rfl ?aO ?aR (fun _ _ h=>h) (fun _ h=>h.elim) ?aF ?aB ?aS ?aL ?_;(case aR=>first|(rw[← show(l0.take (b8:Int).toNat).length=b8.toNat from(by rw[List.length_take];have h_:(b8:Int)≤(l0.length:Int):=oE aS;omega)];(exact cB m4);done)|(have hq_:=m4.out;rw[show(l0.take (b8:Int).toNat).length=b8.toNat from(by rw[List.length_take];have h_:(b8:Int)≤(l0.length:Int):=oE aS;omega)] at hq_;(exact cX (Kd.C_below hq_ HB.out));done)|(exact cB m4));(case aB=>exact pB);(case aF=>exact(fun _ _=>trivial));(case aO=>exact(rX l7.out));(case aS=>exact(below_size pB));(case aL=>have:=LMc10.out;have hlx_:=(show(l0.take (b8:Int).toNat).length=b8.toNat from(by rw[List.length_take];have h_:(b8:Int)≤(l0.length:Int):=oE aS;omega));omega);intro m6 m7 ho hb hg hat;rw[← j5.out] at ho;have m8:=aM (ho);replace HB:=aM (hb);clear l7 ho hb hg hat))
      go_ret2
      exact⟨_,by first|rfl|(simp [errW_none,errW_some] <;> rfl)|(simp only[← d3];first|rfl|(simp [errW_none,errW_some] <;> rfl))|(simp [*,errW_none,errW_some] <;> rfl),rX m8.out,pB⟩
   ·rw[if_neg c2] at H;have d0:decide (0 < b8)=false:=decide_eq_false c2;clear c2;by_cases m9:b8 > 48
    ·rw[if_pos m9] at H;have n0:decide (48 < b8)=true:=dE m9;clear m9;obtain⟨rfl,rfl⟩:=q2 H;go_wp2
     go_ret2
     exact⟨_,eW,nK,pB⟩
    ·rw[if_neg m9] at H;have n0:decide (48 < b8)=false:=decide_eq_false m9;clear m9;obtain⟨n1,n2⟩:∃ y_:List Int,y_=(([]:List Int)):=⟨_,rfl⟩;replace H:(if 0≤b8 then(if b8≤(l0.length:Int) then(if n1.length+(l0.take (b8:Int).toNat).length < 17592186044416 then(some ((n1 ++ (l0.take (b8:Int).toNat)),0)) else(none)) else(none)) else(none))=some (a8,a9):=yE n2 H
     have n3:=aM n2;clear n2;by_cases n4:0≤b8
     ·rw[if_pos n4] at H;have n5:=eq_true n4;have n6:=dE n4;clear n4;obtain⟨n7,H⟩:=iO H;have n8:=eq_true n7;have n9:decide (b8≤(l0.length:Int))=true:=dE n7;clear n7;obtain⟨o0,H⟩:=iO H;have LMc18:=aM o0;clear o0;obtain⟨o1,o2⟩:∃ y_:List Int,y_=(n1 ++ (l0.take (b8:Int).toNat)):=⟨_,rfl⟩;replace H:(some (o1,0))=some (a8,a9):=yE o2 H
      have o3:=aM o2;clear o2;obtain⟨rfl,rfl⟩:=q2 H;go_wp2_with (first|((with_reducible refine gd 21 rfl ?_);refine iL 21 [] ?_;intro o4 o5 o6 hb;replace o6:=rY n3 o6;have o7:=rL o6;replace HB:=bB hb;clear hb o6;obtain⟨i021,o8,_,hsz21,_⟩:=info_parts info3;obtain⟨hcut21,o9,hC21⟩:=print_take_of (P:=Try.prog) (Value.int .i64) 0 37 3 .i64 Try.underlying37 o8 hsz21 a6 a7 l0 b8 (oE aS) (oE aS) b6.out;have p3:=aM (Kd.C_of_reads (h1:=fun _=>rfl) (o9 _ (Kd.reads_of_C b5.out)));have p7:=aM hC21;clear o9 hC21 o8 hsz21)|((with_reducible refine gate_builtin (b:=.append) (xs:=#[.tmp 21,.tmp 24]) rfl ?_);at_builtin;refine Kd.R_append_rows (Kd.int .i64) (w0:=w) w.heap.size rfl (.tmp 21) (.tmp 24) 37 3 (.int .i64 0) 8 rfl Try.underlying37 info3 rfl (by decide) (by omega) o4 n1 (l0.take (b8:Int).toNat) _ _ _ (fun _=>True) (fun _=>False) rfl rfl ?aO ?aR (fun _ _ h=>h) (fun _ h=>h.elim) ?aF ?aB ?aS ?aL ?_;(case aR=>first|(rw[← show(l0.take (b8:Int).toNat).length=b8.toNat from(by rw[List.length_take];have h_:(b8:Int)≤(l0.length:Int):=oE aS;omega)];(exact cB p3);done)|(have hq_:=p3.out;rw[show(l0.take (b8:Int).toNat).length=b8.toNat from(by rw[List.length_take];have h_:(b8:Int)≤(l0.length:Int):=oE aS;omega)] at hq_;(exact cX (Kd.C_below hq_ HB.out));done)|(exact cB p3));(case aB=>exact pB);(case aF=>exact(fun _ _=>trivial));(case aO=>exact(rX o7.out));(case aS=>exact(below_size pB));(case aL=>have:=LMc18.out;have hlx_:=(show(l0.take (b8:Int).toNat).length=b8.toNat from(by rw[List.length_take];have h_:(b8:Int)≤(l0.length:Int):=oE aS;omega));omega);intro p9 r5 ho hb hg hat;rw[← o3.out] at ho;have r6:=aM (ho);replace HB:=aM (hb);clear o7 ho hb hg hat))
      go_ret2
      exact⟨_,eW,rX r6.out,pB⟩
     ·rw[if_neg n4] at H;exact absurd H (by simp)

def Ezp.f (l0:List Int) (a1:Int):Option (Int):=if a1 < (l0.length:Int) then(if 0≤a1 then(some (rd l0 a1)) else(none)) else(some 0)
theorem Ezp.calls (a6:Option Addr) (a7:Nat) (l0:List Int) (a8:Int) (r:Int) (w:World) (a9:Kd.C (Kd.int .i64) w a6 l0.length l0) (b3:l0.length≤a7) (h:Ezp.f l0 a8=some r) :
  Calls Try.prog 85 #[.slice a6 l0.length a7,.int .i64 a8] w fun e w'=>e=.returned (.int .i64 r)∧Drawn0 w w':=by
 have b4:=aM a9;have b5:=aM b3;clear a9 b3;have H:(if a8 < (l0.length:Int) then(if 0≤a8 then(some (rd l0 a8)) else(none)) else(some 0))=some r:=h
 clear h;by_cases c3:a8 < (l0.length:Int)
 ·rw[if_pos c3] at H;have b6:=dE c3;clear c3;obtain⟨b7,H⟩:=iN H;obtain rfl:=Option.some.inj H;obtain⟨b8,b9,d0,d1,d3⟩:=aI b4.out a8;cases b9;go_enter Try.func85,Try.ntmps85
  go_wp2
  go_ret
  exact⟨sD,dR⟩
 ·rw[if_neg c3] at H;have b6:decide (a8 < (l0.length:Int))=false:=decide_eq_false c3;clear c3;obtain rfl:=Option.some.inj H;go_enter Try.func85,Try.ntmps85
  go_wp2
  go_ret
  exact⟨sD,dR⟩

end Go.Proofs.Ytnklckihalhlmaa.Print
