import Derived.Test.YtokkiljkgejnhaaPrint0
namespace Go.Proofs.Ytokkiljkgejnhaa.Print
open Go.RowKit Go.Proofs.YtokkiljkgejnhaaW.PrintWords Go.Proofs.YtokkiljkgejnhaaW.PrintLast Go.Proofs.YtokkiljkgejnhaaW.PrintMore
attribute [local go_sem] max2_int min2_int max_two min_two max_three min_three max_four min_four
set_option linter.unusedVariables false
set_option maxRecDepth 100000
set_option maxHeartbeats 8000000
set_option linter.unusedSimpArgs false

def Czm.l0:Nat→Int→List Int→Int→Int→Option (Int)
 | 0,_,_,_,_=>none
 | k+1,x3,x6,x7,x8=>if x8 < x7 then(if 0≤x8 then(if x8 < (x6.length:Int) then(Czm.l0 k (wrap64 (x3+(rd x6 x8))) x6 x7 (wrap64 (x8+1))) else(none)) else(none)) else(some x3)
def Czm.f (k:Nat) (l0:List Int):Option (Int):=Czm.l0 k 0 l0 (l0.length:Int) 0
theorem Czm.mono_l:∀ k,(∀ a6 a7 a8 b4,LeO (Czm.l0 k a6 a7 a8 b4) (Czm.l0 (k+1) a6 a7 a8 b4))
 | 0=>fun _ _ _ _ r h=>by simp [Czm.l0] at h
 | k+1=>by
  have ih0:=Czm.mono_l k
  ·intro a6 a7 a8 b4;unfold Czm.l0;exact mM
theorem Czm.mono:∀ a6 k,LeO (Czm.f k a6) (Czm.f (k+1) a6):=by
 intro a6 k;have ih0:=Czm.mono_l k;unfold Czm.f;exact mM
theorem Czm.calls (k:Nat) (a6:Option Addr) (a7:Nat) (l0:List Int) (r:Int) (w:World) (a8:Kd.C (Kd.int .i64) w a6 l0.length l0) (b4:l0.length≤a7) (h:Czm.f k l0=some r) :
  Calls Try.prog 37 #[.slice a6 l0.length a7] w fun e w'=>e=.returned (.int .i64 r)∧Drawn0 w w':=by
 have b5:=aM a8;have b6:=aM b4;clear a8 b4;have H:(Czm.l0 k 0 l0 (l0.length:Int) 0)=some r:=h;clear h;have H':=aM H;clear H;go_enter Try.func37,Try.ntmps37
 go_wp2
 go_loopg [3,8] k (fun kq b7 b8 w'=>∃ (b9:Int) (d0:Int),b7=.int .i64 b9∧b8=.int .i64 d0∧Aside0 (Czm.l0 kq b9 l0 (l0.length:Int) d0=some r)∧Aside0 (kq≤k)∧Drawn0 w w')
 case atStart=>exact⟨(0),(0),sD,sD,H',⟨Nat.le_refl _⟩,dR⟩
 case round =>
  clear H';obtain⟨b9,d0,rfl,rfl,HA,d6,⟨d7,rfl⟩⟩:=hrel;cases gk with
  | zero=>exact absurd HA.out (by simp [Czm.l0])
  | succ k1 =>
   have H:=HA.out;clear HA;simp only[Czm.l0] at H;by_cases c2:d0 < (l0.length:Int)
   ·rw[if_pos c2] at H;have d8:=dE c2;clear c2;obtain⟨d9,H⟩:=iN H;obtain⟨e6,H⟩:=iN H;have H':=aM H;clear H;obtain⟨e7,e8,e9,f3,f4⟩:=aI b5.out d0;cases e8;go_wp2
    go_roundg k1
    case measure=>have:=d6.out;omega
    case rel=>exact⟨(wrap64 (b9+(rd l0 d0))),(wrap64 (d0+1)),sD,sD,H',⟨by have:=d6.out;omega⟩,dR⟩
   ·rw[if_neg c2] at H;have d8:decide (d0 < (l0.length:Int))=false:=decide_eq_false c2;clear c2;obtain rfl:=Option.some.inj H;go_wp2
    go_ret
    exact⟨sD,dR⟩

mutual
def Bzv.j0:Nat→List Int→Int→Bool→Option (List Int × Int)
 | 0,_,_,_=>none
 | k+1,x0,x1,x21=>if x21=true then(some (([]:List Int),1)) else(Bzv.l0 k x0 x1 ([]:List Int) 0)
def Bzv.l0:Nat→List Int→Int→List Int→Int→Option (List Int × Int)
 | 0,_,_,_,_=>none
 | k+1,x0,x1,x7,x8=>if(wrap64 (x8+x1))≤(x0.length:Int) then(if 0≤x8 then(if x8≤(wrap64 (x8+x1)) then((Czm.f k ((x0.take ((wrap64 (x8+x1)):Int).toNat).drop (x8:Int).toNat)).bind fun t257=>(if x7.length < 17592186044416 then(Bzv.l0 k x0 x1 (x7 ++ [t257]) (wrap64 (x8+1))) else(none))) else(none)) else(none)) else(some (x7,0))
end
def Bzv.f (k:Nat) (l0:List Int) (a1:Int):Option (List Int × Int):=(Bzw.f k l0).bind fun t255=>(if t255=0 then(if a1 < 1 then(Bzv.j0 k l0 a1 true) else(Bzv.j0 k l0 a1 (decide (a1 > (l0.length:Int))))) else(some (([]:List Int),t255)))
theorem Bzv.mono_l:∀ k,(∀ a6 a7 a8,LeO (Bzv.j0 k a6 a7 a8) (Bzv.j0 (k+1) a6 a7 a8))∧(∀ a6 a7 a8 b4,LeO (Bzv.l0 k a6 a7 a8 b4) (Bzv.l0 (k+1) a6 a7 a8 b4))
 | 0=>⟨fun _ _ _ r h=>by simp [Bzv.j0] at h,fun _ _ _ _ r h=>by simp [Bzv.l0] at h⟩
 | k+1=>by
  obtain⟨ih0,ih1⟩:=Bzv.mono_l k;have i0:=@Bzw.mono;have i1:=@Czm.mono;refine⟨?_,?_⟩
  ·intro a6 a7 a8;unfold Bzv.j0;exact mM
  ·intro a6 a7 a8 b4;unfold Bzv.l0;exact mM
theorem Bzv.mono:∀ a6 a7 k,LeO (Bzv.f k a6 a7) (Bzv.f (k+1) a6 a7):=by
 intro a6 a7 k;obtain⟨ih0,ih1⟩:=Bzv.mono_l k;unfold Bzv.f;have i0:=@Bzw.mono;have i1:=@Czm.mono;exact mM
theorem Bzv.calls (k:Nat) (a6:Option Addr) (a7:Nat) (l0:List Int) (a8:Int) (b4:List Int) (b5:Int) (w:World) (b6:Kd.C (Kd.int .i64) w a6 l0.length l0) (b7:l0.length≤a7) (h:Bzv.f k l0 a8=some (b4,b5)) :
  Calls Try.prog 17 #[.slice a6 l0.length a7,.int .i64 a8] w fun e w'=>∃ v0_:Value,e=.returned (.tuple #[v0_,.int .i64 b5])∧Kd.R (Kd.int .i64) 3 w' w.heap.size (fun _=>True) v0_ b4∧Below w.heap.size w w':=by
 have b8:=aM b6;have b9:=aM b7;clear b6 b7;have HB:=aM (Below.refl w.heap.size w);have H:((Bzw.f k l0).bind fun d0=>(if d0=0 then(if a8 < 1 then(Bzv.j0 k l0 a8 true) else(Bzv.j0 k l0 a8 (decide (a8 > (l0.length:Int))))) else(some (([]:List Int),d0))))=some (b4,b5):=h
 clear h;obtain⟨d0,d6,H⟩:=bT H;(try dsimp only at H);by_cases c4:d0=0
 ·rw[if_pos c4] at H;have d7:(d0 == 0)=true:=beq_iff_eq.mpr c4;have d8:(d0 != 0)=false:=bne_eq_false_iff_eq.mpr c4;clear c4;have d9:=aM H;clear H;go_enter Try.func17,Try.ntmps17
  go_upto_region 4 with (first|((with_reducible refine gc 30 rfl ?_);refine gC 30 (some 10) Try.func30 #[.slice a6 l0.length a7] ?_;(with_reducible refine(Bzw.calls k _ _ l0 d0 _ ?_ ?_ d6.out).mono ?_);exact cX b8.out;exact b9.out;rintro e w' ⟨rfl,⟨nd,rfl⟩⟩;refine⟨_,rfl,?_⟩))
  (try simp only[Act.put,sA,sZ,sC])
  go_cut [21] (fun e6 wc=>∃ (kq:Nat) (e7:Bool),e6=.bool e7∧Aside0 (Bzv.j0 kq l0 a8 e7=some (b4,b5))∧Aside0 (kq≤k)∧Aside0 (Below w.heap.size w wc))
  case first =>
   have H:=d9.out;clear d9;by_cases c6:a8 < 1
   ·rw[if_pos c6] at H;have e8:=dE c6;clear c6;(first|rw[e8]|(simp only[i64_w,i32_w];rw[e8])|skip)
    have H':=aM H;clear H;go_wp2
    go_meet
    case rel=>exact⟨_,(true),sD,H',⟨by first|omega|exact Nat.le_refl _⟩,⟨pB⟩⟩
   ·rw[if_neg c6] at H;have e8:decide (a8 < 1)=false:=decide_eq_false c6;clear c6;(first|rw[e8]|(simp only[i64_w,i32_w];rw[e8])|skip)
    have H':=aM H;clear H;go_wp2
    go_meet
    case rel=>exact⟨_,(decide (a8 > (l0.length:Int))),sD,H',⟨by first|omega|exact Nat.le_refl _⟩,⟨pB⟩⟩
  case rest =>
   clear d9;try clear e9
   try clear f3
   try clear c3
   try clear c4
   try clear d7
   try clear d8
   try clear c6
   try clear e8
   obtain⟨kq,e7,rfl,HA,f4,HB⟩:=hcut;cases kq with
   | zero=>exact absurd HA.out (by simp [Bzv.j0])
   | succ f6 =>
    have H:=HA.out;clear HA;simp only[Bzv.j0] at H;by_cases c7:e7=true
    ·subst c7;rw[if_pos rfl] at H;obtain⟨rfl,rfl⟩:=q2 H;go_wp2
     go_ret2
     exact⟨_,eW,nK,pB⟩
    ·obtain rfl:=bN c7;rw[if_neg nF] at H
     have H':=aM H;clear H;go_wp2
     go_loopg [7,8] f6 (fun kq f9 g4 w'=>∃ (g5:List Int) (g6:Int),g4=.int .i64 g6∧Aside0 (Bzv.l0 kq l0 a8 g5 g6=some (b4,b5))∧Aside0 (kq≤f6)∧Aside0 (Kd.R (Kd.int .i64) 3 w' w.heap.size (fun _=>True) f9 g5)∧Aside0 (Below w.heap.size w w'))
     case atStart=>exact⟨(([]:List Int)),(0),sD,H',⟨Nat.le_refl _⟩,⟨nK⟩,⟨pB⟩⟩
     case round =>
      clear H';try clear e9
      try clear f3
      try clear c3
      try clear c4
      try clear d7
      try clear d8
      try clear c6
      try clear e8
      try clear c7
      try clear f3
      obtain⟨g5,g6,rfl,HA,g7,g8,HB⟩:=hrel;cases gk with
      | zero=>exact absurd HA.out (by simp [Bzv.l0])
      | succ k2 =>
       have H:=HA.out;clear HA;simp only[Bzv.l0] at H;by_cases c8:(wrap64 (g6+a8))≤(l0.length:Int)
       ·rw[if_pos c8] at H;have g9:=dE c8;have j5:decide ((IntKind.i64.wrap (g6+a8))≤(l0.length:Int))=true:=by have h_:=g9;first|exact h_|(simp only[i64_w];exact h_)
        clear c8;obtain⟨c9,H⟩:=iO H;have j6:=eq_true c9;have j7:decide (0≤g6)=true:=dE c9;clear c9;obtain⟨c10,H⟩:=iO H;have j8:=eq_true c10;have j9:decide (g6≤(wrap64 (g6+a8)))=true:=dE c10;have l5:decide (g6≤(IntKind.i64.wrap (g6+a8)))=true:=by have h_:=j9;first|exact h_|(simp only[i64_w];exact h_)
        have l6:=eq_true (oE aS:(wrap64 (g6+a8))≤(l0.length:Int))
        obtain⟨l7,l8,H⟩:=bT H;(try dsimp only at H);obtain⟨l9,H⟩:=iO H;have LMc13:=aM l9;clear l9;obtain⟨m0,m2⟩:∃ y_:List Int,y_=(g5 ++ [l7]):=⟨_,rfl⟩;replace H:(Bzv.l0 k2 l0 a8 m0 (wrap64 (g6+1)))=some (b4,b5):=yE m2 H
        have m3:=aM m2;clear m2;have H':=aM H;clear H;obtain⟨i014,m4,_,hsz14,_⟩:=info_parts info3;obtain⟨m5,hcut14,m6,hC14⟩:=print_mid_of (P:=Try.prog) (Value.int .i64) 0 22 3 .i64 .i64 Try.underlying22 m4 hsz14 a6 a7 l0 g6 (wrap64 (g6+a8)) (oE aS) (by first|omega|exact oE aS) (oE aS) b9.out
        have m7:=aM (Kd.C_of_reads (h1:=fun _=>rfl) (m6 _ (Kd.reads_of_C b8.out)))
        have m8:=aM hC14;clear m6 hC14 m4 hsz14;go_wp2_with (first|((with_reducible refine gate_callee (f:=37) rfl ?_);refine goesL_ (some 37) rfl rfl Try.func37 (by kernel_rfl) rfl #[.slice m5 ((l0.take ((wrap64 (g6+a8)):Int).toNat).drop (g6:Int).toNat).length (a7 - g6.toNat)] rfl (by(try simp only[List.map_toArray,List.map_cons,List.map_nil]);first|done|(rw[show((l0.take ((wrap64 (g6+a8)):Int).toNat).drop (g6:Int).toNat).length=((wrap64 (g6+a8)).toNat - g6.toNat) from(by rw[List.length_drop,List.length_take];have h_:((wrap64 (g6+a8)):Int)≤(l0.length:Int):=oE aS;omega)] <;> rfl)|rfl|(simp only[List.length_drop,List.length_take];rfl)) ?_;(with_reducible refine(Czm.calls k2 _ _ ((l0.take ((wrap64 (g6+a8)):Int).toNat).drop (g6:Int).toNat) l7 _ ?side1 ?side2 l8.out).mono ?_);(case side1=>exact cB m7);(case side2=>exact m8.out);rintro e w' ⟨rfl,⟨nd,rfl⟩⟩;refine⟨_,rfl,?_⟩)|((with_reducible refine gate_builtin (b:=.append) (xs:=#[.tmp 30,.tmp 38]) rfl ?_);(try(refine gate_guard (by rfl) ?_;dsimp only));at_builtin;refine Kd.R_append (Kd.int .i64) (w0:=w) w.heap.size rfl (.tmp 30) (.tmp 38) 22 3 (.int .i64 0) 8 rfl Try.underlying22 info3 rfl (by decide) (by omega) u7 g5 l7 [.int .i64 l7] (fun _=>True) (fun _=>False) rfl rfl ?aP (fun _ hk=>hk.elim) ?aF ?aO ?aB ?aS ?aL ?_;(case aP=>exact rfl);(case aB=>exact pB);(case aF=>exact(fun _ _=>trivial));(case aO=>exact(rX g8.out));(case aS=>exact(below_size pB));(case aL=>have:=LMc13.out;omega);intro m9 n0 ho hb hg hat;rw[← m3.out] at ho;have n6:=aM (ho);replace HB:=aM (hb);clear g8;clear ho hb hg hat))
        go_roundg k2
        case measure=>have:=f4.out;have:=g7.out;omega
        case rel=>exact⟨(m0),(wrap64 (g6+1)),sD,H',⟨by have:=f4.out;have:=g7.out;omega⟩,⟨rX n6.out⟩,⟨pB⟩⟩
       ·rw[if_neg c8] at H;have g9:decide ((wrap64 (g6+a8))≤(l0.length:Int))=false:=decide_eq_false c8;have j5:decide ((IntKind.i64.wrap (g6+a8))≤(l0.length:Int))=false:=by have h_:=g9;first|exact h_|(simp only[i64_w];exact h_)
        clear c8;obtain⟨rfl,rfl⟩:=q2 H;go_wp2
        go_ret2
        exact⟨_,eW,rX g8.out,pB⟩
 ·rw[if_neg c4] at H;have d7:(d0 == 0)=false:=beq_eq_false_iff_ne.mpr c4;have d8:(d0 != 0)=true:=bne_iff_ne.mpr c4;obtain⟨rfl,rfl⟩:=q2 H;go_enter Try.func17,Try.ntmps17
  go_wp2_with (first|((with_reducible refine gc 30 rfl ?_);refine gC 30 (some 10) Try.func30 #[.slice a6 l0.length a7] ?_;(with_reducible refine(Bzw.calls k _ _ l0 d0 _ ?_ ?_ d6.out).mono ?_);exact cX b8.out;exact b9.out;rintro e w' ⟨rfl,⟨nd,rfl⟩⟩;refine⟨_,rfl,?_⟩))
  go_ret2
  exact⟨_,eW,nK,pB⟩


def Bzz.l0:Nat→List Int→List Int→Int→Option (Bool)
 | 0,_,_,_=>none
 | k+1,x0,x1,x5=>if x5 < (x0.length:Int) then(if 0≤x5 then(if x5 < (x1.length:Int) then(if(rd x0 x5)=(rd x1 x5) then(Bzz.l0 k x0 x1 (wrap64 (x5+1))) else(some false)) else(none)) else(none)) else(some true)
def Bzz.f (k:Nat) (l0:List Int) (l1:List Int):Option (Bool):=if(l0.length:Int)=(l1.length:Int) then(Bzz.l0 k l0 l1 0) else(some false)
theorem Bzz.mono_l:∀ k,(∀ a6 a7 a8,LeO (Bzz.l0 k a6 a7 a8) (Bzz.l0 (k+1) a6 a7 a8))
 | 0=>fun _ _ _ r h=>by simp [Bzz.l0] at h
 | k+1=>by
  have ih0:=Bzz.mono_l k
  ·intro a6 a7 a8;unfold Bzz.l0;exact mM
theorem Bzz.mono:∀ a6 a7 k,LeO (Bzz.f k a6 a7) (Bzz.f (k+1) a6 a7):=by
 intro a6 a7 k;have ih0:=Bzz.mono_l k;unfold Bzz.f;exact mM
theorem Bzz.calls (k:Nat) (a6:Option Addr) (a7:Nat) (l0:List Int) (a8:Option Addr) (b4:Nat) (l1:List Int) (r:Bool) (w:World) (b5:Kd.C (Kd.int .i64) w a6 l0.length l0) (b6:l0.length≤a7) (b7:Kd.C (Kd.int .i64) w a8 l1.length l1) (b8:l1.length≤b4) (h:Bzz.f k l0 l1=some r) :
  Calls Try.prog 19 #[.slice a6 l0.length a7,.slice a8 l1.length b4] w fun e w'=>e=.returned (.bool r)∧Drawn0 w w':=by
 have b9:=aM b5;have d0:=aM b6;clear b5 b6;have d6:=aM b7;have d7:=aM b8;clear b7 b8;have H:(if(l0.length:Int)=(l1.length:Int) then(Bzz.l0 k l0 l1 0) else(some false))=some r:=h
 clear h;by_cases c3:(l0.length:Int)=(l1.length:Int)
 ·rw[if_pos c3] at H;have d8:((l0.length:Int) == (l1.length:Int))=true:=beq_iff_eq.mpr c3;have d9:((l0.length:Int) != (l1.length:Int))=false:=bne_eq_false_iff_eq.mpr c3;have e6:(l0.length == l1.length)=true:=by first|simpa using c3|(simp at c3 ⊢;omega)
  clear c3;have H':=aM H;clear H;go_enter Try.func19,Try.ntmps19
  go_wp2
  repeat(go_quiet (fail);try go_wp2)
  go_loopg [5] k (fun kq e7 w'=>∃ (e8:Int),e7=.int .i64 e8∧Aside0 (Bzz.l0 kq l0 l1 e8=some r)∧Aside0 (kq≤k)∧Drawn0 w w')
  case atStart=>exact⟨(0),sD,H',⟨Nat.le_refl _⟩,dR⟩
  case round =>
   clear H';try clear b4
   try clear e9
   try clear c3
   try clear d8
   try clear d9
   try clear e6
   obtain⟨e8,rfl,HA,f3,⟨f4,rfl⟩⟩:=hrel;cases gk with
   | zero=>exact absurd HA.out (by simp [Bzz.l0])
   | succ k1 =>
    have H:=HA.out;clear HA;simp only[Bzz.l0] at H;by_cases c4:e8 < (l0.length:Int)
    ·rw[if_pos c4] at H;have f6:=dE c4;clear c4;obtain⟨f9,H⟩:=iN H;obtain⟨g4,H⟩:=iN H;by_cases c7:(rd l0 e8)=(rd l1 e8)
     ·rw[if_pos c7] at H;have g5:((rd l0 e8) == (rd l1 e8))=true:=beq_iff_eq.mpr c7;have g6:((rd l0 e8) != (rd l1 e8))=false:=bne_eq_false_iff_eq.mpr c7;clear c7;have H':=aM H;clear H;obtain⟨g7,g8,g9,j5,j6⟩:=aI b9.out e8;cases g8;obtain⟨j7,j8,j9,l5,l6⟩:=aI d6.out e8;cases j8;go_wp2
      repeat(go_quiet (fail);try go_wp2)
      go_roundg k1
      case measure=>have:=f3.out;omega
      case rel=>exact⟨(wrap64 (e8+1)),sD,H',⟨by have:=f3.out;omega⟩,dR⟩
     ·rw[if_neg c7] at H;have g5:((rd l0 e8) == (rd l1 e8))=false:=beq_eq_false_iff_ne.mpr c7;have g6:((rd l0 e8) != (rd l1 e8))=true:=bne_iff_ne.mpr c7;obtain rfl:=Option.some.inj H;obtain⟨g7,g8,g9,j5,j6⟩:=aI b9.out e8;cases g8;obtain⟨j7,j8,j9,l5,l6⟩:=aI d6.out e8;cases j8;go_wp2
      repeat(go_quiet (fail);try go_wp2)
      go_ret
      exact⟨sD,dR⟩
    ·rw[if_neg c4] at H;have f6:decide (e8 < (l0.length:Int))=false:=decide_eq_false c4;clear c4;obtain rfl:=Option.some.inj H;go_wp2
     repeat(go_quiet (fail);try go_wp2)
     go_ret
     exact⟨sD,dR⟩
 ·rw[if_neg c3] at H;have d8:((l0.length:Int) == (l1.length:Int))=false:=beq_eq_false_iff_ne.mpr c3;have d9:((l0.length:Int) != (l1.length:Int))=true:=bne_iff_ne.mpr c3;have e6:(l0.length == l1.length)=false:=by first|simpa using c3|(simp at c3 ⊢;omega)
  obtain rfl:=Option.some.inj H;go_enter Try.func19,Try.ntmps19
  go_wp2
  repeat(go_quiet (fail);try go_wp2)
  go_ret
  exact⟨sD,dR⟩

def Azq.l0:Nat→List Int→Int→Int→Option (Bool)
 | 0,_,_,_=>none
 | k+1,x0,x8,x9=>if x9 < x8 then(if 0≤x9 then(if x9 < (x0.length:Int) then(if(rd x0 x9) < 0 then(some false) else(if(rd x0 x9)≥1000000000 then(some false) else(Azq.l0 k x0 x8 (wrap64 (x9+1))))) else(none)) else(none)) else(if(x0.length:Int)=0 then(some true) else(if 0≤(wrap64 ((x0.length:Int) - 1)) then(if(wrap64 ((x0.length:Int) - 1)) < (x0.length:Int) then(some ((rd x0 (wrap64 ((x0.length:Int) - 1))) != 0)) else(none)) else(none)))
def Azq.f (k:Nat) (l0:List Int):Option (Bool):=if(l0.length:Int) > 48 then(some false) else(Azq.l0 k l0 (l0.length:Int) 0)
theorem Azq.mono_l:∀ k,(∀ a6 a7 a8,LeO (Azq.l0 k a6 a7 a8) (Azq.l0 (k+1) a6 a7 a8))
 | 0=>fun _ _ _ r h=>by simp [Azq.l0] at h
 | k+1=>by
  have ih0:=Azq.mono_l k
  ·intro a6 a7 a8;unfold Azq.l0;exact mM
theorem Azq.mono:∀ a6 k,LeO (Azq.f k a6) (Azq.f (k+1) a6):=by
 intro a6 k;have ih0:=Azq.mono_l k;unfold Azq.f;exact mM
theorem Azq.calls (k:Nat) (a6:Option Addr) (a7:Nat) (l0:List Int) (r:Bool) (w:World) (a8:Kd.C (Kd.int .i64) w a6 l0.length l0) (b4:l0.length≤a7) (h:Azq.f k l0=some r) :
  Calls Try.prog 65 #[.slice a6 l0.length a7] w fun e w'=>e=.returned (.bool r)∧Drawn0 w w':=by
 have b5:=aM a8;have b6:=aM b4;clear a8 b4;have H:(if(l0.length:Int) > 48 then(some false) else(Azq.l0 k l0 (l0.length:Int) 0))=some r:=h
 clear h;by_cases c2:(l0.length:Int) > 48
 ·rw[if_pos c2] at H;have b7:decide (48 < (l0.length:Int))=true:=dE c2;have b8:decide (48 < l0.length)=true:=dE (by omega)
  clear c2;obtain rfl:=Option.some.inj H;go_enter Try.func65,Try.ntmps65
  go_wp2
  go_ret
  exact⟨sD,dR⟩
 ·rw[if_neg c2] at H;have b7:decide (48 < (l0.length:Int))=false:=decide_eq_false c2;have b8:decide (48 < l0.length)=false:=decide_eq_false (by omega)
  clear c2;have H':=aM H;clear H;go_enter Try.func65,Try.ntmps65
  go_wp2
  go_loopg [9] k (fun kq b9 w'=>∃ (d0:Int),b9=.int .i64 d0∧Aside0 (Azq.l0 kq l0 (l0.length:Int) d0=some r)∧Aside0 (kq≤k)∧Drawn0 w w')
  case atStart=>exact⟨(0),sD,H',⟨Nat.le_refl _⟩,dR⟩
  case round =>
   clear H';try clear c2
   try clear b7
   try clear b8
   try clear d6
   obtain⟨d0,rfl,HA,d7,⟨d8,rfl⟩⟩:=hrel;cases gk with
   | zero=>exact absurd HA.out (by simp [Azq.l0])
   | succ k1 =>
    have H:=HA.out;clear HA;simp only[Azq.l0] at H;by_cases c3:d0 < (l0.length:Int)
    ·rw[if_pos c3] at H;have d9:=dE c3;clear c3;obtain⟨e6,H⟩:=iN H;obtain⟨e7,H⟩:=iN H;by_cases c6:(rd l0 d0) < 0
     ·rw[if_pos c6] at H;have e8:=dE c6;clear c6;obtain rfl:=Option.some.inj H;obtain⟨e9,f3,f4,f6,f9⟩:=aI b5.out d0;cases f3;go_wp2
      go_ret
      exact⟨sD,dR⟩
     ·rw[if_neg c6] at H;have e8:decide ((rd l0 d0) < 0)=false:=decide_eq_false c6;clear c6;by_cases c7:(rd l0 d0)≥1000000000
      ·rw[if_pos c7] at H;have g4:decide (1000000000≤(rd l0 d0))=true:=dE c7;clear c7;obtain rfl:=Option.some.inj H;obtain⟨e9,f3,f4,f6,f9⟩:=aI b5.out d0;cases f3;obtain⟨g5,g6,g7,g8,g9⟩:=aI b5.out d0;obtain rfl:e9=g5:=(by injection g6);go_wp2
       go_ret
       exact⟨sD,dR⟩
      ·rw[if_neg c7] at H;have g4:decide (1000000000≤(rd l0 d0))=false:=decide_eq_false c7;clear c7;have H':=aM H;clear H;obtain⟨e9,f3,f4,f6,f9⟩:=aI b5.out d0;cases f3;obtain⟨g5,g6,g7,g8,g9⟩:=aI b5.out d0;obtain rfl:e9=g5:=(by injection g6);go_wp2
       go_roundg k1
       case measure=>have:=d7.out;omega
       case rel=>exact⟨(wrap64 (d0+1)),sD,H',⟨by have:=d7.out;omega⟩,dR⟩
    ·rw[if_neg c3] at H;have d9:decide (d0 < (l0.length:Int))=false:=decide_eq_false c3;clear c3;by_cases c8:(l0.length:Int)=0
     ·rw[if_pos c8] at H;have j5:((l0.length:Int) == 0)=true:=beq_iff_eq.mpr c8;have j6:((l0.length:Int) != 0)=false:=bne_eq_false_iff_eq.mpr c8;clear c8;obtain rfl:=Option.some.inj H;go_wp2
      go_ret
      exact⟨sD,dR⟩
     ·rw[if_neg c8] at H;have j5:((l0.length:Int) == 0)=false:=beq_eq_false_iff_ne.mpr c8;have j6:((l0.length:Int) != 0)=true:=bne_iff_ne.mpr c8;have j7:¬ (l0=[]):=fun h_=>c8 (by rw[h_];rfl)
      obtain⟨j8,j9⟩:∃ j_:Int,(wrap64 ((l0.length:Int) - 1))=j_:=⟨_,rfl⟩;replace H:(if 0≤(j8) then(if(j8) < (l0.length:Int) then(some ((rd l0 (j8)) != 0)) else(none)) else(none))=some r:=by first|(rw[j9] at H;exact H)|(simp only[j9] at H ⊢;exact H)
      have l5:(IntKind.i64.wrap ((l0.length:Int) - 1))=j8:=(i64_w _).trans j9;by_cases c10:0≤(j8)
      ·rw[if_pos c10] at H;have l6:=dE c10;clear c10;obtain⟨l7,H⟩:=iN H;obtain rfl:=Option.some.inj H;obtain⟨l8,l9,m0,m2,m3⟩:=aI b5.out (j8);cases l9;go_wp2
       go_ret
       exact⟨by first|rfl|(simp;done)|(simp only[← j9] <;> (first|rfl|simp))|(simp [*];done),dR⟩
      ·rw[if_neg c10] at H;exact absurd H (by simp)

def Ezk.f (l0:List Int) (a1:Int):Option (List Int):=if 0≤(mx a1 (l0.length:Int)) then(if(mx a1 (l0.length:Int):Int).toNat≤35184372088832 then((Fzy.f (List.replicate (mx a1 (l0.length:Int):Int).toNat 0) l0).bind fun bt269=>(some bt269.2)) else(none)) else(none)
theorem Ezk.calls (a6:Option Addr) (a7:Nat) (l0:List Int) (a8:Int) (r:List Int) (w:World) (b4:Kd.C (Kd.int .i64) w a6 l0.length l0) (b5:l0.length≤a7) (h:Ezk.f l0 a8=some r) :
  Calls Try.prog 69 #[.slice a6 l0.length a7,.int .i64 a8] w fun e w'=>∃ v0_:Value,e=.returned (v0_)∧Kd.R (Kd.int .i64) 3 w' w.heap.size (fun _=>True) v0_ r∧Below w.heap.size w w':=by
 have b6:=aM b4;have b7:=aM b5;clear b4 b5;have HB:=aM (Below.refl w.heap.size w);have H:(if 0≤(mx a8 (l0.length:Int)) then(if(mx a8 (l0.length:Int):Int).toNat≤35184372088832 then((Fzy.f (List.replicate (mx a8 (l0.length:Int):Int).toNat 0) l0).bind fun b8=>(some b8.2)) else(none)) else(none))=some r:=h
 clear h;obtain⟨b9,d0⟩:∃ j_:Int,(mx a8 (l0.length:Int))=j_:=⟨_,rfl⟩;replace H:(if 0≤(b9) then(if(b9:Int).toNat≤35184372088832 then((Fzy.f (List.replicate (b9:Int).toNat 0) l0).bind fun b8=>(some b8.2)) else(none)) else(none))=some r:=by first|(rw[d0] at H;exact H)|(simp only[d0] at H ⊢;exact H)
 (try(have d6:0≤b9:=by(rw[← d0];unfold mx;(repeat' split) <;> omega)))
 (try(have d7:0≤b9:=by omega))
 have d8:(if a8 < (l0.length:Int) then(l0.length:Int) else a8)=b9:=d0
 by_cases c4:0≤(b9)
 ·rw[if_pos c4] at H;have d9:=eq_true c4;have e6:=dE c4;clear c4;obtain⟨c5,H⟩:=iO H;have e7:=eq_true c5;have e8:decide ((b9:Int).toNat≤35184372088832)=true:=dE c5;clear c5;obtain⟨e9,f3⟩:∃ y_:List Int,y_=(List.replicate (b9:Int).toNat 0):=⟨_,rfl⟩;replace H:((Fzy.f e9 l0).bind fun b8=>(some b8.2))=some r:=yE f3 H
  have f4:=aM f3;clear f3;replace H:=bS H;obtain⟨⟨f6,f9⟩,g4,H⟩:=H;replace H:(some f9)=some r:=H;have g5:=aM g4;clear g4;obtain rfl:=Option.some.inj H;go_enter Try.func69,Try.ntmps69
  go_wp2_with (first|((with_reducible refine gate_dst (N:=10) rfl ?_);refine Kd.R_make (Kd.int .i64) _ 3 rfl (N:=10) rfl 22 _ _ rfl b9 rfl rfl Try.underlying22 (.int .i64 0) 8 info3 rfl (by decide) (by omega) 0 (ok:=fun _=>True) (okp:=fun _=>True) rfl (fun _ hk=>hk) trivial (oE aS) (Nat.le_trans (Nat.mul_le_mul_right _ (oE aS:b9.toNat≤35184372088832)) (by omega)) (Below.refl _ _) (Nat.le_refl _) ?_;intro g6 g7 g8 hb hg_ hnew_;clear hg_ hnew_;replace g8:=rY f4 g8;have g9:=rL g8;replace HB:=bB hb;clear hb g8;obtain⟨j5,j6,rfl⟩:=Kd.R_slice g9.out)|((with_reducible refine gate_builtin (b:=.copy) rfl ?_);refine copyL_ (some 13) rfl rfl rfl (.slice j5 e9.length j6) (.slice a6 l0.length a7) rfl rfl ?_;(with_reducible refine(Fzy.calls (by kernel_rfl) (fun k_=>some k_=(.slice j5 e9.length j6:Value).ownBlock) (.slice j5 e9.length j6) e9 _ _ l0 f6 f9 w _ ?_ ?_ ?_ ?_ g5.out).mono ?_);exact pB;exact Kd.R_tight rfl g9.out;exact Kd.C_kept_came (Kd.heap_int .i64) b6.out pB (fun k_ hs_=>(fun e_=>Kd.R_base g9.out k_ e_.symm) hs_);exact b7.out;rintro e j7 ⟨rfl,j8,hb,hkp⟩;refine⟨_,rfl,?_⟩;replace g9:=aM (Kd.R_reok rfl j8 (fun k_ e_=>g9.out.1 k_ e_));replace HB:=aM (hb);clear hb hkp j8))
  go_ret
  exact⟨_,by first|rfl|(simp [errW_none,errW_some] <;> rfl)|(simp only[← d0];first|rfl|(simp [errW_none,errW_some] <;> rfl))|(simp [*,errW_none,errW_some] <;> rfl),rX g9.out,pB⟩
 ·rw[if_neg c4] at H;exact absurd H (by simp)

end Go.Proofs.Ytokkiljkgejnhaa.Print
