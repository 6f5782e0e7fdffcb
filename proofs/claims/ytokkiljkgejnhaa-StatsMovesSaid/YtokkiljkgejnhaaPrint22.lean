import Derived.Test.YtokkiljkgejnhaaPrint0
import Derived.Test.YtokkiljkgejnhaaPrint13
import Derived.Test.YtokkiljkgejnhaaPrint15
import Derived.Test.YtokkiljkgejnhaaPrint21
namespace Go.Proofs.Ytokkiljkgejnhaa.Print
open Go.RowKit Go.Proofs.YtokkiljkgejnhaaW.PrintWords Go.Proofs.YtokkiljkgejnhaaW.PrintLast Go.Proofs.YtokkiljkgejnhaaW.PrintMore
attribute [local go_sem] max2_int min2_int max_two min_two max_three min_three max_four min_four
set_option linter.unusedVariables false
set_option maxRecDepth 100000
set_option maxHeartbeats 8000000
set_option linter.unusedSimpArgs false

def Czf.f (k:Nat) (l0:List Int) (l1:List Int):Option (List Int × List Int):=(Bzb.f k l0 l1).bind fun t319=>(if t319 < 0 then((Ezk.f l0 (l0.length:Int)).bind fun t320=>((Azp.f k t320).bind fun t323=>(some (([]:List Int),t323)))) else(if(l1.length:Int)=1 then(if 0 < (l1.length:Int) then((Czq.f k l0 (rd l1 0)).bind fun bt327=>(some (bt327.1,bt327.2))) else(none)) else((Bzx.f k l0 l1).bind fun bt333=>(some (bt333.1,bt333.2)))))
theorem Czf.mono:∀ a6 a7 k,LeO (Czf.f k a6 a7) (Czf.f (k+1) a6 a7):=by
 intro a6 a7 k;unfold Czf.f;have i0:=@Bzb.mono;have i1:=@Bzx.mono;have i2:=@Czq.mono;have i3:=@Azp.mono;exact mM
theorem Czf.calls (k:Nat) (a6:Option Addr) (a7:Nat) (l0:List Int) (a8:Option Addr) (b4:Nat) (l1:List Int) (b5:List Int) (b6:List Int) (w:World) (b7:Kd.C (Kd.int .i64) w a6 l0.length l0) (b8:l0.length≤a7) (b9:Kd.C (Kd.int .i64) w a8 l1.length l1) (d0:l1.length≤b4) (h:Czf.f k l0 l1=some (b5,b6)) :
  Calls Try.prog 78 #[.slice a6 l0.length a7,.slice a8 l1.length b4] w fun e w'=>∃ v0_ v1_:Value,e=.returned (.tuple #[v0_,v1_])∧Kd.R (Kd.int .i64) 3 w' w.heap.size (fun k_=>some k_≠(v1_:Value).ownBlock) v0_ b5∧Kd.R (Kd.int .i64) 3 w' w.heap.size (fun k_=>some k_≠(v0_:Value).ownBlock) v1_ b6∧Below w.heap.size w w':=by
 have d6:=aM b7;have d7:=aM b8;clear b7 b8;have d8:=aM b9;have d9:=aM d0;clear b9 d0;have HB:=aM (Below.refl w.heap.size w);have H:((Bzb.f k l0 l1).bind fun e6=>(if e6 < 0 then((Ezk.f l0 (l0.length:Int)).bind fun e7=>((Azp.f k e7).bind fun e8=>(some (([]:List Int),e8)))) else(if(l1.length:Int)=1 then(if 0 < (l1.length:Int) then((Czq.f k l0 (rd l1 0)).bind fun e9=>(some (e9.1,e9.2))) else(none)) else((Bzx.f k l0 l1).bind fun f3=>(some (f3.1,f3.2))))))=some (b5,b6):=h
 clear h;obtain⟨e6,f4,H⟩:=bT H;(try dsimp only at H);by_cases c4:e6 < 0
 ·rw[if_pos c4] at H;have f6:=dE c4;clear c4;obtain⟨e7,f9,H⟩:=bT H;(try dsimp only at H);replace H:=bS H;obtain⟨e8,g4,H⟩:=H;replace H:(some (([]:List Int),e8))=some (b5,b6):=H;have g5:=aM g4;clear g4;obtain⟨rfl,rfl⟩:=q2 H;go_enter Try.func78,Try.ntmps78
  go_wp2_with (first|((with_reducible refine gc 71 rfl ?_);refine gC 71 (some 9) Try.func71 #[.slice a6 l0.length a7,.slice a8 l1.length b4] ?_;(with_reducible refine(Bzb.calls k _ _ l0 _ _ l1 e6 _ ?_ ?_ ?_ ?_ f4.out).mono ?_);exact cX d6.out;exact d7.out;exact cX d8.out;exact d9.out;rintro e w' ⟨rfl,⟨nd,rfl⟩⟩;refine⟨_,rfl,?_⟩)|((with_reducible refine gc 69 rfl ?_);refine gC 69 (some 14) Try.func69 #[.slice a6 l0.length a7,.int .i64 (l0.length:Int)] ?_;(with_reducible refine(Ezk.calls _ _ l0 (l0.length:Int) e7 _ ?_ ?_ f9.out).mono ?_);exact cX d6.out;exact d7.out;rintro e g6 ⟨g7,rfl,g8,hb⟩;refine⟨_,rfl,?_⟩;have g9:=rL g8;replace HB:=bB hb;clear hb g8;obtain⟨j5,j6,rfl⟩:=Kd.R_slice g9.out)|((with_reducible refine gc 72 rfl ?_);refine gC 72 (some 15) Try.func72 #[.slice j5 e7.length j6] ?_;(with_reducible refine(Azp.calls k (fun k_=>some k_=(.slice j5 e7.length j6:Value).ownBlock) (.slice j5 e7.length j6) e7 e8 w _ ?_ ?_ g5.out).mono ?_);exact pB;exact Kd.R_tight rfl g9.out;rintro e j7 ⟨j8,rfl,g8,hb,hkp⟩;refine⟨_,rfl,?_⟩;have j9:=aM (Kd.R_mono (ok':=fun k_=>True) g8 (fun k_ hk_=>trivial));replace HB:=aM (hb);clear g9;clear hb hkp g8))
  go_ret2
  exact⟨_,_,eW,nK,by exact rX (Kd.R_mono j9.out (fun _ hk=>(by simp [Value.ownBlock]))),pB⟩
 ·rw[if_neg c4] at H;have f6:decide (e6 < 0)=false:=decide_eq_false c4;clear c4;by_cases c10:(l1.length:Int)=1
  ·rw[if_pos c10] at H;have l5:((l1.length:Int) == 1)=true:=beq_iff_eq.mpr c10;have l6:((l1.length:Int) != 1)=false:=bne_eq_false_iff_eq.mpr c10;clear c10;obtain⟨l7,H⟩:=iO H;have l8:decide (0 < (l1.length:Int))=true:=dE l7;have l9:decide (0 < l1.length)=true:=dE (by omega)
   clear l7;replace H:=bS H;obtain⟨⟨m0,m2⟩,m3,H⟩:=H;replace H:(some (m0,m2))=some (b5,b6):=H;have m4:=aM m3;clear m3;obtain⟨rfl,rfl⟩:=q2 H;go_enter Try.func78,Try.ntmps78
   go_wp2_with (first|((with_reducible refine gc 71 rfl ?_);refine gC 71 (some 9) Try.func71 #[.slice a6 l0.length a7,.slice a8 l1.length b4] ?_;(with_reducible refine(Bzb.calls k _ _ l0 _ _ l1 e6 _ ?_ ?_ ?_ ?_ f4.out).mono ?_);exact cX d6.out;exact d7.out;exact cX d8.out;exact d9.out;rintro e w' ⟨rfl,⟨nd,rfl⟩⟩;refine⟨_,rfl,?_⟩;have m5:0≤(0:Int):=(by omega);have m6:0 < (l1.length:Int):=oE aS;obtain⟨m7,m8,m9⟩:=Kd.at_int d8.out 0 m5 m6;cases m8;have n0:(0 < l1.length)=True:=eq_true (by omega);(try rw[show((0:Int)).toNat=0 from rfl] at m9);(try rw[Addr.add_zero'] at m9);replace m5:=eq_true m5;replace m6:=eq_true m6)|((with_reducible refine gc 91 rfl ?_);refine gC 91 (some 24) Try.func91 #[.slice a6 l0.length a7,.int .i64 (rd l1 0)] ?_;(with_reducible refine(Czq.calls k _ _ l0 (rd l1 0) m0 m2 _ ?_ ?_ m4.out).mono ?_);exact cX d6.out;exact d7.out;rintro e n6 ⟨n7,n8,rfl,g8,n9,hb⟩;refine⟨_,rfl,?_⟩;have o0:=rL g8;have o8:=rL n9;replace HB:=bB hb;clear hb g8 n9))
   go_ret2
   exact⟨_,_,eW,rX o0.out,rX o8.out,pB⟩
  ·rw[if_neg c10] at H;have l5:((l1.length:Int) == 1)=false:=beq_eq_false_iff_ne.mpr c10;have l6:((l1.length:Int) != 1)=true:=bne_iff_ne.mpr c10;replace H:=bS H;obtain⟨⟨o9,p0⟩,p4,H⟩:=H;replace H:(some (o9,p0))=some (b5,b6):=H;have p5:=aM p4;clear p4;obtain⟨rfl,rfl⟩:=q2 H;go_enter Try.func78,Try.ntmps78
   go_wp2_with (first|((with_reducible refine gc 71 rfl ?_);refine gC 71 (some 9) Try.func71 #[.slice a6 l0.length a7,.slice a8 l1.length b4] ?_;(with_reducible refine(Bzb.calls k _ _ l0 _ _ l1 e6 _ ?_ ?_ ?_ ?_ f4.out).mono ?_);exact cX d6.out;exact d7.out;exact cX d8.out;exact d9.out;rintro e w' ⟨rfl,⟨nd,rfl⟩⟩;refine⟨_,rfl,?_⟩)|((with_reducible refine gc 92 rfl ?_);refine gC 92 (some 29) Try.func92 #[.slice a6 l0.length a7,.slice a8 l1.length b4] ?_;(with_reducible refine(Bzx.calls k _ _ l0 _ _ l1 o9 p0 _ ?_ ?_ ?_ ?_ p5.out).mono ?_);exact cX d6.out;exact d7.out;exact cX d8.out;exact d9.out;rintro e p9 ⟨r5,r6,rfl,g8,n9,hb⟩;refine⟨_,rfl,?_⟩;have r7:=rL g8;have r8:=rL n9;replace HB:=bB hb;clear hb g8 n9))
   go_ret2
   exact⟨_,_,eW,rX r7.out,rX r8.out,pB⟩

def Bzp.j0:Nat→List Int→List Int→Bool→Option (List Int × List Int × Int)
 | 0,_,_,_=>none
 | k+1,x0,x1,x16=>if x16=true then(some (([]:List Int),([]:List Int),3)) else(if(x1.length:Int)=0 then(some (([]:List Int),([]:List Int),16)) else((Czf.f k x0 x1).bind fun bt341=>(some (bt341.1,bt341.2,0))))
def Bzp.f (k:Nat) (l0:List Int) (l1:List Int):Option (List Int × List Int × Int):=(Azq.f k l0).bind fun t339=>(if t339=true then((Azq.f k l1).bind fun t340=>(Bzp.j0 k l0 l1 (!t340))) else(Bzp.j0 k l0 l1 true))
theorem Bzp.mono_l:∀ k,(∀ a6 a7 a8,LeO (Bzp.j0 k a6 a7 a8) (Bzp.j0 (k+1) a6 a7 a8))
 | 0=>fun _ _ _ r h=>by simp [Bzp.j0] at h
 | k+1=>by
  have ih0:=Bzp.mono_l k
  ·intro a6 a7 a8;unfold Bzp.j0;have i0:=@Azq.mono;have i1:=@Czf.mono;exact mM
theorem Bzp.mono:∀ a6 a7 k,LeO (Bzp.f k a6 a7) (Bzp.f (k+1) a6 a7):=by
 intro a6 a7 k;have ih0:=Bzp.mono_l k;unfold Bzp.f;have i0:=@Azq.mono;have i1:=@Czf.mono;exact mM
theorem Bzp.calls (k:Nat) (a6:Option Addr) (a7:Nat) (l0:List Int) (a8:Option Addr) (b4:Nat) (l1:List Int) (b5:List Int) (b6:List Int) (b7:Int) (w:World) (b8:Kd.C (Kd.int .i64) w a6 l0.length l0) (b9:l0.length≤a7) (d0:Kd.C (Kd.int .i64) w a8 l1.length l1) (d6:l1.length≤b4) (h:Bzp.f k l0 l1=some (b5,b6,b7)) :
  Calls Try.prog 63 #[.slice a6 l0.length a7,.slice a8 l1.length b4] w fun e w'=>∃ v0_ v1_:Value,e=.returned (.tuple #[v0_,v1_,.int .i64 b7])∧Kd.R (Kd.int .i64) 3 w' w.heap.size (fun k_=>some k_≠(v1_:Value).ownBlock) v0_ b5∧Kd.R (Kd.int .i64) 3 w' w.heap.size (fun k_=>some k_≠(v0_:Value).ownBlock) v1_ b6∧Below w.heap.size w w':=by
 have d7:=aM b8;have d8:=aM b9;clear b8 b9;have d9:=aM d0;have e6:=aM d6;clear d0 d6;have HB:=aM (Below.refl w.heap.size w);have H:((Azq.f k l0).bind fun e7=>(if e7=true then((Azq.f k l1).bind fun e8=>(Bzp.j0 k l0 l1 (!e8))) else(Bzp.j0 k l0 l1 true)))=some (b5,b6,b7):=h
 clear h;have e9:=aM H;clear H;go_enter Try.func63,Try.ntmps63
 go_upto_region 1 with (fail)
 go_cut [16] (fun f3 wc=>∃ (kq:Nat) (f4:Bool),f3=.bool f4∧Aside0 (Bzp.j0 kq l0 l1 f4=some (b5,b6,b7))∧Aside0 (kq≤k)∧Aside0 (Below w.heap.size w wc))
 case first =>
  have H:=e9.out;clear e9;obtain⟨e7,f6,H⟩:=bT H;(try dsimp only at H);by_cases c5:e7=true
  ·subst c5;rw[if_pos rfl] at H;obtain⟨e8,f9,H⟩:=bT H;(try dsimp only at H);have H':=aM H;clear H;go_wp2_with (first|((with_reducible refine gc 65 rfl ?_);refine gC 65 (some 10) Try.func65 #[.slice a6 l0.length a7] ?_;(with_reducible refine(Azq.calls k _ _ l0 true _ ?_ ?_ f6.out).mono ?_);exact cB d7;exact d8.out;rintro e w' ⟨rfl,⟨nd,rfl⟩⟩;refine⟨_,rfl,?_⟩)|(go_at_call 65;(with_reducible refine(Azq.calls k _ _ l1 e8 _ ?_ ?_ f9.out).mono ?_);exact cB d9;exact e6.out;rintro e w' ⟨rfl,⟨nd,rfl⟩⟩))
   go_meet
   case rel=>exact⟨_,(!e8),sD,H',⟨by first|omega|exact Nat.le_refl _⟩,⟨pB⟩⟩
  ·obtain rfl:=bN c5;rw[if_neg nF] at H
   have H':=aM H;clear H;go_wp2_with (first|((with_reducible refine gc 65 rfl ?_);refine gC 65 (some 10) Try.func65 #[.slice a6 l0.length a7] ?_;(with_reducible refine(Azq.calls k _ _ l0 false _ ?_ ?_ f6.out).mono ?_);exact cB d7;exact d8.out;rintro e w' ⟨rfl,⟨nd,rfl⟩⟩;refine⟨_,rfl,?_⟩))
   go_meet
   case rel=>exact⟨_,(true),sD,H',⟨by first|omega|exact Nat.le_refl _⟩,⟨pB⟩⟩
 case rest =>
  clear e9;try clear b4
  try clear g4
  try clear c5
  try clear c6
  obtain⟨kq,f4,rfl,HA,g5,HB⟩:=hcut;cases kq with
  | zero=>exact absurd HA.out (by simp [Bzp.j0])
  | succ g6 =>
   have H:=HA.out;clear HA;simp only[Bzp.j0] at H;by_cases c7:f4=true
   ·subst c7;rw[if_pos rfl] at H;obtain⟨rfl,rfl,rfl⟩:=q3 H;go_wp2
    go_ret3
    exact⟨_,_,eW,nK,nK,pB⟩
   ·obtain rfl:=bN c7;rw[if_neg nF] at H
    by_cases c8:(l1.length:Int)=0
    ·rw[if_pos c8] at H;have g7:((l1.length:Int) == 0)=true:=beq_iff_eq.mpr c8;have g8:((l1.length:Int) != 0)=false:=bne_eq_false_iff_eq.mpr c8;clear c8;obtain⟨rfl,rfl,rfl⟩:=q3 H;go_wp2
     go_ret3
     exact⟨_,_,eW,nK,nK,pB⟩
    ·rw[if_neg c8] at H;have g7:((l1.length:Int) == 0)=false:=beq_eq_false_iff_ne.mpr c8;have g8:((l1.length:Int) != 0)=true:=bne_iff_ne.mpr c8;have g9:¬ (l1=[]):=fun h_=>c8 (by rw[h_];rfl)
     replace H:=bS H;obtain⟨⟨j5,j6⟩,j7,H⟩:=H;replace H:(some (j5,j6,0))=some (b5,b6,b7):=H;have j8:=aM j7;clear j7;obtain⟨rfl,rfl,rfl⟩:=q3 H;go_wp2_with (first|((with_reducible refine gc 78 rfl ?_);refine gC 78 (some 23) Try.func78 #[.slice a6 l0.length a7,.slice a8 l1.length b4] ?_;(with_reducible refine(Czf.calls g6 _ _ l0 _ _ l1 j5 j6 _ ?_ ?_ ?_ ?_ j8.out).mono ?_);exact cB d7;exact d8.out;exact cB d9;exact e6.out;rintro e j9 ⟨l5,l6,rfl,l7,l8,hb⟩;refine⟨_,rfl,?_⟩;have l9:=rL l7;have m0:=rL l8;replace HB:=bB hb;clear hb l7 l8))
     go_ret3
     exact⟨_,_,eW,rX l9.out,rX m0.out,pB⟩

def Dzv.l0:Nat→Int→List Int→Option (List Int × Int)
 | 0,_,_=>none
 | k+1,x0,x4=>if x0 > 0 then(if x4.length < 17592186044416 then(Dzv.l0 k (wrap64 (Int.tdiv x0 1000000000)) (x4 ++ [Int.tmod x0 1000000000])) else(none)) else(some (x4,0))
def Dzv.f (k:Nat) (a0:Int):Option (List Int × Int):=if a0 < 0 then(some (([]:List Int),1)) else(Dzv.l0 k a0 ([]:List Int))
theorem Dzv.mono_l:∀ k,(∀ a6 a7,LeO (Dzv.l0 k a6 a7) (Dzv.l0 (k+1) a6 a7))
 | 0=>fun _ _ r h=>by simp [Dzv.l0] at h
 | k+1=>by
  have ih0:=Dzv.mono_l k
  ·intro a6 a7;unfold Dzv.l0;exact mM
theorem Dzv.mono:∀ a6 k,LeO (Dzv.f k a6) (Dzv.f (k+1) a6):=by
 intro a6 k;have ih0:=Dzv.mono_l k;unfold Dzv.f;exact mM
theorem Dzv.calls (k:Nat) (a6:Int) (a7:List Int) (a8:Int) (w:World) (h:Dzv.f k a6=some (a7,a8)) :
  Calls Try.prog 77 #[.int .i64 a6] w fun e w'=>∃ v0_:Value,e=.returned (.tuple #[v0_,.int .i64 a8])∧Kd.R (Kd.int .i64) 3 w' w.heap.size (fun _=>True) v0_ a7∧Below w.heap.size w w':=by
 have HB:=aM (Below.refl w.heap.size w);have H:(if a6 < 0 then(some (([]:List Int),1)) else(Dzv.l0 k a6 ([]:List Int)))=some (a7,a8):=h
 clear h;by_cases c2:a6 < 0
 ·rw[if_pos c2] at H;have b4:=dE c2;clear c2;obtain⟨rfl,rfl⟩:=q2 H;go_enter Try.func77,Try.ntmps77
  go_wp2
  go_ret2
  exact⟨_,eW,nK,pB⟩
 ·rw[if_neg c2] at H;have b4:decide (a6 < 0)=false:=decide_eq_false c2;clear c2;have H':=aM H;clear H;go_enter Try.func77,Try.ntmps77
  go_wp2
  go_loopg [0,4] k (fun kq b5 b6 w'=>∃ (b7:Int) (b8:List Int),b5=.int .i64 b7∧Aside0 (Dzv.l0 kq b7 b8=some (a7,a8))∧Aside0 (kq≤k)∧Aside0 (Kd.R (Kd.int .i64) 3 w' w.heap.size (fun _=>True) b6 b8)∧Aside0 (Below w.heap.size w w'))
  case atStart=>exact⟨(a6),(([]:List Int)),sD,H',⟨Nat.le_refl _⟩,⟨nK⟩,⟨pB⟩⟩
  case round =>
   clear H';try clear c2
   try clear b4
   try clear b9
   obtain⟨b7,b8,rfl,HA,d0,d6,HB⟩:=hrel;cases gk with
   | zero=>exact absurd HA.out (by simp [Dzv.l0])
   | succ k1 =>
    have H:=HA.out;clear HA;simp only[Dzv.l0] at H;by_cases c3:b7 > 0
    ·rw[if_pos c3] at H;have d7:decide (0 < b7)=true:=dE c3;clear c3;obtain⟨c4,H⟩:=iO H;have LMc4:=aM c4;clear c4;obtain⟨d8,d9⟩:∃ y_:List Int,y_=(b8 ++ [Int.tmod b7 1000000000]):=⟨_,rfl⟩;replace H:(Dzv.l0 k1 (wrap64 (Int.tdiv b7 1000000000)) d8)=some (a7,a8):=yE d9 H
     have e6:=aM d9;clear d9;have H':=aM H;clear H;go_wp2_with (first|((with_reducible refine gate_builtin (b:=.append) (xs:=#[.tmp 11,.tmp 14]) rfl ?_);at_builtin;refine Kd.R_append (Kd.int .i64) (w0:=w) w.heap.size rfl (.tmp 11) (.tmp 14) 36 3 (.int .i64 0) 8 rfl Try.underlying36 info3 rfl (by decide) (by omega) u4 b8 (Int.tmod b7 1000000000) [.int .i64 (Int.tmod b7 1000000000)] (fun _=>True) (fun _=>False) rfl rfl ?aP (fun _ hk=>hk.elim) ?aF ?aO ?aB ?aS ?aL ?_;(case aP=>exact rfl);(case aB=>exact pB);(case aF=>exact(fun _ _=>trivial));(case aO=>exact(rX d6.out));(case aS=>exact(below_size pB));(case aL=>have:=LMc4.out;omega);intro e7 e8 ho hb hg hat;rw[← e6.out] at ho;have e9:=aM (ho);replace HB:=aM (hb);clear d6;clear ho hb hg hat))
     go_roundg k1
     case measure=>have:=d0.out;omega
     case rel=>exact⟨(wrap64 (Int.tdiv b7 1000000000)),(d8),sD,H',⟨by have:=d0.out;omega⟩,⟨rX e9.out⟩,⟨pB⟩⟩
    ·rw[if_neg c3] at H;have d7:decide (0 < b7)=false:=decide_eq_false c3;clear c3;obtain⟨rfl,rfl⟩:=q2 H;go_wp2
     go_ret2
     exact⟨_,eW,rX d6.out,pB⟩


def Czw.l0:Nat→List Int→Int→Int→Option (Int)
 | 0,_,_,_=>none
 | k+1,x0,x3,x4=>if x4≥0 then(if 0≤x4 then(if x4 < (x0.length:Int) then(Czw.l0 k x0 (wrap64 ((wrap64 (x3 * 1000000000))+(rd x0 x4))) (wrap64 (x4 - 1))) else(none)) else(none)) else(some x3)
def Czw.f (k:Nat) (l0:List Int):Option (Int):=Czw.l0 k l0 0 (wrap64 ((l0.length:Int) - 1))
theorem Czw.mono_l:∀ k,(∀ a6 a7 a8,LeO (Czw.l0 k a6 a7 a8) (Czw.l0 (k+1) a6 a7 a8))
 | 0=>fun _ _ _ r h=>by simp [Czw.l0] at h
 | k+1=>by
  have ih0:=Czw.mono_l k
  ·intro a6 a7 a8;unfold Czw.l0;exact mM
theorem Czw.mono:∀ a6 k,LeO (Czw.f k a6) (Czw.f (k+1) a6):=by
 intro a6 k;have ih0:=Czw.mono_l k;unfold Czw.f;exact mM
theorem Czw.calls (k:Nat) (a6:Option Addr) (a7:Nat) (l0:List Int) (r:Int) (w:World) (a8:Kd.C (Kd.int .i64) w a6 l0.length l0) (b4:l0.length≤a7) (h:Czw.f k l0=some r) :
  Calls Try.prog 79 #[.slice a6 l0.length a7] w fun e w'=>e=.returned (.int .i64 r)∧Drawn0 w w':=by
 have b5:=aM a8;have b6:=aM b4;clear a8 b4;have H:(Czw.l0 k l0 0 (wrap64 ((l0.length:Int) - 1)))=some r:=h;clear h;have H':=aM H;clear H;go_enter Try.func79,Try.ntmps79
 go_wp2
 go_loopg [3,4] k (fun kq b7 b8 w'=>∃ (b9:Int) (d0:Int),b7=.int .i64 b9∧b8=.int .i64 d0∧Aside0 (Czw.l0 kq l0 b9 d0=some r)∧Aside0 (kq≤k)∧Drawn0 w w')
 case atStart=>exact⟨(0),(wrap64 ((l0.length:Int) - 1)),sD,sD,H',⟨Nat.le_refl _⟩,dR⟩
 case round =>
  clear H';obtain⟨b9,d0,rfl,rfl,HA,d6,⟨d7,rfl⟩⟩:=hrel;cases gk with
  | zero=>exact absurd HA.out (by simp [Czw.l0])
  | succ k1 =>
   have H:=HA.out;clear HA;simp only[Czw.l0] at H;by_cases c2:d0≥0
   ·rw[if_pos c2] at H;have d8:decide (0≤d0)=true:=dE c2;clear c2;obtain⟨d9,H⟩:=iN H;obtain⟨e6,H⟩:=iN H;have H':=aM H;clear H;obtain⟨e7,e8,e9,f3,f4⟩:=aI b5.out d0;cases e8;go_wp2
    go_roundg k1
    case measure=>have:=d6.out;omega
    case rel=>exact⟨(wrap64 ((wrap64 (b9 * 1000000000))+(rd l0 d0))),(wrap64 (d0 - 1)),sD,sD,H',⟨by have:=d6.out;omega⟩,dR⟩
   ·rw[if_neg c2] at H;have d8:decide (0≤d0)=false:=decide_eq_false c2;clear c2;obtain rfl:=Option.some.inj H;go_wp2
    go_ret
    exact⟨sD,dR⟩

end Go.Proofs.Ytokkiljkgejnhaa.Print
