import Derived.Test.YtnklckihalhlmaaPrint0
import Derived.Test.YtnklckihalhlmaaPrint12
namespace Go.Proofs.Ytnklckihalhlmaa.Print
open Go.RowKit Go.Proofs.YtnklckihalhlmaaW.PrintWords Go.Proofs.YtnklckihalhlmaaW.PrintLast Go.Proofs.YtnklckihalhlmaaW.PrintMore
attribute [local go_sem] max2_int min2_int max_two min_two max_three min_three max_four min_four
set_option linter.unusedVariables false
set_option maxRecDepth 100000
set_option maxHeartbeats 8000000
set_option linter.unusedSimpArgs false

def Fzw.f (k:Nat) (a0:Int) (l1:List Int):Option (List Int × Int):=(Bzy.f k a0 l1).bind fun bt203=>(some (bt203.1,bt203.2))
theorem Fzw.mono:∀ a0 a1 k,LeO (Fzw.f k a0 a1) (Fzw.f (k+1) a0 a1):=by
 intro a0 a1 k;unfold Fzw.f;have i0:=@Bzy.mono;exact mM
theorem Fzw.calls (k:Nat) (a0:Int) (A1:Option Addr) (c1:Nat) (l1:List Int) (r1:List Int) (r2:Int) (w:World) (hr1:Kd.C (Kd.int .i64) w A1 l1.length l1) (hc1:l1.length≤c1) (h:Fzw.f k a0 l1=some (r1,r2)) :
  Calls Try.prog 18 #[.int .i64 a0,.slice A1 l1.length c1] w fun e w'=>∃ v0_:Value,e=.returned (.tuple #[v0_,.int .i64 r2])∧Kd.R (Kd.int .i64) 3 w' w.heap.size (fun _=>True) v0_ r1∧Below w.heap.size w w':=by
 have HR1:=aM hr1;have HC1:=aM hc1;clear hr1 hc1;have HB:=aM (Below.refl w.heap.size w);have H:((Bzy.f k a0 l1).bind fun bt203=>(some (bt203.1,bt203.2)))=some (r1,r2):=h
 clear h;replace H:=bS H;obtain⟨⟨t203,t204⟩,A30,H⟩:=H;replace H:(some (t203,t204))=some (r1,r2):=H;have A3:=aM A30;clear A30;obtain⟨rfl,rfl⟩:=q2 H;go_enter Try.func18,Try.ntmps18
 go_wp2_with (first|((with_reducible refine gc 36 rfl ?_);refine gC 36 (some 8) Try.func36 #[.int .i64 a0,.slice A1 l1.length c1] ?_;(with_reducible refine(Bzy.calls k a0 _ _ l1 t203 t204 _ ?side1 ?side2 A3.out).mono ?_);(case side1=>exact cX HR1.out);(case side2=>exact HC1.out);rintro e w4 ⟨v205,rfl,ho0,hb⟩;refine⟨_,rfl,?_⟩;have HO206:=rL ho0;replace HB:=bB hb;clear hb ho0))
 go_ret2
 exact⟨_,eW,rX HO206.out,pB⟩

def Gzm.f (a0:Int):Option (Bool):=if a0≥(-1125899906842624) then(some (decide (a0≤1125899906842624))) else(some false)
theorem Gzm.calls (a0:Int) (r:Bool) (w:World) (h:Gzm.f a0=some r) :
  Calls Try.prog 58 #[.int .i64 a0] w fun e w'=>e=.returned (.bool r)∧Drawn0 w w':=by
 have H:(if a0≥(-1125899906842624) then(some (decide (a0≤1125899906842624))) else(some false))=some r:=h
 clear h;by_cases c2:a0≥(-1125899906842624)
 ·rw[if_pos c2] at H;have c2b0:decide ((-1125899906842624)≤a0)=true:=dE c2;clear c2;obtain rfl:=Option.some.inj H;go_enter Try.func58,Try.ntmps58
  go_wp2
  go_ret
  exact⟨sD,dR⟩
 ·rw[if_neg c2] at H;have c2b0:decide ((-1125899906842624)≤a0)=false:=decide_eq_false c2;clear c2;obtain rfl:=Option.some.inj H;go_enter Try.func58,Try.ntmps58
  go_wp2
  go_ret
  exact⟨sD,dR⟩

def Fzq.l0:Nat→Int→List Int→Option (List Int × Int)
 | 0,_,_=>none
 | k+1,x0,x4=>if x0 > 0 then(if x4.length < 17592186044416 then(Fzq.l0 k (wrap64 (Int.tdiv x0 1000000000)) (x4 ++ [Int.tmod x0 1000000000])) else(none)) else(some (x4,0))
def Fzq.f (k:Nat) (a0:Int):Option (List Int × Int):=if a0 < 0 then(some (([]:List Int),1)) else(Fzq.l0 k a0 ([]:List Int))
theorem Fzq.mono_l:∀ k,(∀ y0 y1,LeO (Fzq.l0 k y0 y1) (Fzq.l0 (k+1) y0 y1))
 | 0=>fun _ _ r h=>by simp [Fzq.l0] at h
 | k+1=>by
  have ih0:=Fzq.mono_l k
  ·intro y0 y1;unfold Fzq.l0;exact mM
theorem Fzq.mono:∀ a0 k,LeO (Fzq.f k a0) (Fzq.f (k+1) a0):=by
 intro a0 k;have ih0:=Fzq.mono_l k;unfold Fzq.f;exact mM
theorem Fzq.calls (k:Nat) (a0:Int) (r1:List Int) (r2:Int) (w:World) (h:Fzq.f k a0=some (r1,r2)) :
  Calls Try.prog 79 #[.int .i64 a0] w fun e w'=>∃ v0_:Value,e=.returned (.tuple #[v0_,.int .i64 r2])∧Kd.R (Kd.int .i64) 3 w' w.heap.size (fun _=>True) v0_ r1∧Below w.heap.size w w':=by
 have HB:=aM (Below.refl w.heap.size w);have H:(if a0 < 0 then(some (([]:List Int),1)) else(Fzq.l0 k a0 ([]:List Int)))=some (r1,r2):=h
 clear h;by_cases c2:a0 < 0
 ·rw[if_pos c2] at H;have c2b0:=dE c2;clear c2;obtain⟨rfl,rfl⟩:=q2 H;go_enter Try.func79,Try.ntmps79
  go_wp2
  go_ret2
  exact⟨_,eW,nK,pB⟩
 ·rw[if_neg c2] at H;have c2b0:decide (a0 < 0)=false:=decide_eq_false c2;clear c2;have H':=aM H;clear H;go_enter Try.func79,Try.ntmps79
  go_wp2
  go_loopg [0,4] k (fun kq v0 v4 w'=>∃ (x0_1:Int) (x4_1:List Int),v0=.int .i64 x0_1∧Aside0 (Fzq.l0 kq x0_1 x4_1=some (r1,r2))∧Aside0 (kq≤k)∧Aside0 (Kd.R (Kd.int .i64) 3 w' w.heap.size (fun _=>True) v4 x4_1)∧Aside0 (Below w.heap.size w w'))
  case atStart=>exact⟨(a0),(([]:List Int)),sD,H',⟨Nat.le_refl _⟩,⟨nK⟩,⟨pB⟩⟩
  case round =>
   clear H';try clear c2
   try clear c2b0
   try clear p2
   obtain⟨x0_1,x4_1,rfl,HA,HK1,HO_4,HB⟩:=hrel;cases gk with
   | zero=>exact absurd HA.out (by simp [Fzq.l0])
   | succ k1 =>
    have H:=HA.out;clear HA;simp only[Fzq.l0] at H;by_cases c3:x0_1 > 0
    ·rw[if_pos c3] at H;have c3b0:decide (0 < x0_1)=true:=dE c3;clear c3;obtain⟨c4,H⟩:=iO H;have LMc4:=aM c4;clear c4;obtain⟨y207,hy207⟩:∃ y_:List Int,y_=(x4_1 ++ [Int.tmod x0_1 1000000000]):=⟨_,rfl⟩;replace H:(Fzq.l0 k1 (wrap64 (Int.tdiv x0_1 1000000000)) y207)=some (r1,r2):=yE hy207 H
     have Ny207:=aM hy207;clear hy207;have H':=aM H;clear H;go_wp2_with (first|((with_reducible refine gate_builtin (b:=.append) (xs:=#[.tmp 11,.tmp 14]) rfl ?_);at_builtin;refine Kd.R_append (Kd.int .i64) (w0:=w) w.heap.size rfl (.tmp 11) (.tmp 14) 37 3 (.int .i64 0) 8 rfl Try.underlying37 info3 rfl (by decide) (by omega) u4 x4_1 (Int.tmod x0_1 1000000000) [.int .i64 (Int.tmod x0_1 1000000000)] (fun _=>True) (fun _=>False) rfl rfl ?aP (fun _ hk=>hk.elim) ?aF ?aO ?aB ?aS ?aL ?_;(case aP=>exact rfl);(case aB=>exact pB);(case aF=>exact(fun _ _=>trivial));(case aO=>exact(rX HO_4.out));(case aS=>exact(below_size pB));(case aL=>have:=LMc4.out;omega);intro v208 w5 ho hb hg hat;rw[← Ny207.out] at ho;have HO209:=aM (ho);replace HB:=aM (hb);clear HO_4;clear ho hb hg hat))
     go_roundg k1
     case measure=>have:=HK1.out;omega
     case rel=>exact⟨(wrap64 (Int.tdiv x0_1 1000000000)),(y207),sD,H',⟨by have:=HK1.out;omega⟩,⟨rX HO209.out⟩,⟨pB⟩⟩
    ·rw[if_neg c3] at H;have c3b0:decide (0 < x0_1)=false:=decide_eq_false c3;clear c3;obtain⟨rfl,rfl⟩:=q2 H;go_wp2
     go_ret2
     exact⟨_,eW,rX HO_4.out,pB⟩

def Bzw.l0:Nat→List Int→Int→Int→Option (Bool)
 | 0,_,_,_=>none
 | k+1,x0,x8,x9=>if x9 < x8 then(if 0≤x9 then(if x9 < (x0.length:Int) then(if(rd x0 x9) < 0 then(some false) else(if(rd x0 x9)≥1000000000 then(some false) else(Bzw.l0 k x0 x8 (wrap64 (x9+1))))) else(none)) else(none)) else(if(x0.length:Int)=0 then(some true) else(if 0≤(wrap64 ((x0.length:Int) - 1)) then(if(wrap64 ((x0.length:Int) - 1)) < (x0.length:Int) then(some ((rd x0 (wrap64 ((x0.length:Int) - 1))) != 0)) else(none)) else(none)))
def Bzw.f (k:Nat) (l0:List Int):Option (Bool):=if(l0.length:Int) > 48 then(some false) else(Bzw.l0 k l0 (l0.length:Int) 0)
theorem Bzw.mono_l:∀ k,(∀ y0 y1 y2,LeO (Bzw.l0 k y0 y1 y2) (Bzw.l0 (k+1) y0 y1 y2))
 | 0=>fun _ _ _ r h=>by simp [Bzw.l0] at h
 | k+1=>by
  have ih0:=Bzw.mono_l k
  ·intro y0 y1 y2;unfold Bzw.l0;exact mM
theorem Bzw.mono:∀ a0 k,LeO (Bzw.f k a0) (Bzw.f (k+1) a0):=by
 intro a0 k;have ih0:=Bzw.mono_l k;unfold Bzw.f;exact mM
theorem Bzw.calls (k:Nat) (A0:Option Addr) (c0:Nat) (l0:List Int) (r:Bool) (w:World) (hr0:Kd.C (Kd.int .i64) w A0 l0.length l0) (hc0:l0.length≤c0) (h:Bzw.f k l0=some r) :
  Calls Try.prog 90 #[.slice A0 l0.length c0] w fun e w'=>e=.returned (.bool r)∧Drawn0 w w':=by
 have HR0:=aM hr0;have HC0:=aM hc0;clear hr0 hc0;have H:(if(l0.length:Int) > 48 then(some false) else(Bzw.l0 k l0 (l0.length:Int) 0))=some r:=h
 clear h;by_cases c2:(l0.length:Int) > 48
 ·rw[if_pos c2] at H;have c2b0:decide (48 < (l0.length:Int))=true:=dE c2;have c2b1:decide (48 < l0.length)=true:=dE (by omega)
  clear c2;obtain rfl:=Option.some.inj H;go_enter Try.func90,Try.ntmps90
  go_wp2
  go_ret
  exact⟨sD,dR⟩
 ·rw[if_neg c2] at H;have c2b0:decide (48 < (l0.length:Int))=false:=decide_eq_false c2;have c2b1:decide (48 < l0.length)=false:=decide_eq_false (by omega)
  clear c2;have H':=aM H;clear H;go_enter Try.func90,Try.ntmps90
  go_wp2
  go_loopg [9] k (fun kq v9 w'=>∃ (x9_1:Int),v9=.int .i64 x9_1∧Aside0 (Bzw.l0 kq l0 (l0.length:Int) x9_1=some r)∧Aside0 (kq≤k)∧Drawn0 w w')
  case atStart=>exact⟨(0),sD,H',⟨Nat.le_refl _⟩,dR⟩
  case round =>
   clear H';try clear c2
   try clear c2b0
   try clear c2b1
   try clear p2
   obtain⟨x9_1,rfl,HA,HK1,⟨m1,rfl⟩⟩:=hrel;cases gk with
   | zero=>exact absurd HA.out (by simp [Bzw.l0])
   | succ k1 =>
    have H:=HA.out;clear HA;simp only[Bzw.l0] at H;by_cases c3:x9_1 < (l0.length:Int)
    ·rw[if_pos c3] at H;have c3b0:=dE c3;clear c3;obtain⟨c4b0,H⟩:=iN H;obtain⟨c5b0,H⟩:=iN H;by_cases c6:(rd l0 x9_1) < 0
     ·rw[if_pos c6] at H;have c6b0:=dE c6;clear c6;obtain rfl:=Option.some.inj H;obtain⟨ad210,e210,hx210_0,p210,q210⟩:=aI HR0.out x9_1;cases e210;go_wp2
      go_ret
      exact⟨sD,dR⟩
     ·rw[if_neg c6] at H;have c6b0:decide ((rd l0 x9_1) < 0)=false:=decide_eq_false c6;clear c6;by_cases c7:(rd l0 x9_1)≥1000000000
      ·rw[if_pos c7] at H;have c7b0:decide (1000000000≤(rd l0 x9_1))=true:=dE c7;clear c7;obtain rfl:=Option.some.inj H;obtain⟨ad210,e210,hx210_0,p210,q210⟩:=aI HR0.out x9_1;cases e210;obtain⟨ad211,e211,hx211_0,p211,q211⟩:=aI HR0.out x9_1;obtain rfl:ad210=ad211:=(by injection e211);go_wp2
       go_ret
       exact⟨sD,dR⟩
      ·rw[if_neg c7] at H;have c7b0:decide (1000000000≤(rd l0 x9_1))=false:=decide_eq_false c7;clear c7;have H':=aM H;clear H;obtain⟨ad210,e210,hx210_0,p210,q210⟩:=aI HR0.out x9_1;cases e210;obtain⟨ad211,e211,hx211_0,p211,q211⟩:=aI HR0.out x9_1;obtain rfl:ad210=ad211:=(by injection e211);go_wp2
       go_roundg k1
       case measure=>have:=HK1.out;omega
       case rel=>exact⟨(wrap64 (x9_1+1)),sD,H',⟨by have:=HK1.out;omega⟩,dR⟩
    ·rw[if_neg c3] at H;have c3b0:decide (x9_1 < (l0.length:Int))=false:=decide_eq_false c3;clear c3;by_cases c8:(l0.length:Int)=0
     ·rw[if_pos c8] at H;have c8b0:((l0.length:Int) == 0)=true:=beq_iff_eq.mpr c8;have c8b1:((l0.length:Int) != 0)=false:=bne_eq_false_iff_eq.mpr c8;clear c8;obtain rfl:=Option.some.inj H;go_wp2
      go_ret
      exact⟨sD,dR⟩
     ·rw[if_neg c8] at H;have c8b0:((l0.length:Int) == 0)=false:=beq_eq_false_iff_ne.mpr c8;have c8b1:((l0.length:Int) != 0)=true:=bne_iff_ne.mpr c8;have c8b2:¬ (l0=[]):=fun h_=>c8 (by rw[h_];rfl)
      obtain⟨ji9,hji9⟩:∃ j_:Int,(wrap64 ((l0.length:Int) - 1))=j_:=⟨_,rfl⟩;replace H:(if 0≤(ji9) then(if(ji9) < (l0.length:Int) then(some ((rd l0 (ji9)) != 0)) else(none)) else(none))=some r:=by first|(rw[hji9] at H;exact H)|(simp only[hji9] at H ⊢;exact H)
      have hji9w:(IntKind.i64.wrap ((l0.length:Int) - 1))=ji9:=(i64_w _).trans hji9;by_cases c10:0≤(ji9)
      ·rw[if_pos c10] at H;have c10b0:=dE c10;clear c10;obtain⟨c11b0,H⟩:=iN H;obtain rfl:=Option.some.inj H;obtain⟨ad212,e212,hx212_0,p212,q212⟩:=aI HR0.out (ji9);cases e212;go_wp2
       go_ret
       exact⟨by first|rfl|(simp;done)|(simp only[← hji9] <;> (first|rfl|simp))|(simp [*];done),dR⟩
      ·rw[if_neg c10] at H;exact absurd H (by simp)


def Czj.l0:Nat→List Int→Int→Option (List Int)
 | 0,_,_=>none
 | k+1,x0,x3=>if x3 > 0 then(if 0≤(wrap64 (x3 - 1)) then(if(wrap64 (x3 - 1)) < (x0.length:Int) then(if(rd x0 (wrap64 (x3 - 1)))=0 then(Czj.l0 k x0 (wrap64 (x3 - 1))) else(if 0≤x3 then(if x3≤(x0.length:Int) then(some (x0.take (x3:Int).toNat)) else(none)) else(none))) else(none)) else(none)) else(if 0≤x3 then(if x3≤(x0.length:Int) then(some (x0.take (x3:Int).toNat)) else(none)) else(none))
def Czj.f (k:Nat) (l0:List Int):Option (List Int):=Czj.l0 k l0 (l0.length:Int)
theorem Czj.mono_l:∀ k,(∀ y0 y1,LeO (Czj.l0 k y0 y1) (Czj.l0 (k+1) y0 y1))
 | 0=>fun _ _ r h=>by simp [Czj.l0] at h
 | k+1=>by
  have ih0:=Czj.mono_l k
  ·intro y0 y1;unfold Czj.l0;exact mM
theorem Czj.mono:∀ a0 k,LeO (Czj.f k a0) (Czj.f (k+1) a0):=by
 intro a0 k;have ih0:=Czj.mono_l k;unfold Czj.f;exact mM
theorem Czj.calls (k:Nat) (P0_:Nat→Prop) (u9000_:Value) (l0:List Int) (r:List Int) (w0 w:World) (hB:Below w0.heap.size w0 w) (ho0:Kd.R (Kd.int .i64) 3 w w0.heap.size P0_ u9000_ l0) (h:Czj.f k l0=some r) :
  Calls Try.prog 92 #[u9000_] w fun e w'=>∃ v0_:Value,e=.returned (v0_)∧Kd.R (Kd.int .i64) 3 w' w0.heap.size (fun k_=>(P0_ k_∨w.heap.size≤k_)) v0_ r∧Below w0.heap.size w0 w'∧Kept w w' (fun k_=>P0_ k_):=by
 have HO0:=aM (show Kd.R (Kd.int .i64) 3 w w0.heap.size (fun k_=>(P0_ k_∨w.heap.size≤k_)) u9000_ l0 from Kd.R_mono ho0 (fun k_ hk=>(.inl hk)))
 have HK:=aM (Kept.refl w (fun k_=>P0_ k_))
 have HW0:=aM hB.size;have HB:=aM hB;clear hB;have H:(Czj.l0 k l0 (l0.length:Int))=some r:=h;clear h;have H':=aM H;clear H;obtain⟨Ao2,co2,rfl⟩:=Kd.R_slice HO0.out;go_enter Try.func92,Try.ntmps92
 go_wp2
 go_loopg [3] k (fun kq v3 w'=>∃ (x3_1:Int),v3=.int .i64 x3_1∧Aside0 (Czj.l0 kq l0 x3_1=some r)∧Aside0 (kq≤k)∧Aside0 (Kd.R (Kd.int .i64) 3 w' w0.heap.size (fun k_=>(P0_ k_∨w.heap.size≤k_)) (.slice Ao2 l0.length co2) l0)∧Aside0 (Kept w w' (fun k_=>P0_ k_))∧Aside0 (Below w0.heap.size w0 w'))
 case atStart=>exact⟨((l0.length:Int)),sD,H',⟨Nat.le_refl _⟩,⟨rX HO0.out⟩,⟨kK HK⟩,⟨pB⟩⟩
 case round =>
  clear H';try clear p2
  obtain⟨x3_1,rfl,HA,HK1,HO_0,HK,HB⟩:=hrel;cases gk with
  | zero=>exact absurd HA.out (by simp [Czj.l0])
  | succ k1 =>
   have H:=HA.out;clear HA;simp only[Czj.l0] at H;by_cases c3:x3_1 > 0
   ·rw[if_pos c3] at H;have c3b0:decide (0 < x3_1)=true:=dE c3;clear c3;obtain⟨ji4,hji4⟩:∃ j_:Int,(wrap64 (x3_1 - 1))=j_:=⟨_,rfl⟩;replace H:(if 0≤(ji4) then(if(ji4) < (l0.length:Int) then(if(rd l0 (ji4))=0 then(Czj.l0 k1 l0 ji4) else(if 0≤x3_1 then(if x3_1≤(l0.length:Int) then(some (l0.take (x3_1:Int).toNat)) else(none)) else(none))) else(none)) else(none))=some r:=by first|(rw[hji4] at H;exact H)|(simp only[hji4] at H ⊢;exact H)
    have hji4w:(IntKind.i64.wrap (x3_1 - 1))=ji4:=(i64_w _).trans hji4;obtain⟨c5b0,H⟩:=iN H;obtain⟨c6b0,H⟩:=iN H;by_cases c7:(rd l0 (ji4))=0
    ·rw[if_pos c7] at H;have c7b0:((rd l0 (ji4)) == 0)=true:=beq_iff_eq.mpr c7;have c7b1:((rd l0 (ji4)) != 0)=false:=bne_eq_false_iff_eq.mpr c7;clear c7;have H':=aM H;clear H;obtain⟨ad213,e213,hx213_0,p213,q213⟩:=aI (Kd.R_reads' HO_0.out).2.2 (ji4);cases e213;go_wp2
     go_roundg k1
     case measure=>have:=HK1.out;omega
     case rel=>exact⟨(ji4),(by first|rfl|(simp;done)|(simp only[← hji4] <;> (first|rfl|simp))|(simp [*];done)),H',⟨by have:=HK1.out;omega⟩,⟨rX HO_0.out⟩,⟨kK HK⟩,⟨pB⟩⟩
    ·rw[if_neg c7] at H;have c7b0:((rd l0 (ji4)) == 0)=false:=beq_eq_false_iff_ne.mpr c7;have c7b1:((rd l0 (ji4)) != 0)=true:=bne_iff_ne.mpr c7;obtain⟨c8,H⟩:=iO H;have c8b0:=eq_true c8;have c8b1:decide (0≤x3_1)=true:=dE c8;clear c8;obtain⟨c9,H⟩:=iO H;have c9b0:=eq_true c9;have c9b1:decide (x3_1≤(l0.length:Int))=true:=dE c9;clear c9;obtain⟨y214,hy214⟩:∃ y_:List Int,y_=(l0.take (x3_1:Int).toNat):=⟨_,rfl⟩;replace H:(some y214)=some r:=yE hy214 H
     have Ny214:=aM hy214;clear hy214;obtain rfl:=Option.some.inj H;obtain⟨ad213,e213,hx213_0,p213,q213⟩:=aI (Kd.R_reads' HO_0.out).2.2 (ji4);cases e213;have q10:(x3_1:Int)≤((l0.length:Int):Int):=oE aS
     obtain⟨i010,hi010,_,hsz10,_⟩:=info_parts info3;have hcut10:=cut_to (P:=Try.prog) 34 3 .i64 Try.underlying34 hi010 (some ad213) l0.length co2 x3_1 (oE aS) q10 (Kd.R_reads' HO_0.out).2.1
     have hr10:=Kd.R_take (m:=(x3_1:Int).toNat) HO_0.out (by omega)
     have hy10:y214.length=(x3_1:Int).toNat:=(by rw[Ny214.out,List.length_take];omega)
     rw[← Ny214.out] at hr10;rw[← hy10] at hr10 hcut10;clear hy10 hi010 hsz10 HO_0;have HO216:=aM hr10;clear hr10;replace q10:=eq_true q10;go_wp2
     go_ret
     exact⟨_,by first|rfl|(simp [errW_none,errW_some] <;> rfl)|(simp only[← hji4];first|rfl|(simp [errW_none,errW_some] <;> rfl))|(simp [*,errW_none,errW_some] <;> rfl),rX HO216.out,pB,kK HK⟩
   ·rw[if_neg c3] at H;have c3b0:decide (0 < x3_1)=false:=decide_eq_false c3;clear c3;by_cases c11:0≤x3_1
    ·rw[if_pos c11] at H;have c11b0:=eq_true c11;have c11b1:=dE c11;clear c11;obtain⟨c12,H⟩:=iO H;have c12b0:=eq_true c12;have c12b1:decide (x3_1≤(l0.length:Int))=true:=dE c12;clear c12;obtain⟨y217,hy217⟩:∃ y_:List Int,y_=(l0.take (x3_1:Int).toNat):=⟨_,rfl⟩;replace H:(some y217)=some r:=yE hy217 H
     have Ny217:=aM hy217;clear hy217;obtain rfl:=Option.some.inj H;have q13:(x3_1:Int)≤((l0.length:Int):Int):=oE aS
     obtain⟨i013,hi013,_,hsz13,_⟩:=info_parts info3;have hcut13:=cut_to (P:=Try.prog) 34 3 .i64 Try.underlying34 hi013 Ao2 l0.length co2 x3_1 (oE aS) q13 (Kd.R_reads' HO_0.out).2.1
     have hr13:=Kd.R_take (m:=(x3_1:Int).toNat) HO_0.out (by omega)
     have hy13:y217.length=(x3_1:Int).toNat:=(by rw[Ny217.out,List.length_take];omega)
     rw[← Ny217.out] at hr13;rw[← hy13] at hr13 hcut13;clear hy13 hi013 hsz13 HO_0;have HO219:=aM hr13;clear hr13;replace q13:=eq_true q13;go_wp2
     go_ret
     exact⟨_,eW,rX HO219.out,pB,kK HK⟩
    ·rw[if_neg c11] at H;exact absurd H (by simp)

def Gzy.f (l0:List Int) (a1:Int):Option (List Int):=if 0≤(mx a1 (l0.length:Int)) then(if(mx a1 (l0.length:Int):Int).toNat≤35184372088832 then((Gzx.f (List.replicate (mx a1 (l0.length:Int):Int).toNat 0) l0).bind fun bt223=>(some bt223.2)) else(none)) else(none)
theorem Gzy.calls (A0:Option Addr) (c0:Nat) (l0:List Int) (a1:Int) (r:List Int) (w:World) (hr0:Kd.C (Kd.int .i64) w A0 l0.length l0) (hc0:l0.length≤c0) (h:Gzy.f l0 a1=some r) :
  Calls Try.prog 93 #[.slice A0 l0.length c0,.int .i64 a1] w fun e w'=>∃ v0_:Value,e=.returned (v0_)∧Kd.R (Kd.int .i64) 3 w' w.heap.size (fun _=>True) v0_ r∧Below w.heap.size w w':=by
 have HR0:=aM hr0;have HC0:=aM hc0;clear hr0 hc0;have HB:=aM (Below.refl w.heap.size w);have H:(if 0≤(mx a1 (l0.length:Int)) then(if(mx a1 (l0.length:Int):Int).toNat≤35184372088832 then((Gzx.f (List.replicate (mx a1 (l0.length:Int):Int).toNat 0) l0).bind fun bt223=>(some bt223.2)) else(none)) else(none))=some r:=h
 clear h;obtain⟨ji3,hji3⟩:∃ j_:Int,(mx a1 (l0.length:Int))=j_:=⟨_,rfl⟩;replace H:(if 0≤(ji3) then(if(ji3:Int).toNat≤35184372088832 then((Gzx.f (List.replicate (ji3:Int).toNat 0) l0).bind fun bt223=>(some bt223.2)) else(none)) else(none))=some r:=by first|(rw[hji3] at H;exact H)|(simp only[hji3] at H ⊢;exact H)
 (try(have hji3l:0≤ji3:=by(rw[← hji3];unfold mx;(repeat' split) <;> omega)))
 (try(have hji3m:0≤ji3:=by omega))
 have hji3_:(if a1 < (l0.length:Int) then(l0.length:Int) else a1)=ji3:=hji3
 by_cases c4:0≤(ji3)
 ·rw[if_pos c4] at H;have c4b0:=eq_true c4;have c4b1:=dE c4;clear c4;obtain⟨c5,H⟩:=iO H;have c5b0:=eq_true c5;have c5b1:decide ((ji3:Int).toNat≤35184372088832)=true:=dE c5;clear c5;obtain⟨y220,hy220⟩:∃ y_:List Int,y_=(List.replicate (ji3:Int).toNat 0):=⟨_,rfl⟩;replace H:((Gzx.f y220 l0).bind fun bt223=>(some bt223.2))=some r:=yE hy220 H
  have Ny220:=aM hy220;clear hy220;replace H:=bS H;obtain⟨⟨t223,t224⟩,A60,H⟩:=H;replace H:(some t224)=some r:=H;have A6:=aM A60;clear A60;obtain rfl:=Option.some.inj H;go_enter Try.func93,Try.ntmps93
  go_wp2_with (first|((with_reducible refine gate_dst (N:=10) rfl ?_);refine Kd.R_make (Kd.int .i64) _ 3 rfl (N:=10) rfl 34 _ _ rfl ji3 rfl rfl Try.underlying34 (.int .i64 0) 8 info3 rfl (by decide) (by omega) 0 (ok:=fun _=>True) (okp:=fun _=>True) rfl (fun _ hk=>hk) trivial (oE aS) (Nat.le_trans (Nat.mul_le_mul_right _ (oE aS:ji3.toNat≤35184372088832)) (by omega)) (Below.refl _ _) (Nat.le_refl _) ?_;intro v221 w7 ho8 hb hg_ hnew_;clear hg_ hnew_;replace ho8:=rY Ny220 ho8;have HO222:=rL ho8;replace HB:=bB hb;clear hb ho8;obtain⟨Ao9,co9,rfl⟩:=Kd.R_slice HO222.out)|((with_reducible refine gate_builtin (b:=.copy) rfl ?_);refine copyL_ (some 13) rfl rfl rfl (.slice Ao9 y220.length co9) (.slice A0 l0.length c0) rfl rfl ?_;(with_reducible refine(Gzx.calls (by kernel_rfl) (fun k_=>some k_=(.slice Ao9 y220.length co9:Value).ownBlock) (.slice Ao9 y220.length co9) y220 _ _ l0 t223 t224 w _ ?side1 ?side2 ?side3 ?side4 A6.out).mono ?_);(case side1=>exact pB);(case side2=>exact Kd.R_tight rfl HO222.out);(case side3=>exact Kd.C_kept_came (Kd.heap_int .i64) HR0.out pB (fun k_ hs_=>(fun e_=>Kd.R_base HO222.out k_ e_.symm) hs_));(case side4=>exact HC0.out);rintro e w10 ⟨rfl,hy0,hb,hkp⟩;refine⟨_,rfl,?_⟩;replace HO222:=aM (Kd.R_reok rfl hy0 (fun k_ e_=>HO222.out.1 k_ e_));replace HB:=aM (hb);clear hb hkp hy0))
  go_ret
  exact⟨_,by first|rfl|(simp [errW_none,errW_some] <;> rfl)|(simp only[← hji3];first|rfl|(simp [errW_none,errW_some] <;> rfl))|(simp [*,errW_none,errW_some] <;> rfl),rX HO222.out,pB⟩
 ·rw[if_neg c4] at H;exact absurd H (by simp)


def Ezq.l0:Nat→List Int→List Int→Int→Option (Int)
 | 0,_,_,_=>none
 | k+1,x0,x1,x5=>if x5≥0 then(if 0≤x5 then(if x5 < (x0.length:Int) then(if x5 < (x1.length:Int) then(if(rd x0 x5) < (rd x1 x5) then(some (-1)) else(if(rd x0 x5) > (rd x1 x5) then(some 1) else(Ezq.l0 k x0 x1 (wrap64 (x5 - 1))))) else(none)) else(none)) else(none)) else(some 0)
def Ezq.f (k:Nat) (l0:List Int) (l1:List Int):Option (Int):=if(l0.length:Int)=(l1.length:Int) then(Ezq.l0 k l0 l1 (wrap64 ((l0.length:Int) - 1))) else(if(l0.length:Int) < (l1.length:Int) then(some (-1)) else(some 1))
theorem Ezq.mono_l:∀ k,(∀ y0 y1 y2,LeO (Ezq.l0 k y0 y1 y2) (Ezq.l0 (k+1) y0 y1 y2))
 | 0=>fun _ _ _ r h=>by simp [Ezq.l0] at h
 | k+1=>by
  have ih0:=Ezq.mono_l k
  ·intro y0 y1 y2;unfold Ezq.l0;exact mM
theorem Ezq.mono:∀ a0 a1 k,LeO (Ezq.f k a0 a1) (Ezq.f (k+1) a0 a1):=by
 intro a0 a1 k;have ih0:=Ezq.mono_l k;unfold Ezq.f;exact mM
theorem Ezq.calls (k:Nat) (A0:Option Addr) (c0:Nat) (l0:List Int) (A1:Option Addr) (c1:Nat) (l1:List Int) (r:Int) (w:World) (hr0:Kd.C (Kd.int .i64) w A0 l0.length l0) (hc0:l0.length≤c0) (hr1:Kd.C (Kd.int .i64) w A1 l1.length l1) (hc1:l1.length≤c1) (h:Ezq.f k l0 l1=some r) :
  Calls Try.prog 98 #[.slice A0 l0.length c0,.slice A1 l1.length c1] w fun e w'=>e=.returned (.int .i64 r)∧Drawn0 w w':=by
 have HR0:=aM hr0;have HC0:=aM hc0;clear hr0 hc0;have HR1:=aM hr1;have HC1:=aM hc1;clear hr1 hc1;have H:(if(l0.length:Int)=(l1.length:Int) then(Ezq.l0 k l0 l1 (wrap64 ((l0.length:Int) - 1))) else(if(l0.length:Int) < (l1.length:Int) then(some (-1)) else(some 1)))=some r:=h
 clear h;by_cases c3:(l0.length:Int)=(l1.length:Int)
 ·rw[if_pos c3] at H;have c3b0:((l0.length:Int) == (l1.length:Int))=true:=beq_iff_eq.mpr c3;have c3b1:((l0.length:Int) != (l1.length:Int))=false:=bne_eq_false_iff_eq.mpr c3;have c3b2:(l0.length == l1.length)=true:=by first|simpa using c3|(simp at c3 ⊢;omega)
  clear c3;have H':=aM H;clear H;go_enter Try.func98,Try.ntmps98
  go_wp2
  repeat(go_quiet (fail);try go_wp2)
  go_loopg [5] k (fun kq v5 w'=>∃ (x5_1:Int),v5=.int .i64 x5_1∧Aside0 (Ezq.l0 kq l0 l1 x5_1=some r)∧Aside0 (kq≤k)∧Drawn0 w w')
  case atStart=>exact⟨(wrap64 ((l0.length:Int) - 1)),sD,H',⟨Nat.le_refl _⟩,dR⟩
  case round =>
   clear H';try clear c1
   try clear p2
   try clear c3
   try clear c3b0
   try clear c3b1
   try clear c3b2
   obtain⟨x5_1,rfl,HA,HK1,⟨m1,rfl⟩⟩:=hrel;cases gk with
   | zero=>exact absurd HA.out (by simp [Ezq.l0])
   | succ k1 =>
    have H:=HA.out;clear HA;simp only[Ezq.l0] at H;by_cases c4:x5_1≥0
    ·rw[if_pos c4] at H;have c4b0:decide (0≤x5_1)=true:=dE c4;clear c4;obtain⟨c5b0,H⟩:=iN H;obtain⟨c6b0,H⟩:=iN H;obtain⟨c7b0,H⟩:=iN H;by_cases c8:(rd l0 x5_1) < (rd l1 x5_1)
     ·rw[if_pos c8] at H;have c8b0:=dE c8;clear c8;obtain rfl:=Option.some.inj H;obtain⟨ad225,e225,hx225_0,p225,q225⟩:=aI HR0.out x5_1;cases e225;obtain⟨ad226,e226,hx226_0,p226,q226⟩:=aI HR1.out x5_1;cases e226;go_wp2
      repeat(go_quiet (fail);try go_wp2)
      go_ret
      exact⟨sD,dR⟩
     ·rw[if_neg c8] at H;have c8b0:decide ((rd l0 x5_1) < (rd l1 x5_1))=false:=decide_eq_false c8;clear c8;by_cases c9:(rd l0 x5_1) > (rd l1 x5_1)
      ·rw[if_pos c9] at H;have c9b0:decide ((rd l1 x5_1) < (rd l0 x5_1))=true:=dE c9;clear c9;obtain rfl:=Option.some.inj H;obtain⟨ad225,e225,hx225_0,p225,q225⟩:=aI HR0.out x5_1;cases e225;obtain⟨ad226,e226,hx226_0,p226,q226⟩:=aI HR1.out x5_1;cases e226;obtain⟨ad227,e227,hx227_0,p227,q227⟩:=aI HR0.out x5_1;obtain rfl:ad225=ad227:=(by injection e227);obtain⟨ad228,e228,hx228_0,p228,q228⟩:=aI HR1.out x5_1;obtain rfl:ad226=ad228:=(by injection e228);go_wp2
       repeat(go_quiet (fail);try go_wp2)
       go_ret
       exact⟨sD,dR⟩
      ·rw[if_neg c9] at H;have c9b0:decide ((rd l1 x5_1) < (rd l0 x5_1))=false:=decide_eq_false c9;clear c9;have H':=aM H;clear H;obtain⟨ad225,e225,hx225_0,p225,q225⟩:=aI HR0.out x5_1;cases e225;obtain⟨ad226,e226,hx226_0,p226,q226⟩:=aI HR1.out x5_1;cases e226;obtain⟨ad227,e227,hx227_0,p227,q227⟩:=aI HR0.out x5_1;obtain rfl:ad225=ad227:=(by injection e227);obtain⟨ad228,e228,hx228_0,p228,q228⟩:=aI HR1.out x5_1;obtain rfl:ad226=ad228:=(by injection e228);go_wp2
       repeat(go_quiet (fail);try go_wp2)
       go_roundg k1
       case measure=>have:=HK1.out;omega
       case rel=>exact⟨(wrap64 (x5_1 - 1)),sD,H',⟨by have:=HK1.out;omega⟩,dR⟩
    ·rw[if_neg c4] at H;have c4b0:decide (0≤x5_1)=false:=decide_eq_false c4;clear c4;obtain rfl:=Option.some.inj H;go_wp2
     repeat(go_quiet (fail);try go_wp2)
     go_ret
     exact⟨sD,dR⟩
 ·rw[if_neg c3] at H;have c3b0:((l0.length:Int) == (l1.length:Int))=false:=beq_eq_false_iff_ne.mpr c3;have c3b1:((l0.length:Int) != (l1.length:Int))=true:=bne_iff_ne.mpr c3;have c3b2:(l0.length == l1.length)=false:=by first|simpa using c3|(simp at c3 ⊢;omega)
  by_cases c10:(l0.length:Int) < (l1.length:Int)
  ·rw[if_pos c10] at H;have c10b0:=dE c10;have c10b1:decide (l0.length < l1.length)=true:=dE (Int.ofNat_lt.mp c10);clear c10;obtain rfl:=Option.some.inj H;go_enter Try.func98,Try.ntmps98
   go_wp2
   repeat(go_quiet (fail);try go_wp2)
   go_ret
   exact⟨sD,dR⟩
  ·rw[if_neg c10] at H;have c10b0:decide ((l0.length:Int) < (l1.length:Int))=false:=decide_eq_false c10;have c10b1:decide (l0.length < l1.length)=false:=decide_eq_false (fun h=>c10 (Int.ofNat_lt.mpr h))
   clear c10;obtain rfl:=Option.some.inj H;go_enter Try.func98,Try.ntmps98
   go_wp2
   repeat(go_quiet (fail);try go_wp2)
   go_ret
   exact⟨sD,dR⟩

end Go.Proofs.Ytnklckihalhlmaa.Print
