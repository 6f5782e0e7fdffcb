import Derived.Test.YtnklckihalhlmaaPrint0
import Derived.Test.YtnklckihalhlmaaPrint15
namespace Go.Proofs.Ytnklckihalhlmaa.Print
open Go.RowKit Go.Proofs.YtnklckihalhlmaaW.PrintWords Go.Proofs.YtnklckihalhlmaaW.PrintLast Go.Proofs.YtnklckihalhlmaaW.PrintMore
attribute [local go_sem] max2_int min2_int max_two min_two max_three min_three max_four min_four
set_option linter.unusedVariables false
set_option maxRecDepth 100000
set_option maxHeartbeats 8000000
set_option linter.unusedSimpArgs false

def Fzy.f (k:Nat) (a0:Int) (l1:List Int):Option (List Int × Int):=(Bzp.f k a0 l1).bind fun bt248=>(some (bt248.1,bt248.2))
theorem Fzy.mono:∀ a6 a7 k,LeO (Fzy.f k a6 a7) (Fzy.f (k+1) a6 a7):=by
 intro a6 a7 k;unfold Fzy.f;have i0:=@Bzp.mono;exact mM
theorem Fzy.calls (k:Nat) (a6:Int) (a7:Option Addr) (a8:Nat) (l1:List Int) (a9:List Int) (b3:Int) (w:World) (b4:Kd.C (Kd.int .i64) w a7 l1.length l1) (b5:l1.length≤a8) (h:Fzy.f k a6 l1=some (a9,b3)) :
  Calls Try.prog 18 #[.int .i64 a6,.slice a7 l1.length a8] w fun e w'=>∃ v0_:Value,e=.returned (.tuple #[v0_,.int .i64 b3])∧Kd.R (Kd.int .i64) 3 w' w.heap.size (fun _=>True) v0_ a9∧Below w.heap.size w w':=by
 have b6:=aM b4;have b7:=aM b5;clear b4 b5;have HB:=aM (Below.refl w.heap.size w);have H:((Bzp.f k a6 l1).bind fun b8=>(some (b8.1,b8.2)))=some (a9,b3):=h
 clear h;replace H:=bS H;obtain⟨⟨b9,d0⟩,d1,H⟩:=H;replace H:(some (b9,d0))=some (a9,b3):=H;have d3:=aM d1;clear d1;obtain⟨rfl,rfl⟩:=q2 H;go_enter Try.func18,Try.ntmps18
 go_wp2_with (first|((with_reducible refine gc 36 rfl ?_);refine gC 36 (some 8) Try.func36 #[.int .i64 a6,.slice a7 l1.length a8] ?_;(with_reducible refine(Bzp.calls k a6 _ _ l1 b9 d0 _ ?_ ?_ d3.out).mono ?_);exact cX b6.out;exact b7.out;rintro e d4 ⟨d5,rfl,d6,hb⟩;refine⟨_,rfl,?_⟩;have d7:=rL d6;replace HB:=bB hb;clear hb d6))
 go_ret2
 exact⟨_,eW,rX d7.out,pB⟩

def Hzz.f (a0:Int):Option (Bool):=if a0≥(-1125899906842624) then(some (decide (a0≤1125899906842624))) else(some false)
theorem Hzz.calls (a6:Int) (r:Bool) (w:World) (h:Hzz.f a6=some r) :
  Calls Try.prog 58 #[.int .i64 a6] w fun e w'=>e=.returned (.bool r)∧Drawn0 w w':=by
 have H:(if a6≥(-1125899906842624) then(some (decide (a6≤1125899906842624))) else(some false))=some r:=h
 clear h;by_cases c2:a6≥(-1125899906842624)
 ·rw[if_pos c2] at H;have a7:decide ((-1125899906842624)≤a6)=true:=dE c2;clear c2;obtain rfl:=Option.some.inj H;go_enter Try.func58,Try.ntmps58
  go_wp2
  go_ret
  exact⟨sD,dR⟩
 ·rw[if_neg c2] at H;have a7:decide ((-1125899906842624)≤a6)=false:=decide_eq_false c2;clear c2;obtain rfl:=Option.some.inj H;go_enter Try.func58,Try.ntmps58
  go_wp2
  go_ret
  exact⟨sD,dR⟩

def Fzw.l0:Nat→Int→List Int→Option (List Int × Int)
 | 0,_,_=>none
 | k+1,x0,x4=>if x0 > 0 then(if x4.length < 17592186044416 then(Fzw.l0 k (wrap64 (Int.tdiv x0 1000000000)) (x4 ++ [Int.tmod x0 1000000000])) else(none)) else(some (x4,0))
def Fzw.f (k:Nat) (a0:Int):Option (List Int × Int):=if a0 < 0 then(some (([]:List Int),1)) else(Fzw.l0 k a0 ([]:List Int))
theorem Fzw.mono_l:∀ k,(∀ a6 a7,LeO (Fzw.l0 k a6 a7) (Fzw.l0 (k+1) a6 a7))
 | 0=>fun _ _ r h=>by simp [Fzw.l0] at h
 | k+1=>by
  have ih0:=Fzw.mono_l k
  ·intro a6 a7;unfold Fzw.l0;exact mM
theorem Fzw.mono:∀ a6 k,LeO (Fzw.f k a6) (Fzw.f (k+1) a6):=by
 intro a6 k;have ih0:=Fzw.mono_l k;unfold Fzw.f;exact mM
theorem Fzw.calls (k:Nat) (a6:Int) (a7:List Int) (a8:Int) (w:World) (h:Fzw.f k a6=some (a7,a8)) :
  Calls Try.prog 79 #[.int .i64 a6] w fun e w'=>∃ v0_:Value,e=.returned (.tuple #[v0_,.int .i64 a8])∧Kd.R (Kd.int .i64) 3 w' w.heap.size (fun _=>True) v0_ a7∧Below w.heap.size w w':=by
 have HB:=aM (Below.refl w.heap.size w);have H:(if a6 < 0 then(some (([]:List Int),1)) else(Fzw.l0 k a6 ([]:List Int)))=some (a7,a8):=h
 clear h;by_cases c2:a6 < 0
 ·rw[if_pos c2] at H;have a9:=dE c2;clear c2;obtain⟨rfl,rfl⟩:=q2 H;go_enter Try.func79,Try.ntmps79
  go_wp2
  go_ret2
  exact⟨_,eW,nK,pB⟩
 ·rw[if_neg c2] at H;have a9:decide (a6 < 0)=false:=decide_eq_false c2;clear c2;have H':=aM H;clear H;go_enter Try.func79,Try.ntmps79
  go_wp2
  go_loopg [0,4] k (fun kq b3 b4 w'=>∃ (b5:Int) (b6:List Int),b3=.int .i64 b5∧Aside0 (Fzw.l0 kq b5 b6=some (a7,a8))∧Aside0 (kq≤k)∧Aside0 (Kd.R (Kd.int .i64) 3 w' w.heap.size (fun _=>True) b4 b6)∧Aside0 (Below w.heap.size w w'))
  case atStart=>exact⟨(a6),(([]:List Int)),sD,H',⟨Nat.le_refl _⟩,⟨nK⟩,⟨pB⟩⟩
  case round =>
   clear H';try clear c2
   obtain⟨b5,b6,rfl,HA,b7,b8,HB⟩:=hrel;cases gk with
   | zero=>exact absurd HA.out (by simp [Fzw.l0])
   | succ k1 =>
    have H:=HA.out;clear HA;simp only[Fzw.l0] at H;by_cases c3:b5 > 0
    ·rw[if_pos c3] at H;have b9:decide (0 < b5)=true:=dE c3;clear c3;obtain⟨c4,H⟩:=iO H;have LMc4:=aM c4;clear c4;obtain⟨d0,d1⟩:∃ y_:List Int,y_=(b6 ++ [Int.tmod b5 1000000000]):=⟨_,rfl⟩;replace H:(Fzw.l0 k1 (wrap64 (Int.tdiv b5 1000000000)) d0)=some (a7,a8):=yE d1 H
     have d3:=aM d1;clear d1;have H':=aM H;clear H;go_wp2_with (first|((with_reducible refine gate_builtin (b:=.append) (xs:=#[.tmp 11,.tmp 14]) rfl ?_);at_builtin;refine Kd.R_append (Kd.int .i64) (w0:=w) w.heap.size rfl (.tmp 11) (.tmp 14) 37 3 (.int .i64 0) 8 rfl Try.underlying37 info3 rfl (by decide) (by omega) u4 b6 (Int.tmod b5 1000000000) [.int .i64 (Int.tmod b5 1000000000)] (fun _=>True) (fun _=>False) rfl rfl ?aP (fun _ hk=>hk.elim) ?aF ?aO ?aB ?aS ?aL ?_;(case aP=>exact rfl);(case aB=>exact pB);(case aF=>exact(fun _ _=>trivial));(case aO=>exact(rX b8.out));(case aS=>exact(below_size pB));(case aL=>have:=LMc4.out;omega);intro d4 d5 ho hb hg hat;rw[← d3.out] at ho;have d6:=aM (ho);replace HB:=aM (hb);clear b8 ho hb hg hat))
     go_roundg k1
     case measure=>have:=b7.out;omega
     case rel=>exact⟨(wrap64 (Int.tdiv b5 1000000000)),(d0),sD,H',⟨by have:=b7.out;omega⟩,⟨rX d6.out⟩,⟨pB⟩⟩
    ·rw[if_neg c3] at H;have b9:decide (0 < b5)=false:=decide_eq_false c3;clear c3;obtain⟨rfl,rfl⟩:=q2 H;go_wp2
     go_ret2
     exact⟨_,eW,rX b8.out,pB⟩

def Bzv.l0:Nat→List Int→Int→Int→Option (Bool)
 | 0,_,_,_=>none
 | k+1,x0,x8,x9=>if x9 < x8 then(if 0≤x9 then(if x9 < (x0.length:Int) then(if(rd x0 x9) < 0 then(some false) else(if(rd x0 x9)≥1000000000 then(some false) else(Bzv.l0 k x0 x8 (wrap64 (x9+1))))) else(none)) else(none)) else(if(x0.length:Int)=0 then(some true) else(if 0≤(wrap64 ((x0.length:Int) - 1)) then(if(wrap64 ((x0.length:Int) - 1)) < (x0.length:Int) then(some ((rd x0 (wrap64 ((x0.length:Int) - 1))) != 0)) else(none)) else(none)))
def Bzv.f (k:Nat) (l0:List Int):Option (Bool):=if(l0.length:Int) > 48 then(some false) else(Bzv.l0 k l0 (l0.length:Int) 0)
theorem Bzv.mono_l:∀ k,(∀ a6 a7 a8,LeO (Bzv.l0 k a6 a7 a8) (Bzv.l0 (k+1) a6 a7 a8))
 | 0=>fun _ _ _ r h=>by simp [Bzv.l0] at h
 | k+1=>by
  have ih0:=Bzv.mono_l k
  ·intro a6 a7 a8;unfold Bzv.l0;exact mM
theorem Bzv.mono:∀ a6 k,LeO (Bzv.f k a6) (Bzv.f (k+1) a6):=by
 intro a6 k;have ih0:=Bzv.mono_l k;unfold Bzv.f;exact mM
theorem Bzv.calls (k:Nat) (a6:Option Addr) (a7:Nat) (l0:List Int) (r:Bool) (w:World) (a8:Kd.C (Kd.int .i64) w a6 l0.length l0) (a9:l0.length≤a7) (h:Bzv.f k l0=some r) :
  Calls Try.prog 90 #[.slice a6 l0.length a7] w fun e w'=>e=.returned (.bool r)∧Drawn0 w w':=by
 have b3:=aM a8;have b4:=aM a9;clear a8 a9;have H:(if(l0.length:Int) > 48 then(some false) else(Bzv.l0 k l0 (l0.length:Int) 0))=some r:=h
 clear h;by_cases c2:(l0.length:Int) > 48
 ·rw[if_pos c2] at H;have b5:decide (48 < (l0.length:Int))=true:=dE c2;have b6:decide (48 < l0.length)=true:=dE (by omega)
  clear c2;obtain rfl:=Option.some.inj H;go_enter Try.func90,Try.ntmps90
  go_wp2
  go_ret
  exact⟨sD,dR⟩
 ·rw[if_neg c2] at H;have b5:decide (48 < (l0.length:Int))=false:=decide_eq_false c2;have b6:decide (48 < l0.length)=false:=decide_eq_false (by omega)
  clear c2;have H':=aM H;clear H;go_enter Try.func90,Try.ntmps90
  go_wp2
  go_loopg [9] k (fun kq b7 w'=>∃ (b8:Int),b7=.int .i64 b8∧Aside0 (Bzv.l0 kq l0 (l0.length:Int) b8=some r)∧Aside0 (kq≤k)∧Drawn0 w w')
  case atStart=>exact⟨(0),sD,H',⟨Nat.le_refl _⟩,dR⟩
  case round =>
   clear H';try clear c2
   obtain⟨b8,rfl,HA,b9,⟨d0,rfl⟩⟩:=hrel;cases gk with
   | zero=>exact absurd HA.out (by simp [Bzv.l0])
   | succ k1 =>
    have H:=HA.out;clear HA;simp only[Bzv.l0] at H;by_cases c3:b8 < (l0.length:Int)
    ·rw[if_pos c3] at H;have d1:=dE c3;clear c3;obtain⟨d3,H⟩:=iN H;obtain⟨d4,H⟩:=iN H;by_cases c6:(rd l0 b8) < 0
     ·rw[if_pos c6] at H;have d5:=dE c6;clear c6;obtain rfl:=Option.some.inj H;obtain⟨d6,d7,d8,d9,e6⟩:=aI b3.out b8;cases d7;go_wp2
      go_ret
      exact⟨sD,dR⟩
     ·rw[if_neg c6] at H;have d5:decide ((rd l0 b8) < 0)=false:=decide_eq_false c6;clear c6;by_cases c7:(rd l0 b8)≥1000000000
      ·rw[if_pos c7] at H;have e7:decide (1000000000≤(rd l0 b8))=true:=dE c7;clear c7;obtain rfl:=Option.some.inj H;obtain⟨d6,d7,d8,d9,e6⟩:=aI b3.out b8;cases d7;obtain⟨e8,f3,f4,f5,f6⟩:=aI b3.out b8;obtain rfl:d6=e8:=(by injection f3);go_wp2
       go_ret
       exact⟨sD,dR⟩
      ·rw[if_neg c7] at H;have e7:decide (1000000000≤(rd l0 b8))=false:=decide_eq_false c7;clear c7;have H':=aM H;clear H;obtain⟨d6,d7,d8,d9,e6⟩:=aI b3.out b8;cases d7;obtain⟨e8,f3,f4,f5,f6⟩:=aI b3.out b8;obtain rfl:d6=e8:=(by injection f3);go_wp2
       go_roundg k1
       case measure=>have:=b9.out;omega
       case rel=>exact⟨(wrap64 (b8+1)),sD,H',⟨by have:=b9.out;omega⟩,dR⟩
    ·rw[if_neg c3] at H;have d1:decide (b8 < (l0.length:Int))=false:=decide_eq_false c3;clear c3;by_cases c8:(l0.length:Int)=0
     ·rw[if_pos c8] at H;obtain⟨f7,f8⟩:=bE c8;clear c8;obtain rfl:=Option.some.inj H;go_wp2
      go_ret
      exact⟨sD,dR⟩
     ·rw[if_neg c8] at H;obtain⟨f7,f8⟩:=bI c8;have f9:¬ (l0=[]):=fun h_=>c8 (by rw[h_];rfl)
      obtain⟨g6,g7⟩:∃ j_:Int,(wrap64 ((l0.length:Int) - 1))=j_:=⟨_,rfl⟩;replace H:(if 0≤(g6) then(if(g6) < (l0.length:Int) then(some ((rd l0 (g6)) != 0)) else(none)) else(none))=some r:=by first|(rw[g7] at H;exact H)|(simp only[g7] at H ⊢;exact H)
      have g8:(IntKind.i64.wrap ((l0.length:Int) - 1))=g6:=(i64_w _).trans g7;by_cases c10:0≤(g6)
      ·rw[if_pos c10] at H;have g9:=dE c10;clear c10;obtain⟨j5,H⟩:=iN H;obtain rfl:=Option.some.inj H;obtain⟨j9,l5,l6,l7,l8⟩:=aI b3.out (g6);cases l5;go_wp2
       go_ret
       exact⟨by first|rfl|(simp;done)|(simp only[← g7] <;> (first|rfl|simp))|(simp [*];done),dR⟩
      ·rw[if_neg c10] at H;exact absurd H (by simp)


def Czj.l0:Nat→List Int→Int→Option (List Int)
 | 0,_,_=>none
 | k+1,x0,x3=>if x3 > 0 then(if 0≤(wrap64 (x3 - 1)) then(if(wrap64 (x3 - 1)) < (x0.length:Int) then(if(rd x0 (wrap64 (x3 - 1)))=0 then(Czj.l0 k x0 (wrap64 (x3 - 1))) else(if 0≤x3 then(if x3≤(x0.length:Int) then(some (x0.take (x3:Int).toNat)) else(none)) else(none))) else(none)) else(none)) else(if 0≤x3 then(if x3≤(x0.length:Int) then(some (x0.take (x3:Int).toNat)) else(none)) else(none))
def Czj.f (k:Nat) (l0:List Int):Option (List Int):=Czj.l0 k l0 (l0.length:Int)
theorem Czj.mono_l:∀ k,(∀ a6 a7,LeO (Czj.l0 k a6 a7) (Czj.l0 (k+1) a6 a7))
 | 0=>fun _ _ r h=>by simp [Czj.l0] at h
 | k+1=>by
  have ih0:=Czj.mono_l k
  ·intro a6 a7;unfold Czj.l0;exact mM
theorem Czj.mono:∀ a6 k,LeO (Czj.f k a6) (Czj.f (k+1) a6):=by
 intro a6 k;have ih0:=Czj.mono_l k;unfold Czj.f;exact mM
theorem Czj.calls (k:Nat) (a6:Nat→Prop) (u9000_:Value) (l0:List Int) (r:List Int) (a7 w:World) (hB:Below a7.heap.size a7 w) (a8:Kd.R (Kd.int .i64) 3 w a7.heap.size a6 u9000_ l0) (h:Czj.f k l0=some r) :
  Calls Try.prog 92 #[u9000_] w fun e w'=>∃ v0_:Value,e=.returned (v0_)∧Kd.R (Kd.int .i64) 3 w' a7.heap.size (fun k_=>(a6 k_∨w.heap.size≤k_)) v0_ r∧Below a7.heap.size a7 w'∧Kept w w' (fun k_=>a6 k_):=by
 have a9:=aM (show Kd.R (Kd.int .i64) 3 w a7.heap.size (fun k_=>(a6 k_∨w.heap.size≤k_)) u9000_ l0 from Kd.R_mono a8 (fun k_ hk=>(.inl hk)))
 have HK:=aM (Kept.refl w (fun k_=>a6 k_))
 have HW0:=aM hB.size;have HB:=aM hB;clear hB;have H:(Czj.l0 k l0 (l0.length:Int))=some r:=h;clear h;have H':=aM H;clear H;obtain⟨b3,b4,rfl⟩:=Kd.R_slice a9.out;go_enter Try.func92,Try.ntmps92
 go_wp2
 go_loopg [3] k (fun kq b5 w'=>∃ (b6:Int),b5=.int .i64 b6∧Aside0 (Czj.l0 kq l0 b6=some r)∧Aside0 (kq≤k)∧Aside0 (Kd.R (Kd.int .i64) 3 w' a7.heap.size (fun k_=>(a6 k_∨w.heap.size≤k_)) (.slice b3 l0.length b4) l0)∧Aside0 (Kept w w' (fun k_=>a6 k_))∧Aside0 (Below a7.heap.size a7 w'))
 case atStart=>exact⟨((l0.length:Int)),sD,H',⟨Nat.le_refl _⟩,⟨rX a9.out⟩,⟨kK HK⟩,⟨pB⟩⟩
 case round =>
  clear H';try clear p2
  obtain⟨b6,rfl,HA,b7,b8,HK,HB⟩:=hrel;cases gk with
  | zero=>exact absurd HA.out (by simp [Czj.l0])
  | succ k1 =>
   have H:=HA.out;clear HA;simp only[Czj.l0] at H;by_cases c3:b6 > 0
   ·rw[if_pos c3] at H;have b9:decide (0 < b6)=true:=dE c3;clear c3;obtain⟨d0,d1⟩:∃ j_:Int,(wrap64 (b6 - 1))=j_:=⟨_,rfl⟩;replace H:(if 0≤(d0) then(if(d0) < (l0.length:Int) then(if(rd l0 (d0))=0 then(Czj.l0 k1 l0 d0) else(if 0≤b6 then(if b6≤(l0.length:Int) then(some (l0.take (b6:Int).toNat)) else(none)) else(none))) else(none)) else(none))=some r:=by first|(rw[d1] at H;exact H)|(simp only[d1] at H ⊢;exact H)
    have d3:(IntKind.i64.wrap (b6 - 1))=d0:=(i64_w _).trans d1;obtain⟨d4,H⟩:=iN H;obtain⟨d5,H⟩:=iN H;by_cases c7:(rd l0 (d0))=0
    ·rw[if_pos c7] at H;obtain⟨d6,d7⟩:=bE c7;clear c7;have H':=aM H;clear H;obtain⟨d8,d9,e6,e7,e8⟩:=aI (Kd.R_reads' b8.out).2.2 (d0);cases d9;go_wp2
     go_roundg k1
     case measure=>have:=b7.out;omega
     case rel=>exact⟨(d0),(by first|rfl|(simp;done)|(simp only[← d1] <;> (first|rfl|simp))|(simp [*];done)),H',⟨by have:=b7.out;omega⟩,⟨rX b8.out⟩,⟨kK HK⟩,⟨pB⟩⟩
    ·rw[if_neg c7] at H;obtain⟨d6,d7⟩:=bI c7;obtain⟨c8,H⟩:=iO H;have f3:=eq_true c8;have f4:decide (0≤b6)=true:=dE c8;clear c8;obtain⟨c9,H⟩:=iO H;have f5:=eq_true c9;have f6:decide (b6≤(l0.length:Int))=true:=dE c9;clear c9;obtain⟨f7,f8⟩:∃ y_:List Int,y_=(l0.take (b6:Int).toNat):=⟨_,rfl⟩;replace H:(some f7)=some r:=yE f8 H
     have f9:=aM f8;clear f8;obtain rfl:=Option.some.inj H;obtain⟨d8,d9,e6,e7,e8⟩:=aI (Kd.R_reads' b8.out).2.2 (d0);cases d9;have g6:(b6:Int)≤((l0.length:Int):Int):=oE aS
     obtain⟨i010,g7,_,hsz10,_⟩:=info_parts info3;have hcut10:=cut_to (P:=Try.prog) 34 3 .i64 Try.underlying34 g7 (some d8) l0.length b4 b6 (oE aS) g6 (Kd.R_reads' b8.out).2.1
     have g8:=Kd.R_take (m:=(b6:Int).toNat) b8.out (by omega)
     have g9:f7.length=(b6:Int).toNat:=(by rw[f9.out,List.length_take];omega)
     rw[← f9.out] at g8;rw[← g9] at g8 hcut10;clear g9 g7 hsz10 b8;have j5:=aM g8;clear g8;replace g6:=eq_true g6;go_wp2
     go_ret
     exact⟨_,by first|rfl|(simp [errW_none,errW_some] <;> rfl)|(simp only[← d1];first|rfl|(simp [errW_none,errW_some] <;> rfl))|(simp [*,errW_none,errW_some] <;> rfl),rX j5.out,pB,kK HK⟩
   ·rw[if_neg c3] at H;have b9:decide (0 < b6)=false:=decide_eq_false c3;clear c3;by_cases j9:0≤b6
    ·rw[if_pos j9] at H;have l5:=eq_true j9;have l6:=dE j9;clear j9;obtain⟨l7,H⟩:=iO H;have l8:=eq_true l7;have l9:decide (b6≤(l0.length:Int))=true:=dE l7;clear l7;obtain⟨m4,m5⟩:∃ y_:List Int,y_=(l0.take (b6:Int).toNat):=⟨_,rfl⟩;replace H:(some m4)=some r:=yE m5 H
     have m6:=aM m5;clear m5;obtain rfl:=Option.some.inj H;have m7:(b6:Int)≤((l0.length:Int):Int):=oE aS
     obtain⟨i013,m8,_,hsz13,_⟩:=info_parts info3;have hcut13:=cut_to (P:=Try.prog) 34 3 .i64 Try.underlying34 m8 b3 l0.length b4 b6 (oE aS) m7 (Kd.R_reads' b8.out).2.1
     have m9:=Kd.R_take (m:=(b6:Int).toNat) b8.out (by omega)
     have n0:m4.length=(b6:Int).toNat:=(by rw[m6.out,List.length_take];omega)
     rw[← m6.out] at m9;rw[← n0] at m9 hcut13;clear n0 m8 hsz13 b8;have n1:=aM m9;clear m9;replace m7:=eq_true m7;go_wp2
     go_ret
     exact⟨_,eW,rX n1.out,pB,kK HK⟩
    ·rw[if_neg j9] at H;exact absurd H (by simp)

def Gzx.f (l0:List Int) (a1:Int):Option (List Int):=if 0≤(mx a1 (l0.length:Int)) then(if(mx a1 (l0.length:Int):Int).toNat≤35184372088832 then((Gzm.f (List.replicate (mx a1 (l0.length:Int):Int).toNat 0) l0).bind fun bt268=>(some bt268.2)) else(none)) else(none)
theorem Gzx.calls (a6:Option Addr) (a7:Nat) (l0:List Int) (a8:Int) (r:List Int) (w:World) (a9:Kd.C (Kd.int .i64) w a6 l0.length l0) (b3:l0.length≤a7) (h:Gzx.f l0 a8=some r) :
  Calls Try.prog 93 #[.slice a6 l0.length a7,.int .i64 a8] w fun e w'=>∃ v0_:Value,e=.returned (v0_)∧Kd.R (Kd.int .i64) 3 w' w.heap.size (fun _=>True) v0_ r∧Below w.heap.size w w':=by
 have b4:=aM a9;have b5:=aM b3;clear a9 b3;have HB:=aM (Below.refl w.heap.size w);have H:(if 0≤(mx a8 (l0.length:Int)) then(if(mx a8 (l0.length:Int):Int).toNat≤35184372088832 then((Gzm.f (List.replicate (mx a8 (l0.length:Int):Int).toNat 0) l0).bind fun b6=>(some b6.2)) else(none)) else(none))=some r:=h
 clear h;obtain⟨b7,b8⟩:∃ j_:Int,(mx a8 (l0.length:Int))=j_:=⟨_,rfl⟩;replace H:(if 0≤(b7) then(if(b7:Int).toNat≤35184372088832 then((Gzm.f (List.replicate (b7:Int).toNat 0) l0).bind fun b6=>(some b6.2)) else(none)) else(none))=some r:=by first|(rw[b8] at H;exact H)|(simp only[b8] at H ⊢;exact H)
 (try(have b9:0≤b7:=by(rw[← b8];unfold mx;(repeat' split) <;> omega)))
 (try(have d0:0≤b7:=by omega))
 have d1:(if a8 < (l0.length:Int) then(l0.length:Int) else a8)=b7:=b8
 by_cases c4:0≤(b7)
 ·rw[if_pos c4] at H;have d3:=eq_true c4;have d4:=dE c4;clear c4;obtain⟨c5,H⟩:=iO H;have d5:=eq_true c5;have d6:decide ((b7:Int).toNat≤35184372088832)=true:=dE c5;clear c5;obtain⟨d7,d8⟩:∃ y_:List Int,y_=(List.replicate (b7:Int).toNat 0):=⟨_,rfl⟩;replace H:((Gzm.f d7 l0).bind fun b6=>(some b6.2))=some r:=yE d8 H
  have d9:=aM d8;clear d8;replace H:=bS H;obtain⟨⟨e6,e7⟩,e8,H⟩:=H;replace H:(some e7)=some r:=H;have f3:=aM e8;clear e8;obtain rfl:=Option.some.inj H;go_enter Try.func93,Try.ntmps93
  go_wp2_with (first|((with_reducible refine gate_dst (N:=10) rfl ?_);refine Kd.R_make (Kd.int .i64) _ 3 rfl (N:=10) rfl 34 _ _ rfl b7 rfl rfl Try.underlying34 (.int .i64 0) 8 info3 rfl (by decide) (by omega) 0 (ok:=fun _=>True) (okp:=fun _=>True) rfl (fun _ hk=>hk) trivial (oE aS) (Nat.le_trans (Nat.mul_le_mul_right _ (oE aS:b7.toNat≤35184372088832)) (by omega)) (Below.refl _ _) (Nat.le_refl _) ?_;intro f4 f5 f6 hb hg_ hnew_;clear hg_ hnew_;replace f6:=rY d9 f6;have f7:=rL f6;replace HB:=bB hb;clear hb f6;obtain⟨f8,f9,rfl⟩:=Kd.R_slice f7.out)|((with_reducible refine gate_builtin (b:=.copy) rfl ?_);refine copyL_ (some 13) rfl rfl rfl (.slice f8 d7.length f9) (.slice a6 l0.length a7) rfl rfl ?_;(with_reducible refine(Gzm.calls (by kernel_rfl) (fun k_=>some k_=(.slice f8 d7.length f9:Value).ownBlock) (.slice f8 d7.length f9) d7 _ _ l0 e6 e7 w _ ?_ ?_ ?_ ?_ f3.out).mono ?_);exact pB;exact Kd.R_tight rfl f7.out;exact Kd.C_kept_came (Kd.heap_int .i64) b4.out pB (fun k_ hs_=>(fun e_=>Kd.R_base f7.out k_ e_.symm) hs_);exact b5.out;rintro e g6 ⟨rfl,g7,hb,hkp⟩;refine⟨_,rfl,?_⟩;replace f7:=aM (Kd.R_reok rfl g7 (fun k_ e_=>f7.out.1 k_ e_));replace HB:=aM (hb);clear hb hkp g7))
  go_ret
  exact⟨_,by first|rfl|(simp [errW_none,errW_some] <;> rfl)|(simp only[← b8];first|rfl|(simp [errW_none,errW_some] <;> rfl))|(simp [*,errW_none,errW_some] <;> rfl),rX f7.out,pB⟩
 ·rw[if_neg c4] at H;exact absurd H (by simp)


def Ezj.l0:Nat→List Int→List Int→Int→Option (Int)
 | 0,_,_,_=>none
 | k+1,x0,x1,x5=>if x5≥0 then(if 0≤x5 then(if x5 < (x0.length:Int) then(if x5 < (x1.length:Int) then(if(rd x0 x5) < (rd x1 x5) then(some (-1)) else(if(rd x0 x5) > (rd x1 x5) then(some 1) else(Ezj.l0 k x0 x1 (wrap64 (x5 - 1))))) else(none)) else(none)) else(none)) else(some 0)
def Ezj.f (k:Nat) (l0:List Int) (l1:List Int):Option (Int):=if(l0.length:Int)=(l1.length:Int) then(Ezj.l0 k l0 l1 (wrap64 ((l0.length:Int) - 1))) else(if(l0.length:Int) < (l1.length:Int) then(some (-1)) else(some 1))
theorem Ezj.mono_l:∀ k,(∀ a6 a7 a8,LeO (Ezj.l0 k a6 a7 a8) (Ezj.l0 (k+1) a6 a7 a8))
 | 0=>fun _ _ _ r h=>by simp [Ezj.l0] at h
 | k+1=>by
  have ih0:=Ezj.mono_l k
  ·intro a6 a7 a8;unfold Ezj.l0;exact mM
theorem Ezj.mono:∀ a6 a7 k,LeO (Ezj.f k a6 a7) (Ezj.f (k+1) a6 a7):=by
 intro a6 a7 k;have ih0:=Ezj.mono_l k;unfold Ezj.f;exact mM
theorem Ezj.calls (k:Nat) (a6:Option Addr) (a7:Nat) (l0:List Int) (a8:Option Addr) (a9:Nat) (l1:List Int) (r:Int) (w:World) (b3:Kd.C (Kd.int .i64) w a6 l0.length l0) (b4:l0.length≤a7) (b5:Kd.C (Kd.int .i64) w a8 l1.length l1) (b6:l1.length≤a9) (h:Ezj.f k l0 l1=some r) :
  Calls Try.prog 98 #[.slice a6 l0.length a7,.slice a8 l1.length a9] w fun e w'=>e=.returned (.int .i64 r)∧Drawn0 w w':=by
 have b7:=aM b3;have b8:=aM b4;clear b3 b4;have b9:=aM b5;have d0:=aM b6;clear b5 b6;have H:(if(l0.length:Int)=(l1.length:Int) then(Ezj.l0 k l0 l1 (wrap64 ((l0.length:Int) - 1))) else(if(l0.length:Int) < (l1.length:Int) then(some (-1)) else(some 1)))=some r:=h
 clear h;by_cases c3:(l0.length:Int)=(l1.length:Int)
 ·rw[if_pos c3] at H;obtain⟨d1,d3⟩:=bE c3;have d4:(l0.length == l1.length)=true:=by first|simpa using c3|(simp at c3 ⊢;omega)
  clear c3;have H':=aM H;clear H;go_enter Try.func98,Try.ntmps98
  go_wp2
  repeat(go_quiet (fail);try go_wp2)
  go_loopg [5] k (fun kq d5 w'=>∃ (d6:Int),d5=.int .i64 d6∧Aside0 (Ezj.l0 kq l0 l1 d6=some r)∧Aside0 (kq≤k)∧Drawn0 w w')
  case atStart=>exact⟨(wrap64 ((l0.length:Int) - 1)),sD,H',⟨Nat.le_refl _⟩,dR⟩
  case round =>
   clear H';try clear a9
   obtain⟨d6,rfl,HA,d7,⟨d8,rfl⟩⟩:=hrel;cases gk with
   | zero=>exact absurd HA.out (by simp [Ezj.l0])
   | succ k1 =>
    have H:=HA.out;clear HA;simp only[Ezj.l0] at H;by_cases c4:d6≥0
    ·rw[if_pos c4] at H;have d9:decide (0≤d6)=true:=dE c4;clear c4;obtain⟨e6,H⟩:=iN H;obtain⟨e7,H⟩:=iN H;obtain⟨e8,H⟩:=iN H;by_cases c8:(rd l0 d6) < (rd l1 d6)
     ·rw[if_pos c8] at H;have f3:=dE c8;clear c8;obtain rfl:=Option.some.inj H;obtain⟨f4,f5,f6,f7,f8⟩:=aI b7.out d6;cases f5;obtain⟨f9,g6,g7,g8,g9⟩:=aI b9.out d6;cases g6;go_wp2
      repeat(go_quiet (fail);try go_wp2)
      go_ret
      exact⟨sD,dR⟩
     ·rw[if_neg c8] at H;have f3:decide ((rd l0 d6) < (rd l1 d6))=false:=decide_eq_false c8;clear c8;by_cases c9:(rd l0 d6) > (rd l1 d6)
      ·rw[if_pos c9] at H;have j5:decide ((rd l1 d6) < (rd l0 d6))=true:=dE c9;clear c9;obtain rfl:=Option.some.inj H;obtain⟨f4,f5,f6,f7,f8⟩:=aI b7.out d6;cases f5;obtain⟨f9,g6,g7,g8,g9⟩:=aI b9.out d6;cases g6;obtain⟨j9,l5,l6,l7,l8⟩:=aI b7.out d6;obtain rfl:f4=j9:=(by injection l5);obtain⟨l9,m4,m5,m6,m7⟩:=aI b9.out d6;obtain rfl:f9=l9:=(by injection m4);go_wp2
       repeat(go_quiet (fail);try go_wp2)
       go_ret
       exact⟨sD,dR⟩
      ·rw[if_neg c9] at H;have j5:decide ((rd l1 d6) < (rd l0 d6))=false:=decide_eq_false c9;clear c9;have H':=aM H;clear H;obtain⟨f4,f5,f6,f7,f8⟩:=aI b7.out d6;cases f5;obtain⟨f9,g6,g7,g8,g9⟩:=aI b9.out d6;cases g6;obtain⟨j9,l5,l6,l7,l8⟩:=aI b7.out d6;obtain rfl:f4=j9:=(by injection l5);obtain⟨l9,m4,m5,m6,m7⟩:=aI b9.out d6;obtain rfl:f9=l9:=(by injection m4);go_wp2
       repeat(go_quiet (fail);try go_wp2)
       go_roundg k1
       case measure=>have:=d7.out;omega
       case rel=>exact⟨(wrap64 (d6 - 1)),sD,H',⟨by have:=d7.out;omega⟩,dR⟩
    ·rw[if_neg c4] at H;have d9:decide (0≤d6)=false:=decide_eq_false c4;clear c4;obtain rfl:=Option.some.inj H;go_wp2
     repeat(go_quiet (fail);try go_wp2)
     go_ret
     exact⟨sD,dR⟩
 ·rw[if_neg c3] at H;obtain⟨d1,d3⟩:=bI c3;have d4:(l0.length == l1.length)=false:=by first|simpa using c3|(simp at c3 ⊢;omega)
  by_cases c10:(l0.length:Int) < (l1.length:Int)
  ·rw[if_pos c10] at H;have m8:=dE c10;have m9:decide (l0.length < l1.length)=true:=dE (Int.ofNat_lt.mp c10);clear c10;obtain rfl:=Option.some.inj H;go_enter Try.func98,Try.ntmps98
   go_wp2
   repeat(go_quiet (fail);try go_wp2)
   go_ret
   exact⟨sD,dR⟩
  ·rw[if_neg c10] at H;have m8:decide ((l0.length:Int) < (l1.length:Int))=false:=decide_eq_false c10;have m9:decide (l0.length < l1.length)=false:=decide_eq_false (fun h=>c10 (Int.ofNat_lt.mpr h))
   clear c10;obtain rfl:=Option.some.inj H;go_enter Try.func98,Try.ntmps98
   go_wp2
   repeat(go_quiet (fail);try go_wp2)
   go_ret
   exact⟨sD,dR⟩

end Go.Proofs.Ytnklckihalhlmaa.Print
