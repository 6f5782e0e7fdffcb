import Derived.Test.YtbnpcplckcipfaaPrint0
import Derived.Test.YtbnpcplckcipfaaPrint10
namespace Go.Proofs.Ytbnpcplckcipfaa.Print
open Go.RowKit Go.Proofs.YtbnpcplckcipfaaW.PrintWords Go.Proofs.YtbnpcplckcipfaaW.PrintLast Go.Proofs.YtbnpcplckcipfaaW.PrintMore
attribute [local go_sem] dF dG eB eD dm dn dH dI
set_option linter.unusedVariables false
set_option maxRecDepth 100000
set_option maxHeartbeats 8000000
set_option linter.unusedSimpArgs false

def Ezm.f (k:Nat) (a0_0:Bool) (l0_1:List Int) (l0_2:List Int):Option (Bool):=(Azv.f k l0_1).bind fun t302=>(if t302=true then((Azv.f k l0_2).bind fun t303=>(if t303=true then(if(l0_2.length:Int)=0 then(some false) else(if a0_0=true then(if(l0_1.length:Int)=0 then(some false) else((Czv.f k l0_1 l0_2).bind fun bt304=>(if bt304.2=0 then(if(bt304.1.length:Int)=1 then(if 0 < (bt304.1.length:Int) then(some ((rd bt304.1 0) == 1)) else(none)) else(some false)) else(some false)))) else((Czv.f k l0_1 l0_2).bind fun bt309=>(if bt309.2=0 then(if(bt309.1.length:Int)=1 then(if 0 < (bt309.1.length:Int) then(some ((rd bt309.1 0) == 1)) else(none)) else(some false)) else(some false))))) else(some false))) else(some false))
theorem Ezm.mono:∀ a6 a7 a8 k,LeO (Ezm.f k a6 a7 a8) (Ezm.f (k+1) a6 a7 a8):=by
 intro a6 a7 a8 k;unfold Ezm.f;have i0:=@Czv.mono;have i1:=@Azv.mono;exact mM
theorem Ezm.calls (k:Nat) (a6:Bool) (a7:Option Addr) (a8:Nat) (a9:List Int) (b4:Option Addr) (b5:Nat) (b6:List Int) (r:Bool) (w:World) (b7:cI w a7 a9) (b8:a9.length≤a8) (b9:cI w b4 b6) (d6:b6.length≤b5) (h:Ezm.f k a6 a9 b6=some r) :
  Calls Try.prog 37 #[.agg #[.bool a6,.slice a7 a9.length a8,.slice b4 b6.length b5]] w fun e w'=>e=.returned (.bool r)∧bw w w':=by
 have hu33:=Try.underlying33;have d7:=aM b7;have d8:=aM b8;clear b7 b8;have d9:=aM b9;have e6:=aM d6;clear b9 d6;have HB:=aM (Below.refl w.heap.size w);have H:((Azv.f k a9).bind fun e7=>(if e7=true then((Azv.f k b6).bind fun f6=>(if f6=true then(if(b6.length:Int)=0 then(some false) else(if a6=true then(if(a9.length:Int)=0 then(some false) else((Czv.f k a9 b6).bind fun f7=>(if f7.2=0 then(if(f7.1.length:Int)=1 then(if 0 < (f7.1.length:Int) then(some ((rd f7.1 0) == 1)) else(none)) else(some false)) else(some false)))) else((Czv.f k a9 b6).bind fun f8=>(if f8.2=0 then(if(f8.1.length:Int)=1 then(if 0 < (f8.1.length:Int) then(some ((rd f8.1 0) == 1)) else(none)) else(some false)) else(some false))))) else(some false))) else(some false)))=some r:=h
 clear h;have g5:=aM H;clear H;go_enter Try.func37,Try.ntmps37
 go_upto_region 1 with (first|((with_reducible refine gd 1 rfl ?_);refine bxg #[.bool a6,.slice a7 a9.length a8,.slice b4 b6.length b5] 33 ?_;intro g8 hg g9 j3 hb;have j4:=gA w hg;replace HB:=bB hb;clear hb hg))
 have H:=g5.out;clear g5;obtain⟨e7,j6,H⟩:=bT H;(try dsimp only at H);by_cases c5:e7=true
 ·subst c5;rw[if_pos rfl] at H;obtain⟨f6,j7,H⟩:=bT H;(try dsimp only at H);by_cases c7:f6=true
  ·subst c7;rw[if_pos rfl] at H;replace H:=iE H;rcases H with⟨j8,j9,H⟩|⟨c8,j8,j9,H⟩
   ·obtain rfl:=Option.some.inj H;obtain⟨l5,l6,l7,l8,l9,m0⟩:=bk3 j3;go_wp2_with (first|((with_reducible refine gc 65 rfl ?_);refine gC 65 (some 7) Try.func65 #[.slice a7 a9.length a8] ?_;(with_reducible refine(Azv.calls k _ _ a9 true _ ?_ ?_ j6.out).mono ?_);exact cB d7;exact d8.out;rintro e w' ⟨rfl,⟨nd,rfl⟩⟩;refine⟨_,rfl,?_⟩)|(go_at_call 65;(with_reducible refine(Azv.calls k _ _ b6 true _ ?_ ?_ j7.out).mono ?_);exact cB d9;exact e6.out;rintro e w' ⟨rfl,⟨nd,rfl⟩⟩))
    go_ret
    exact⟨eW,pB⟩
   ·have m4:¬ (b6=[]):=fun h_=>c8 (by rw[h_];rfl)
    by_cases c10:a6=true
    ·subst c10;rw[if_pos rfl] at H;have m5:=aM H;clear H;obtain⟨m6,m7,m8,m9,n0,n7⟩:=bk3 j3;go_upto_if 30 with (first|((with_reducible refine gc 65 rfl ?_);refine gC 65 (some 7) Try.func65 #[.slice a7 a9.length a8] ?_;(with_reducible refine(Azv.calls k _ _ a9 true _ ?_ ?_ j6.out).mono ?_);exact cB d7;exact d8.out;rintro e w' ⟨rfl,⟨nd,rfl⟩⟩;refine⟨_,rfl,?_⟩)|(go_at_call 65;(with_reducible refine(Azv.calls k _ _ b6 true _ ?_ ?_ j7.out).mono ?_);exact cB d9;exact e6.out;rintro e w' ⟨rfl,⟨nd,rfl⟩⟩))
     have H:=m5.out;clear m5;replace H:=iE H;rcases H with⟨n9,o0,H⟩|⟨n8,n9,o0,H⟩
     ·(first|rw[n9]|(simp only[aH,bg];rw[n9])|skip)
      obtain rfl:=Option.some.inj H;go_wp2
      go_ret
      exact⟨eW,pB⟩
     ·have o8:¬ (a9=[]):=fun h_=>n8 (by rw[h_];rfl)
      (first|rw[n9]|(simp only[aH,bg];rw[n9])|skip)
      obtain⟨⟨o9,p9⟩,r6,H⟩:=bT H;(try dsimp only at H);have r7:=aM H;clear H;obtain⟨r8,r9,t4,t5,t6,t7⟩:=bk3 j3;go_upto_region 4 with (first|((with_reducible refine gc 66 rfl ?_);refine gC 66 (some 36) Try.func66 #[.slice a7 a9.length a8,.slice b4 b6.length b5] ?_;(with_reducible refine(Czv.calls k (fun k_=>k_ < w.heap.size) _ _ a9 (fun k_=>k_ < w.heap.size) _ _ b6 o9 p9 _ ?_ ?_ r6.out).mono ?_);exact Kd.jI d8.out (Kd.eX (Kd.C_F (Kd.dZ .i64) d7.out) pB);exact Kd.jI e6.out (Kd.eX (Kd.C_F (Kd.dZ .i64) d9.out) pB);rintro e t8 ⟨t9,rfl,z3,hb⟩;refine⟨_,rfl,?_⟩;have z4:=rL (Kd.ah (ok':=fun k_=>True) z3 (fun _ hk_=>trivial));replace j3:=kb j3 hb;replace HB:=bB hb;clear hb z3))
      have H:=r7.out;clear r7;replace H:=iE H;rcases H with⟨z6,z7,H⟩|⟨z5,z6,z7,H⟩
      ·replace H:=iE H;rcases H with⟨z9,B0,H⟩|⟨z8,z9,B0,H⟩
       ·obtain⟨B5,H⟩:=iO H;have B9:decide (0 < (o9.length:Int))=true:=dE B5;have C0:decide (0 < o9.length)=true:=dE (by omega)
        clear B5;obtain rfl:=Option.some.inj H;obtain⟨C1,C2,rfl⟩:=Kd.aj z4.out;have C3:0≤(0:Int):=(by omega)
        have C4:0 < (o9.length:Int):=oE aS
        obtain⟨C6,C7,C8⟩:=Kd.pJ (Kd.ax z4.out).2.2 0 C3 C4;cases C7
        have C9:(0 < o9.length)=True:=eq_true (by omega)
        (try rw[show((0:Int)).toNat=0 from rfl] at C8)
        (try rw[Addr.add_zero'] at C8)
        replace C3:=eq_true C3;replace C4:=eq_true C4;go_wp2
        go_ret
        exact⟨eW,pB⟩
       ·obtain rfl:=Option.some.inj H;obtain⟨D4,D5,rfl⟩:=Kd.aj z4.out;go_wp2
        go_ret
        exact⟨eW,pB⟩
      ·obtain rfl:=Option.some.inj H;go_wp2
       go_ret
       exact⟨eW,pB⟩
    ·obtain rfl:=bN c10;rw[if_neg nF] at H
     obtain⟨⟨D6,D7⟩,D8,H⟩:=bT H;(try dsimp only at H);have D9:=aM H;clear H;obtain⟨E0,E1,E2,E3,E4,E5⟩:=bk3 j3;go_upto_region 4 with (first|((with_reducible refine gc 65 rfl ?_);refine gC 65 (some 7) Try.func65 #[.slice a7 a9.length a8] ?_;(with_reducible refine(Azv.calls k _ _ a9 true _ ?_ ?_ j6.out).mono ?_);exact cB d7;exact d8.out;rintro e w' ⟨rfl,⟨nd,rfl⟩⟩;refine⟨_,rfl,?_⟩)|(go_at_call 65;(with_reducible refine(Azv.calls k _ _ b6 true _ ?_ ?_ j7.out).mono ?_);exact cB d9;exact e6.out;rintro e w' ⟨rfl,⟨nd,rfl⟩⟩)|((with_reducible refine gc 66 rfl ?_);refine gC 66 (some 36) Try.func66 #[.slice a7 a9.length a8,.slice b4 b6.length b5] ?_;(with_reducible refine(Czv.calls k (fun k_=>k_ < w.heap.size) _ _ a9 (fun k_=>k_ < w.heap.size) _ _ b6 D6 D7 _ ?_ ?_ D8.out).mono ?_);exact Kd.jI d8.out (Kd.eX (Kd.C_F (Kd.dZ .i64) d7.out) pB);exact Kd.jI e6.out (Kd.eX (Kd.C_F (Kd.dZ .i64) d9.out) pB);rintro e E6 ⟨E7,rfl,z3,hb⟩;refine⟨_,rfl,?_⟩;have E8:=rL (Kd.ah (ok':=fun k_=>True) z3 (fun _ hk_=>trivial));replace j3:=kb j3 hb;replace HB:=bB hb;clear hb z3))
     have H:=D9.out;clear D9;replace H:=iE H;rcases H with⟨F0,F2,H⟩|⟨E9,F0,F2,H⟩
     ·replace H:=iE H;rcases H with⟨F4,F5,H⟩|⟨F3,F4,F5,H⟩
      ·obtain⟨F6,H⟩:=iO H;have F7:decide (0 < (D6.length:Int))=true:=dE F6;have F8:decide (0 < D6.length)=true:=dE (by omega)
       clear F6;obtain rfl:=Option.some.inj H;obtain⟨F9,G5,rfl⟩:=Kd.aj E8.out;have G9:0≤(0:Int):=(by omega)
       have H5:0 < (D6.length:Int):=oE aS
       obtain⟨H6,H7,H8⟩:=Kd.pJ (Kd.ax E8.out).2.2 0 G9 H5;cases H7
       have H9:(0 < D6.length)=True:=eq_true (by omega)
       (try rw[show((0:Int)).toNat=0 from rfl] at H8)
       (try rw[Addr.add_zero'] at H8)
       replace G9:=eq_true G9;replace H5:=eq_true H5;go_wp2
       go_ret
       exact⟨eW,pB⟩
      ·obtain rfl:=Option.some.inj H;obtain⟨I0,I3,rfl⟩:=Kd.aj E8.out;go_wp2
       go_ret
       exact⟨eW,pB⟩
     ·obtain rfl:=Option.some.inj H;go_wp2
      go_ret
      exact⟨eW,pB⟩
  ·obtain rfl:=bN c7;rw[if_neg nF] at H
   obtain rfl:=Option.some.inj H;obtain⟨I4,I5,I6,I7,I8,I9⟩:=bk3 j3;go_wp2_with (first|((with_reducible refine gc 65 rfl ?_);refine gC 65 (some 7) Try.func65 #[.slice a7 a9.length a8] ?_;(with_reducible refine(Azv.calls k _ _ a9 true _ ?_ ?_ j6.out).mono ?_);exact cB d7;exact d8.out;rintro e w' ⟨rfl,⟨nd,rfl⟩⟩;refine⟨_,rfl,?_⟩)|(go_at_call 65;(with_reducible refine(Azv.calls k _ _ b6 false _ ?_ ?_ j7.out).mono ?_);exact cB d9;exact e6.out;rintro e w' ⟨rfl,⟨nd,rfl⟩⟩))
   go_ret
   exact⟨eW,pB⟩
 ·obtain rfl:=bN c5;rw[if_neg nF] at H
  obtain rfl:=Option.some.inj H;obtain⟨J0,J1,J2,J3,J4,J5⟩:=bk3 j3;go_wp2_with (first|((with_reducible refine gc 65 rfl ?_);refine gC 65 (some 7) Try.func65 #[.slice a7 a9.length a8] ?_;(with_reducible refine(Azv.calls k _ _ a9 false _ ?_ ?_ j6.out).mono ?_);exact cB d7;exact d8.out;rintro e w' ⟨rfl,⟨nd,rfl⟩⟩;refine⟨_,rfl,?_⟩))
  go_ret
  exact⟨eW,pB⟩

def Czq.l0:Nat→List (S33)→Int→Int→Option (Bool)
 | 0,_,_,_=>none
 | k+1,x5,x6,x7=>if x7 < x6 then(if 0≤x7 then(if x7 < (x5.length:Int) then((Ezm.f k ((ag x5 x7).f0) ((ag x5 x7).f1) ((ag x5 x7).f2)).bind fun t316=>(if t316=true then(Czq.l0 k x5 x6 (wrap64 (x7+1))) else(some false))) else(none)) else(none)) else(some true)
def Czq.f (k:Nat) (l0:List (S33)):Option (Bool):=Czq.l0 k l0 (l0.length:Int) 0
theorem Czq.mono_l:∀ k,(∀ a6 a7 a8,LeO (Czq.l0 k a6 a7 a8) (Czq.l0 (k+1) a6 a7 a8))
 | 0=>fun _ _ _ r h=>by simp [Czq.l0] at h
 | k+1=>by
  have ih0:=Czq.mono_l k
  ·intro a6 a7 a8;unfold Czq.l0;have i0:=@Ezm.mono;exact mM
theorem Czq.mono:∀ a6 k,LeO (Czq.f k a6) (Czq.f (k+1) a6):=by
 intro a6 k;have ih0:=Czq.mono_l k;unfold Czq.f;have i0:=@Ezm.mono;exact mM
theorem Czq.calls (k:Nat) (a6:Option Addr) (a7:Nat) (l0:List (S33)) (r:Bool) (w:World) (a8:Kd.C k33 w a6 l0.length l0) (a9:l0.length≤a7) (h:Czq.f k l0=some r) :
  Calls Try.prog 62 #[.slice a6 l0.length a7] w fun e w'=>e=.returned (.bool r)∧bw w w':=by
 have hu33:=Try.underlying33;have b4:=aM a8;have b5:=aM a9;clear a8 a9;have HB:=aM (Below.refl w.heap.size w);have H:(Czq.l0 k l0 (l0.length:Int) 0)=some r:=h;clear h;have H':=aM H;clear H;go_enter Try.func62,Try.ntmps62
 go_wp2
 go_loopg [7] k (fun kq b6 w'=>∃ (b7:Int),b6=.int .i64 b7∧ae (Czq.l0 kq l0 (l0.length:Int) b7=some r)∧ae (kq≤k)∧ae (bw w w'))
 case atStart=>exact⟨(0),sD,H',⟨Nat.le_refl _⟩,⟨pB⟩⟩
 case round =>
  clear H';obtain⟨b7,rfl,HA,b8,HB⟩:=hrel;cases gk with
  | zero=>exact absurd HA.out (by simp [Czq.l0])
  | succ k1 =>
   have H:=HA.out;clear HA;simp only[Czq.l0] at H;replace H:=iD H;rcases H with⟨b9,H⟩|⟨b9,H⟩
   ·obtain⟨d6,H⟩:=iN H;obtain⟨d7,H⟩:=iN H;obtain⟨d8,d9,H⟩:=bT H;(try dsimp only at H);have e6:=aM H;clear H;obtain⟨e7,f6,f7,f8,g5,g8,g9,j3,j4,j5,j6,j7,j8⟩:=gT b4.out b7 (oE aS) (oE aS);cases g8
    replace g9:=hB HB g9;replace j3:=hB HB j3;replace j4:=hB HB j4;have j9:=aM j6;have l5:=aM j5;clear j6 j5;have l6:=aM j8;have l7:=aM j7;clear j8 j7;have l8:=eT (b7);have l9:=eU (b7) l0.length;go_upto_if 13 with (first|((with_reducible refine gd 4 rfl ?_);refine bz 33 ?_;intro m0 hg m4 m5 hb;have m6:=gA w hg;replace HB:=bB hb;clear hb hg;obtain⟨m8,m9,n0,n7,n8,n9⟩:=bk3 m5)|((with_reducible refine gc 37 rfl ?_);refine gC 37 (some 12) Try.func37 #[.agg #[.bool ((ag l0 b7).f0),.slice f6 ((ag l0 b7).f1).length f7,.slice f8 ((ag l0 b7).f2).length g5]] ?_;(with_reducible refine(Ezm.calls k1 ((ag l0 b7).f0) _ _ ((ag l0 b7).f1) _ _ ((ag l0 b7).f2) d8 _ ?_ ?_ ?_ ?_ d9.out).mono ?_);exact Kd.aT j9.out pB;exact l5.out;exact Kd.aT l6.out pB;exact l7.out;rintro e o0 ⟨rfl,hb⟩;refine⟨_,rfl,?_⟩;replace m5:=kP (o':=.cells #[.bool ((ag l0 b7).f0),.slice f6 ((ag l0 b7).f1).length f7,.slice f8 ((ag l0 b7).f2).length g5] 33 (0,0)) m5 hb;replace HB:=bB hb;clear hb))
    have H:=e6.out;clear e6;by_cases c10:d8=true
    ·subst c10;rw[if_pos rfl] at H;have H':=aM H;clear H;go_wp2
     go_roundg k1
     case measure=>have:=b8.out;omega
     case rel=>exact⟨(wrap64 (b7+1)),sD,H',⟨by have:=b8.out;omega⟩,⟨pB⟩⟩
    ·obtain rfl:=bN c10;rw[if_neg nF] at H
     obtain rfl:=Option.some.inj H;go_wp2
     go_ret
     exact⟨eW,pB⟩
   ·obtain rfl:=Option.some.inj H;go_wp2
    go_ret
    exact⟨eW,pB⟩

def Hzx.f  : Option (List Int):=some (([1]:List Int))
theorem Hzx.calls  (r:List Int) (w:World) (h:Hzx.f  = some r) :
  Calls Try.prog 63 #[] w fun e w'=>∃ v0_:Value,e=.returned (v0_)∧rI w' w (fun _=>True) v0_ r∧bw w w':=by
 have HB:=aM (Below.refl w.heap.size w);have H:(some (([1]:List Int)))=some r:=h;clear h;obtain⟨a6,a7⟩:∃ y_:List Int,y_=(([1]:List Int)):=⟨_,rfl⟩;replace H:(some a6)=some r:=yE a7 H
 have a8:=aM a7;clear a7;obtain rfl:=Option.some.inj H;go_enter Try.func63,Try.ntmps63
 go_wp2_with (first|((with_reducible refine gd 1 rfl ?_);refine iL 1 [1] ?_;intro a9 b4 b5 hb;replace b5:=rY a8 b5;have b6:=rL b5;replace HB:=bB hb;clear hb b5))
 go_ret
 exact⟨_,eW,rX b6.out,pB⟩


def Fzz.f (k:Nat) (l0:List Int):Option (List Int × Int):=(Bzy.f k l0).bind fun t325=>(if(t325.length:Int) > 48 then(some (([]:List Int),2)) else(some (t325,0)))
theorem Fzz.mono:∀ a6 k,LeO (Fzz.f k a6) (Fzz.f (k+1) a6):=by
 intro a6 k;unfold Fzz.f;have i0:=@Bzy.mono;exact mM
theorem Fzz.calls (k:Nat) (a6:Nat→Prop) (u9000_:Value) (l0:List Int) (a7:List Int) (a8:Int) (a9 w:World) (hB:Below a9.heap.size a9 w) (b4:Kd.R (Kd.int .i64) 3 w a9.heap.size a6 u9000_ l0) (h:Fzz.f k l0=some (a7,a8)) :
  Calls Try.prog 110 #[u9000_] w fun e w'=>∃ v0_:Value,e=.returned (.tuple #[v0_,.int .i64 a8])∧Kd.R (Kd.int .i64) 3 w' a9.heap.size (fun k_=>(a6 k_∨w.heap.size≤k_)) v0_ a7∧Below a9.heap.size a9 w'∧Kept w w' (fun k_=>a6 k_):=by
 have b5:=aM (show Kd.R (Kd.int .i64) 3 w a9.heap.size (fun k_=>(a6 k_∨w.heap.size≤k_)) u9000_ l0 from Kd.ah b4 (fun k_ hk=>(.inl hk)))
 have HK:=aM (Kept.refl w (fun k_=>a6 k_))
 have HW0:=aM hB.size;have HB:=aM hB;clear hB;have H:((Bzy.f k l0).bind fun b6=>(if(b6.length:Int) > 48 then(some (([]:List Int),2)) else(some (b6,0))))=some (a7,a8):=h
 clear h;obtain⟨b6,b7,H⟩:=bT H;(try dsimp only at H);have b8:=aM H;clear H;obtain⟨b9,d6,rfl⟩:=Kd.aj b5.out;go_enter Try.func110,Try.ntmps110
 go_upto_if 9 with (first|((with_reducible refine gc 92 rfl ?_);refine gC 92 (some 6) Try.func92 #[.slice b9 l0.length d6] ?_;(with_reducible refine(Bzy.calls k (fun k_=>some k_=(.slice b9 l0.length d6:Value).ownBlock) (.slice b9 l0.length d6) l0 b6 a9 _ ?_ ?_ b7.out).mono ?_);exact pB;exact Kd.dJ rfl b5.out;rintro e d7 ⟨d8,rfl,b4,hb,hkp⟩;refine⟨_,rfl,?_⟩;have d9:=aM (Kd.ah (ok':=fun k_=>(a6 k_∨w.heap.size≤k_)) b4 (fun k_ hk_=>Or.elim hk_ (fun hs_=>(b5.out.1 k_ (hs_).symm)) (fun hn_=>(.inr (Nat.le_trans (by first|exact HK.out.1|exact(show Kept w _ (fun k_=>a6 k_) from kK HK).1) hn_)))));replace HK:=aM (Kept.wh (S:=(fun k_=>a6 k_)) (kK HK) hkp (fun k_ hs_=>(fun e_=>(b5.out.1 k_ e_.symm)) hs_));replace HB:=aM (hb);clear b5 hb hkp b4;obtain⟨e6,e7,rfl⟩:=Kd.aj d9.out))
 have H:=b8.out;clear b8;by_cases c7:(b6.length:Int) > 48
 ·rw[if_pos c7] at H;have f6:decide (48 < (b6.length:Int))=true:=dE c7;have f7:decide (48 < b6.length)=true:=dE (by omega)
  clear c7;(first|rw[f6]|(simp only[aH,bg];rw[f6])|skip)
  obtain⟨rfl,rfl⟩:=q2 H;go_wp2
  go_ret2
  exact⟨_,eW,nK,pB,kK HK⟩
 ·rw[if_neg c7] at H;have f6:decide (48 < (b6.length:Int))=false:=decide_eq_false c7;have f7:decide (48 < b6.length)=false:=decide_eq_false (by omega)
  clear c7;(first|rw[f6]|(simp only[aH,bg];rw[f6])|skip)
  obtain⟨rfl,rfl⟩:=q2 H;go_wp2
  go_ret2
  exact⟨_,eW,rX d9.out,pB,kK HK⟩


mutual
def Czj.j0:Nat→List Int→List Int→Bool→Option (List Int × Int)
 | 0,_,_,_=>none
 | k+1,x0,x1,x18=>if x18=true then(some (([]:List Int),3)) else(if 0≤(wrap64 ((wrap64 ((x0.length:Int)+(x1.length:Int)))+1)) then(if(wrap64 ((wrap64 ((x0.length:Int)+(x1.length:Int)))+1):Int).toNat≤35184372088832 then(Czj.l0 k x0 x1 (List.replicate (wrap64 ((wrap64 ((x0.length:Int)+(x1.length:Int)))+1):Int).toNat 0) (x0.length:Int) 0) else(none)) else(none))
def Czj.l0:Nat→List Int→List Int→List Int→Int→Int→Option (List Int × Int)
 | 0,_,_,_,_,_=>none
 | k+1,x0,x1,x6,x27,x28=>if x28 < x27 then(Czj.l1 k x0 x1 x6 x28 0 x27 x28 (x1.length:Int) 0) else((Fzz.f k x6).bind fun bt333=>(some (bt333.1,bt333.2)))
def Czj.l1:Nat→List Int→List Int→List Int→Int→Int→Int→Int→Int→Int→Option (List Int × Int)
 | 0,_,_,_,_,_,_,_,_,_=>none
 | k+1,x0,x1,x6,x7,x8,x27,x28,x32,x33=>if x33 < x32 then(if 0≤(wrap64 (x7+x33)) then(if(wrap64 (x7+x33)) < (x6.length:Int) then(if 0≤x7 then(if x7 < (x0.length:Int) then(if 0≤x33 then(if x33 < (x1.length:Int) then(Czj.l1 k x0 x1 (x6.set ((wrap64 (x7+x33)):Int).toNat (Int.tmod (wrap64 ((wrap64 ((rd x6 (wrap64 (x7+x33)))+(wrap64 ((rd x0 x7) * (rd x1 x33)))))+x8)) 1000000000)) x7 (wrap64 (Int.tdiv (wrap64 ((wrap64 ((rd x6 (wrap64 (x7+x33)))+(wrap64 ((rd x0 x7) * (rd x1 x33)))))+x8)) 1000000000)) x27 x28 x32 (wrap64 (x33+1))) else(none)) else(none)) else(none)) else(none)) else(none)) else(none)) else(if 0≤(wrap64 (x7+(x1.length:Int))) then(if(wrap64 (x7+(x1.length:Int))) < (x6.length:Int) then(Czj.l0 k x0 x1 (x6.set ((wrap64 (x7+(x1.length:Int))):Int).toNat x8) x27 (wrap64 (x28+1))) else(none)) else(none))
end
def Czj.f (k:Nat) (l0:List Int) (l1:List Int):Option (List Int × Int):=(Azv.f k l0).bind fun t328=>(if t328=true then((Azv.f k l1).bind fun t329=>(Czj.j0 k l0 l1 (!t329))) else(Czj.j0 k l0 l1 true))
theorem Czj.mono_l:∀ k,(∀ a6 a7 a8,LeO (Czj.j0 k a6 a7 a8) (Czj.j0 (k+1) a6 a7 a8))∧(∀ a6 a7 a8 a9 b4,LeO (Czj.l0 k a6 a7 a8 a9 b4) (Czj.l0 (k+1) a6 a7 a8 a9 b4))∧(∀ a6 a7 a8 a9 b4 b5 b6 b7 b8,LeO (Czj.l1 k a6 a7 a8 a9 b4 b5 b6 b7 b8) (Czj.l1 (k+1) a6 a7 a8 a9 b4 b5 b6 b7 b8))
 | 0=>⟨fun _ _ _ r h=>by simp [Czj.j0] at h,fun _ _ _ _ _ r h=>by simp [Czj.l0] at h,fun _ _ _ _ _ _ _ _ _ r h=>by simp [Czj.l1] at h⟩
 | k+1=>by
  obtain⟨ih0,ih1,ih2⟩:=Czj.mono_l k;have i0:=@Azv.mono;have i1:=@Fzz.mono;refine⟨?_,?_,?_⟩
  ·intro a6 a7 a8;unfold Czj.j0;exact mM
  ·intro a6 a7 a8 a9 b4;unfold Czj.l0;exact mM
  ·intro a6 a7 a8 a9 b4 b5 b6 b7 b8;unfold Czj.l1;exact mM
theorem Czj.mono:∀ a6 a7 k,LeO (Czj.f k a6 a7) (Czj.f (k+1) a6 a7):=by
 intro a6 a7 k;obtain⟨ih0,ih1,ih2⟩:=Czj.mono_l k;unfold Czj.f;have i0:=@Azv.mono;have i1:=@Fzz.mono;exact mM
theorem Czj.calls (k:Nat) (a6:Option Addr) (a7:Nat) (l0:List Int) (a8:Option Addr) (a9:Nat) (l1:List Int) (b4:List Int) (b5:Int) (w:World) (b6:cI w a6 l0) (b7:l0.length≤a7) (b8:cI w a8 l1) (b9:l1.length≤a9) (h:Czj.f k l0 l1=some (b4,b5)) :
  Calls Try.prog 97 #[.slice a6 l0.length a7,.slice a8 l1.length a9] w fun e w'=>∃ v0_:Value,e=.returned (.tuple #[v0_,.int .i64 b5])∧rI w' w (fun _=>True) v0_ b4∧bw w w':=by
 have d6:=aM b6;have d7:=aM b7;clear b6 b7;have d8:=aM b8;have d9:=aM b9;clear b8 b9;have HB:=aM (Below.refl w.heap.size w);have H:((Azv.f k l0).bind fun e6=>(if e6=true then((Azv.f k l1).bind fun e7=>(Czj.j0 k l0 l1 (!e7))) else(Czj.j0 k l0 l1 true)))=some (b4,b5):=h
 clear h;have f6:=aM H;clear H;go_enter Try.func97,Try.ntmps97
 go_upto_region 1 with (fail)
 repeat(go_quiet (fail);go_upto_region 1 with (fail))
 go_cut [18] (fun f7 wc=>∃ (kq:Nat) (f8:Bool),f7=.bool f8∧ae (Czj.j0 kq l0 l1 f8=some (b4,b5))∧ae (kq≤k)∧ae (bw w wc))
 case first =>
  have H:=f6.out;clear f6;obtain⟨e6,g5,H⟩:=bT H;(try dsimp only at H);by_cases c5:e6=true
  ·subst c5;rw[if_pos rfl] at H;obtain⟨e7,g8,H⟩:=bT H;(try dsimp only at H);have H':=aM H;clear H;have fl_:True:=trivial;repeat((first|clear fl_|go_quiet (first|(go_at_call 65;(with_reducible refine(Azv.calls k _ _ l0 true _ ?_ ?_ g5.out).mono ?_);exact cB d6;exact d7.out;rintro e w' ⟨rfl,⟨nd,rfl⟩⟩;(try exact dD))|(go_at_call 65;(with_reducible refine(Azv.calls k _ _ l1 e7 _ ?_ ?_ g8.out).mono ?_);exact cB d8;exact d9.out;rintro e w' ⟨rfl,⟨nd,rfl⟩⟩;(try exact dD))));go_wp2_with (first|(go_at_call 65;(with_reducible refine(Azv.calls k _ _ l0 true _ ?_ ?_ g5.out).mono ?_);exact cB d6;exact d7.out;rintro e w' ⟨rfl,⟨nd,rfl⟩⟩;(try exact dD))|(go_at_call 65;(with_reducible refine(Azv.calls k _ _ l1 e7 _ ?_ ?_ g8.out).mono ?_);exact cB d8;exact d9.out;rintro e w' ⟨rfl,⟨nd,rfl⟩⟩;(try exact dD))))
   go_meet
   case rel=>exact⟨_,(!e7),sD,H',⟨by first|omega|exact Nat.le_refl _⟩,⟨pB⟩⟩
  ·obtain rfl:=bN c5;rw[if_neg nF] at H
   have H':=aM H;clear H;have fl_:True:=trivial;repeat((first|clear fl_|go_quiet (first|(go_at_call 65;(with_reducible refine(Azv.calls k _ _ l0 false _ ?_ ?_ g5.out).mono ?_);exact cB d6;exact d7.out;rintro e w' ⟨rfl,⟨nd,rfl⟩⟩;(try exact dD))));go_wp2_with (first|(go_at_call 65;(with_reducible refine(Azv.calls k _ _ l0 false _ ?_ ?_ g5.out).mono ?_);exact cB d6;exact d7.out;rintro e w' ⟨rfl,⟨nd,rfl⟩⟩;(try exact dD))))
   go_meet
   case rel=>exact⟨_,(true),sD,H',⟨by first|omega|exact Nat.le_refl _⟩,⟨pB⟩⟩
 case rest =>
  clear f6;try clear a9
  obtain⟨kq,f8,rfl,HA,g9,HB⟩:=hcut;cases kq with
  | zero=>exact absurd HA.out (by simp [Czj.j0])
  | succ j3 =>
   have H:=HA.out;clear HA;simp only[Czj.j0] at H;by_cases c7:f8=true
   ·subst c7;rw[if_pos rfl] at H;obtain⟨rfl,rfl⟩:=q2 H;go_wp2
    repeat(go_quiet (fail);try go_wp2)
    go_ret2
    exact⟨_,eW,nK,pB⟩
   ·obtain rfl:=bN c7;rw[if_neg nF] at H
    obtain⟨j4,j5⟩:∃ j_:Int,(wrap64 ((wrap64 ((l0.length:Int)+(l1.length:Int)))+1))=j_:=⟨_,rfl⟩;replace H:(if 0≤(j4) then(if(j4:Int).toNat≤35184372088832 then(Czj.l0 j3 l0 l1 (List.replicate (j4:Int).toNat 0) (l0.length:Int) 0) else(none)) else(none))=some (b4,b5):=by first|(rw[j5] at H;exact H)|(simp only[j5] at H ⊢;exact H)
    have j6:(IntKind.i64.wrap ((wrap64 ((l0.length:Int)+(l1.length:Int)))+1))=j4:=(aH _).trans j5;by_cases c9:0≤(j4)
    ·rw[if_pos c9] at H;have j7:=eq_true c9;have j8:=dE c9;clear c9;obtain⟨c10,H⟩:=iO H;have j9:=eq_true c10;have l5:decide ((j4:Int).toNat≤35184372088832)=true:=dE c10;clear c10;obtain⟨l6,l7⟩:∃ y_:List Int,y_=(List.replicate (j4:Int).toNat 0):=⟨_,rfl⟩;replace H:(Czj.l0 j3 l0 l1 l6 (l0.length:Int) 0)=some (b4,b5):=yE l7 H
     have l8:=aM l7;clear l7;have H':=aM H;clear H;have fl_:True:=trivial;repeat((first|clear fl_|go_quiet (first|((with_reducible refine dY (N:=25) rfl ?_);refine Kd.kz (Kd.int .i64) _ 3 rfl (N:=25) rfl 30 _ _ rfl j4 rfl rfl Try.underlying30 (.int .i64 0) 8 info3 rfl (by decide) (by omega) 0 (ok:=fun _=>True) (okp:=fun _=>True) rfl (fun _ hk=>hk) trivial (oE aS) (Nat.le_trans (Nat.mul_le_mul_right _ (oE aS:j4.toNat≤35184372088832)) (by omega)) (Below.refl _ _) (Nat.le_refl _) ?_;intro l9 m0 m4 hb hg_ hnew_;clear hg_ hnew_;replace m4:=rY l8 m4;have m5:=rL m4;replace HB:=bB hb;clear hb m4)));go_wp2_with (first|((with_reducible refine dY (N:=25) rfl ?_);refine Kd.kz (Kd.int .i64) _ 3 rfl (N:=25) rfl 30 _ _ rfl j4 rfl rfl Try.underlying30 (.int .i64 0) 8 info3 rfl (by decide) (by omega) 0 (ok:=fun _=>True) (okp:=fun _=>True) rfl (fun _ hk=>hk) trivial (oE aS) (Nat.le_trans (Nat.mul_le_mul_right _ (oE aS:j4.toNat≤35184372088832)) (by omega)) (Below.refl _ _) (Nat.le_refl _) ?_;intro l9 m0 m4 hb hg_ hnew_;clear hg_ hnew_;replace m4:=rY l8 m4;have m5:=rL m4;replace HB:=bB hb;clear hb m4)))
     go_loopg [28] j3 (fun kq m6 w'=>∃ (m7:List Int) (m8:Int),m6=.int .i64 m8∧ae (Czj.l0 kq l0 l1 m7 (l0.length:Int) m8=some (b4,b5))∧ae (kq≤j3)∧ae (rI w' w (fun _=>True) l9 m7)∧ae (bw w w'))
     case atStart=>exact⟨(l6),(0),sD,H',⟨Nat.le_refl _⟩,⟨rX m5.out⟩,⟨pB⟩⟩
     case round =>
      clear H';try clear a9
      obtain⟨m7,m8,rfl,HA,m9,n0,HB⟩:=hrel;cases gk with
      | zero=>exact absurd HA.out (by simp [Czj.l0])
      | succ k2 =>
       have H:=HA.out;clear HA;simp only[Czj.l0] at H;replace H:=iD H;rcases H with⟨n8,H⟩|⟨n8,H⟩
       ·have H':=aM H;clear H;go_wp2
        repeat(go_quiet (fail);try go_wp2)
        go_loopg [8,33] k2 (fun kq n9 o0 w'=>∃ (o8:List Int) (o9:Int) (p9:Int),n9=.int .i64 o9∧o0=.int .i64 p9∧ae (Czj.l1 kq l0 l1 o8 m8 o9 (l0.length:Int) m8 (l1.length:Int) p9=some (b4,b5))∧ae (kq≤k2)∧ae (rI w' w (fun _=>True) l9 o8)∧ae (bw w w'))
        case atStart=>exact⟨(m7),(0),(0),sD,sD,H',⟨Nat.le_refl _⟩,⟨rX n0.out⟩,⟨pB⟩⟩
        case round =>
         clear H';try clear a9
         obtain⟨o8,o9,p9,rfl,rfl,HA,r6,n0,HB⟩:=hrel;cases gk with
         | zero=>exact absurd HA.out (by simp [Czj.l1])
         | succ k3 =>
          have H:=HA.out;clear HA;simp only[Czj.l1] at H;replace H:=iD H;rcases H with⟨r8,H⟩|⟨r8,H⟩
          ·obtain⟨r9,t4⟩:∃ j_:Int,(wrap64 (m8+p9))=j_:=⟨_,rfl⟩;replace H:(if 0≤(r9) then(if(r9) < (o8.length:Int) then(if 0≤m8 then(if m8 < (l0.length:Int) then(if 0≤p9 then(if p9 < (l1.length:Int) then(Czj.l1 k3 l0 l1 (o8.set ((r9):Int).toNat (Int.tmod (wrap64 ((wrap64 ((rd o8 (r9))+(wrap64 ((rd l0 m8) * (rd l1 p9)))))+o9)) 1000000000)) m8 (wrap64 (Int.tdiv (wrap64 ((wrap64 ((rd o8 (r9))+(wrap64 ((rd l0 m8) * (rd l1 p9)))))+o9)) 1000000000)) (l0.length:Int) m8 (l1.length:Int) (wrap64 (p9+1))) else(none)) else(none)) else(none)) else(none)) else(none)) else(none))=some (b4,b5):=by first|(rw[t4] at H;exact H)|(simp only[t4] at H ⊢;exact H)
           have t5:(IntKind.i64.wrap (m8+p9))=r9:=(aH _).trans t4;obtain⟨t6,H⟩:=iN H;obtain⟨t7,H⟩:=iN H;obtain⟨t8,H⟩:=iN H;obtain⟨t9,H⟩:=iN H;obtain⟨z3,H⟩:=iN H;obtain⟨z4,H⟩:=iN H;obtain⟨z5,z6⟩:∃ y_:List Int,y_=(o8.set ((r9):Int).toNat (Int.tmod (wrap64 ((wrap64 ((rd o8 (r9))+(wrap64 ((rd l0 m8) * (rd l1 p9)))))+o9)) 1000000000)):=⟨_,rfl⟩;replace H:(Czj.l1 k3 l0 l1 z5 m8 (wrap64 (Int.tdiv (wrap64 ((wrap64 ((rd o8 (r9))+(wrap64 ((rd l0 m8) * (rd l1 p9)))))+o9)) 1000000000)) (l0.length:Int) m8 (l1.length:Int) (wrap64 (p9+1)))=some (b4,b5):=yE z6 H
           have z7:=aM z6;clear z6;have H':=aM H;clear H;obtain⟨z8,z9,rfl⟩:=Kd.aj n0.out;obtain⟨B0,B5,B9,C0,C1⟩:=aI (Kd.ax n0.out).2.2 (r9);cases B5;obtain⟨C2,C3,C4,C6,C7⟩:=aI d6.out m8;cases C3
           replace C4:=hB HB C4;obtain⟨C8,C9,D4,D5,D6⟩:=aI d8.out p9;cases C9
           replace D4:=hB HB D4;have D7:0≤((r9):Int):=oE aS
           have D8:((r9):Int) < ((o8.length:Int):Int):=oE aS
           obtain⟨D9,E0,E1,E2,E3,E4,E5⟩:=Kd.fu n0.out (by omega)
           (first|cases E1|(injection E1 with ea_ en_ ec_;(first|subst ea_|(injection ea_ with ea_;subst ea_));subst ec_;clear en_))
           have E6:=aM E2;have E7:=aM E5;clear E2 E3 E5;(first|simp only[add_plain] at B9|skip)
           obtain⟨E8,E9⟩:=Kd.bU 0 n0.out ((r9):Int) D7 D8;replace D7:=eq_true D7;replace D8:=eq_true D8;have F0:=Kd.dX n0.out ((r9):Int) (Int.tmod (wrap64 ((wrap64 ((rd o8 (r9))+(wrap64 ((rd l0 m8) * (rd l1 p9)))))+o9)) 1000000000);have fl_:True:=trivial;repeat((first|clear fl_|go_quiet (first|((with_reducible refine bH (t:=3) (p:=62) rfl ?_);(try(rw[gK wr];generalize hq_:World.drewN wr _=wr;have n0_:=aM (Kd.tu hq_ n0.out);have n1_:=aM (jA hq_ HB.out);clear hq_ n0 HB;have n0:=n0_;have HB:=n1_;clear n0_ n1_;(try(obtain⟨E8,E9⟩:=Kd.bU 0 n0.out ((r9):Int) (of_eq_true D7) (of_eq_true D8)));(try(have F0:=Kd.dX n0.out ((r9):Int) (Int.tmod (wrap64 ((wrap64 ((rd o8 (r9))+(wrap64 ((rd l0 m8) * (rd l1 p9)))))+o9)) 1000000000)))));refine aZ (t:=3) (p:=62) (v:=?vo_w25) (w1:=(wr.setCell ⟨D9,((r9):Int).toNat,none⟩ (.int .i64 (Int.tmod (wrap64 ((wrap64 ((rd o8 (r9))+(wrap64 ((rd l0 m8) * (rd l1 p9)))))+o9)) 1000000000)))) ?hg ?ho ?hn ?hr ?_;(case ho=>rfl);(case hg=>rfl);(case hn=>rfl);(case hr=>first|(go_simp;done)|(go_simp;rfl));intro F2 hw;have hg:wr.grownBy F2 (some D9):=(by rw[hw];exact F0.2);have hp_:rI F2 w (fun _=>True) (.slice (some ⟨D9,0,none⟩) o8.length z9) z5:=(by rw[hw,z7.out];exact F0.1);clear F0;replace n0:=aM (hp_);replace HB:=aM ((by rw[hw];exact cZ (HB.out) E6.out:bw w F2));clear hg hw hp_)));go_wp2_with (first|((with_reducible refine bH (t:=3) (p:=62) rfl ?_);(try(rw[gK wr];generalize hq_:World.drewN wr _=wr;have n0_:=aM (Kd.tu hq_ n0.out);have n1_:=aM (jA hq_ HB.out);clear hq_ n0 HB;have n0:=n0_;have HB:=n1_;clear n0_ n1_;(try(obtain⟨E8,E9⟩:=Kd.bU 0 n0.out ((r9):Int) (of_eq_true D7) (of_eq_true D8)));(try(have F0:=Kd.dX n0.out ((r9):Int) (Int.tmod (wrap64 ((wrap64 ((rd o8 (r9))+(wrap64 ((rd l0 m8) * (rd l1 p9)))))+o9)) 1000000000)))));refine aZ (t:=3) (p:=62) (v:=?vo_w25) (w1:=(wr.setCell ⟨D9,((r9):Int).toNat,none⟩ (.int .i64 (Int.tmod (wrap64 ((wrap64 ((rd o8 (r9))+(wrap64 ((rd l0 m8) * (rd l1 p9)))))+o9)) 1000000000)))) ?hg ?ho ?hn ?hr ?_;(case ho=>rfl);(case hg=>rfl);(case hn=>rfl);(case hr=>first|(go_simp;done)|(go_simp;rfl));intro F2 hw;have hg:wr.grownBy F2 (some D9):=(by rw[hw];exact F0.2);have hp_:rI F2 w (fun _=>True) (.slice (some ⟨D9,0,none⟩) o8.length z9) z5:=(by rw[hw,z7.out];exact F0.1);clear F0;replace n0:=aM (hp_);replace HB:=aM ((by rw[hw];exact cZ (HB.out) E6.out:bw w F2));clear hg hw hp_)))
           go_roundg k3
           case measure=>have:=g9.out;have:=m9.out;have:=r6.out;omega
           case rel=>exact⟨(z5),(wrap64 (Int.tdiv (wrap64 ((wrap64 ((rd o8 (r9))+(wrap64 ((rd l0 m8) * (rd l1 p9)))))+o9)) 1000000000)),(wrap64 (p9+1)),(by first|rfl|(simp;done)|(simp only[← t4] <;> (first|rfl|simp))|(simp [*];done)),sD,H',⟨by have:=g9.out;have:=m9.out;have:=r6.out;omega⟩,⟨rX n0.out⟩,⟨pB⟩⟩
          ·obtain⟨F3,F4⟩:∃ j_:Int,(wrap64 (m8+(l1.length:Int)))=j_:=⟨_,rfl⟩;replace H:(if 0≤(F3) then(if(F3) < (o8.length:Int) then(Czj.l0 k3 l0 l1 (o8.set ((F3):Int).toNat o9) (l0.length:Int) (wrap64 (m8+1))) else(none)) else(none))=some (b4,b5):=by first|(rw[F4] at H;exact H)|(simp only[F4] at H ⊢;exact H)
           have F5:(IntKind.i64.wrap (m8+(l1.length:Int)))=F3:=(aH _).trans F4;obtain⟨F6,H⟩:=iN H;obtain⟨F7,H⟩:=iN H;obtain⟨F8,F9⟩:∃ y_:List Int,y_=(o8.set ((F3):Int).toNat o9):=⟨_,rfl⟩;replace H:(Czj.l0 k3 l0 l1 F8 (l0.length:Int) (wrap64 (m8+1)))=some (b4,b5):=yE F9 H
           have G5:=aM F9;clear F9;have H':=aM H;clear H;have G9:0≤((F3):Int):=oE aS
           have H5:((F3):Int) < ((o8.length:Int):Int):=oE aS
           obtain⟨H6,H7,H8,H9,I0,I3,I4⟩:=Kd.fu n0.out (by omega)
           (first|cases H8|(injection H8 with ea_ en_ ec_;(first|subst ea_|(injection ea_ with ea_;subst ea_));subst ec_;clear en_))
           have I5:=aM H9;have I6:=aM I4;clear H9 I0 I4;obtain⟨I7,I8⟩:=Kd.bU 0 n0.out ((F3):Int) G9 H5;replace G9:=eq_true G9;replace H5:=eq_true H5;have I9:=Kd.dX n0.out ((F3):Int) o9;have fl_:True:=trivial;repeat((first|clear fl_|go_quiet (first|((with_reducible refine bH (t:=3) (p:=70) rfl ?_);(try(rw[gK wr];generalize hq_:World.drewN wr _=wr;have n0_:=aM (Kd.tu hq_ n0.out);have n1_:=aM (jA hq_ HB.out);clear hq_ n0 HB;have n0:=n0_;have HB:=n1_;clear n0_ n1_;(try(obtain⟨I7,I8⟩:=Kd.bU 0 n0.out ((F3):Int) (of_eq_true G9) (of_eq_true H5)));(try(have I9:=Kd.dX n0.out ((F3):Int) o9))));refine aZ (t:=3) (p:=70) (v:=?vo_w31) (w1:=(wr.setCell ⟨H6,((F3):Int).toNat,none⟩ (.int .i64 o9))) ?hg ?ho ?hn ?hr ?_;(case ho=>rfl);(case hg=>rfl);(case hn=>rfl);(case hr=>first|(go_simp;done)|(go_simp;rfl));intro J0 hw;have hg:wr.grownBy J0 (some H6):=(by rw[hw];exact I9.2);have hp_:rI J0 w (fun _=>True) (.slice (some ⟨H6,0,none⟩) o8.length H7) F8:=(by rw[hw,G5.out];exact I9.1);clear I9;replace n0:=aM (hp_);replace HB:=aM ((by rw[hw];exact cZ (HB.out) I5.out:bw w J0));clear hg hw hp_)));go_wp2_with (first|((with_reducible refine bH (t:=3) (p:=70) rfl ?_);(try(rw[gK wr];generalize hq_:World.drewN wr _=wr;have n0_:=aM (Kd.tu hq_ n0.out);have n1_:=aM (jA hq_ HB.out);clear hq_ n0 HB;have n0:=n0_;have HB:=n1_;clear n0_ n1_;(try(obtain⟨I7,I8⟩:=Kd.bU 0 n0.out ((F3):Int) (of_eq_true G9) (of_eq_true H5)));(try(have I9:=Kd.dX n0.out ((F3):Int) o9))));refine aZ (t:=3) (p:=70) (v:=?vo_w31) (w1:=(wr.setCell ⟨H6,((F3):Int).toNat,none⟩ (.int .i64 o9))) ?hg ?ho ?hn ?hr ?_;(case ho=>rfl);(case hg=>rfl);(case hn=>rfl);(case hr=>first|(go_simp;done)|(go_simp;rfl));intro J0 hw;have hg:wr.grownBy J0 (some H6):=(by rw[hw];exact I9.2);have hp_:rI J0 w (fun _=>True) (.slice (some ⟨H6,0,none⟩) o8.length H7) F8:=(by rw[hw,G5.out];exact I9.1);clear I9;replace n0:=aM (hp_);replace HB:=aM ((by rw[hw];exact cZ (HB.out) I5.out:bw w J0));clear hg hw hp_)))
           go_roundg k3
           case measure=>have:=g9.out;have:=m9.out;have:=r6.out;omega
           case rel=>exact⟨(F8),(wrap64 (m8+1)),sD,H',⟨by have:=g9.out;have:=m9.out;have:=r6.out;omega⟩,⟨rX n0.out⟩,⟨pB⟩⟩
       ·replace H:=bS H;obtain⟨⟨J1,J2⟩,J3,H⟩:=H;replace H:(some (J1,J2))=some (b4,b5):=H;have J4:=aM J3;clear J3;obtain⟨rfl,rfl⟩:=q2 H;obtain⟨J5,J6,rfl⟩:=Kd.aj n0.out;have fl_:True:=trivial;repeat((first|clear fl_|go_quiet (first|(go_at_call 110;(with_reducible refine(Fzz.calls k2 (fun k_=>some k_=(.slice J5 m7.length J6:Value).ownBlock) (.slice J5 m7.length J6) m7 J1 J2 w _ ?_ ?_ J4.out).mono ?_);exact pB;exact Kd.dJ rfl n0.out;rintro e J7 ⟨J8,rfl,J9,hb,hkp⟩;have K0:=aM (Kd.ah (ok':=fun k_=>True) J9 (fun k_ hk_=>trivial));replace HB:=aM (hb);clear n0 hb hkp J9)));go_wp2_with (first|(go_at_call 110;(with_reducible refine(Fzz.calls k2 (fun k_=>some k_=(.slice J5 m7.length J6:Value).ownBlock) (.slice J5 m7.length J6) m7 J1 J2 w _ ?_ ?_ J4.out).mono ?_);exact pB;exact Kd.dJ rfl n0.out;rintro e J7 ⟨J8,rfl,J9,hb,hkp⟩;have K0:=aM (Kd.ah (ok':=fun k_=>True) J9 (fun k_ hk_=>trivial));replace HB:=aM (hb);clear n0 hb hkp J9)))
        go_ret2
        exact⟨_,by first|rfl|(simp [bv,bC] <;> rfl)|(simp only[← j5];first|rfl|(simp [bv,bC] <;> rfl))|(simp [*,bv,bC] <;> rfl),rX K0.out,pB⟩
    ·rw[if_neg c9] at H;exact absurd H (by simp)

end Go.Proofs.Ytbnpcplckcipfaa.Print
