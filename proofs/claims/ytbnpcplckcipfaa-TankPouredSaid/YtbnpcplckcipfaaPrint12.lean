import Derived.Test.YtbnpcplckcipfaaPrint0
import Derived.Test.YtbnpcplckcipfaaPrint10
namespace Go.Proofs.Ytbnpcplckcipfaa.Print
open Go.RowKit Go.Proofs.YtbnpcplckcipfaaW.PrintWords Go.Proofs.YtbnpcplckcipfaaW.PrintLast Go.Proofs.YtbnpcplckcipfaaW.PrintMore
attribute [local go_sem] dF dG eB eD dm dn dH dI
set_option linter.unusedVariables false
set_option maxRecDepth 100000
set_option maxHeartbeats 8000000
set_option linter.unusedSimpArgs false

def Dzw.j0:Nat→List Int→List Int→Bool→Option (List Int × List Int × Int)
 | 0,_,_,_=>none
 | k+1,x0,x1,x16=>if x16=true then(some (([]:List Int),([]:List Int),3)) else(if(x1.length:Int)=0 then(some (([]:List Int),([]:List Int),16)) else((Ezw.f k x0 x1).bind fun bt212=>(some (bt212.1,bt212.2,0))))
def Dzw.f (k:Nat) (l0:List Int) (l1:List Int):Option (List Int × List Int × Int):=(Azv.f k l0).bind fun t210=>(if t210=true then((Azv.f k l1).bind fun t211=>(Dzw.j0 k l0 l1 (!t211))) else(Dzw.j0 k l0 l1 true))
theorem Dzw.mono_l:∀ k,(∀ a6 a7 a8,LeO (Dzw.j0 k a6 a7 a8) (Dzw.j0 (k+1) a6 a7 a8))
 | 0=>fun _ _ _ r h=>by simp [Dzw.j0] at h
 | k+1=>by
  have ih0:=Dzw.mono_l k
  ·intro a6 a7 a8;unfold Dzw.j0;have i0:=@Azv.mono;have i1:=@Ezw.mono;exact mM
theorem Dzw.mono:∀ a6 a7 k,LeO (Dzw.f k a6 a7) (Dzw.f (k+1) a6 a7):=by
 intro a6 a7 k;have ih0:=Dzw.mono_l k;unfold Dzw.f;have i0:=@Azv.mono;have i1:=@Ezw.mono;exact mM
theorem Dzw.calls (k:Nat) (a6:Option Addr) (a7:Nat) (l0:List Int) (a8:Option Addr) (a9:Nat) (l1:List Int) (b4:List Int) (b5:List Int) (b6:Int) (w:World) (b7:cI w a6 l0) (b8:l0.length≤a7) (b9:cI w a8 l1) (d6:l1.length≤a9) (h:Dzw.f k l0 l1=some (b4,b5,b6)) :
  Calls Try.prog 102 #[.slice a6 l0.length a7,.slice a8 l1.length a9] w fun e w'=>∃ v0_ v1_:Value,e=.returned (.tuple #[v0_,v1_,.int .i64 b6])∧rI w' w (oV v1_) v0_ b4∧rI w' w (oV v0_) v1_ b5∧bw w w':=by
 have d7:=aM b7;have d8:=aM b8;clear b7 b8;have d9:=aM b9;have e6:=aM d6;clear b9 d6;have HB:=aM (Below.refl w.heap.size w);have H:((Azv.f k l0).bind fun e7=>(if e7=true then((Azv.f k l1).bind fun f6=>(Dzw.j0 k l0 l1 (!f6))) else(Dzw.j0 k l0 l1 true)))=some (b4,b5,b6):=h
 clear h;have f7:=aM H;clear H;go_enter Try.func102,Try.ntmps102
 go_upto_region 1 with (fail)
 go_cut [16] (fun f8 wc=>∃ (kq:Nat) (g5:Bool),f8=.bool g5∧ae (Dzw.j0 kq l0 l1 g5=some (b4,b5,b6))∧ae (kq≤k)∧ae (bw w wc))
 case first =>
  have H:=f7.out;clear f7;obtain⟨e7,g8,H⟩:=bT H;(try dsimp only at H);by_cases c5:e7=true
  ·subst c5;rw[if_pos rfl] at H;obtain⟨f6,g9,H⟩:=bT H;(try dsimp only at H);have H':=aM H;clear H;go_wp2_with (first|((with_reducible refine gc 65 rfl ?_);refine gC 65 (some 10) Try.func65 #[.slice a6 l0.length a7] ?_;(with_reducible refine(Azv.calls k _ _ l0 true _ ?_ ?_ g8.out).mono ?_);exact cB d7;exact d8.out;rintro e w' ⟨rfl,⟨nd,rfl⟩⟩;refine⟨_,rfl,?_⟩)|(go_at_call 65;(with_reducible refine(Azv.calls k _ _ l1 f6 _ ?_ ?_ g9.out).mono ?_);exact cB d9;exact e6.out;rintro e w' ⟨rfl,⟨nd,rfl⟩⟩))
   go_meet
   case rel=>exact⟨_,(!f6),sD,H',⟨by first|omega|exact Nat.le_refl _⟩,⟨pB⟩⟩
  ·obtain rfl:=bN c5;rw[if_neg nF] at H
   have H':=aM H;clear H;go_wp2_with (first|((with_reducible refine gc 65 rfl ?_);refine gC 65 (some 10) Try.func65 #[.slice a6 l0.length a7] ?_;(with_reducible refine(Azv.calls k _ _ l0 false _ ?_ ?_ g8.out).mono ?_);exact cB d7;exact d8.out;rintro e w' ⟨rfl,⟨nd,rfl⟩⟩;refine⟨_,rfl,?_⟩))
   go_meet
   case rel=>exact⟨_,(true),sD,H',⟨by first|omega|exact Nat.le_refl _⟩,⟨pB⟩⟩
 case rest =>
  clear f7;try clear a9
  obtain⟨kq,g5,rfl,HA,j3,HB⟩:=hcut;cases kq with
  | zero=>exact absurd HA.out (by simp [Dzw.j0])
  | succ j4 =>
   have H:=HA.out;clear HA;simp only[Dzw.j0] at H;by_cases c7:g5=true
   ·subst c7;rw[if_pos rfl] at H;obtain⟨rfl,rfl,rfl⟩:=q3 H;go_wp2
    go_ret3
    exact⟨_,_,eW,nK,nK,pB⟩
   ·obtain rfl:=bN c7;rw[if_neg nF] at H
    replace H:=iE H;rcases H with⟨j5,j6,H⟩|⟨c8,j5,j6,H⟩
    ·obtain⟨rfl,rfl,rfl⟩:=q3 H;go_wp2
     go_ret3
     exact⟨_,_,eW,nK,nK,pB⟩
    ·have j7:¬ (l1=[]):=fun h_=>c8 (by rw[h_];rfl)
     replace H:=bS H;obtain⟨⟨j8,j9⟩,l5,H⟩:=H;replace H:(some (j8,j9,0))=some (b4,b5,b6):=H;have l6:=aM l5;clear l5;obtain⟨rfl,rfl,rfl⟩:=q3 H;go_wp2_with (first|((with_reducible refine gc 91 rfl ?_);refine gC 91 (some 23) Try.func91 #[.slice a6 l0.length a7,.slice a8 l1.length a9] ?_;(with_reducible refine(Ezw.calls j4 _ _ l0 _ _ l1 j8 j9 _ ?_ ?_ ?_ ?_ l6.out).mono ?_);exact cB d7;exact d8.out;exact cB d9;exact e6.out;rintro e l7 ⟨l8,l9,rfl,m0,m4,hb⟩;refine⟨_,rfl,?_⟩;have m5:=rL m0;have m6:=rL m4;replace HB:=bB hb;clear hb m0 m4))
     go_ret3
     exact⟨_,_,eW,rX m5.out,rX m6.out,pB⟩

def Ezy.f (k:Nat) (a0:Bool) (l1:List Int) (l2:List Int):Option (Bool × List Int × List Int × Int):=(Czv.f k l1 l2).bind fun bt219=>(if bt219.2=0 then((Dzw.f k l1 bt219.1).bind fun bt223=>(if bt223.2.2=0 then((Dzw.f k l2 bt219.1).bind fun bt230=>(if bt230.2.2=0 then(if a0=true then(some (decide (0 < bt223.1.length),bt223.1,bt230.1,0)) else(some (false,bt223.1,bt230.1,0))) else(some (false,([]:List Int),([]:List Int),bt230.2.2)))) else(some (false,([]:List Int),([]:List Int),bt223.2.2)))) else(some (false,([]:List Int),([]:List Int),bt219.2)))
theorem Ezy.mono:∀ a6 a7 a8 k,LeO (Ezy.f k a6 a7 a8) (Ezy.f (k+1) a6 a7 a8):=by
 intro a6 a7 a8 k;unfold Ezy.f;have i0:=@Dzw.mono;have i1:=@Czv.mono;exact mM
theorem Ezy.calls (k:Nat) (a6:Bool) (a7:Option Addr) (a8:Nat) (l1:List Int) (a9:Option Addr) (c2:Nat) (l2:List Int) (b4:Bool) (b5:List Int) (b6:List Int) (b7:Int) (w:World) (b8:cI w a7 l1) (b9:l1.length≤a8) (d6:cI w a9 l2) (d7:l2.length≤c2) (h:Ezy.f k a6 l1 l2=some (b4,b5,b6,b7)) :
  Calls Try.prog 79 #[.bool a6,.slice a7 l1.length a8,.slice a9 l2.length c2] w fun e w'=>∃ v1_ v2_:Value,e=.returned (.tuple #[.agg #[.bool b4,v1_,v2_],.int .i64 b7])∧rI w' w (oV v2_) v1_ b5∧rI w' w (oV v1_) v2_ b6∧bw w w':=by
 have hu33:=Try.underlying33;have d8:=aM b8;have d9:=aM b9;clear b8 b9;have e6:=aM d6;have e7:=aM d7;clear d6 d7;have HB:=aM (Below.refl w.heap.size w);have H:((Czv.f k l1 l2).bind fun f6=>(if f6.2=0 then((Dzw.f k l1 f6.1).bind fun f7=>(if f7.2.2=0 then((Dzw.f k l2 f6.1).bind fun f8=>(if f8.2.2=0 then(if a6=true then(some (decide (0 < f7.1.length),f7.1,f8.1,0)) else(some (false,f7.1,f8.1,0))) else(some (false,([]:List Int),([]:List Int),f8.2.2)))) else(some (false,([]:List Int),([]:List Int),f7.2.2)))) else(some (false,([]:List Int),([]:List Int),f6.2))))=some (b4,b5,b6,b7):=h
 clear h;obtain⟨⟨g5,g8⟩,g9,H⟩:=bT H;(try dsimp only at H);have j3:=aM H;clear H;go_enter Try.func79,Try.ntmps79
 go_upto_if 21 with (first|((with_reducible refine gd 6 rfl ?_);refine bzg 33 ?_;intro j4 hg j5 j6 hb;have j7:=gA w hg;replace HB:=bB hb;clear hb hg)|((with_reducible refine gc 66 rfl ?_);refine gC 66 (some 17) Try.func66 #[.slice a7 l1.length a8,.slice a9 l2.length c2] ?_;(with_reducible refine(Czv.calls k (fun k_=>k_ < w.heap.size) _ _ l1 (fun k_=>k_ < w.heap.size) _ _ l2 g5 g8 _ ?_ ?_ g9.out).mono ?_);exact Kd.jI d9.out (Kd.eX (Kd.C_F (Kd.dZ .i64) d8.out) pB);exact Kd.jI e7.out (Kd.eX (Kd.C_F (Kd.dZ .i64) e6.out) pB);rintro e j9 ⟨l5,rfl,l6,hb⟩;refine⟨_,rfl,?_⟩;have l7:=rL (Kd.ah (ok':=fun k_=>True) l6 (fun _ hk_=>trivial));replace j6:=kb j6 hb;replace HB:=bB hb;clear hb l6))
 have H:=j3.out;clear j3;replace H:=iE H;rcases H with⟨l8,l9,H⟩|⟨c8,l8,l9,H⟩
 ·(first|rw[l8]|(simp only[aH,bg];rw[l8])|skip)
  obtain⟨⟨m0,m4,m5⟩,m6,H⟩:=bT H;(try dsimp only at H);have m7:=aM H;clear H;obtain⟨m8,m9,rfl⟩:=Kd.aj l7.out;go_upto_if 32 with (first|((with_reducible refine gc 102 rfl ?_);refine gC 102 (some 27) Try.func102 #[.slice a7 l1.length a8,.slice m8 g5.length m9] ?_;(with_reducible refine(Dzw.calls k _ _ l1 _ _ g5 m0 m4 m5 _ ?_ ?_ ?_ ?_ m6.out).mono ?_);exact cB d8;exact d9.out;exact cR l7;exact lR l7;rintro e n0 ⟨n7,n8,rfl,l6,n9,hb⟩;refine⟨_,rfl,?_⟩;have o0:=rL (rn l6 l7);have o8:=rL (rn n9 l7);replace l7:=rO l7 hb l6 n9;replace j6:=kb j6 hb;replace HB:=bB hb;clear hb l6 n9))
  have H:=m7.out;clear m7;replace H:=iE H;rcases H with⟨p9,r6,H⟩|⟨o9,p9,r6,H⟩
  ·(first|rw[p9]|(simp only[aH,bg];rw[p9])|skip)
   obtain⟨⟨r7,r8,r9⟩,t4,H⟩:=bT H;(try dsimp only at H);have t5:=aM H;clear H;go_upto_if 43 with (first|((with_reducible refine gc 102 rfl ?_);refine gC 102 (some 38) Try.func102 #[.slice a9 l2.length c2,.slice m8 g5.length m9] ?_;(with_reducible refine(Dzw.calls k _ _ l2 _ _ g5 r7 r8 r9 _ ?_ ?_ ?_ ?_ t4.out).mono ?_);exact cB e6;exact e7.out;exact cR l7;exact lR l7;rintro e t6 ⟨t7,t8,rfl,l6,n9,hb⟩;refine⟨_,rfl,?_⟩;have t9:=rL (rn (rn (rn l6 l7) o0) o8);have z3:=rL (rn (rn (rn n9 l7) o0) o8);replace l7:=rO l7 hb l6 n9;replace o0:=rO o0 hb l6 n9;replace o8:=rO o8 hb l6 n9;replace j6:=kb j6 hb;replace HB:=bB hb;clear hb l6 n9))
   have H:=t5.out;clear t5;replace H:=iE H;rcases H with⟨z5,z6,H⟩|⟨z4,z5,z6,H⟩
   ·(first|rw[z5]|(simp only[aH,bg];rw[z5])|skip)
    by_cases z7:a6=true
    ·subst z7;rw[if_pos rfl] at H;obtain⟨rfl,rfl,rfl,rfl⟩:=q4 H;obtain⟨z8,z9,rfl⟩:=Kd.aj o0.out;obtain⟨B0,B5,rfl⟩:=Kd.aj t9.out;obtain⟨B9,C0,C1,C2,C3,C4⟩:=bk3 j6;go_wp2
     refine rC j4 33 #[.bool (decide (0 < m0.length)),.slice z8 m0.length z9,.slice B0 r7.length B5] (kQ j6) Try.underlying33 ?_
     exact⟨_,_,eW,by exact Kd.ah (rT o0 j6) (fun _ hk=>hk.1.2),by exact Kd.ah (rT t9 j6) (fun _ hk=>hk.1.2),pB⟩
    ·obtain rfl:=bN z7;rw[if_neg nF] at H
     obtain⟨rfl,rfl,rfl,rfl⟩:=q4 H;obtain⟨C6,C7,rfl⟩:=Kd.aj t9.out;obtain⟨C8,C9,rfl⟩:=Kd.aj o0.out;obtain⟨D4,D5,D6,D7,D8,D9⟩:=bk3 j6;go_wp2
     refine rC j4 33 #[.bool false,.slice C8 m0.length C9,.slice C6 r7.length C7] (kQ j6) Try.underlying33 ?_
     exact⟨_,_,eW,by exact Kd.ah (rT o0 j6) (fun _ hk=>hk.1.2),by exact Kd.ah (rT t9 j6) (fun _ hk=>hk.1.2),pB⟩
   ·(first|rw[z5]|(simp only[aH,bg];rw[z5])|skip)
    obtain⟨rfl,rfl,rfl,rfl⟩:=q4 H;obtain⟨E0,E1,E2,E3,E4,E5⟩:=bk3 j6;go_wp2
    refine rC j4 33 #[.bool false,.slice none 0 0,.slice none 0 0] (kQ j6) Try.underlying33 ?_
    exact⟨_,_,eW,nK,nK,pB⟩
  ·(first|rw[p9]|(simp only[aH,bg];rw[p9])|skip)
   obtain⟨rfl,rfl,rfl,rfl⟩:=q4 H;obtain⟨E6,E7,E8,E9,F0,F2⟩:=bk3 j6;go_wp2
   refine rC j4 33 #[.bool false,.slice none 0 0,.slice none 0 0] (kQ j6) Try.underlying33 ?_
   exact⟨_,_,eW,nK,nK,pB⟩
 ·(first|rw[l8]|(simp only[aH,bg];rw[l8])|skip)
  obtain⟨rfl,rfl,rfl,rfl⟩:=q4 H;obtain⟨F3,F4,F5,F6,F7,F8⟩:=bk3 j6;go_wp2
  refine rC j4 33 #[.bool false,.slice none 0 0,.slice none 0 0] (kQ j6) Try.underlying33 ?_
  exact⟨_,_,eW,nK,nK,pB⟩

def Hzy.f (a0:Int):Option (Bool):=if a0≥(-1125899906842624) then(some (decide (a0≤1125899906842624))) else(some false)
theorem Hzy.calls (a6:Int) (r:Bool) (w:World) (h:Hzy.f a6=some r) :
  Calls Try.prog 108 #[.int .i64 a6] w fun e w'=>e=.returned (.bool r)∧dC w w':=by
 have H:(if a6≥(-1125899906842624) then(some (decide (a6≤1125899906842624))) else(some false))=some r:=h
 clear h;by_cases c2:a6≥(-1125899906842624)
 ·rw[if_pos c2] at H;have a7:decide ((-1125899906842624)≤a6)=true:=dE c2;clear c2;obtain rfl:=Option.some.inj H;go_enter Try.func108,Try.ntmps108
  go_wp2
  go_ret
  exact⟨sD,dR⟩
 ·rw[if_neg c2] at H;have a7:decide ((-1125899906842624)≤a6)=false:=decide_eq_false c2;clear c2;obtain rfl:=Option.some.inj H;go_enter Try.func108,Try.ntmps108
  go_wp2
  go_ret
  exact⟨sD,dR⟩

def Fzf.f (k:Nat) (a0:Int):Option (List Int):=(Ezp.f k (mx a0 (wrap64 (-a0)))).bind fun bt237=>(some bt237.1)
theorem Fzf.mono:∀ a6 k,LeO (Fzf.f k a6) (Fzf.f (k+1) a6):=by
 intro a6 k;unfold Fzf.f;have i0:=@Ezp.mono;exact mM
theorem Fzf.calls (k:Nat) (a6:Int) (r:List Int) (w:World) (h:Fzf.f k a6=some r) :
  Calls Try.prog 109 #[.int .i64 a6] w fun e w'=>∃ v0_:Value,e=.returned (v0_)∧rI w' w (fun _=>True) v0_ r∧bw w w':=by
 have HB:=aM (Below.refl w.heap.size w);have H:((Ezp.f k (mx a6 (wrap64 (-a6)))).bind fun a7=>(some a7.1))=some r:=h
 clear h;obtain⟨a8,a9⟩:∃ j_:Int,(mx a6 (wrap64 (-a6)))=j_:=⟨_,rfl⟩;replace H:((Ezp.f k (a8)).bind fun a7=>(some a7.1))=some r:=by first|(rw[a9] at H;exact H)|(simp only[a9] at H ⊢;exact H)
 have b4:(if a6 < (wrap64 (-a6)) then(wrap64 (-a6)) else a6)=a8:=a9
 replace H:=bS H;obtain⟨⟨b5,b6⟩,b7,H⟩:=H;replace H:(some b5)=some r:=H;have b8:=aM b7;clear b7;obtain rfl:=Option.some.inj H;go_enter Try.func109,Try.ntmps109
 go_wp2_with (first|((with_reducible refine df (f:=95) rfl ?_);refine gJ (some 10) rfl rfl Try.func95 (by kernel_rfl) rfl #[.int .i64 a8] rfl (by(try simp only[List.map_toArray,List.map_cons,List.map_nil]);first|done|(simp only[a9];rfl)|rfl|(simp only[List.length_drop,List.length_take];rfl)) ?_;(with_reducible refine(Ezp.calls k a8 b5 b6 _ b8.out).mono ?_);rintro e b9 ⟨d6,rfl,d7,hb⟩;refine⟨_,rfl,?_⟩;have d8:=rL d7;replace HB:=bB hb;clear hb d7))
 go_ret
 exact⟨_,by first|rfl|(simp [bv,bC] <;> rfl)|(simp only[← a9];first|rfl|(simp [bv,bC] <;> rfl))|(simp [*,bv,bC] <;> rfl),rX d8.out,pB⟩


def Ezb.j0:Nat→Int→Int→Bool→Option (Bool × List Int × List Int × Int)
 | 0,_,_,_=>none
 | k+1,x0,x1,x6=>if x6=true then(some (false,([]:List Int),([]:List Int),1)) else(if x1=0 then(some (false,([]:List Int),([]:List Int),16)) else((Fzf.f k x0).bind fun t244=>((Fzf.f k x1).bind fun t247=>((Ezy.f k ((decide (x0 < 0)) != (decide (x1 < 0))) t244 t247).bind fun bt250=>(some (bt250.1,bt250.2.1,bt250.2.2.1,bt250.2.2.2))))))
def Ezb.f (k:Nat) (a0:Int) (a1:Int):Option (Bool × List Int × List Int × Int):=(Hzy.f a0).bind fun t242=>(if t242=true then((Hzy.f a1).bind fun t243=>(Ezb.j0 k a0 a1 (!t243))) else(Ezb.j0 k a0 a1 true))
theorem Ezb.mono_l:∀ k,(∀ a6 a7 a8,LeO (Ezb.j0 k a6 a7 a8) (Ezb.j0 (k+1) a6 a7 a8))
 | 0=>fun _ _ _ r h=>by simp [Ezb.j0] at h
 | k+1=>by
  have ih0:=Ezb.mono_l k
  ·intro a6 a7 a8;unfold Ezb.j0;have i0:=@Fzf.mono;have i1:=@Ezy.mono;exact mM
theorem Ezb.mono:∀ a6 a7 k,LeO (Ezb.f k a6 a7) (Ezb.f (k+1) a6 a7):=by
 intro a6 a7 k;have ih0:=Ezb.mono_l k;unfold Ezb.f;have i0:=@Fzf.mono;have i1:=@Ezy.mono;exact mM
theorem Ezb.calls (k:Nat) (a6:Int) (a7:Int) (a8:Bool) (a9:List Int) (b4:List Int) (b5:Int) (w:World) (h:Ezb.f k a6 a7=some (a8,a9,b4,b5)) :
  Calls Try.prog 87 #[.int .i64 a6,.int .i64 a7] w fun e w'=>∃ v1_ v2_:Value,e=.returned (.tuple #[.agg #[.bool a8,v1_,v2_],.int .i64 b5])∧rI w' w (oV v2_) v1_ a9∧rI w' w (oV v1_) v2_ b4∧bw w w':=by
 have hu33:=Try.underlying33;have HB:=aM (Below.refl w.heap.size w);have H:((Hzy.f a6).bind fun b6=>(if b6=true then((Hzy.f a7).bind fun b7=>(Ezb.j0 k a6 a7 (!b7))) else(Ezb.j0 k a6 a7 true)))=some (a8,a9,b4,b5):=h
 clear h;have b8:=aM H;clear H;go_enter Try.func87,Try.ntmps87
 go_upto_region 1 with (first|((with_reducible refine gd 4 rfl ?_);refine bz 33 ?_;intro b9 hg d6 d7 hb;have d8:=gA w hg;replace HB:=bB hb;clear hb hg))
 (try simp only[Act.put,sA,sZ,sC])
 go_cut [6] (fun e6 wc=>∃ (kq:Nat) (e7:Bool),e6=.bool e7∧ae (Ezb.j0 kq a6 a7 e7=some (a8,a9,b4,b5))∧ae (kq≤k)∧ae (wc.heap[b9]?=some (.cells #[.bool false,(.slice none 0 0),(.slice none 0 0)] 33 (0,0)))∧ae (bw w wc))
 case first =>
  have H:=b8.out;clear b8;obtain⟨b6,f6,H⟩:=bT H;(try dsimp only at H);by_cases c6:b6=true
  ·subst c6;rw[if_pos rfl] at H;obtain⟨b7,f7,H⟩:=bT H;(try dsimp only at H);have H':=aM H;clear H;go_wp2_with (first|((with_reducible refine gc 108 rfl ?_);refine gC 108 (some 8) Try.func108 #[.int .i64 a6] ?_;(with_reducible refine(Hzy.calls a6 true _ f6.out).mono ?_);rintro e w' ⟨rfl,⟨nd,rfl⟩⟩;refine⟨_,rfl,?_⟩)|(go_at_call 108;(with_reducible refine(Hzy.calls a7 b7 _ f7.out).mono ?_);rintro e w' ⟨rfl,⟨nd,rfl⟩⟩))
   go_meet
   case rel=>exact⟨_,(!b7),sD,H',⟨by first|omega|exact Nat.le_refl _⟩,⟨by exact kW d7⟩,⟨pB⟩⟩
  ·obtain rfl:=bN c6;rw[if_neg nF] at H
   have H':=aM H;clear H;go_wp2_with (first|((with_reducible refine gc 108 rfl ?_);refine gC 108 (some 8) Try.func108 #[.int .i64 a6] ?_;(with_reducible refine(Hzy.calls a6 false _ f6.out).mono ?_);rintro e w' ⟨rfl,⟨nd,rfl⟩⟩;refine⟨_,rfl,?_⟩))
   go_meet
   case rel=>exact⟨_,(true),sD,H',⟨by first|omega|exact Nat.le_refl _⟩,⟨by exact kW d7⟩,⟨pB⟩⟩
 case rest =>
  clear b8;try clear f8
  obtain⟨kq,e7,rfl,HA,g5,d7,HB⟩:=hcut;cases kq with
  | zero=>exact absurd HA.out (by simp [Ezb.j0])
  | succ g8 =>
   have H:=HA.out;clear HA;simp only[Ezb.j0] at H;by_cases c8:e7=true
   ·subst c8;rw[if_pos rfl] at H;obtain⟨rfl,rfl,rfl,rfl⟩:=q4 H;obtain⟨g9,j3,j4,j5,j6,j7⟩:=bk3 d7;go_wp2
    refine rC b9 33 #[.bool false,.slice none 0 0,.slice none 0 0] (kQ d7) Try.underlying33 ?_
    exact⟨_,_,eW,nK,nK,pB⟩
   ·obtain rfl:=bN c8;rw[if_neg nF] at H
    replace H:=iE H;rcases H with⟨j8,j9,H⟩|⟨c10,j8,j9,H⟩
    ·obtain⟨rfl,rfl,rfl,rfl⟩:=q4 H;obtain⟨l5,l6,l7,l8,l9,m0⟩:=bk3 d7;go_wp2
     refine rC b9 33 #[.bool false,.slice none 0 0,.slice none 0 0] (kQ d7) Try.underlying33 ?_
     exact⟨_,_,eW,nK,nK,pB⟩
    ·obtain⟨m4,m5,H⟩:=bT H;(try dsimp only at H);obtain⟨m6,m7,H⟩:=bT H;(try dsimp only at H);replace H:=bS H;obtain⟨⟨m8,m9,n0,n7⟩,n8,H⟩:=H;replace H:(some (m8,m9,n0,n7))=some (a8,a9,b4,b5):=H;have n9:=aM n8;clear n8;obtain⟨rfl,rfl,rfl,rfl⟩:=q4 H;go_wp2_with (first|((with_reducible refine gc 109 rfl ?_);refine gC 109 (some 26) Try.func109 #[.int .i64 a6] ?_;(with_reducible refine(Fzf.calls g8 a6 m4 _ m5.out).mono ?_);rintro e o0 ⟨o8,rfl,o9,hb⟩;refine⟨_,rfl,?_⟩;have p9:=rL o9;replace d7:=kb d7 hb;replace HB:=bB hb;clear hb o9)|((with_reducible refine gc 109 rfl ?_);refine gC 109 (some 28) Try.func109 #[.int .i64 a7] ?_;(with_reducible refine(Fzf.calls g8 a7 m6 _ m7.out).mono ?_);rintro e r6 ⟨r7,rfl,o9,hb⟩;refine⟨_,rfl,?_⟩;have r8:=rL (rn o9 p9);replace p9:=rE p9 o9 hb;replace d7:=kb d7 hb;replace HB:=bB hb;clear hb o9;obtain⟨r9,t4,rfl⟩:=Kd.aj p9.out;obtain⟨t5,t6,rfl⟩:=Kd.aj r8.out)|((with_reducible refine gc 79 rfl ?_);refine gC 79 (some 29) Try.func79 #[.bool ((decide (a6 < 0)) != (decide (a7 < 0))),.slice r9 m4.length t4,.slice t5 m6.length t6] ?_;(with_reducible refine(Ezy.calls g8 ((decide (a6 < 0)) != (decide (a7 < 0))) _ _ m4 _ _ m6 m8 m9 n0 n7 _ ?_ ?_ ?_ ?_ n9.out).mono ?_);exact cR p9;exact lR p9;exact cR r8;exact lR r8;rintro e t7 ⟨t8,t9,rfl,o9,z3,hb⟩;refine⟨_,rfl,?_⟩;have z4:=rL (rn (rn o9 p9) r8);have z5:=rL (rn (rn z3 p9) r8);replace p9:=rO p9 hb o9 z3;replace r8:=rO r8 hb o9 z3;replace d7:=kb d7 hb;replace HB:=bB hb;clear hb o9 z3;obtain⟨z6,z7,z8,z9,B0,B5⟩:=bk3 d7;obtain⟨B9,C0,rfl⟩:=Kd.aj z4.out;obtain⟨C1,C2,rfl⟩:=Kd.aj z5.out))
     refine rC b9 33 #[.bool m8,.slice B9 m9.length C0,.slice C1 n0.length C2] (kQ d7) Try.underlying33 ?_
     exact⟨_,_,eW,by exact Kd.ah (rT z4 d7) (fun _ hk=>hk.1.1),by exact Kd.ah (rT z5 d7) (fun _ hk=>hk.1.1),pB⟩

def Hzv.f (k:Nat) (a0:Int):Option (Bool × List Int × List Int × Int):=(Ezb.f k a0 1).bind fun bt259=>(some (bt259.1,bt259.2.1,bt259.2.2.1,bt259.2.2.2))
theorem Hzv.mono:∀ a6 k,LeO (Hzv.f k a6) (Hzv.f (k+1) a6):=by
 intro a6 k;unfold Hzv.f;have i0:=@Ezb.mono;exact mM
theorem Hzv.calls (k:Nat) (a6:Int) (a7:Bool) (a8:List Int) (a9:List Int) (b4:Int) (w:World) (h:Hzv.f k a6=some (a7,a8,a9,b4)) :
  Calls Try.prog 61 #[.int .i64 a6] w fun e w'=>∃ v1_ v2_:Value,e=.returned (.tuple #[.agg #[.bool a7,v1_,v2_],.int .i64 b4])∧rI w' w (oV v2_) v1_ a8∧rI w' w (oV v1_) v2_ a9∧bw w w':=by
 have hu33:=Try.underlying33;have HB:=aM (Below.refl w.heap.size w);have H:((Ezb.f k a6 1).bind fun b5=>(some (b5.1,b5.2.1,b5.2.2.1,b5.2.2.2)))=some (a7,a8,a9,b4):=h
 clear h;replace H:=bS H;obtain⟨⟨b6,b7,b8,b9⟩,d6,H⟩:=H;replace H:(some (b6,b7,b8,b9))=some (a7,a8,a9,b4):=H;have d7:=aM d6;clear d6;obtain⟨rfl,rfl,rfl,rfl⟩:=q4 H;go_enter Try.func61,Try.ntmps61
 go_wp2_with (first|((with_reducible refine gd 2 rfl ?_);refine bz 33 ?_;intro d8 hg d9 e6 hb;have e7:=gA w hg;replace HB:=bB hb;clear hb hg)|((with_reducible refine gc 87 rfl ?_);refine gC 87 (some 5) Try.func87 #[.int .i64 a6,.int .i64 1] ?_;(with_reducible refine(Ezb.calls k a6 1 b6 b7 b8 b9 _ d7.out).mono ?_);rintro e f7 ⟨f8,g5,rfl,g8,g9,hb⟩;refine⟨_,rfl,?_⟩;have j3:=rL g8;have j4:=rL g9;replace e6:=kb e6 hb;replace HB:=bB hb;clear hb g8 g9;obtain⟨j5,j6,j7,j8,j9,l5⟩:=bk3 e6;obtain⟨l6,l7,rfl⟩:=Kd.aj j3.out;obtain⟨l8,l9,rfl⟩:=Kd.aj j4.out))
 refine rC d8 33 #[.bool b6,.slice l6 b7.length l7,.slice l8 b8.length l9] (kQ e6) Try.underlying33 ?_
 exact⟨_,_,eW,by exact Kd.ah (rT j3 e6) (fun _ hk=>hk),by exact Kd.ah (rT j4 e6) (fun _ hk=>hk),pB⟩

def Dzk.f (k:Nat) (a0:Int):Option (Bool × List Int × List Int):=(Hzv.f k a0).bind fun bt268=>(some (bt268.1,bt268.2.1,bt268.2.2.1))
theorem Dzk.mono:∀ a6 k,LeO (Dzk.f k a6) (Dzk.f (k+1) a6):=by
 intro a6 k;unfold Dzk.f;have i0:=@Hzv.mono;exact mM
theorem Dzk.calls (k:Nat) (a6:Int) (a7:Bool) (a8:List Int) (a9:List Int) (w:World) (h:Dzk.f k a6=some (a7,a8,a9)) :
  Calls Try.prog 34 #[.int .i64 a6] w fun e w'=>∃ v1_ v2_:Value,e=.returned (.agg #[.bool a7,v1_,v2_])∧rI w' w (oV v2_) v1_ a8∧rI w' w (oV v1_) v2_ a9∧bw w w':=by
 have hu33:=Try.underlying33;have HB:=aM (Below.refl w.heap.size w);have H:((Hzv.f k a6).bind fun b4=>(some (b4.1,b4.2.1,b4.2.2.1)))=some (a7,a8,a9):=h
 clear h;replace H:=bS H;obtain⟨⟨b5,b6,b7,b8⟩,b9,H⟩:=H;replace H:(some (b5,b6,b7))=some (a7,a8,a9):=H;have d6:=aM b9;clear b9;obtain⟨rfl,rfl,rfl⟩:=q3 H;go_enter Try.func34,Try.ntmps34
 go_wp2_with (first|((with_reducible refine gd 2 rfl ?_);refine bz 33 ?_;intro d7 hg d8 d9 hb;have e6:=gA w hg;replace HB:=bB hb;clear hb hg)|((with_reducible refine gc 61 rfl ?_);refine gC 61 (some 7) Try.func61 #[.int .i64 a6] ?_;(with_reducible refine(Hzv.calls k a6 b5 b6 b7 b8 _ d6.out).mono ?_);rintro e f6 ⟨f7,f8,rfl,g5,g8,hb⟩;refine⟨_,rfl,?_⟩;have g9:=rL g5;have j3:=rL g8;replace d9:=kb d9 hb;replace HB:=bB hb;clear hb g5 g8)|((with_reducible refine gd 3 rfl ?_);refine bz 33 ?_;intro j4 hg j5 j6 hb;have j7:=gA w hg;have j9:=nl hg d9;have l5:=ng hg d9;replace g9:=rB g9 hb;replace j3:=rB j3 hb;replace d9:=kb d9 hb;replace HB:=bB hb;clear hb hg;have l6:=l5.out;have l7:=j9.out;obtain⟨l8,l9,m0,m4,m5,m6⟩:=bk3 j6;obtain⟨m7,m8,rfl⟩:=Kd.aj g9.out;obtain⟨m9,n0,rfl⟩:=Kd.aj j3.out;obtain⟨n7,n8,n9,o0,o8,o9⟩:=bk3 d9))
 refine bodyPost_ret (results_cell_row rfl _ _ d7 33 #[.bool b5,.slice m7 b6.length m8,.slice m9 b7.length n0] (0,0) _ rfl (by refine bD ?_;refine au (cs:=#[.bool b5,.slice m7 b6.length m8,.slice none 0 0]) ?_ 2 _ rfl;refine bD ?_;refine au (cs:=#[.bool b5,.slice none 0 0,.slice none 0 0]) ?_ 1 _ rfl;refine bD ?_;refine au (cs:=#[.bool false,.slice none 0 0,.slice none 0 0]) ?_ 0 _ rfl;refine bD ?_;refine av ?_ j9.out _;refine bD ?_;refine av ?_ j9.out _;refine bD ?_;refine av ?_ j9.out _;(with_reducible repeat(first|refine cK ?_ _|refine az ?_|refine aK ?_ _));exact d9.out) Try.underlying33 rfl (by kernel_rfl)) rfl ?_
 exact⟨_,_,eW,by exact rX (Kd.ah (Kd.bF (p:=⟨d7,2,none⟩) (Kd.bF (p:=⟨d7,1,none⟩) (Kd.bF (p:=⟨d7,0,none⟩) (Kd.bF (p:=⟨j4,2,none⟩) (Kd.bF (p:=⟨j4,1,none⟩) (Kd.bF (p:=⟨j4,0,none⟩) (Kd.aA (Kd.aA g9.out j6.out (by decide)) d9.out (by decide)) (fun _ hk=>hk.1.2) (.bool b5)) (fun _ hk=>hk.1.2) (.slice m7 b6.length m8)) (fun _ hk=>hk.1.2) (.slice m9 b7.length n0)) (fun _ hk=>hk.2) (.bool b5)) (fun _ hk=>hk.2) (.slice m7 b6.length m8)) (fun _ hk=>hk.2) (.slice m9 b7.length n0)) (fun _ hk=>hk.1.1)),by exact rX (Kd.ah (Kd.bF (p:=⟨d7,2,none⟩) (Kd.bF (p:=⟨d7,1,none⟩) (Kd.bF (p:=⟨d7,0,none⟩) (Kd.bF (p:=⟨j4,2,none⟩) (Kd.bF (p:=⟨j4,1,none⟩) (Kd.bF (p:=⟨j4,0,none⟩) (Kd.aA (Kd.aA j3.out j6.out (by decide)) d9.out (by decide)) (fun _ hk=>hk.1.2) (.bool b5)) (fun _ hk=>hk.1.2) (.slice m7 b6.length m8)) (fun _ hk=>hk.1.2) (.slice m9 b7.length n0)) (fun _ hk=>hk.2) (.bool b5)) (fun _ hk=>hk.2) (.slice m7 b6.length m8)) (fun _ hk=>hk.2) (.slice m9 b7.length n0)) (fun _ hk=>hk.1.1)),pB⟩


mutual
def Czx.j0:Nat→Int→Int→Bool→Option (Int × (List (S33)) × Int)
 | 0,_,_,_=>none
 | k+1,x0,x1,x12=>if x12=true then(some (0,([]:List (S33)),17)) else(if x1 < 1 then(Czx.j1 k x0 x1 true) else(Czx.j1 k x0 x1 (decide (x1 > 1099511627776))))
def Czx.j1:Nat→Int→Int→Bool→Option (Int × (List (S33)) × Int)
 | 0,_,_,_=>none
 | k+1,x0,x1,x19=>if x19=true then(some (0,([]:List (S33)),1)) else(Czx.l0 k x0 0 x1 ([]:List (S33)))
def Czx.l0:Nat→Int→Int→Int→List (S33)→Option (Int × (List (S33)) × Int)
 | 0,_,_,_,_=>none
 | k+1,x23,x24,x279000,x279001=>if x24 < x23 then((Dzk.f k 0).bind fun bt279=>(if x279001.length < 2513169434916 then(Czx.l0 k x23 (wrap64 (x24+1)) x279000 (x279001 ++ [(⟨bt279.1,bt279.2.1,bt279.2.2⟩:S33)])) else(none))) else(some (x279000,x279001,0))
end
def Czx.f (k:Nat) (a0:Int) (a1:Int):Option (Int × (List (S33)) × Int):=if a0 < 1 then(Czx.j0 k a0 a1 true) else(Czx.j0 k a0 a1 (decide (a0 > 8)))
theorem Czx.mono_l:∀ k,(∀ a6 a7 a8,LeO (Czx.j0 k a6 a7 a8) (Czx.j0 (k+1) a6 a7 a8))∧(∀ a6 a7 a8,LeO (Czx.j1 k a6 a7 a8) (Czx.j1 (k+1) a6 a7 a8))∧(∀ a6 a7 a8 a9,LeO (Czx.l0 k a6 a7 a8 a9) (Czx.l0 (k+1) a6 a7 a8 a9))
 | 0=>⟨fun _ _ _ r h=>by simp [Czx.j0] at h,fun _ _ _ r h=>by simp [Czx.j1] at h,fun _ _ _ _ r h=>by simp [Czx.l0] at h⟩
 | k+1=>by
  obtain⟨ih0,ih1,ih2⟩:=Czx.mono_l k;have i0:=@Dzk.mono;refine⟨?_,?_,?_⟩
  ·intro a6 a7 a8;unfold Czx.j0;exact mM
  ·intro a6 a7 a8;unfold Czx.j1;exact mM
  ·intro a6 a7 a8 a9;unfold Czx.l0;exact mM
theorem Czx.mono:∀ a6 a7 k,LeO (Czx.f k a6 a7) (Czx.f (k+1) a6 a7):=by
 intro a6 a7 k;obtain⟨ih0,ih1,ih2⟩:=Czx.mono_l k;unfold Czx.f;have i0:=@Dzk.mono;exact mM
theorem Czx.calls (k:Nat) (a6:Int) (a7:Int) (a8:Int) (a9:List (S33)) (b4:Int) (w:World) (h:Czx.f k a6 a7=some (a8,a9,b4)) :
  Calls Try.prog 12 #[.int .i64 a6,.int .i64 a7] w fun e w'=>∃ v1_:Value,e=.returned (.tuple #[.agg #[.int .i64 a8,v1_],.int .i64 b4])∧Kd.S k33 33 w' w.heap.size (fun _=>True) v1_ a9∧bw w w':=by
 have hu24:=Try.underlying24;have HB:=aM (Below.refl w.heap.size w);have H:(if a6 < 1 then(Czx.j0 k a6 a7 true) else(Czx.j0 k a6 a7 (decide (a6 > 8))))=some (a8,a9,b4):=h
 clear h;have b5:=aM H;clear H;go_enter Try.func12,Try.ntmps12
 go_upto_region 1 with (first|((with_reducible refine gd 4 rfl ?_);refine bx #[.int .i64 0,.slice none 0 0] 24 ?_;intro b6 hg b7 b8 hb;have b9:=gA w hg;replace HB:=bB hb;clear hb hg))
 (try simp only[Act.put,sA,sZ,sC])
 go_cut [12] (fun d7 wc=>∃ (kq:Nat) (d8:Bool),d7=.bool d8∧ae (Czx.j0 kq a6 a7 d8=some (a8,a9,b4))∧ae (kq≤k)∧ae (wc.heap[b6]?=some (.cells #[.int .i64 0,(.slice none 0 0)] 24 (0,0)))∧ae (bw w wc))
 case first =>
  have H:=b5.out;clear b5;replace H:=iD H;rcases H with⟨d9,H⟩|⟨d9,H⟩
  ·(first|rw[d9]|(simp only[aH,bg];rw[d9])|skip)
   have H':=aM H;clear H;go_wp2
   go_meet
   case rel=>exact⟨_,(true),sD,H',⟨by first|omega|exact Nat.le_refl _⟩,⟨by exact kW b8⟩,⟨pB⟩⟩
  ·(first|rw[d9]|(simp only[aH,bg];rw[d9])|skip)
   have H':=aM H;clear H;go_wp2
   go_meet
   case rel=>exact⟨_,(decide (a6 > 8)),sD,H',⟨by first|omega|exact Nat.le_refl _⟩,⟨by exact kW b8⟩,⟨pB⟩⟩
 case rest =>
  clear b5;try clear e6
  obtain⟨kq,d8,rfl,HA,e7,b8,HB⟩:=hcut;cases kq with
  | zero=>exact absurd HA.out (by simp [Czx.j0])
  | succ f6 =>
   have H:=HA.out;clear HA;simp only[Czx.j0] at H;by_cases c6:d8=true
   ·subst c6;rw[if_pos rfl] at H;obtain⟨rfl,rfl,rfl⟩:=q3 H;obtain⟨f7,f8,g5,g8⟩:=bk2 b8;go_wp2
    refine rC b6 24 #[.int .i64 0,.slice none 0 0] (kQ b8) Try.underlying24 ?_
    exact⟨_,eW,by first|exact Kd.vS _ _ _ _ _|exact Kd.fU _ _ _ _ _|exact Kd.qN _ _ _ _ _|exact Kd.vN _ _ _ _ _|exact Kd.iX _ _ _ _ _,pB⟩
   ·obtain rfl:=bN c6;rw[if_neg nF] at H
    have g9:=aM H;clear H;go_upto_region 3 with (fail)
    go_cut [19] (fun j3 wc=>∃ (kq:Nat) (j4:Bool),j3=.bool j4∧ae (Czx.j1 kq a6 a7 j4=some (a8,a9,b4))∧ae (kq≤f6)∧ae (wc.heap[b6]?=some (.cells #[.int .i64 0,(.slice none 0 0)] 24 (0,0)))∧ae (bw w wc))
    case first =>
     have H:=g9.out;clear g9;replace H:=iD H;rcases H with⟨j5,H⟩|⟨j5,H⟩
     ·(first|rw[j5]|(simp only[aH,bg];rw[j5])|skip)
      have H':=aM H;clear H;go_wp2
      go_meet
      case rel=>exact⟨_,(true),sD,H',⟨by have:=e7.out;first|omega|exact Nat.le_refl _⟩,⟨by exact kW b8⟩,⟨pB⟩⟩
     ·(first|rw[j5]|(simp only[aH,bg];rw[j5])|skip)
      have H':=aM H;clear H;go_wp2
      go_meet
      case rel=>exact⟨_,(decide (a7 > 1099511627776)),sD,H',⟨by have:=e7.out;first|omega|exact Nat.le_refl _⟩,⟨by exact kW b8⟩,⟨pB⟩⟩
    case rest =>
     clear g9;try clear e6
     obtain⟨kq,j4,rfl,HA,j6,b8,HB⟩:=hcut;cases kq with
     | zero=>exact absurd HA.out (by simp [Czx.j1])
     | succ j7 =>
      have H:=HA.out;clear HA;simp only[Czx.j1] at H;by_cases c10:j4=true
      ·subst c10;rw[if_pos rfl] at H;obtain⟨rfl,rfl,rfl⟩:=q3 H;obtain⟨j8,j9,l5,l6⟩:=bk2 b8;go_wp2
       refine rC b6 24 #[.int .i64 0,.slice none 0 0] (kQ b8) Try.underlying24 ?_
       exact⟨_,eW,by first|exact Kd.vS _ _ _ _ _|exact Kd.fU _ _ _ _ _|exact Kd.qN _ _ _ _ _|exact Kd.vN _ _ _ _ _|exact Kd.iX _ _ _ _ _,pB⟩
      ·obtain rfl:=bN c10;rw[if_neg nF] at H
       have H':=aM H;clear H;go_wp2_with (first|((with_reducible refine gd 6 rfl ?_);refine bx #[.int .i64 0,.slice none 0 0] 24 ?_;intro l7 hg l8 l9 hb;have m0:=gA w hg;have m5:=nl hg b8;have m6:=ng hg b8;replace b8:=kb b8 hb;replace HB:=bB hb;clear hb hg;have m7:=m6.out;have m8:=m5.out;obtain⟨m9,n0,n7,n8⟩:=bk2 l9))
       go_loopg [24] j7 (fun kq n9 w'=>∃ (o0:Int) (o8:List (S33)) (u279001:Value),n9=.int .i64 o0∧ae (Czx.l0 kq a6 o0 a7 o8=some (a8,a9,b4))∧ae (kq≤j7)∧ae (Kd.S k33 33 w' w.heap.size (fun _=>True) u279001 o8)∧ae (w'.heap[b6]?=some (.cells #[.int .i64 0,(.slice none 0 0)] 24 (0,0)))∧ae (w'.heap[l7]?=some (.cells #[.int .i64 a7,u279001] 24 (0,0)))∧ae (bw w w'))
       case atStart=>exact⟨(0),(([]:List (S33))),(.slice none 0 0),sD,H',⟨Nat.le_refl _⟩,⟨by first|exact Kd.vS _ _ _ _ _|exact Kd.fU _ _ _ _ _|exact Kd.qN _ _ _ _ _|exact Kd.vN _ _ _ _ _|exact Kd.iX _ _ _ _ _⟩,⟨by exact kf b8 m5⟩,⟨by exact kQ l9⟩,⟨pB⟩⟩
       case round =>
        clear H';try clear e6
        obtain⟨o0,o8,u279001,rfl,HA,o9,p9,b8,l9,HB⟩:=hrel;cases gk with
        | zero=>exact absurd HA.out (by simp [Czx.l0])
        | succ k3 =>
         have H:=HA.out;clear HA;simp only[Czx.l0] at H;replace H:=iD H;rcases H with⟨r7,H⟩|⟨r7,H⟩
         ·obtain⟨⟨r8,r9,t4⟩,t5,H⟩:=bT H;(try dsimp only at H);obtain⟨t6,H⟩:=iO H;have LMc17:=aM t6;clear t6;obtain⟨t7,t8⟩:∃ y_:List (S33),y_=(o8 ++ [(⟨r8,r9,t4⟩:S33)]):=⟨_,rfl⟩;replace H:(Czx.l0 k3 a6 (wrap64 (o0+1)) a7 t7)=some (a8,a9,b4):=yE t8 H
          have t9:=aM t8;clear t8;have H':=aM H;clear H;try go_wp2
          have n0_:=aM (Kd.uK p9.out);have n1_:=aM (az b8.out);have n2_:=aM (az l9.out);have n3_:=aM (dA HB.out);clear p9 b8 l9 HB;have p9:=n0_;have b8:=n1_;have l9:=n2_;have HB:=n3_;clear n0_ n1_ n2_ n3_;refine gz (n:=7) (S:=fun w'=>w'.cell? ⟨l7,0,none⟩=some (.int .i64 a7)∧w'.cell? ⟨l7,1,none⟩=some (u279001)) (ds:=[6]) (bA 7 0) (by kernel_rfl) rfl rfl ⟨(af l9.out 0).trans rfl,(af l9.out 1).trans rfl⟩ (fun hHeld=>?_)
          generalize wr.drew=z3 at p9 b8 l9 HB hHeld ⊢;refine pV 0 26 (bA 7 1) ?_;refine tV 1 27 (bA 7 3) hHeld ?_;refine iK (i:=2) (N:=some 28) (bA 7 7) rfl rfl (by kernel_rfl) (by decide) (fun K hK=>?_)
          refine eH Try.func34 (by kernel_rfl) rfl #[.int .i64 0] (by rfl) rfl rfl mA ?_
          with_reducible refine(Dzk.calls k3 0 r8 r9 t4 _ t5.out).mono ?_
          rintro e z6 ⟨z7,z8,rfl,z9,B0,hb⟩;refine⟨_,rfl,?_⟩;have n0_:=sO p9 hb z9 B0
          have n1_:=rL z9;have n2_:=rL B0;have n3_:=kb b8 hb;have n4_:=kb l9 hb;have n5_:=bB hb;clear p9 b8 l9 HB;have p9:=n0_;have B5:=n1_;have B9:=n2_;have b8:=n3_;have l9:=n4_;have HB:=n5_;clear n0_ n1_ n2_ n3_ n4_ n5_;(try clear hb)
          (try clear C0)
          (try clear hk)
          (try clear hi)
          (try clear z9)
          (try clear B0)
          obtain⟨C1,C2,C3⟩:=Kd.aj B5.out;(first|subst C3|(injection C3 with f1_ f2_ f3_;have f4_:=f1_.symm;have f5_:=f3_.symm;clear f1_ f2_ f3_;subst f4_;subst f5_))
          obtain⟨C4,C6,C7⟩:=Kd.aj B9.out;(first|subst C7|(injection C7 with f1_ f2_ f3_;have f4_:=f1_.symm;have f5_:=f3_.symm;clear f1_ f2_ f3_;subst f4_;subst f5_))
          refine hK.out _ _ ⟨(af l9.out 0).trans rfl,(af l9.out 1).trans rfl⟩ (fun hHeld=>?_)
          clear hK K;refine nm 28 ?_;refine iK (i:=3) (N:=some 29) (bA 7 15) rfl rfl (by kernel_rfl) (by decide) (fun K hK=>?_)
          refine nP (w1:=?_) (v:=?_) (by rfl) rfl ?_ ?_
          rotate_left 2
          ·go_simp
           constructor
           ·rfl
           ·rfl
          refine hK.out _ _ ⟨(af (aK l9.out _) 0).trans rfl,(af (aK l9.out _) 1).trans rfl⟩ (fun hHeld=>?_)
          clear hK K;refine nm 29 ?_;refine iK (i:=4) (N:=some 30) (bA 7 31) rfl rfl (by kernel_rfl) (by decide) (fun K hK=>?_)
          refine Kd.qC k33 (w0:=w) w.heap.size (by rfl) (.tmp 27) (.tmp 29) 22 33 (.agg #[(.bool false),(.slice none 0 0),(.slice none 0 0)]) 56 rfl Try.underlying22 pq rfl (by decide) (by omega) u279001 o8 (⟨r8,r9,t4⟩:S33) [.bool r8,.slice C1 r9.length C2,.slice C4 t4.length C6] (fun _=>True) (fun k_=>some k_=(.slice C1 r9.length C2:Value).ownBlock∨some k_=(.slice C4 t4.length C6:Value).ownBlock) rfl rfl ?aP (fun k_ hk_=>hk_.elim (fun h_=>((Kd.ah (ok':=fun k_=>((fun _=>True)) k_∧oV u279001 k_) (Kd.bG (B5.out) (Kd.oP p9.out) (by decide)) (fun k_ hk=>⟨trivial,hk.2⟩))).1 k_ h_.symm) (fun h_=>((Kd.ah (ok':=fun k_=>((fun _=>True)) k_∧oV u279001 k_) (Kd.bG (B9.out) (Kd.oP p9.out) (by decide)) (fun k_ hk=>⟨trivial,hk.2⟩))).1 k_ h_.symm)) ?aF ?aO ?aB ?aS ?aL ?_
          (case aP=>exact zq _ _ _ (⟨r8,r9,t4⟩:S33) (Kd.ah (Kd.dJ rfl (Kd.ah (ok':=fun k_=>((fun _=>True)) k_∧oV u279001 k_) (Kd.bG (B5.out) (Kd.oP p9.out) (by decide)) (fun k_ hk=>⟨trivial,hk.2⟩))) (fun _ h_=>Or.inl h_)) (Kd.ah (Kd.dJ rfl (Kd.ah (ok':=fun k_=>((fun _=>True)) k_∧oV u279001 k_) (Kd.bG (B9.out) (Kd.oP p9.out) (by decide)) (fun k_ hk=>⟨trivial,hk.2⟩))) (fun _ h_=>Or.inr (h_))))
          (case aB=>exact pB)
          (case aF=>exact(fun _ _=>trivial))
          (case aO=>exact(by exact sX (Kd.mH p9.out (fun k_ hk=>⟨trivial,fun e_=>e_.elim (fun h_=>hk.1.2 h_) (fun h_=>hk.2 h_)⟩))))
          (case aS=>exact(ay pB))
          (case aL=>have:=LMc17.out;omega)
          intro C8 C9 ho hb hg hat;rw[← t9.out] at ho;have n0_:=aM (fC (g:=b6) (o:=.cells #[.int .i64 0,.slice none 0 0] 24 (0,0)) (kW b8) hg (Kd.DX p9.out b8.out (by decide)))
          have n1_:=aM (fC (g:=l7) (o:=.cells #[.int .i64 a7,u279001] 24 (0,0)) (kW l9) hg (Kd.DX p9.out l9.out (by decide)))
          have n2_:=aM (hb);have n3_:=aM (ho);clear b8 l9 HB p9 B5 B9;have b8:=n0_;have l9:=n1_;have HB:=n2_;have D4:=n3_;clear n0_ n1_ n2_ n3_ ho hb hg hat;obtain⟨D5,D6,D7⟩:=Kd.vZ D4.out;(first|subst D7|(injection D7 with f1_ f2_ f3_;have f4_:=f1_.symm;have f5_:=f3_.symm;clear f1_ f2_ f3_;subst f4_;subst f5_))
          refine hK.out _ _ ⟨(af l9.out 0).trans rfl,(af l9.out 1).trans rfl⟩ (fun hHeld=>?_)
          clear hK K;refine nm 30 ?_;refine pV 5 31 (bA 7 63) ?_;refine xW (i:=6) (N:=none) (bA 7 127) rfl rfl (by kernel_rfl) (by decide) (fun K hK=>?_)
          have D8:C9.cell? ⟨l7,1,none⟩=some (u279001):=(af l9.out 1).trans rfl;have hfs24:=bO l9.out 1;have hns24_0:=m5.out;have hms24_0:=m6.out;refine iY (w1:=?_) (by rfl) rfl ?_ ?_
          rotate_left
          ·go_simp
           rfl
          refine hK.out _ _ ?_;clear hK K;refine gZ (by kernel_rfl) ?_
          try go_wp2
          go_roundg k3
          case measure=>have:=e7.out;have:=j6.out;have:=o9.out;omega
          case rel=>exact⟨(wrap64 (o0+1)),(t7),(.slice D5 t7.length D6),sD,H',⟨by have:=e7.out;have:=j6.out;have:=o9.out;omega⟩,⟨by exact sX (Kd.mH (Kd.vW (p:=⟨l7,1,none⟩) (Kd.vY D4.out l9.out (by decide)) (fun _ hk=>hk.2) (.slice D5 t7.length D6)) (fun _ hk=>trivial))⟩,⟨by exact kf b8 m5⟩,⟨by exact kQ l9⟩,⟨pB⟩⟩
         ·obtain⟨rfl,rfl,rfl⟩:=q3 H;have D9:=m6.out;have E0:=m5.out;obtain⟨E1,E2,E3,E4⟩:=bk2 l9;obtain⟨E5,E6,E7,E8⟩:=bk2 b8;obtain⟨E9,F0,rfl⟩:=Kd.vZ p9.out;go_wp2
          refine rC b6 24 #[.int .i64 a7,.slice E9 o8.length F0] (kQ b8) Try.underlying24 ?_
          exact⟨_,eW,by exact sX (Kd.mH (Kd.vW (p:=⟨b6,1,none⟩) (Kd.vW (p:=⟨b6,0,none⟩) (Kd.vY p9.out b8.out (by decide)) (fun _ hk=>hk.2) (.int .i64 a7)) (fun _ hk=>hk.2) (.slice E9 o8.length F0)) (fun _ hk=>trivial)),pB⟩

end Go.Proofs.Ytbnpcplckcipfaa.Print
