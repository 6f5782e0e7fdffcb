import Derived.Test.YtbnpcplckcipfaaPrint0
import Derived.Test.YtbnpcplckcipfaaPrint10
namespace Go.Proofs.Ytbnpcplckcipfaa.Print
open Go.RowKit Go.Proofs.YtbnpcplckcipfaaW.PrintWords Go.Proofs.YtbnpcplckcipfaaW.PrintLast Go.Proofs.YtbnpcplckcipfaaW.PrintMore
attribute [local go_sem] max2_int min2_int max_two min_two max_three min_three max_four min_four
set_option linter.unusedVariables false
set_option maxRecDepth 100000
set_option maxHeartbeats 8000000
set_option linter.unusedSimpArgs false

def Czp.j0:Nat→List Int→List Int→Bool→Option (List Int × List Int × Int)
 | 0,_,_,_=>none
 | k+1,x0,x1,x16=>if x16=true then(some (([]:List Int),([]:List Int),3)) else(if(x1.length:Int)=0 then(some (([]:List Int),([]:List Int),16)) else((Dzp.f k x0 x1).bind fun bt212=>(some (bt212.1,bt212.2,0))))
def Czp.f (k:Nat) (l0:List Int) (l1:List Int):Option (List Int × List Int × Int):=(Azw.f k l0).bind fun t210=>(if t210=true then((Azw.f k l1).bind fun t211=>(Czp.j0 k l0 l1 (!t211))) else(Czp.j0 k l0 l1 true))
theorem Czp.mono_l:∀ k,(∀ a6 a7 a8,LeO (Czp.j0 k a6 a7 a8) (Czp.j0 (k+1) a6 a7 a8))
 | 0=>fun _ _ _ r h=>by simp [Czp.j0] at h
 | k+1=>by
  have ih0:=Czp.mono_l k
  ·intro a6 a7 a8;unfold Czp.j0;have i0:=@Azw.mono;have i1:=@Dzp.mono;exact mM
theorem Czp.mono:∀ a6 a7 k,LeO (Czp.f k a6 a7) (Czp.f (k+1) a6 a7):=by
 intro a6 a7 k;have ih0:=Czp.mono_l k;unfold Czp.f;have i0:=@Azw.mono;have i1:=@Dzp.mono;exact mM
theorem Czp.calls (k:Nat) (a6:Option Addr) (a7:Nat) (l0:List Int) (a8:Option Addr) (a9:Nat) (l1:List Int) (b4:List Int) (b5:List Int) (b6:Int) (w:World) (b7:cI w a6 l0) (b8:l0.length≤a7) (b9:cI w a8 l1) (d6:l1.length≤a9) (h:Czp.f k l0 l1=some (b4,b5,b6)) :
  Calls Try.prog 102 #[.slice a6 l0.length a7,.slice a8 l1.length a9] w fun e w'=>∃ v0_ v1_:Value,e=.returned (.tuple #[v0_,v1_,.int .i64 b6])∧rI w' w (oV v1_) v0_ b4∧rI w' w (oV v0_) v1_ b5∧bw w w':=by
 have d7:=aM b7;have d8:=aM b8;clear b7 b8;have d9:=aM b9;have e6:=aM d6;clear b9 d6;have HB:=aM (Below.refl w.heap.size w);have H:((Azw.f k l0).bind fun e7=>(if e7=true then((Azw.f k l1).bind fun e8=>(Czp.j0 k l0 l1 (!e8))) else(Czp.j0 k l0 l1 true)))=some (b4,b5,b6):=h
 clear h;have e9:=aM H;clear H;go_enter Try.func102,Try.ntmps102
 go_upto_region 1 with (fail)
 go_cut [16] (fun f3 wc=>∃ (kq:Nat) (f4:Bool),f3=.bool f4∧Aside0 (Czp.j0 kq l0 l1 f4=some (b4,b5,b6))∧Aside0 (kq≤k)∧Aside0 (bw w wc))
 case first =>
  have H:=e9.out;clear e9;obtain⟨e7,f5,H⟩:=bT H;(try dsimp only at H);by_cases c5:e7=true
  ·subst c5;rw[if_pos rfl] at H;obtain⟨e8,f6,H⟩:=bT H;(try dsimp only at H);have H':=aM H;clear H;go_wp2_with (first|((with_reducible refine gc 65 rfl ?_);refine gC 65 (some 10) Try.func65 #[.slice a6 l0.length a7] ?_;(with_reducible refine(Azw.calls k _ _ l0 true _ ?_ ?_ f5.out).mono ?_);exact cB d7;exact d8.out;rintro e w' ⟨rfl,⟨nd,rfl⟩⟩;refine⟨_,rfl,?_⟩)|(go_at_call 65;(with_reducible refine(Azw.calls k _ _ l1 e8 _ ?_ ?_ f6.out).mono ?_);exact cB d9;exact e6.out;rintro e w' ⟨rfl,⟨nd,rfl⟩⟩))
   go_meet
   case rel=>exact⟨_,(!e8),sD,H',⟨by first|omega|exact Nat.le_refl _⟩,⟨pB⟩⟩
  ·obtain rfl:=bN c5;rw[if_neg nF] at H
   have H':=aM H;clear H;go_wp2_with (first|((with_reducible refine gc 65 rfl ?_);refine gC 65 (some 10) Try.func65 #[.slice a6 l0.length a7] ?_;(with_reducible refine(Azw.calls k _ _ l0 false _ ?_ ?_ f5.out).mono ?_);exact cB d7;exact d8.out;rintro e w' ⟨rfl,⟨nd,rfl⟩⟩;refine⟨_,rfl,?_⟩))
   go_meet
   case rel=>exact⟨_,(true),sD,H',⟨by first|omega|exact Nat.le_refl _⟩,⟨pB⟩⟩
 case rest =>
  clear e9;try clear a9
  obtain⟨kq,f4,rfl,HA,f7,HB⟩:=hcut;cases kq with
  | zero=>exact absurd HA.out (by simp [Czp.j0])
  | succ f8 =>
   have H:=HA.out;clear HA;simp only[Czp.j0] at H;by_cases c7:f4=true
   ·subst c7;rw[if_pos rfl] at H;obtain⟨rfl,rfl,rfl⟩:=q3 H;go_wp2
    go_ret3
    exact⟨_,_,eW,nK,nK,pB⟩
   ·obtain rfl:=bN c7;rw[if_neg nF] at H
    replace H:=iE H;rcases H with⟨f9,g4,H⟩|⟨c8,f9,g4,H⟩
    ·obtain⟨rfl,rfl,rfl⟩:=q3 H;go_wp2
     go_ret3
     exact⟨_,_,eW,nK,nK,pB⟩
    ·have g5:¬ (l1=[]):=fun h_=>c8 (by rw[h_];rfl)
     replace H:=bS H;obtain⟨⟨g6,g7⟩,g8,H⟩:=H;replace H:(some (g6,g7,0))=some (b4,b5,b6):=H;have g9:=aM g8;clear g8;obtain⟨rfl,rfl,rfl⟩:=q3 H;go_wp2_with (first|((with_reducible refine gc 91 rfl ?_);refine gC 91 (some 23) Try.func91 #[.slice a6 l0.length a7,.slice a8 l1.length a9] ?_;(with_reducible refine(Dzp.calls f8 _ _ l0 _ _ l1 g6 g7 _ ?_ ?_ ?_ ?_ g9.out).mono ?_);exact cB d7;exact d8.out;exact cB d9;exact e6.out;rintro e j3 ⟨j4,j5,rfl,j6,j7,hb⟩;refine⟨_,rfl,?_⟩;have j8:=rL j6;have j9:=rL j7;replace HB:=bB hb;clear hb j6 j7))
     go_ret3
     exact⟨_,_,eW,rX j8.out,rX j9.out,pB⟩

def Dzb.f (k:Nat) (a0:Bool) (l1:List Int) (l2:List Int):Option (Bool × List Int × List Int × Int):=(Bzx.f k l1 l2).bind fun bt219=>(if bt219.2=0 then((Czp.f k l1 bt219.1).bind fun bt223=>(if bt223.2.2=0 then((Czp.f k l2 bt219.1).bind fun bt230=>(if bt230.2.2=0 then(if a0=true then(some (decide (0 < bt223.1.length),bt223.1,bt230.1,0)) else(some (false,bt223.1,bt230.1,0))) else(some (false,([]:List Int),([]:List Int),bt230.2.2)))) else(some (false,([]:List Int),([]:List Int),bt223.2.2)))) else(some (false,([]:List Int),([]:List Int),bt219.2)))
theorem Dzb.mono:∀ a6 a7 a8 k,LeO (Dzb.f k a6 a7 a8) (Dzb.f (k+1) a6 a7 a8):=by
 intro a6 a7 a8 k;unfold Dzb.f;have i0:=@Czp.mono;have i1:=@Bzx.mono;exact mM
theorem Dzb.calls (k:Nat) (a6:Bool) (a7:Option Addr) (a8:Nat) (l1:List Int) (a9:Option Addr) (c2:Nat) (l2:List Int) (b4:Bool) (b5:List Int) (b6:List Int) (b7:Int) (w:World) (b8:cI w a7 l1) (b9:l1.length≤a8) (d6:cI w a9 l2) (d7:l2.length≤c2) (h:Dzb.f k a6 l1 l2=some (b4,b5,b6,b7)) :
  Calls Try.prog 79 #[.bool a6,.slice a7 l1.length a8,.slice a9 l2.length c2] w fun e w'=>∃ v1_ v2_:Value,e=.returned (.tuple #[.agg #[.bool b4,v1_,v2_],.int .i64 b7])∧rI w' w (oV v2_) v1_ b5∧rI w' w (oV v1_) v2_ b6∧bw w w':=by
 have hu33:=Try.underlying33;have d8:=aM b8;have d9:=aM b9;clear b8 b9;have e6:=aM d6;have e7:=aM d7;clear d6 d7;have HB:=aM (Below.refl w.heap.size w);have H:((Bzx.f k l1 l2).bind fun e8=>(if e8.2=0 then((Czp.f k l1 e8.1).bind fun e9=>(if e9.2.2=0 then((Czp.f k l2 e8.1).bind fun f3=>(if f3.2.2=0 then(if a6=true then(some (decide (0 < e9.1.length),e9.1,f3.1,0)) else(some (false,e9.1,f3.1,0))) else(some (false,([]:List Int),([]:List Int),f3.2.2)))) else(some (false,([]:List Int),([]:List Int),e9.2.2)))) else(some (false,([]:List Int),([]:List Int),e8.2))))=some (b4,b5,b6,b7):=h
 clear h;obtain⟨⟨f4,f5⟩,f6,H⟩:=bT H;(try dsimp only at H);have f7:=aM H;clear H;go_enter Try.func79,Try.ntmps79
 go_upto_if 21 with (first|((with_reducible refine gd 6 rfl ?_);refine bzg 33 ?_;intro f8 hg f9 g4 hb;have g5:=gA w hg;replace HB:=bB hb;clear hb hg)|((with_reducible refine gc 66 rfl ?_);refine gC 66 (some 17) Try.func66 #[.slice a7 l1.length a8,.slice a9 l2.length c2] ?_;(with_reducible refine(Bzx.calls k (fun k_=>k_ < w.heap.size) _ _ l1 (fun k_=>k_ < w.heap.size) _ _ l2 f4 f5 _ ?_ ?_ f6.out).mono ?_);exact Kd.V_mk d9.out (Kd.F_below (Kd.C_F (Kd.heap_int .i64) d8.out) pB);exact Kd.V_mk e7.out (Kd.F_below (Kd.C_F (Kd.heap_int .i64) e6.out) pB);rintro e g7 ⟨g8,rfl,g9,hb⟩;refine⟨_,rfl,?_⟩;have j3:=rL (Kd.R_mono (ok':=fun k_=>True) g9 (fun _ hk_=>trivial));replace g4:=kb g4 hb;replace HB:=bB hb;clear hb g9))
 have H:=f7.out;clear f7;replace H:=iE H;rcases H with⟨j4,j5,H⟩|⟨c8,j4,j5,H⟩
 ·(first|rw[j4]|(simp only[i64_w,i32_w];rw[j4])|skip)
  obtain⟨⟨j6,j7,j8⟩,j9,H⟩:=bT H;(try dsimp only at H);have l5:=aM H;clear H;obtain⟨l6,l7,rfl⟩:=Kd.R_slice j3.out;go_upto_if 32 with (first|((with_reducible refine gc 102 rfl ?_);refine gC 102 (some 27) Try.func102 #[.slice a7 l1.length a8,.slice l6 f4.length l7] ?_;(with_reducible refine(Czp.calls k _ _ l1 _ _ f4 j6 j7 j8 _ ?_ ?_ ?_ ?_ j9.out).mono ?_);exact cB d8;exact d9.out;exact cR j3;exact lR j3;rintro e l8 ⟨l9,m0,rfl,g9,m4,hb⟩;refine⟨_,rfl,?_⟩;have m5:=rL (rn g9 j3);have m6:=rL (rn m4 j3);replace j3:=rO j3 hb g9 m4;replace g4:=kb g4 hb;replace HB:=bB hb;clear hb g9 m4))
  have H:=l5.out;clear l5;replace H:=iE H;rcases H with⟨m8,m9,H⟩|⟨m7,m8,m9,H⟩
  ·(first|rw[m8]|(simp only[i64_w,i32_w];rw[m8])|skip)
   obtain⟨⟨n0,n7,n8⟩,n9,H⟩:=bT H;(try dsimp only at H);have o0:=aM H;clear H;go_upto_if 43 with (first|((with_reducible refine gc 102 rfl ?_);refine gC 102 (some 38) Try.func102 #[.slice a9 l2.length c2,.slice l6 f4.length l7] ?_;(with_reducible refine(Czp.calls k _ _ l2 _ _ f4 n0 n7 n8 _ ?_ ?_ ?_ ?_ n9.out).mono ?_);exact cB e6;exact e7.out;exact cR j3;exact lR j3;rintro e o8 ⟨o9,p0,rfl,g9,m4,hb⟩;refine⟨_,rfl,?_⟩;have p4:=rL (rn (rn (rn g9 j3) m5) m6);have p7:=rL (rn (rn (rn m4 j3) m5) m6);replace j3:=rO j3 hb g9 m4;replace m5:=rO m5 hb g9 m4;replace m6:=rO m6 hb g9 m4;replace g4:=kb g4 hb;replace HB:=bB hb;clear hb g9 m4))
   have H:=o0.out;clear o0;replace H:=iE H;rcases H with⟨r5,r6,H⟩|⟨p9,r5,r6,H⟩
   ·(first|rw[r5]|(simp only[i64_w,i32_w];rw[r5])|skip)
    by_cases r7:a6=true
    ·subst r7;rw[if_pos rfl] at H;obtain⟨rfl,rfl,rfl,rfl⟩:=q4 H;obtain⟨r8,r9,rfl⟩:=Kd.R_slice m5.out;obtain⟨t4,t5,rfl⟩:=Kd.R_slice p4.out;obtain⟨t6,t7,t8,t9,y9,z3⟩:=bk3 g4;go_wp2
     refine rC f8 33 #[.bool (decide (0 < j6.length)),.slice r8 j6.length r9,.slice t4 n0.length t5] (kQ g4) Try.underlying33 ?_
     exact⟨_,_,eW,by exact Kd.R_mono (rT m5 g4) (fun _ hk=>hk.1.2),by exact Kd.R_mono (rT p4 g4) (fun _ hk=>hk.1.2),pB⟩
    ·obtain rfl:=bN r7;rw[if_neg nF] at H
     obtain⟨rfl,rfl,rfl,rfl⟩:=q4 H;obtain⟨z4,z5,rfl⟩:=Kd.R_slice p4.out;obtain⟨z6,z7,rfl⟩:=Kd.R_slice m5.out;obtain⟨z8,z9,B0,B5,B9,C0⟩:=bk3 g4;go_wp2
     refine rC f8 33 #[.bool false,.slice z6 j6.length z7,.slice z4 n0.length z5] (kQ g4) Try.underlying33 ?_
     exact⟨_,_,eW,by exact Kd.R_mono (rT m5 g4) (fun _ hk=>hk.1.2),by exact Kd.R_mono (rT p4 g4) (fun _ hk=>hk.1.2),pB⟩
   ·(first|rw[r5]|(simp only[i64_w,i32_w];rw[r5])|skip)
    obtain⟨rfl,rfl,rfl,rfl⟩:=q4 H;obtain⟨C1,C2,C3,C4,C6,C7⟩:=bk3 g4;go_wp2
    refine rC f8 33 #[.bool false,.slice none 0 0,.slice none 0 0] (kQ g4) Try.underlying33 ?_
    exact⟨_,_,eW,nK,nK,pB⟩
  ·(first|rw[m8]|(simp only[i64_w,i32_w];rw[m8])|skip)
   obtain⟨rfl,rfl,rfl,rfl⟩:=q4 H;obtain⟨C8,C9,D2,D3,D4,D5⟩:=bk3 g4;go_wp2
   refine rC f8 33 #[.bool false,.slice none 0 0,.slice none 0 0] (kQ g4) Try.underlying33 ?_
   exact⟨_,_,eW,nK,nK,pB⟩
 ·(first|rw[j4]|(simp only[i64_w,i32_w];rw[j4])|skip)
  obtain⟨rfl,rfl,rfl,rfl⟩:=q4 H;obtain⟨D6,D7,D8,D9,E0,E1⟩:=bk3 g4;go_wp2
  refine rC f8 33 #[.bool false,.slice none 0 0,.slice none 0 0] (kQ g4) Try.underlying33 ?_
  exact⟨_,_,eW,nK,nK,pB⟩

def Gzx.f (a0:Int):Option (Bool):=if a0≥(-1125899906842624) then(some (decide (a0≤1125899906842624))) else(some false)
theorem Gzx.calls (a6:Int) (r:Bool) (w:World) (h:Gzx.f a6=some r) :
  Calls Try.prog 108 #[.int .i64 a6] w fun e w'=>e=.returned (.bool r)∧Drawn0 w w':=by
 have H:(if a6≥(-1125899906842624) then(some (decide (a6≤1125899906842624))) else(some false))=some r:=h
 clear h;by_cases c2:a6≥(-1125899906842624)
 ·rw[if_pos c2] at H;have a7:decide ((-1125899906842624)≤a6)=true:=dE c2;clear c2;obtain rfl:=Option.some.inj H;go_enter Try.func108,Try.ntmps108
  go_wp2
  go_ret
  exact⟨sD,dR⟩
 ·rw[if_neg c2] at H;have a7:decide ((-1125899906842624)≤a6)=false:=decide_eq_false c2;clear c2;obtain rfl:=Option.some.inj H;go_enter Try.func108,Try.ntmps108
  go_wp2
  go_ret
  exact⟨sD,dR⟩

def Fzj.f (k:Nat) (a0:Int):Option (List Int):=(Ezz.f k (mx a0 (wrap64 (-a0)))).bind fun bt237=>(some bt237.1)
theorem Fzj.mono:∀ a6 k,LeO (Fzj.f k a6) (Fzj.f (k+1) a6):=by
 intro a6 k;unfold Fzj.f;have i0:=@Ezz.mono;exact mM
theorem Fzj.calls (k:Nat) (a6:Int) (r:List Int) (w:World) (h:Fzj.f k a6=some r) :
  Calls Try.prog 109 #[.int .i64 a6] w fun e w'=>∃ v0_:Value,e=.returned (v0_)∧rI w' w (fun _=>True) v0_ r∧bw w w':=by
 have HB:=aM (Below.refl w.heap.size w);have H:((Ezz.f k (mx a6 (wrap64 (-a6)))).bind fun a7=>(some a7.1))=some r:=h
 clear h;obtain⟨a8,a9⟩:∃ j_:Int,(mx a6 (wrap64 (-a6)))=j_:=⟨_,rfl⟩;replace H:((Ezz.f k (a8)).bind fun a7=>(some a7.1))=some r:=by first|(rw[a9] at H;exact H)|(simp only[a9] at H ⊢;exact H)
 have b4:(if a6 < (wrap64 (-a6)) then(wrap64 (-a6)) else a6)=a8:=a9
 replace H:=bS H;obtain⟨⟨b5,b6⟩,b7,H⟩:=H;replace H:(some b5)=some r:=H;have b8:=aM b7;clear b7;obtain rfl:=Option.some.inj H;go_enter Try.func109,Try.ntmps109
 go_wp2_with (first|((with_reducible refine gate_callee (f:=95) rfl ?_);refine goesL_ (some 10) rfl rfl Try.func95 (by kernel_rfl) rfl #[.int .i64 a8] rfl (by(try simp only[List.map_toArray,List.map_cons,List.map_nil]);first|done|(simp only[a9];rfl)|rfl|(simp only[List.length_drop,List.length_take];rfl)) ?_;(with_reducible refine(Ezz.calls k a8 b5 b6 _ b8.out).mono ?_);rintro e b9 ⟨d6,rfl,d7,hb⟩;refine⟨_,rfl,?_⟩;have d8:=rL d7;replace HB:=bB hb;clear hb d7))
 go_ret
 exact⟨_,by first|rfl|(simp [errW_none,errW_some] <;> rfl)|(simp only[← a9];first|rfl|(simp [errW_none,errW_some] <;> rfl))|(simp [*,errW_none,errW_some] <;> rfl),rX d8.out,pB⟩


def Ezq.j0:Nat→Int→Int→Bool→Option (Bool × List Int × List Int × Int)
 | 0,_,_,_=>none
 | k+1,x0,x1,x6=>if x6=true then(some (false,([]:List Int),([]:List Int),1)) else(if x1=0 then(some (false,([]:List Int),([]:List Int),16)) else((Fzj.f k x0).bind fun t244=>((Fzj.f k x1).bind fun t247=>((Dzb.f k ((decide (x0 < 0)) != (decide (x1 < 0))) t244 t247).bind fun bt250=>(some (bt250.1,bt250.2.1,bt250.2.2.1,bt250.2.2.2))))))
def Ezq.f (k:Nat) (a0:Int) (a1:Int):Option (Bool × List Int × List Int × Int):=(Gzx.f a0).bind fun t242=>(if t242=true then((Gzx.f a1).bind fun t243=>(Ezq.j0 k a0 a1 (!t243))) else(Ezq.j0 k a0 a1 true))
theorem Ezq.mono_l:∀ k,(∀ a6 a7 a8,LeO (Ezq.j0 k a6 a7 a8) (Ezq.j0 (k+1) a6 a7 a8))
 | 0=>fun _ _ _ r h=>by simp [Ezq.j0] at h
 | k+1=>by
  have ih0:=Ezq.mono_l k
  ·intro a6 a7 a8;unfold Ezq.j0;have i0:=@Fzj.mono;have i1:=@Dzb.mono;exact mM
theorem Ezq.mono:∀ a6 a7 k,LeO (Ezq.f k a6 a7) (Ezq.f (k+1) a6 a7):=by
 intro a6 a7 k;have ih0:=Ezq.mono_l k;unfold Ezq.f;have i0:=@Fzj.mono;have i1:=@Dzb.mono;exact mM
theorem Ezq.calls (k:Nat) (a6:Int) (a7:Int) (a8:Bool) (a9:List Int) (b4:List Int) (b5:Int) (w:World) (h:Ezq.f k a6 a7=some (a8,a9,b4,b5)) :
  Calls Try.prog 87 #[.int .i64 a6,.int .i64 a7] w fun e w'=>∃ v1_ v2_:Value,e=.returned (.tuple #[.agg #[.bool a8,v1_,v2_],.int .i64 b5])∧rI w' w (oV v2_) v1_ a9∧rI w' w (oV v1_) v2_ b4∧bw w w':=by
 have hu33:=Try.underlying33;have HB:=aM (Below.refl w.heap.size w);have H:((Gzx.f a6).bind fun b6=>(if b6=true then((Gzx.f a7).bind fun b7=>(Ezq.j0 k a6 a7 (!b7))) else(Ezq.j0 k a6 a7 true)))=some (a8,a9,b4,b5):=h
 clear h;have b8:=aM H;clear H;go_enter Try.func87,Try.ntmps87
 go_upto_region 1 with (first|((with_reducible refine gd 4 rfl ?_);refine bz 33 ?_;intro b9 hg d6 d7 hb;have d8:=gA w hg;replace HB:=bB hb;clear hb hg))
 (try simp only[Act.put,sA,sZ,sC])
 go_cut [6] (fun e6 wc=>∃ (kq:Nat) (e7:Bool),e6=.bool e7∧Aside0 (Ezq.j0 kq a6 a7 e7=some (a8,a9,b4,b5))∧Aside0 (kq≤k)∧Aside0 (wc.heap[b9]?=some (.cells #[.bool false,(.slice none 0 0),(.slice none 0 0)] 33 (0,0)))∧Aside0 (bw w wc))
 case first =>
  have H:=b8.out;clear b8;obtain⟨b6,e8,H⟩:=bT H;(try dsimp only at H);by_cases c6:b6=true
  ·subst c6;rw[if_pos rfl] at H;obtain⟨b7,e9,H⟩:=bT H;(try dsimp only at H);have H':=aM H;clear H;go_wp2_with (first|((with_reducible refine gc 108 rfl ?_);refine gC 108 (some 8) Try.func108 #[.int .i64 a6] ?_;(with_reducible refine(Gzx.calls a6 true _ e8.out).mono ?_);rintro e w' ⟨rfl,⟨nd,rfl⟩⟩;refine⟨_,rfl,?_⟩)|(go_at_call 108;(with_reducible refine(Gzx.calls a7 b7 _ e9.out).mono ?_);rintro e w' ⟨rfl,⟨nd,rfl⟩⟩))
   go_meet
   case rel=>exact⟨_,(!b7),sD,H',⟨by first|omega|exact Nat.le_refl _⟩,⟨by exact kW d7⟩,⟨pB⟩⟩
  ·obtain rfl:=bN c6;rw[if_neg nF] at H
   have H':=aM H;clear H;go_wp2_with (first|((with_reducible refine gc 108 rfl ?_);refine gC 108 (some 8) Try.func108 #[.int .i64 a6] ?_;(with_reducible refine(Gzx.calls a6 false _ e8.out).mono ?_);rintro e w' ⟨rfl,⟨nd,rfl⟩⟩;refine⟨_,rfl,?_⟩))
   go_meet
   case rel=>exact⟨_,(true),sD,H',⟨by first|omega|exact Nat.le_refl _⟩,⟨by exact kW d7⟩,⟨pB⟩⟩
 case rest =>
  clear b8;try clear f3
  obtain⟨kq,e7,rfl,HA,f4,d7,HB⟩:=hcut;cases kq with
  | zero=>exact absurd HA.out (by simp [Ezq.j0])
  | succ f5 =>
   have H:=HA.out;clear HA;simp only[Ezq.j0] at H;by_cases c8:e7=true
   ·subst c8;rw[if_pos rfl] at H;obtain⟨rfl,rfl,rfl,rfl⟩:=q4 H;obtain⟨f6,f7,f8,f9,g4,g5⟩:=bk3 d7;go_wp2
    refine rC b9 33 #[.bool false,.slice none 0 0,.slice none 0 0] (kQ d7) Try.underlying33 ?_
    exact⟨_,_,eW,nK,nK,pB⟩
   ·obtain rfl:=bN c8;rw[if_neg nF] at H
    replace H:=iE H;rcases H with⟨g6,g7,H⟩|⟨c10,g6,g7,H⟩
    ·obtain⟨rfl,rfl,rfl,rfl⟩:=q4 H;obtain⟨g8,g9,j3,j4,j5,j6⟩:=bk3 d7;go_wp2
     refine rC b9 33 #[.bool false,.slice none 0 0,.slice none 0 0] (kQ d7) Try.underlying33 ?_
     exact⟨_,_,eW,nK,nK,pB⟩
    ·obtain⟨j7,j8,H⟩:=bT H;(try dsimp only at H);obtain⟨j9,l5,H⟩:=bT H;(try dsimp only at H);replace H:=bS H;obtain⟨⟨l6,l7,l8,l9⟩,m0,H⟩:=H;replace H:(some (l6,l7,l8,l9))=some (a8,a9,b4,b5):=H;have m4:=aM m0;clear m0;obtain⟨rfl,rfl,rfl,rfl⟩:=q4 H;go_wp2_with (first|((with_reducible refine gc 109 rfl ?_);refine gC 109 (some 26) Try.func109 #[.int .i64 a6] ?_;(with_reducible refine(Fzj.calls f5 a6 j7 _ j8.out).mono ?_);rintro e m5 ⟨m6,rfl,m7,hb⟩;refine⟨_,rfl,?_⟩;have m8:=rL m7;replace d7:=kb d7 hb;replace HB:=bB hb;clear hb m7)|((with_reducible refine gc 109 rfl ?_);refine gC 109 (some 28) Try.func109 #[.int .i64 a7] ?_;(with_reducible refine(Fzj.calls f5 a7 j9 _ l5.out).mono ?_);rintro e m9 ⟨n0,rfl,m7,hb⟩;refine⟨_,rfl,?_⟩;have n7:=rL (rn m7 m8);replace m8:=rE m8 m7 hb;replace d7:=kb d7 hb;replace HB:=bB hb;clear hb m7;obtain⟨n8,n9,rfl⟩:=Kd.R_slice m8.out;obtain⟨o0,o8,rfl⟩:=Kd.R_slice n7.out)|((with_reducible refine gc 79 rfl ?_);refine gC 79 (some 29) Try.func79 #[.bool ((decide (a6 < 0)) != (decide (a7 < 0))),.slice n8 j7.length n9,.slice o0 j9.length o8] ?_;(with_reducible refine(Dzb.calls f5 ((decide (a6 < 0)) != (decide (a7 < 0))) _ _ j7 _ _ j9 l6 l7 l8 l9 _ ?_ ?_ ?_ ?_ m4.out).mono ?_);exact cR m8;exact lR m8;exact cR n7;exact lR n7;rintro e o9 ⟨p0,p4,rfl,m7,p7,hb⟩;refine⟨_,rfl,?_⟩;have p9:=rL (rn (rn m7 m8) n7);have r5:=rL (rn (rn p7 m8) n7);replace m8:=rO m8 hb m7 p7;replace n7:=rO n7 hb m7 p7;replace d7:=kb d7 hb;replace HB:=bB hb;clear hb m7 p7;obtain⟨r6,r7,r8,r9,t4,t5⟩:=bk3 d7;obtain⟨t6,t7,rfl⟩:=Kd.R_slice p9.out;obtain⟨t8,t9,rfl⟩:=Kd.R_slice r5.out))
     refine rC b9 33 #[.bool l6,.slice t6 l7.length t7,.slice t8 l8.length t9] (kQ d7) Try.underlying33 ?_
     exact⟨_,_,eW,by exact Kd.R_mono (rT p9 d7) (fun _ hk=>hk.1.1),by exact Kd.R_mono (rT r5 d7) (fun _ hk=>hk.1.1),pB⟩

def Gzk.f (k:Nat) (a0:Int):Option (Bool × List Int × List Int × Int):=(Ezq.f k a0 1).bind fun bt259=>(some (bt259.1,bt259.2.1,bt259.2.2.1,bt259.2.2.2))
theorem Gzk.mono:∀ a6 k,LeO (Gzk.f k a6) (Gzk.f (k+1) a6):=by
 intro a6 k;unfold Gzk.f;have i0:=@Ezq.mono;exact mM
theorem Gzk.calls (k:Nat) (a6:Int) (a7:Bool) (a8:List Int) (a9:List Int) (b4:Int) (w:World) (h:Gzk.f k a6=some (a7,a8,a9,b4)) :
  Calls Try.prog 61 #[.int .i64 a6] w fun e w'=>∃ v1_ v2_:Value,e=.returned (.tuple #[.agg #[.bool a7,v1_,v2_],.int .i64 b4])∧rI w' w (oV v2_) v1_ a8∧rI w' w (oV v1_) v2_ a9∧bw w w':=by
 have hu33:=Try.underlying33;have HB:=aM (Below.refl w.heap.size w);have H:((Ezq.f k a6 1).bind fun b5=>(some (b5.1,b5.2.1,b5.2.2.1,b5.2.2.2)))=some (a7,a8,a9,b4):=h
 clear h;replace H:=bS H;obtain⟨⟨b6,b7,b8,b9⟩,d6,H⟩:=H;replace H:(some (b6,b7,b8,b9))=some (a7,a8,a9,b4):=H;have d7:=aM d6;clear d6;obtain⟨rfl,rfl,rfl,rfl⟩:=q4 H;go_enter Try.func61,Try.ntmps61
 go_wp2_with (first|((with_reducible refine gd 2 rfl ?_);refine bz 33 ?_;intro d8 hg d9 e6 hb;have e7:=gA w hg;replace HB:=bB hb;clear hb hg)|((with_reducible refine gc 87 rfl ?_);refine gC 87 (some 5) Try.func87 #[.int .i64 a6,.int .i64 1] ?_;(with_reducible refine(Ezq.calls k a6 1 b6 b7 b8 b9 _ d7.out).mono ?_);rintro e e9 ⟨f3,f4,rfl,f5,f6,hb⟩;refine⟨_,rfl,?_⟩;have f7:=rL f5;have f8:=rL f6;replace e6:=kb e6 hb;replace HB:=bB hb;clear hb f5 f6;obtain⟨f9,g4,g5,g6,g7,g8⟩:=bk3 e6;obtain⟨g9,j3,rfl⟩:=Kd.R_slice f7.out;obtain⟨j4,j5,rfl⟩:=Kd.R_slice f8.out))
 refine rC d8 33 #[.bool b6,.slice g9 b7.length j3,.slice j4 b8.length j5] (kQ e6) Try.underlying33 ?_
 exact⟨_,_,eW,by exact Kd.R_mono (rT f7 e6) (fun _ hk=>hk),by exact Kd.R_mono (rT f8 e6) (fun _ hk=>hk),pB⟩

def Czf.f (k:Nat) (a0:Int):Option (Bool × List Int × List Int):=(Gzk.f k a0).bind fun bt268=>(some (bt268.1,bt268.2.1,bt268.2.2.1))
theorem Czf.mono:∀ a6 k,LeO (Czf.f k a6) (Czf.f (k+1) a6):=by
 intro a6 k;unfold Czf.f;have i0:=@Gzk.mono;exact mM
theorem Czf.calls (k:Nat) (a6:Int) (a7:Bool) (a8:List Int) (a9:List Int) (w:World) (h:Czf.f k a6=some (a7,a8,a9)) :
  Calls Try.prog 34 #[.int .i64 a6] w fun e w'=>∃ v1_ v2_:Value,e=.returned (.agg #[.bool a7,v1_,v2_])∧rI w' w (oV v2_) v1_ a8∧rI w' w (oV v1_) v2_ a9∧bw w w':=by
 have hu33:=Try.underlying33;have HB:=aM (Below.refl w.heap.size w);have H:((Gzk.f k a6).bind fun b4=>(some (b4.1,b4.2.1,b4.2.2.1)))=some (a7,a8,a9):=h
 clear h;replace H:=bS H;obtain⟨⟨b5,b6,b7,b8⟩,b9,H⟩:=H;replace H:(some (b5,b6,b7))=some (a7,a8,a9):=H;have d6:=aM b9;clear b9;obtain⟨rfl,rfl,rfl⟩:=q3 H;go_enter Try.func34,Try.ntmps34
 go_wp2_with (first|((with_reducible refine gd 2 rfl ?_);refine bz 33 ?_;intro d7 hg d8 d9 hb;have e6:=gA w hg;replace HB:=bB hb;clear hb hg)|((with_reducible refine gc 61 rfl ?_);refine gC 61 (some 7) Try.func61 #[.int .i64 a6] ?_;(with_reducible refine(Gzk.calls k a6 b5 b6 b7 b8 _ d6.out).mono ?_);rintro e e8 ⟨e9,f3,rfl,f4,f5,hb⟩;refine⟨_,rfl,?_⟩;have f6:=rL f4;have f7:=rL f5;replace d9:=kb d9 hb;replace HB:=bB hb;clear hb f4 f5)|((with_reducible refine gd 3 rfl ?_);refine bz 33 ?_;intro f8 hg f9 g4 hb;have g5:=gA w hg;have g7:=nl hg d9;have g8:=ng hg d9;replace f6:=rB f6 hb;replace f7:=rB f7 hb;replace d9:=kb d9 hb;replace HB:=bB hb;clear hb hg;have g9:=g8.out;have j3:=g7.out;obtain⟨j4,j5,j6,j7,j8,j9⟩:=bk3 g4;obtain⟨l5,l6,rfl⟩:=Kd.R_slice f6.out;obtain⟨l7,l8,rfl⟩:=Kd.R_slice f7.out;obtain⟨l9,m0,m4,m5,m6,m7⟩:=bk3 d9))
 refine bodyPost_ret (results_cell_row rfl _ _ d7 33 #[.bool b5,.slice l5 b6.length l6,.slice l7 b7.length l8] (0,0) _ rfl (by refine bD ?_;refine blk_put (cs:=#[.bool b5,.slice l5 b6.length l6,.slice none 0 0]) ?_ 2 _ rfl;refine bD ?_;refine blk_put (cs:=#[.bool b5,.slice none 0 0,.slice none 0 0]) ?_ 1 _ rfl;refine bD ?_;refine blk_put (cs:=#[.bool false,.slice none 0 0,.slice none 0 0]) ?_ 0 _ rfl;refine bD ?_;refine blk_far ?_ g7.out _;refine bD ?_;refine blk_far ?_ g7.out _;refine bD ?_;refine blk_far ?_ g7.out _;(with_reducible repeat(first|refine blk_drewN ?_ _|refine blk_drew ?_|refine blk_alloc ?_ _));exact d9.out) Try.underlying33 rfl (by kernel_rfl)) rfl ?_
 exact⟨_,_,eW,by exact rX (Kd.R_mono (Kd.R_far (p:=⟨d7,2,none⟩) (Kd.R_far (p:=⟨d7,1,none⟩) (Kd.R_far (p:=⟨d7,0,none⟩) (Kd.R_far (p:=⟨f8,2,none⟩) (Kd.R_far (p:=⟨f8,1,none⟩) (Kd.R_far (p:=⟨f8,0,none⟩) (Kd.R_types (Kd.R_types f6.out g4.out (by decide)) d9.out (by decide)) (fun _ hk=>hk.1.2) (.bool b5)) (fun _ hk=>hk.1.2) (.slice l5 b6.length l6)) (fun _ hk=>hk.1.2) (.slice l7 b7.length l8)) (fun _ hk=>hk.2) (.bool b5)) (fun _ hk=>hk.2) (.slice l5 b6.length l6)) (fun _ hk=>hk.2) (.slice l7 b7.length l8)) (fun _ hk=>hk.1.1)),by exact rX (Kd.R_mono (Kd.R_far (p:=⟨d7,2,none⟩) (Kd.R_far (p:=⟨d7,1,none⟩) (Kd.R_far (p:=⟨d7,0,none⟩) (Kd.R_far (p:=⟨f8,2,none⟩) (Kd.R_far (p:=⟨f8,1,none⟩) (Kd.R_far (p:=⟨f8,0,none⟩) (Kd.R_types (Kd.R_types f7.out g4.out (by decide)) d9.out (by decide)) (fun _ hk=>hk.1.2) (.bool b5)) (fun _ hk=>hk.1.2) (.slice l5 b6.length l6)) (fun _ hk=>hk.1.2) (.slice l7 b7.length l8)) (fun _ hk=>hk.2) (.bool b5)) (fun _ hk=>hk.2) (.slice l5 b6.length l6)) (fun _ hk=>hk.2) (.slice l7 b7.length l8)) (fun _ hk=>hk.1.1)),pB⟩


mutual
def Czj.j0:Nat→Int→Int→Bool→Option (Int × (List (S33)) × Int)
 | 0,_,_,_=>none
 | k+1,x0,x1,x12=>if x12=true then(some (0,([]:List (S33)),17)) else(if x1 < 1 then(Czj.j1 k x0 x1 true) else(Czj.j1 k x0 x1 (decide (x1 > 1099511627776))))
def Czj.j1:Nat→Int→Int→Bool→Option (Int × (List (S33)) × Int)
 | 0,_,_,_=>none
 | k+1,x0,x1,x19=>if x19=true then(some (0,([]:List (S33)),1)) else(Czj.l0 k x0 0 x1 ([]:List (S33)))
def Czj.l0:Nat→Int→Int→Int→List (S33)→Option (Int × (List (S33)) × Int)
 | 0,_,_,_,_=>none
 | k+1,x23,x24,x279000,x279001=>if x24 < x23 then((Czf.f k 0).bind fun bt279=>(if x279001.length < 2513169434916 then(Czj.l0 k x23 (wrap64 (x24+1)) x279000 (x279001 ++ [(⟨bt279.1,bt279.2.1,bt279.2.2⟩:S33)])) else(none))) else(some (x279000,x279001,0))
end
def Czj.f (k:Nat) (a0:Int) (a1:Int):Option (Int × (List (S33)) × Int):=if a0 < 1 then(Czj.j0 k a0 a1 true) else(Czj.j0 k a0 a1 (decide (a0 > 8)))
theorem Czj.mono_l:∀ k,(∀ a6 a7 a8,LeO (Czj.j0 k a6 a7 a8) (Czj.j0 (k+1) a6 a7 a8))∧(∀ a6 a7 a8,LeO (Czj.j1 k a6 a7 a8) (Czj.j1 (k+1) a6 a7 a8))∧(∀ a6 a7 a8 a9,LeO (Czj.l0 k a6 a7 a8 a9) (Czj.l0 (k+1) a6 a7 a8 a9))
 | 0=>⟨fun _ _ _ r h=>by simp [Czj.j0] at h,fun _ _ _ r h=>by simp [Czj.j1] at h,fun _ _ _ _ r h=>by simp [Czj.l0] at h⟩
 | k+1=>by
  obtain⟨ih0,ih1,ih2⟩:=Czj.mono_l k;have i0:=@Czf.mono;refine⟨?_,?_,?_⟩
  ·intro a6 a7 a8;unfold Czj.j0;exact mM
  ·intro a6 a7 a8;unfold Czj.j1;exact mM
  ·intro a6 a7 a8 a9;unfold Czj.l0;exact mM
theorem Czj.mono:∀ a6 a7 k,LeO (Czj.f k a6 a7) (Czj.f (k+1) a6 a7):=by
 intro a6 a7 k;obtain⟨ih0,ih1,ih2⟩:=Czj.mono_l k;unfold Czj.f;have i0:=@Czf.mono;exact mM
theorem Czj.calls (k:Nat) (a6:Int) (a7:Int) (a8:Int) (a9:List (S33)) (b4:Int) (w:World) (h:Czj.f k a6 a7=some (a8,a9,b4)) :
  Calls Try.prog 12 #[.int .i64 a6,.int .i64 a7] w fun e w'=>∃ v1_:Value,e=.returned (.tuple #[.agg #[.int .i64 a8,v1_],.int .i64 b4])∧Kd.S k33 33 w' w.heap.size (fun _=>True) v1_ a9∧bw w w':=by
 have hu24:=Try.underlying24;have HB:=aM (Below.refl w.heap.size w);have H:(if a6 < 1 then(Czj.j0 k a6 a7 true) else(Czj.j0 k a6 a7 (decide (a6 > 8))))=some (a8,a9,b4):=h
 clear h;have b5:=aM H;clear H;go_enter Try.func12,Try.ntmps12
 go_upto_region 1 with (first|((with_reducible refine gd 4 rfl ?_);refine bx #[.int .i64 0,.slice none 0 0] 24 ?_;intro b6 hg b7 b8 hb;have b9:=gA w hg;replace HB:=bB hb;clear hb hg))
 (try simp only[Act.put,sA,sZ,sC])
 go_cut [12] (fun d7 wc=>∃ (kq:Nat) (d8:Bool),d7=.bool d8∧Aside0 (Czj.j0 kq a6 a7 d8=some (a8,a9,b4))∧Aside0 (kq≤k)∧Aside0 (wc.heap[b6]?=some (.cells #[.int .i64 0,(.slice none 0 0)] 24 (0,0)))∧Aside0 (bw w wc))
 case first =>
  have H:=b5.out;clear b5;replace H:=iD H;rcases H with⟨d9,H⟩|⟨d9,H⟩
  ·(first|rw[d9]|(simp only[i64_w,i32_w];rw[d9])|skip)
   have H':=aM H;clear H;go_wp2
   go_meet
   case rel=>exact⟨_,(true),sD,H',⟨by first|omega|exact Nat.le_refl _⟩,⟨by exact kW b8⟩,⟨pB⟩⟩
  ·(first|rw[d9]|(simp only[i64_w,i32_w];rw[d9])|skip)
   have H':=aM H;clear H;go_wp2
   go_meet
   case rel=>exact⟨_,(decide (a6 > 8)),sD,H',⟨by first|omega|exact Nat.le_refl _⟩,⟨by exact kW b8⟩,⟨pB⟩⟩
 case rest =>
  clear b5;try clear e6
  obtain⟨kq,d8,rfl,HA,e7,b8,HB⟩:=hcut;cases kq with
  | zero=>exact absurd HA.out (by simp [Czj.j0])
  | succ e8 =>
   have H:=HA.out;clear HA;simp only[Czj.j0] at H;by_cases c6:d8=true
   ·subst c6;rw[if_pos rfl] at H;obtain⟨rfl,rfl,rfl⟩:=q3 H;obtain⟨e9,f3,f4,f5⟩:=bk2 b8;go_wp2
    refine rC b6 24 #[.int .i64 0,.slice none 0 0] (kQ b8) Try.underlying24 ?_
    exact⟨_,eW,by first|exact Kd.S_nil _ _ _ _ _|exact Kd.N_nil _ _ _ _ _|exact Kd.V_nil _ _ _ _ _|exact Kd.Q_nil _ _ _ _ _|exact Kd.R_nil _ _ _ _ _,pB⟩
   ·obtain rfl:=bN c6;rw[if_neg nF] at H
    have f6:=aM H;clear H;go_upto_region 3 with (fail)
    go_cut [19] (fun f7 wc=>∃ (kq:Nat) (f8:Bool),f7=.bool f8∧Aside0 (Czj.j1 kq a6 a7 f8=some (a8,a9,b4))∧Aside0 (kq≤e8)∧Aside0 (wc.heap[b6]?=some (.cells #[.int .i64 0,(.slice none 0 0)] 24 (0,0)))∧Aside0 (bw w wc))
    case first =>
     have H:=f6.out;clear f6;replace H:=iD H;rcases H with⟨f9,H⟩|⟨f9,H⟩
     ·(first|rw[f9]|(simp only[i64_w,i32_w];rw[f9])|skip)
      have H':=aM H;clear H;go_wp2
      go_meet
      case rel=>exact⟨_,(true),sD,H',⟨by have:=e7.out;first|omega|exact Nat.le_refl _⟩,⟨by exact kW b8⟩,⟨pB⟩⟩
     ·(first|rw[f9]|(simp only[i64_w,i32_w];rw[f9])|skip)
      have H':=aM H;clear H;go_wp2
      go_meet
      case rel=>exact⟨_,(decide (a7 > 1099511627776)),sD,H',⟨by have:=e7.out;first|omega|exact Nat.le_refl _⟩,⟨by exact kW b8⟩,⟨pB⟩⟩
    case rest =>
     clear f6;try clear e6
     obtain⟨kq,f8,rfl,HA,g4,b8,HB⟩:=hcut;cases kq with
     | zero=>exact absurd HA.out (by simp [Czj.j1])
     | succ g5 =>
      have H:=HA.out;clear HA;simp only[Czj.j1] at H;by_cases c10:f8=true
      ·subst c10;rw[if_pos rfl] at H;obtain⟨rfl,rfl,rfl⟩:=q3 H;obtain⟨g6,g7,g8,g9⟩:=bk2 b8;go_wp2
       refine rC b6 24 #[.int .i64 0,.slice none 0 0] (kQ b8) Try.underlying24 ?_
       exact⟨_,eW,by first|exact Kd.S_nil _ _ _ _ _|exact Kd.N_nil _ _ _ _ _|exact Kd.V_nil _ _ _ _ _|exact Kd.Q_nil _ _ _ _ _|exact Kd.R_nil _ _ _ _ _,pB⟩
      ·obtain rfl:=bN c10;rw[if_neg nF] at H
       have H':=aM H;clear H;go_wp2_with (first|((with_reducible refine gd 6 rfl ?_);refine bx #[.int .i64 0,.slice none 0 0] 24 ?_;intro j3 hg j4 j5 hb;have j6:=gA w hg;have j8:=nl hg b8;have j9:=ng hg b8;replace b8:=kb b8 hb;replace HB:=bB hb;clear hb hg;have l5:=j9.out;have l6:=j8.out;obtain⟨l7,l8,l9,m0⟩:=bk2 j5))
       go_loopg [24] g5 (fun kq m4 w'=>∃ (m5:Int) (m6:List (S33)) (u279001:Value),m4=.int .i64 m5∧Aside0 (Czj.l0 kq a6 m5 a7 m6=some (a8,a9,b4))∧Aside0 (kq≤g5)∧Aside0 (Kd.S k33 33 w' w.heap.size (fun _=>True) u279001 m6)∧Aside0 (w'.heap[b6]?=some (.cells #[.int .i64 0,(.slice none 0 0)] 24 (0,0)))∧Aside0 (w'.heap[j3]?=some (.cells #[.int .i64 a7,u279001] 24 (0,0)))∧Aside0 (bw w w'))
       case atStart=>exact⟨(0),(([]:List (S33))),(.slice none 0 0),sD,H',⟨Nat.le_refl _⟩,⟨by first|exact Kd.S_nil _ _ _ _ _|exact Kd.N_nil _ _ _ _ _|exact Kd.V_nil _ _ _ _ _|exact Kd.Q_nil _ _ _ _ _|exact Kd.R_nil _ _ _ _ _⟩,⟨by exact kf b8 j8⟩,⟨by exact kQ j5⟩,⟨pB⟩⟩
       case round =>
        clear H';try clear e6
        obtain⟨m5,m6,u279001,rfl,HA,m7,m8,b8,j5,HB⟩:=hrel;cases gk with
        | zero=>exact absurd HA.out (by simp [Czj.l0])
        | succ k3 =>
         have H:=HA.out;clear HA;simp only[Czj.l0] at H;replace H:=iD H;rcases H with⟨n0,H⟩|⟨n0,H⟩
         ·obtain⟨⟨n7,n8,n9⟩,o0,H⟩:=bT H;(try dsimp only at H);obtain⟨o8,H⟩:=iO H;have LMc17:=aM o8;clear o8;obtain⟨o9,p0⟩:∃ y_:List (S33),y_=(m6 ++ [(⟨n7,n8,n9⟩:S33)]):=⟨_,rfl⟩;replace H:(Czj.l0 k3 a6 (wrap64 (m5+1)) a7 o9)=some (a8,a9,b4):=yE p0 H
          have p4:=aM p0;clear p0;have H':=aM H;clear H;try go_wp2
          have n0_:=aM (Kd.S_drew m8.out);have n1_:=aM (blk_drew b8.out);have n2_:=aM (blk_drew j5.out);have n3_:=aM (below_drew1 HB.out);clear m8 b8 j5 HB;have m8:=n0_;have b8:=n1_;have j5:=n2_;have HB:=n3_;clear n0_ n1_ n2_ n3_;refine start_ (n:=7) (S:=fun w'=>w'.cell? ⟨j3,0,none⟩=some (.int .i64 a7)∧w'.cell? ⟨j3,1,none⟩=some (u279001)) (ds:=[6]) (bA 7 0) (by kernel_rfl) rfl rfl ⟨(blk_cell j5.out 0).trans rfl,(blk_cell j5.out 1).trans rfl⟩ (fun hHeld=>?_)
          generalize wr.drew=p7 at m8 b8 j5 HB hHeld ⊢;refine pV 0 26 (bA 7 1) ?_;refine tV 1 27 (bA 7 3) hHeld ?_;refine one_ (i:=2) (N:=some 28) (bA 7 7) rfl rfl (by kernel_rfl) (by decide) (fun K hK=>?_)
          refine goes_ Try.func34 (by kernel_rfl) rfl #[.int .i64 0] (by rfl) rfl rfl mA ?_
          with_reducible refine(Czf.calls k3 0 n7 n8 n9 _ o0.out).mono ?_
          rintro e r6 ⟨r7,r8,rfl,r9,t4,hb⟩;refine⟨_,rfl,?_⟩;have n0_:=sO m8 hb r9 t4
          have n1_:=rL r9;have n2_:=rL t4;have n3_:=kb b8 hb;have n4_:=kb j5 hb;have n5_:=bB hb;clear m8 b8 j5 HB;have m8:=n0_;have t5:=n1_;have t6:=n2_;have b8:=n3_;have j5:=n4_;have HB:=n5_;clear n0_ n1_ n2_ n3_ n4_ n5_;(try clear hb)
          (try clear t7)
          (try clear hk)
          (try clear hi)
          (try clear r9)
          (try clear t4)
          obtain⟨t8,t9,y9⟩:=Kd.R_slice t5.out;(first|subst y9|(injection y9 with f1_ f2_ f3_;have f4_:=f1_.symm;have f5_:=f3_.symm;clear f1_ f2_ f3_;subst f4_;subst f5_))
          obtain⟨z3,z4,z5⟩:=Kd.R_slice t6.out;(first|subst z5|(injection z5 with f1_ f2_ f3_;have f4_:=f1_.symm;have f5_:=f3_.symm;clear f1_ f2_ f3_;subst f4_;subst f5_))
          refine hK.out _ _ ⟨(blk_cell j5.out 0).trans rfl,(blk_cell j5.out 1).trans rfl⟩ (fun hHeld=>?_)
          clear hK K;refine nm 28 ?_;refine one_ (i:=3) (N:=some 29) (bA 7 15) rfl rfl (by kernel_rfl) (by decide) (fun K hK=>?_)
          refine value_ (w1:=?_) (v:=?_) (by rfl) rfl ?_ ?_
          rotate_left 2
          ·go_simp
           constructor
           ·rfl
           ·rfl
          refine hK.out _ _ ⟨(blk_cell (blk_alloc j5.out _) 0).trans rfl,(blk_cell (blk_alloc j5.out _) 1).trans rfl⟩ (fun hHeld=>?_)
          clear hK K;refine nm 29 ?_;refine one_ (i:=4) (N:=some 30) (bA 7 31) rfl rfl (by kernel_rfl) (by decide) (fun K hK=>?_)
          refine Kd.S_append_step k33 (w0:=w) w.heap.size (by rfl) (.tmp 27) (.tmp 29) 22 33 (.agg #[(.bool false),(.slice none 0 0),(.slice none 0 0)]) 56 rfl Try.underlying22 info33 rfl (by decide) (by omega) u279001 m6 (⟨n7,n8,n9⟩:S33) [.bool n7,.slice t8 n8.length t9,.slice z3 n9.length z4] (fun _=>True) (fun k_=>some k_=(.slice t8 n8.length t9:Value).ownBlock∨some k_=(.slice z3 n9.length z4:Value).ownBlock) rfl rfl ?aP (fun k_ hk_=>hk_.elim (fun h_=>((Kd.R_mono (ok':=fun k_=>((fun _=>True)) k_∧oV u279001 k_) (Kd.R_apart' (t5.out) (Kd.S_typed m8.out) (by decide)) (fun k_ hk=>⟨trivial,hk.2⟩))).1 k_ h_.symm) (fun h_=>((Kd.R_mono (ok':=fun k_=>((fun _=>True)) k_∧oV u279001 k_) (Kd.R_apart' (t6.out) (Kd.S_typed m8.out) (by decide)) (fun k_ hk=>⟨trivial,hk.2⟩))).1 k_ h_.symm)) ?aF ?aO ?aB ?aS ?aL ?_
          (case aP=>exact k33_mkM _ _ _ (⟨n7,n8,n9⟩:S33) (Kd.R_mono (Kd.R_tight rfl (Kd.R_mono (ok':=fun k_=>((fun _=>True)) k_∧oV u279001 k_) (Kd.R_apart' (t5.out) (Kd.S_typed m8.out) (by decide)) (fun k_ hk=>⟨trivial,hk.2⟩))) (fun _ h_=>Or.inl h_)) (Kd.R_mono (Kd.R_tight rfl (Kd.R_mono (ok':=fun k_=>((fun _=>True)) k_∧oV u279001 k_) (Kd.R_apart' (t6.out) (Kd.S_typed m8.out) (by decide)) (fun k_ hk=>⟨trivial,hk.2⟩))) (fun _ h_=>Or.inr (h_))))
          (case aB=>exact pB)
          (case aF=>exact(fun _ _=>trivial))
          (case aO=>exact(by exact sX (Kd.S_mono m8.out (fun k_ hk=>⟨trivial,fun e_=>e_.elim (fun h_=>hk.1.2 h_) (fun h_=>hk.2 h_)⟩))))
          (case aS=>exact(below_size pB))
          (case aL=>have:=LMc17.out;omega)
          intro z6 z7 ho hb hg hat;rw[← p4.out] at ho;have n0_:=aM (blk_grown (g:=b6) (o:=.cells #[.int .i64 0,.slice none 0 0] 24 (0,0)) (kW b8) hg (Kd.S_ne m8.out b8.out (by decide)))
          have n1_:=aM (blk_grown (g:=j3) (o:=.cells #[.int .i64 a7,u279001] 24 (0,0)) (kW j5) hg (Kd.S_ne m8.out j5.out (by decide)))
          have n2_:=aM (hb);have n3_:=aM (ho);clear b8 j5 HB m8 t5 t6;have b8:=n0_;have j5:=n1_;have HB:=n2_;have z8:=n3_;clear n0_ n1_ n2_ n3_ ho hb hg hat;obtain⟨z9,B0,B5⟩:=Kd.S_slice z8.out;(first|subst B5|(injection B5 with f1_ f2_ f3_;have f4_:=f1_.symm;have f5_:=f3_.symm;clear f1_ f2_ f3_;subst f4_;subst f5_))
          refine hK.out _ _ ⟨(blk_cell j5.out 0).trans rfl,(blk_cell j5.out 1).trans rfl⟩ (fun hHeld=>?_)
          clear hK K;refine nm 30 ?_;refine pV 5 31 (bA 7 63) ?_;refine last_ (i:=6) (N:=none) (bA 7 127) rfl rfl (by kernel_rfl) (by decide) (fun K hK=>?_)
          have B9:z7.cell? ⟨j3,1,none⟩=some (u279001):=(blk_cell j5.out 1).trans rfl;have hfs24:=blk_frozen j5.out 1;have hns24_0:=j8.out;have hms24_0:=j9.out;refine skip_ (w1:=?_) (by rfl) rfl ?_ ?_
          rotate_left
          ·go_simp
           rfl
          refine hK.out _ _ ?_;clear hK K;refine done_ (by kernel_rfl) ?_
          try go_wp2
          go_roundg k3
          case measure=>have:=e7.out;have:=g4.out;have:=m7.out;omega
          case rel=>exact⟨(wrap64 (m5+1)),(o9),(.slice z9 o9.length B0),sD,H',⟨by have:=e7.out;have:=g4.out;have:=m7.out;omega⟩,⟨by exact sX (Kd.S_mono (Kd.S_far (p:=⟨j3,1,none⟩) (Kd.S_types z8.out j5.out (by decide)) (fun _ hk=>hk.2) (.slice z9 o9.length B0)) (fun _ hk=>trivial))⟩,⟨by exact kf b8 j8⟩,⟨by exact kQ j5⟩,⟨pB⟩⟩
         ·obtain⟨rfl,rfl,rfl⟩:=q3 H;have C0:=j9.out;have C1:=j8.out;obtain⟨C2,C3,C4,C6⟩:=bk2 j5;obtain⟨C7,C8,C9,D2⟩:=bk2 b8;obtain⟨D3,D4,rfl⟩:=Kd.S_slice m8.out;go_wp2
          refine rC b6 24 #[.int .i64 a7,.slice D3 m6.length D4] (kQ b8) Try.underlying24 ?_
          exact⟨_,eW,by exact sX (Kd.S_mono (Kd.S_far (p:=⟨b6,1,none⟩) (Kd.S_far (p:=⟨b6,0,none⟩) (Kd.S_types m8.out b8.out (by decide)) (fun _ hk=>hk.2) (.int .i64 a7)) (fun _ hk=>hk.2) (.slice D3 m6.length D4)) (fun _ hk=>trivial)),pB⟩

end Go.Proofs.Ytbnpcplckcipfaa.Print
