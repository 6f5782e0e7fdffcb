import Derived.Test.YtnklckihalhlmaaPrint0
import Derived.Test.YtnklckihalhlmaaPrint16
import Derived.Test.YtnklckihalhlmaaPrint25
import Derived.Test.YtnklckihalhlmaaPrint27
namespace Go.Proofs.Ytnklckihalhlmaa.Print
open Go.RowKit Go.Proofs.YtnklckihalhlmaaW.PrintWords Go.Proofs.YtnklckihalhlmaaW.PrintLast Go.Proofs.YtnklckihalhlmaaW.PrintMore
attribute [local go_sem] max2_int min2_int max_two min_two max_three min_three max_four min_four
set_option linter.unusedVariables false
set_option maxRecDepth 100000
set_option maxHeartbeats 8000000
set_option linter.unusedSimpArgs false

def Ezm.j0:Nat→Int→Int→Bool→Option (Bool × List Int × List Int × Int)
 | 0,_,_,_=>none
 | k+1,x0,x1,x6=>if x6=true then(some (false,([]:List Int),([]:List Int),1)) else(if x1=0 then(some (false,([]:List Int),([]:List Int),16)) else((Gzz.f k x0).bind fun t392=>((Gzz.f k x1).bind fun t395=>((Fzk.f k ((decide (x0 < 0)) != (decide (x1 < 0))) t392 t395).bind fun bt398=>(some (bt398.1,bt398.2.1,bt398.2.2.1,bt398.2.2.2))))))
def Ezm.f (k:Nat) (a0:Int) (a1:Int):Option (Bool × List Int × List Int × Int):=(Hzz.f a0).bind fun t390=>(if t390=true then((Hzz.f a1).bind fun t391=>(Ezm.j0 k a0 a1 (!t391))) else(Ezm.j0 k a0 a1 true))
theorem Ezm.mono_l:∀ k,(∀ a6 a7 a8,LeO (Ezm.j0 k a6 a7 a8) (Ezm.j0 (k+1) a6 a7 a8))
 | 0=>fun _ _ _ r h=>by simp [Ezm.j0] at h
 | k+1=>by
  have ih0:=Ezm.mono_l k
  ·intro a6 a7 a8;unfold Ezm.j0;have i0:=@Gzz.mono;have i1:=@Fzk.mono;exact mM
theorem Ezm.mono:∀ a6 a7 k,LeO (Ezm.f k a6 a7) (Ezm.f (k+1) a6 a7):=by
 intro a6 a7 k;have ih0:=Ezm.mono_l k;unfold Ezm.f;have i0:=@Gzz.mono;have i1:=@Fzk.mono;exact mM
theorem Ezm.calls (k:Nat) (a6:Int) (a7:Int) (a8:Bool) (a9:List Int) (b3:List Int) (b4:Int) (w:World) (h:Ezm.f k a6 a7=some (a8,a9,b3,b4)) :
  Calls Try.prog 38 #[.int .i64 a6,.int .i64 a7] w fun e w'=>∃ v1_ v2_:Value,e=.returned (.tuple #[.agg #[.bool a8,v1_,v2_],.int .i64 b4])∧Kd.R (Kd.int .i64) 3 w' w.heap.size (fun k_=>some k_≠(v2_:Value).ownBlock) v1_ a9∧Kd.R (Kd.int .i64) 3 w' w.heap.size (fun k_=>some k_≠(v1_:Value).ownBlock) v2_ b3∧Below w.heap.size w w':=by
 have hu39:=Try.underlying39;have HB:=aM (Below.refl w.heap.size w);have H:((Hzz.f a6).bind fun b5=>(if b5=true then((Hzz.f a7).bind fun b6=>(Ezm.j0 k a6 a7 (!b6))) else(Ezm.j0 k a6 a7 true)))=some (a8,a9,b3,b4):=h
 clear h;have b7:=aM H;clear H;go_enter Try.func38,Try.ntmps38
 go_upto_region 1 with (first|((with_reducible refine gd 4 rfl ?_);refine bx #[.bool false,.slice none 0 0,.slice none 0 0] 39 ?_;intro b8 hg b9 d0 hb;have d1:=gA w hg;have d3:=gA w hg;replace HB:=bB hb;clear hb hg))
 (try simp only[Act.put,sA,sZ,sC])
 go_cut [6] (fun d4 wc=>∃ (kq:Nat) (d5:Bool),d4=.bool d5∧Aside0 (Ezm.j0 kq a6 a7 d5=some (a8,a9,b3,b4))∧Aside0 (kq≤k)∧Aside0 (wc.heap[b8]?=some (.cells #[.bool false,(.slice none 0 0),(.slice none 0 0)] 39 (0,0)))∧Aside0 (Below w.heap.size w wc))
 case first =>
  have H:=b7.out;clear b7;obtain⟨b5,d6,H⟩:=bT H;(try dsimp only at H);by_cases c6:b5=true
  ·subst c6;rw[if_pos rfl] at H;obtain⟨b6,d7,H⟩:=bT H;(try dsimp only at H);have H':=aM H;clear H;go_wp2_with (first|((with_reducible refine gc 58 rfl ?_);refine gC 58 (some 8) Try.func58 #[.int .i64 a6] ?_;(with_reducible refine(Hzz.calls a6 true _ d6.out).mono ?_);rintro e w' ⟨rfl,⟨nd,rfl⟩⟩;refine⟨_,rfl,?_⟩)|(go_at_call 58;(with_reducible refine(Hzz.calls a7 b6 _ d7.out).mono ?_);rintro e w' ⟨rfl,⟨nd,rfl⟩⟩))
   go_meet
   case rel=>exact⟨_,(!b6),sD,H',⟨by first|omega|exact Nat.le_refl _⟩,⟨by exact kW d0⟩,⟨pB⟩⟩
  ·obtain rfl:=bN c6;rw[if_neg nF] at H
   have H':=aM H;clear H;go_wp2_with (first|((with_reducible refine gc 58 rfl ?_);refine gC 58 (some 8) Try.func58 #[.int .i64 a6] ?_;(with_reducible refine(Hzz.calls a6 false _ d6.out).mono ?_);rintro e w' ⟨rfl,⟨nd,rfl⟩⟩;refine⟨_,rfl,?_⟩))
   go_meet
   case rel=>exact⟨_,(true),sD,H',⟨by first|omega|exact Nat.le_refl _⟩,⟨by exact kW d0⟩,⟨pB⟩⟩
 case rest =>
  clear b7;try clear p2
  obtain⟨kq,d5,rfl,HA,d8,d0,HB⟩:=hcut;cases kq with
  | zero=>exact absurd HA.out (by simp [Ezm.j0])
  | succ d9 =>
   have H:=HA.out;clear HA;simp only[Ezm.j0] at H;by_cases c8:d5=true
   ·subst c8;rw[if_pos rfl] at H;obtain⟨rfl,rfl,rfl,rfl⟩:=q4 H;obtain⟨e6,e7,e8,f3,f4,f5⟩:=bk3 d0;go_wp2
    refine bodyPost_ret (results_ct rfl _ _ b8 39 #[.bool false,.slice none 0 0,.slice none 0 0] (0,0) _ rfl (kQ d0) Try.underlying39 rfl (by kernel_rfl)) rfl ?_
    exact⟨_,_,eW,nK,nK,pB⟩
   ·obtain rfl:=bN c8;rw[if_neg nF] at H
    by_cases c10:a7=0
    ·rw[if_pos c10] at H;obtain⟨f6,f7⟩:=bE c10;clear c10;obtain⟨rfl,rfl,rfl,rfl⟩:=q4 H;obtain⟨f8,f9,g6,g7,g8,g9⟩:=bk3 d0;go_wp2
     refine bodyPost_ret (results_ct rfl _ _ b8 39 #[.bool false,.slice none 0 0,.slice none 0 0] (0,0) _ rfl (kQ d0) Try.underlying39 rfl (by kernel_rfl)) rfl ?_
     exact⟨_,_,eW,nK,nK,pB⟩
    ·rw[if_neg c10] at H;obtain⟨f6,f7⟩:=bI c10;obtain⟨j5,j9,H⟩:=bT H;(try dsimp only at H);obtain⟨l5,l6,H⟩:=bT H;(try dsimp only at H);replace H:=bS H;obtain⟨⟨l7,l8,l9,m4⟩,m5,H⟩:=H;replace H:(some (l7,l8,l9,m4))=some (a8,a9,b3,b4):=H;have m6:=aM m5;clear m5;obtain⟨rfl,rfl,rfl,rfl⟩:=q4 H;go_wp2_with (first|((with_reducible refine gc 60 rfl ?_);refine gC 60 (some 26) Try.func60 #[.int .i64 a6] ?_;(with_reducible refine(Gzz.calls d9 a6 j5 _ j9.out).mono ?_);rintro e m7 ⟨m8,rfl,m9,hb⟩;refine⟨_,rfl,?_⟩;have n0:=rL m9;replace d0:=kb d0 hb;replace HB:=bB hb;clear hb m9)|((with_reducible refine gc 60 rfl ?_);refine gC 60 (some 28) Try.func60 #[.int .i64 a7] ?_;(with_reducible refine(Gzz.calls d9 a7 l5 _ l6.out).mono ?_);rintro e n1 ⟨n2,rfl,m9,hb⟩;refine⟨_,rfl,?_⟩;have n3:=rL (rn m9 n0);replace n0:=rE n0 m9 hb;replace d0:=kb d0 hb;replace HB:=bB hb;clear hb m9;obtain⟨n4,n5,rfl⟩:=Kd.R_slice n0.out;obtain⟨n6,n7,rfl⟩:=Kd.R_slice n3.out)|((with_reducible refine gc 59 rfl ?_);refine gC 59 (some 29) Try.func59 #[.bool ((decide (a6 < 0)) != (decide (a7 < 0))),.slice n4 j5.length n5,.slice n6 l5.length n7] ?_;(with_reducible refine(Fzk.calls d9 ((decide (a6 < 0)) != (decide (a7 < 0))) _ _ j5 _ _ l5 l7 l8 l9 m4 _ ?_ ?_ ?_ ?_ m6.out).mono ?_);exact cR n0;exact lR n0;exact cR n3;exact lR n3;rintro e n8 ⟨n9,o0,rfl,m9,o1,hb⟩;refine⟨_,rfl,?_⟩;have o2:=rL (rn (rn m9 n0) n3);have o3:=rL (rn (rn o1 n0) n3);replace n0:=rO n0 hb m9 o1;replace n3:=rO n3 hb m9 o1;replace d0:=kb d0 hb;replace HB:=bB hb;clear hb m9 o1;obtain⟨o4,o5,o6,o7,o8,o9⟩:=bk3 d0;obtain⟨p3,p7,rfl⟩:=Kd.R_slice o2.out;obtain⟨p9,r5,rfl⟩:=Kd.R_slice o3.out))
     refine bodyPost_ret (results_ct rfl _ _ b8 39 #[.bool l7,.slice p3 l8.length p7,.slice p9 l9.length r5] (0,0) _ rfl (kQ d0) Try.underlying39 rfl (by kernel_rfl)) rfl ?_
     exact⟨_,_,eW,by exact Kd.R_mono (rT o2 d0) (fun _ hk=>hk.1.1),by exact Kd.R_mono (rT o3 d0) (fun _ hk=>hk.1.1),pB⟩

def Gzb.f (k:Nat) (a0:Int):Option (Bool × List Int × List Int × Int):=(Ezm.f k a0 1).bind fun bt407=>(some (bt407.1,bt407.2.1,bt407.2.2.1,bt407.2.2.2))
theorem Gzb.mono:∀ a6 k,LeO (Gzb.f k a6) (Gzb.f (k+1) a6):=by
 intro a6 k;unfold Gzb.f;have i0:=@Ezm.mono;exact mM
theorem Gzb.calls (k:Nat) (a6:Int) (a7:Bool) (a8:List Int) (a9:List Int) (b3:Int) (w:World) (h:Gzb.f k a6=some (a7,a8,a9,b3)) :
  Calls Try.prog 39 #[.int .i64 a6] w fun e w'=>∃ v1_ v2_:Value,e=.returned (.tuple #[.agg #[.bool a7,v1_,v2_],.int .i64 b3])∧Kd.R (Kd.int .i64) 3 w' w.heap.size (fun k_=>some k_≠(v2_:Value).ownBlock) v1_ a8∧Kd.R (Kd.int .i64) 3 w' w.heap.size (fun k_=>some k_≠(v1_:Value).ownBlock) v2_ a9∧Below w.heap.size w w':=by
 have hu39:=Try.underlying39;have HB:=aM (Below.refl w.heap.size w);have H:((Ezm.f k a6 1).bind fun b4=>(some (b4.1,b4.2.1,b4.2.2.1,b4.2.2.2)))=some (a7,a8,a9,b3):=h
 clear h;replace H:=bS H;obtain⟨⟨b5,b6,b7,b8⟩,b9,H⟩:=H;replace H:(some (b5,b6,b7,b8))=some (a7,a8,a9,b3):=H;have d0:=aM b9;clear b9;obtain⟨rfl,rfl,rfl,rfl⟩:=q4 H;go_enter Try.func39,Try.ntmps39
 go_wp2_with (first|((with_reducible refine gd 2 rfl ?_);refine bx #[.bool false,.slice none 0 0,.slice none 0 0] 39 ?_;intro d1 hg d3 d4 hb;have d5:=gA w hg;have d6:=gA w hg;replace HB:=bB hb;clear hb hg)|((with_reducible refine gc 38 rfl ?_);refine gC 38 (some 5) Try.func38 #[.int .i64 a6,.int .i64 1] ?_;(with_reducible refine(Ezm.calls k a6 1 b5 b6 b7 b8 _ d0.out).mono ?_);rintro e d7 ⟨d8,d9,rfl,e6,e7,hb⟩;refine⟨_,rfl,?_⟩;have e8:=rL e6;have f3:=rL e7;replace d4:=kb d4 hb;replace HB:=bB hb;clear hb e6 e7;obtain⟨f4,f5,f6,f7,f8,f9⟩:=bk3 d4;obtain⟨g6,g7,rfl⟩:=Kd.R_slice e8.out;obtain⟨g8,g9,rfl⟩:=Kd.R_slice f3.out))
 refine bodyPost_ret (results_ct rfl _ _ d1 39 #[.bool b5,.slice g6 b6.length g7,.slice g8 b7.length g9] (0,0) _ rfl (kQ d4) Try.underlying39 rfl (by kernel_rfl)) rfl ?_
 exact⟨_,_,eW,by exact Kd.R_mono (rT e8 d4) (fun _ hk=>hk),by exact Kd.R_mono (rT f3 d4) (fun _ hk=>hk),pB⟩

def Gzk.f (k:Nat) (a0_0:Bool) (l0_1:List Int) (l0_2:List Int):Option (Bool):=(Bzv.f k l0_1).bind fun t416=>(if t416=true then((Bzv.f k l0_2).bind fun t417=>(if t417=true then(if(l0_2.length:Int)=0 then(some false) else(if a0_0=true then(if(l0_1.length:Int)=0 then(some false) else((Czf.f k l0_1 l0_2).bind fun bt418=>(if bt418.2=0 then(if(bt418.1.length:Int)=1 then(if 0 < (bt418.1.length:Int) then(some ((rd bt418.1 0) == 1)) else(none)) else(some false)) else(some false)))) else((Czf.f k l0_1 l0_2).bind fun bt423=>(if bt423.2=0 then(if(bt423.1.length:Int)=1 then(if 0 < (bt423.1.length:Int) then(some ((rd bt423.1 0) == 1)) else(none)) else(some false)) else(some false))))) else(some false))) else(some false))
theorem Gzk.mono:∀ a6 a7 a8 k,LeO (Gzk.f k a6 a7 a8) (Gzk.f (k+1) a6 a7 a8):=by
 intro a6 a7 a8 k;unfold Gzk.f;have i0:=@Czf.mono;have i1:=@Bzv.mono;exact mM
theorem Gzk.calls (k:Nat) (a6:Bool) (a7:Option Addr) (a8:Nat) (a9:List Int) (b3:Option Addr) (b4:Nat) (b5:List Int) (r:Bool) (w:World) (b6:Kd.C (Kd.int .i64) w a7 a9.length a9) (b7:a9.length≤a8) (b8:Kd.C (Kd.int .i64) w b3 b5.length b5) (b9:b5.length≤b4) (h:Gzk.f k a6 a9 b5=some r) :
  Calls Try.prog 80 #[.agg #[.bool a6,.slice a7 a9.length a8,.slice b3 b5.length b4]] w fun e w'=>e=.returned (.bool r)∧Below w.heap.size w w':=by
 have hu39:=Try.underlying39;have d0:=aM b6;have d1:=aM b7;clear b6 b7;have d3:=aM b8;have d4:=aM b9;clear b8 b9;have HB:=aM (Below.refl w.heap.size w);have H:((Bzv.f k a9).bind fun d5=>(if d5=true then((Bzv.f k b5).bind fun d6=>(if d6=true then(if(b5.length:Int)=0 then(some false) else(if a6=true then(if(a9.length:Int)=0 then(some false) else((Czf.f k a9 b5).bind fun d7=>(if d7.2=0 then(if(d7.1.length:Int)=1 then(if 0 < (d7.1.length:Int) then(some ((rd d7.1 0) == 1)) else(none)) else(some false)) else(some false)))) else((Czf.f k a9 b5).bind fun d8=>(if d8.2=0 then(if(d8.1.length:Int)=1 then(if 0 < (d8.1.length:Int) then(some ((rd d8.1 0) == 1)) else(none)) else(some false)) else(some false))))) else(some false))) else(some false)))=some r:=h
 clear h;obtain⟨d5,d9,H⟩:=bT H;(try dsimp only at H);by_cases c3:d5=true
 ·subst c3;rw[if_pos rfl] at H;obtain⟨d6,e6,H⟩:=bT H;(try dsimp only at H);by_cases c5:d6=true
  ·subst c5;rw[if_pos rfl] at H;by_cases c6:(b5.length:Int)=0
   ·rw[if_pos c6] at H;obtain⟨e7,e8⟩:=bE c6;clear c6;obtain rfl:=Option.some.inj H;go_enter Try.func80,Try.ntmps80
    go_wp2_with (first|((with_reducible refine gd 1 rfl ?_);refine bxg #[.bool a6,.slice a7 a9.length a8,.slice b3 b5.length b4] 39 ?_;intro f3 hg f4 f5 hb;have f6:=gA w hg;have f7:=gA w hg;replace HB:=bB hb;clear hb hg;obtain⟨f8,f9,g6,g7,g8,g9⟩:=bk3 f5)|((with_reducible refine gc 90 rfl ?_);refine gC 90 (some 7) Try.func90 #[.slice a7 a9.length a8] ?_;(with_reducible refine(Bzv.calls k _ _ a9 true _ ?_ ?_ d9.out).mono ?_);exact cB d0;exact d1.out;rintro e w' ⟨rfl,⟨nd,rfl⟩⟩;refine⟨_,rfl,?_⟩)|(go_at_call 90;(with_reducible refine(Bzv.calls k _ _ b5 true _ ?_ ?_ e6.out).mono ?_);exact cB d3;exact d4.out;rintro e w' ⟨rfl,⟨nd,rfl⟩⟩))
    go_ret
    exact⟨eW,pB⟩
   ·rw[if_neg c6] at H;obtain⟨e7,e8⟩:=bI c6;have j5:¬ (b5=[]):=fun h_=>c6 (by rw[h_];rfl)
    by_cases c9:a6=true
    ·subst c9;rw[if_pos rfl] at H;by_cases c10:(a9.length:Int)=0
     ·rw[if_pos c10] at H;obtain⟨j9,l5⟩:=bE c10;clear c10;obtain rfl:=Option.some.inj H;go_enter Try.func80,Try.ntmps80
      go_wp2_with (first|((with_reducible refine gd 1 rfl ?_);refine bxg #[.bool true,.slice a7 a9.length a8,.slice b3 b5.length b4] 39 ?_;intro f3 hg l6 f5 hb;have f6:=gA w hg;have f7:=gA w hg;replace HB:=bB hb;clear hb hg;obtain⟨l7,l8,l9,m4,m5,m6⟩:=bk3 f5)|((with_reducible refine gc 90 rfl ?_);refine gC 90 (some 7) Try.func90 #[.slice a7 a9.length a8] ?_;(with_reducible refine(Bzv.calls k _ _ a9 true _ ?_ ?_ d9.out).mono ?_);exact cB d0;exact d1.out;rintro e w' ⟨rfl,⟨nd,rfl⟩⟩;refine⟨_,rfl,?_⟩)|(go_at_call 90;(with_reducible refine(Bzv.calls k _ _ b5 true _ ?_ ?_ e6.out).mono ?_);exact cB d3;exact d4.out;rintro e w' ⟨rfl,⟨nd,rfl⟩⟩))
      go_ret
      exact⟨eW,pB⟩
     ·rw[if_neg c10] at H;obtain⟨j9,l5⟩:=bI c10;have m7:¬ (a9=[]):=fun h_=>c10 (by rw[h_];rfl)
      obtain⟨⟨m8,m9⟩,n0,H⟩:=bT H;(try dsimp only at H);by_cases n1:m9=0
      ·rw[if_pos n1] at H;obtain⟨n2,n3⟩:=bE n1;clear n1;by_cases n4:(m8.length:Int)=1
       ·rw[if_pos n4] at H;obtain⟨n5,n6⟩:=bE n4;clear n4;obtain⟨n7,H⟩:=iO H;have n8:decide (0 < (m8.length:Int))=true:=dE n7;have n9:decide (0 < m8.length)=true:=dE (by omega)
        clear n7;obtain rfl:=Option.some.inj H;go_enter Try.func80,Try.ntmps80
        go_wp2_with (first|((with_reducible refine gd 1 rfl ?_);refine bxg #[.bool true,.slice a7 a9.length a8,.slice b3 b5.length b4] 39 ?_;intro f3 hg o0 f5 hb;have f6:=gA w hg;have f7:=gA w hg;replace HB:=bB hb;clear hb hg;obtain⟨o1,o2,o3,o4,o5,o6⟩:=bk3 f5)|((with_reducible refine gc 90 rfl ?_);refine gC 90 (some 7) Try.func90 #[.slice a7 a9.length a8] ?_;(with_reducible refine(Bzv.calls k _ _ a9 true _ ?_ ?_ d9.out).mono ?_);exact cB d0;exact d1.out;rintro e w' ⟨rfl,⟨nd,rfl⟩⟩;refine⟨_,rfl,?_⟩)|(go_at_call 90;(with_reducible refine(Bzv.calls k _ _ b5 true _ ?_ ?_ e6.out).mono ?_);exact cB d3;exact d4.out;rintro e w' ⟨rfl,⟨nd,rfl⟩⟩)|((with_reducible refine gc 77 rfl ?_);refine gC 77 (some 36) Try.func77 #[.slice a7 a9.length a8,.slice b3 b5.length b4] ?_;(with_reducible refine(Czf.calls k (fun k_=>k_ < w.heap.size) _ _ a9 (fun k_=>k_ < w.heap.size) _ _ b5 m8 m9 _ ?_ ?_ n0.out).mono ?_);exact Kd.V_mk d1.out (Kd.F_below (Kd.C_F (Kd.heap_int .i64) d0.out) pB);exact Kd.V_mk d4.out (Kd.F_below (Kd.C_F (Kd.heap_int .i64) d3.out) pB);rintro e o7 ⟨o8,rfl,o9,hb⟩;refine⟨_,rfl,?_⟩;have p3:=rL (Kd.R_mono (ok':=fun k_=>True) o9 (fun _ hk_=>trivial));replace f5:=kb f5 hb;replace HB:=bB hb;clear hb o9;obtain⟨p7,p9,rfl⟩:=Kd.R_slice p3.out;have r5:0≤(0:Int):=(by omega);have r6:0 < (m8.length:Int):=oE aS;obtain⟨r7,r8,r9⟩:=Kd.at_int (Kd.R_reads' p3.out).2.2 0 r5 r6;cases r8;have t0:(0 < m8.length)=True:=eq_true (by omega);(try rw[show((0:Int)).toNat=0 from rfl] at r9);(try rw[Addr.add_zero'] at r9);replace r5:=eq_true r5;replace r6:=eq_true r6))
        go_ret
        exact⟨eW,pB⟩
       ·rw[if_neg n4] at H;obtain⟨n5,n6⟩:=bI n4;obtain rfl:=Option.some.inj H;go_enter Try.func80,Try.ntmps80
        go_wp2_with (first|((with_reducible refine gd 1 rfl ?_);refine bxg #[.bool true,.slice a7 a9.length a8,.slice b3 b5.length b4] 39 ?_;intro f3 hg t1 f5 hb;have f6:=gA w hg;have f7:=gA w hg;replace HB:=bB hb;clear hb hg;obtain⟨t2,t3,t4,t5,t6,t7⟩:=bk3 f5)|((with_reducible refine gc 90 rfl ?_);refine gC 90 (some 7) Try.func90 #[.slice a7 a9.length a8] ?_;(with_reducible refine(Bzv.calls k _ _ a9 true _ ?_ ?_ d9.out).mono ?_);exact cB d0;exact d1.out;rintro e w' ⟨rfl,⟨nd,rfl⟩⟩;refine⟨_,rfl,?_⟩)|(go_at_call 90;(with_reducible refine(Bzv.calls k _ _ b5 true _ ?_ ?_ e6.out).mono ?_);exact cB d3;exact d4.out;rintro e w' ⟨rfl,⟨nd,rfl⟩⟩)|((with_reducible refine gc 77 rfl ?_);refine gC 77 (some 36) Try.func77 #[.slice a7 a9.length a8,.slice b3 b5.length b4] ?_;(with_reducible refine(Czf.calls k (fun k_=>k_ < w.heap.size) _ _ a9 (fun k_=>k_ < w.heap.size) _ _ b5 m8 m9 _ ?_ ?_ n0.out).mono ?_);exact Kd.V_mk d1.out (Kd.F_below (Kd.C_F (Kd.heap_int .i64) d0.out) pB);exact Kd.V_mk d4.out (Kd.F_below (Kd.C_F (Kd.heap_int .i64) d3.out) pB);rintro e t8 ⟨o8,rfl,o9,hb⟩;refine⟨_,rfl,?_⟩;have p3:=rL (Kd.R_mono (ok':=fun k_=>True) o9 (fun _ hk_=>trivial));replace f5:=kb f5 hb;replace HB:=bB hb;clear hb o9;obtain⟨t9,z3,rfl⟩:=Kd.R_slice p3.out))
        go_ret
        exact⟨eW,pB⟩
      ·rw[if_neg n1] at H;obtain⟨n2,n3⟩:=bI n1;obtain rfl:=Option.some.inj H;go_enter Try.func80,Try.ntmps80
       go_wp2_with (first|((with_reducible refine gd 1 rfl ?_);refine bxg #[.bool true,.slice a7 a9.length a8,.slice b3 b5.length b4] 39 ?_;intro f3 hg z4 f5 hb;have f6:=gA w hg;have f7:=gA w hg;replace HB:=bB hb;clear hb hg;obtain⟨z5,z6,z7,z8,z9,B0⟩:=bk3 f5)|((with_reducible refine gc 90 rfl ?_);refine gC 90 (some 7) Try.func90 #[.slice a7 a9.length a8] ?_;(with_reducible refine(Bzv.calls k _ _ a9 true _ ?_ ?_ d9.out).mono ?_);exact cB d0;exact d1.out;rintro e w' ⟨rfl,⟨nd,rfl⟩⟩;refine⟨_,rfl,?_⟩)|(go_at_call 90;(with_reducible refine(Bzv.calls k _ _ b5 true _ ?_ ?_ e6.out).mono ?_);exact cB d3;exact d4.out;rintro e w' ⟨rfl,⟨nd,rfl⟩⟩)|((with_reducible refine gc 77 rfl ?_);refine gC 77 (some 36) Try.func77 #[.slice a7 a9.length a8,.slice b3 b5.length b4] ?_;(with_reducible refine(Czf.calls k (fun k_=>k_ < w.heap.size) _ _ a9 (fun k_=>k_ < w.heap.size) _ _ b5 m8 m9 _ ?_ ?_ n0.out).mono ?_);exact Kd.V_mk d1.out (Kd.F_below (Kd.C_F (Kd.heap_int .i64) d0.out) pB);exact Kd.V_mk d4.out (Kd.F_below (Kd.C_F (Kd.heap_int .i64) d3.out) pB);rintro e B1 ⟨o8,rfl,o9,hb⟩;refine⟨_,rfl,?_⟩;have p3:=rL (Kd.R_mono (ok':=fun k_=>True) o9 (fun _ hk_=>trivial));replace f5:=kb f5 hb;replace HB:=bB hb;clear hb o9))
       go_ret
       exact⟨eW,pB⟩
    ·obtain rfl:=bN c9;rw[if_neg nF] at H
     obtain⟨⟨B8,C0⟩,C1,H⟩:=bT H;(try dsimp only at H);by_cases C2:C0=0
     ·rw[if_pos C2] at H;obtain⟨C3,C4⟩:=bE C2;clear C2;by_cases C6:(B8.length:Int)=1
      ·rw[if_pos C6] at H;obtain⟨C7,C8⟩:=bE C6;clear C6;obtain⟨C9,H⟩:=iO H;have D0:decide (0 < (B8.length:Int))=true:=dE C9;have D1:decide (0 < B8.length)=true:=dE (by omega)
       clear C9;obtain rfl:=Option.some.inj H;go_enter Try.func80,Try.ntmps80
       go_wp2_with (first|((with_reducible refine gd 1 rfl ?_);refine bxg #[.bool false,.slice a7 a9.length a8,.slice b3 b5.length b4] 39 ?_;intro f3 hg D2 f5 hb;have f6:=gA w hg;have f7:=gA w hg;replace HB:=bB hb;clear hb hg;obtain⟨D3,D4,D5,D6,D7,D8⟩:=bk3 f5)|((with_reducible refine gc 90 rfl ?_);refine gC 90 (some 7) Try.func90 #[.slice a7 a9.length a8] ?_;(with_reducible refine(Bzv.calls k _ _ a9 true _ ?_ ?_ d9.out).mono ?_);exact cB d0;exact d1.out;rintro e w' ⟨rfl,⟨nd,rfl⟩⟩;refine⟨_,rfl,?_⟩)|(go_at_call 90;(with_reducible refine(Bzv.calls k _ _ b5 true _ ?_ ?_ e6.out).mono ?_);exact cB d3;exact d4.out;rintro e w' ⟨rfl,⟨nd,rfl⟩⟩)|((with_reducible refine gc 77 rfl ?_);refine gC 77 (some 36) Try.func77 #[.slice a7 a9.length a8,.slice b3 b5.length b4] ?_;(with_reducible refine(Czf.calls k (fun k_=>k_ < w.heap.size) _ _ a9 (fun k_=>k_ < w.heap.size) _ _ b5 B8 C0 _ ?_ ?_ C1.out).mono ?_);exact Kd.V_mk d1.out (Kd.F_below (Kd.C_F (Kd.heap_int .i64) d0.out) pB);exact Kd.V_mk d4.out (Kd.F_below (Kd.C_F (Kd.heap_int .i64) d3.out) pB);rintro e D9 ⟨E3,rfl,o9,hb⟩;refine⟨_,rfl,?_⟩;have E4:=rL (Kd.R_mono (ok':=fun k_=>True) o9 (fun _ hk_=>trivial));replace f5:=kb f5 hb;replace HB:=bB hb;clear hb o9;obtain⟨E5,E6,rfl⟩:=Kd.R_slice E4.out;have E7:0≤(0:Int):=(by omega);have E8:0 < (B8.length:Int):=oE aS;obtain⟨E9,F0,F1⟩:=Kd.at_int (Kd.R_reads' E4.out).2.2 0 E7 E8;cases F0;have F2:(0 < B8.length)=True:=eq_true (by omega);(try rw[show((0:Int)).toNat=0 from rfl] at F1);(try rw[Addr.add_zero'] at F1);replace E7:=eq_true E7;replace E8:=eq_true E8))
       go_ret
       exact⟨eW,pB⟩
      ·rw[if_neg C6] at H;obtain⟨C7,C8⟩:=bI C6;obtain rfl:=Option.some.inj H;go_enter Try.func80,Try.ntmps80
       go_wp2_with (first|((with_reducible refine gd 1 rfl ?_);refine bxg #[.bool false,.slice a7 a9.length a8,.slice b3 b5.length b4] 39 ?_;intro f3 hg F3 f5 hb;have f6:=gA w hg;have f7:=gA w hg;replace HB:=bB hb;clear hb hg;obtain⟨F4,F5,F6,F7,F8,F9⟩:=bk3 f5)|((with_reducible refine gc 90 rfl ?_);refine gC 90 (some 7) Try.func90 #[.slice a7 a9.length a8] ?_;(with_reducible refine(Bzv.calls k _ _ a9 true _ ?_ ?_ d9.out).mono ?_);exact cB d0;exact d1.out;rintro e w' ⟨rfl,⟨nd,rfl⟩⟩;refine⟨_,rfl,?_⟩)|(go_at_call 90;(with_reducible refine(Bzv.calls k _ _ b5 true _ ?_ ?_ e6.out).mono ?_);exact cB d3;exact d4.out;rintro e w' ⟨rfl,⟨nd,rfl⟩⟩)|((with_reducible refine gc 77 rfl ?_);refine gC 77 (some 36) Try.func77 #[.slice a7 a9.length a8,.slice b3 b5.length b4] ?_;(with_reducible refine(Czf.calls k (fun k_=>k_ < w.heap.size) _ _ a9 (fun k_=>k_ < w.heap.size) _ _ b5 B8 C0 _ ?_ ?_ C1.out).mono ?_);exact Kd.V_mk d1.out (Kd.F_below (Kd.C_F (Kd.heap_int .i64) d0.out) pB);exact Kd.V_mk d4.out (Kd.F_below (Kd.C_F (Kd.heap_int .i64) d3.out) pB);rintro e G0 ⟨E3,rfl,o9,hb⟩;refine⟨_,rfl,?_⟩;have E4:=rL (Kd.R_mono (ok':=fun k_=>True) o9 (fun _ hk_=>trivial));replace f5:=kb f5 hb;replace HB:=bB hb;clear hb o9;obtain⟨G1,G2,rfl⟩:=Kd.R_slice E4.out))
       go_ret
       exact⟨eW,pB⟩
     ·rw[if_neg C2] at H;obtain⟨C3,C4⟩:=bI C2;obtain rfl:=Option.some.inj H;go_enter Try.func80,Try.ntmps80
      go_wp2_with (first|((with_reducible refine gd 1 rfl ?_);refine bxg #[.bool false,.slice a7 a9.length a8,.slice b3 b5.length b4] 39 ?_;intro f3 hg G3 f5 hb;have f6:=gA w hg;have f7:=gA w hg;replace HB:=bB hb;clear hb hg;obtain⟨G4,G5,G6,G7,G8,G9⟩:=bk3 f5)|((with_reducible refine gc 90 rfl ?_);refine gC 90 (some 7) Try.func90 #[.slice a7 a9.length a8] ?_;(with_reducible refine(Bzv.calls k _ _ a9 true _ ?_ ?_ d9.out).mono ?_);exact cB d0;exact d1.out;rintro e w' ⟨rfl,⟨nd,rfl⟩⟩;refine⟨_,rfl,?_⟩)|(go_at_call 90;(with_reducible refine(Bzv.calls k _ _ b5 true _ ?_ ?_ e6.out).mono ?_);exact cB d3;exact d4.out;rintro e w' ⟨rfl,⟨nd,rfl⟩⟩)|((with_reducible refine gc 77 rfl ?_);refine gC 77 (some 36) Try.func77 #[.slice a7 a9.length a8,.slice b3 b5.length b4] ?_;(with_reducible refine(Czf.calls k (fun k_=>k_ < w.heap.size) _ _ a9 (fun k_=>k_ < w.heap.size) _ _ b5 B8 C0 _ ?_ ?_ C1.out).mono ?_);exact Kd.V_mk d1.out (Kd.F_below (Kd.C_F (Kd.heap_int .i64) d0.out) pB);exact Kd.V_mk d4.out (Kd.F_below (Kd.C_F (Kd.heap_int .i64) d3.out) pB);rintro e H1 ⟨E3,rfl,o9,hb⟩;refine⟨_,rfl,?_⟩;have E4:=rL (Kd.R_mono (ok':=fun k_=>True) o9 (fun _ hk_=>trivial));replace f5:=kb f5 hb;replace HB:=bB hb;clear hb o9))
      go_ret
      exact⟨eW,pB⟩
  ·obtain rfl:=bN c5;rw[if_neg nF] at H
   obtain rfl:=Option.some.inj H;go_enter Try.func80,Try.ntmps80
   go_wp2_with (first|((with_reducible refine gd 1 rfl ?_);refine bxg #[.bool a6,.slice a7 a9.length a8,.slice b3 b5.length b4] 39 ?_;intro f3 hg H2 f5 hb;have f6:=gA w hg;have f7:=gA w hg;replace HB:=bB hb;clear hb hg;obtain⟨H3,H4,H5,H6,H7,H8⟩:=bk3 f5)|((with_reducible refine gc 90 rfl ?_);refine gC 90 (some 7) Try.func90 #[.slice a7 a9.length a8] ?_;(with_reducible refine(Bzv.calls k _ _ a9 true _ ?_ ?_ d9.out).mono ?_);exact cB d0;exact d1.out;rintro e w' ⟨rfl,⟨nd,rfl⟩⟩;refine⟨_,rfl,?_⟩)|(go_at_call 90;(with_reducible refine(Bzv.calls k _ _ b5 false _ ?_ ?_ e6.out).mono ?_);exact cB d3;exact d4.out;rintro e w' ⟨rfl,⟨nd,rfl⟩⟩))
   go_ret
   exact⟨eW,pB⟩
 ·obtain rfl:=bN c3;rw[if_neg nF] at H
  obtain rfl:=Option.some.inj H;go_enter Try.func80,Try.ntmps80
  go_wp2_with (first|((with_reducible refine gd 1 rfl ?_);refine bxg #[.bool a6,.slice a7 a9.length a8,.slice b3 b5.length b4] 39 ?_;intro f3 hg H9 f5 hb;have f6:=gA w hg;have f7:=gA w hg;replace HB:=bB hb;clear hb hg;obtain⟨I0,I1,I2,I3,I4,I5⟩:=bk3 f5)|((with_reducible refine gc 90 rfl ?_);refine gC 90 (some 7) Try.func90 #[.slice a7 a9.length a8] ?_;(with_reducible refine(Bzv.calls k _ _ a9 false _ ?_ ?_ d9.out).mono ?_);exact cB d0;exact d1.out;rintro e w' ⟨rfl,⟨nd,rfl⟩⟩;refine⟨_,rfl,?_⟩))
  go_ret
  exact⟨eW,pB⟩

end Go.Proofs.Ytnklckihalhlmaa.Print
