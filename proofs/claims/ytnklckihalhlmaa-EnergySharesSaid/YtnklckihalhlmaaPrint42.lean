import Derived.Test.YtnklckihalhlmaaPrint0
import Derived.Test.YtnklckihalhlmaaPrint5
import Derived.Test.YtnklckihalhlmaaPrint16
import Derived.Test.YtnklckihalhlmaaPrint33
import Derived.Test.YtnklckihalhlmaaPrint34
import Derived.Test.YtnklckihalhlmaaPrint40
namespace Go.Proofs.Ytnklckihalhlmaa.Print
open Go.RowKit Go.Proofs.YtnklckihalhlmaaW.PrintWords Go.Proofs.YtnklckihalhlmaaW.PrintLast Go.Proofs.YtnklckihalhlmaaW.PrintMore
attribute [local go_sem] max2_int min2_int max_two min_two max_three min_three max_four min_four
set_option linter.unusedVariables false
set_option maxRecDepth 100000
set_option maxHeartbeats 8000000
set_option linter.unusedSimpArgs false

def Bzy.j0:Nat→Int→Int→Bool→Option (Bool × List Int × List Int × Int)
 | 0,_,_,_=>none
 | k+1,x0,x1,x23=>if x23=true then(some (false,([]:List Int),([]:List Int),1)) else(if x1=0 then(some (false,([]:List Int),([]:List Int),16)) else((Czp.f k (mx x0 (wrap64 (-x0)))).bind fun bt620=>((Czp.f k (mx x1 (wrap64 (-x1)))).bind fun bt624=>((Dzp.f k ((decide (x0 < 0)) != (decide (x1 < 0))) bt620.1 bt624.1).bind fun bt628=>(some (bt628.1,bt628.2.1,bt628.2.2,0))))))
def Bzy.f (k:Nat) (a0:Int) (a1:Int):Option (Bool × List Int × List Int × Int):=if a0 < (-1125899906842624) then(Bzy.j0 k a0 a1 true) else(if a0 > 1125899906842624 then(Bzy.j0 k a0 a1 true) else(if a1 < (-1125899906842624) then(Bzy.j0 k a0 a1 true) else(Bzy.j0 k a0 a1 (decide (a1 > 1125899906842624)))))
theorem Bzy.mono_l:∀ k,(∀ a6 a7 a8,LeO (Bzy.j0 k a6 a7 a8) (Bzy.j0 (k+1) a6 a7 a8))
 | 0=>fun _ _ _ r h=>by simp [Bzy.j0] at h
 | k+1=>by
  have ih0:=Bzy.mono_l k
  ·intro a6 a7 a8;unfold Bzy.j0;have i0:=@Czp.mono;have i1:=@Dzp.mono;exact mM
theorem Bzy.mono:∀ a6 a7 k,LeO (Bzy.f k a6 a7) (Bzy.f (k+1) a6 a7):=by
 intro a6 a7 k;have ih0:=Bzy.mono_l k;unfold Bzy.f;have i0:=@Czp.mono;have i1:=@Dzp.mono;exact mM
theorem Bzy.calls (k:Nat) (a6:Int) (a7:Int) (a8:Bool) (a9:List Int) (b3:List Int) (b4:Int) (w:World) (h:Bzy.f k a6 a7=some (a8,a9,b3,b4)) :
  Calls Try.prog 25 #[.int .i64 a6,.int .i64 a7] w fun e w'=>∃ v1_ v2_:Value,e=.returned (.tuple #[.agg #[.bool a8,v1_,v2_],.int .i64 b4])∧Kd.R (Kd.int .i64) 3 w' w.heap.size (fun k_=>some k_≠(v2_:Value).ownBlock) v1_ a9∧Kd.R (Kd.int .i64) 3 w' w.heap.size (fun k_=>some k_≠(v1_:Value).ownBlock) v2_ b3∧Below w.heap.size w w':=by
 have hu39:=Try.underlying39;have HB:=aM (Below.refl w.heap.size w);have H:(if a6 < (-1125899906842624) then(Bzy.j0 k a6 a7 true) else(if a6 > 1125899906842624 then(Bzy.j0 k a6 a7 true) else(if a7 < (-1125899906842624) then(Bzy.j0 k a6 a7 true) else(Bzy.j0 k a6 a7 (decide (a7 > 1125899906842624))))))=some (a8,a9,b3,b4):=h
 clear h;have b5:=aM H;clear H;go_enter Try.func25,Try.ntmps25
 go_upto_region 1 with (first|((with_reducible refine gd 4 rfl ?_);refine bx #[.bool false,.slice none 0 0,.slice none 0 0] 39 ?_;intro b6 hg b7 b8 hb;have b9:=gA w hg;have d0:=gA w hg;replace HB:=bB hb;clear hb hg))
 (try simp only[Act.put,sA,sZ,sC])
 go_cut [23] (fun d1 wc=>∃ (kq:Nat) (d3:Bool),d1=.bool d3∧Aside0 (Bzy.j0 kq a6 a7 d3=some (a8,a9,b3,b4))∧Aside0 (kq≤k)∧Aside0 (wc.heap[b6]?=some (.cells #[.bool false,(.slice none 0 0),(.slice none 0 0)] 39 (0,0)))∧Aside0 (Below w.heap.size w wc))
 case first =>
  have H:=b5.out;clear b5;by_cases c5:a6 < (-1125899906842624)
  ·rw[if_pos c5] at H;have d4:=dE c5;clear c5;(first|rw[d4]|(simp only[i64_w,i32_w];rw[d4])|skip)
   have H':=aM H;clear H;go_wp2
   go_meet
   case rel=>exact⟨_,(true),sD,H',⟨by first|omega|exact Nat.le_refl _⟩,⟨by exact kW b8⟩,⟨pB⟩⟩
  ·rw[if_neg c5] at H;have d4:decide (a6 < (-1125899906842624))=false:=decide_eq_false c5;clear c5;(first|rw[d4]|(simp only[i64_w,i32_w];rw[d4])|skip)
   by_cases c6:a6 > 1125899906842624
   ·rw[if_pos c6] at H;have d5:decide (1125899906842624 < a6)=true:=dE c6;clear c6;have H':=aM H;clear H;go_wp2
    go_meet
    case rel=>exact⟨_,(true),sD,H',⟨by first|omega|exact Nat.le_refl _⟩,⟨by exact kW b8⟩,⟨pB⟩⟩
   ·rw[if_neg c6] at H;have d5:decide (1125899906842624 < a6)=false:=decide_eq_false c6;clear c6;by_cases c7:a7 < (-1125899906842624)
    ·rw[if_pos c7] at H;have d6:=dE c7;clear c7;have H':=aM H;clear H;go_wp2
     go_meet
     case rel=>exact⟨_,(true),sD,H',⟨by first|omega|exact Nat.le_refl _⟩,⟨by exact kW b8⟩,⟨pB⟩⟩
    ·rw[if_neg c7] at H;have d6:decide (a7 < (-1125899906842624))=false:=decide_eq_false c7;clear c7;have H':=aM H;clear H;go_wp2
     go_meet
     case rel=>exact⟨_,(decide (a7 > 1125899906842624)),sD,H',⟨by first|omega|exact Nat.le_refl _⟩,⟨by exact kW b8⟩,⟨pB⟩⟩
 case rest =>
  clear b5;try clear c2
  obtain⟨kq,d3,rfl,HA,d7,b8,HB⟩:=hcut;cases kq with
  | zero=>exact absurd HA.out (by simp [Bzy.j0])
  | succ d8 =>
   have H:=HA.out;clear HA;simp only[Bzy.j0] at H;by_cases c8:d3=true
   ·subst c8;rw[if_pos rfl] at H;obtain⟨rfl,rfl,rfl,rfl⟩:=q4 H;obtain⟨d9,e6,e7,e8,f3,f4⟩:=bk3 b8;go_wp2
    refine bodyPost_ret (results_ct rfl _ _ b6 39 #[.bool false,.slice none 0 0,.slice none 0 0] (0,0) _ rfl (kQ b8) Try.underlying39 rfl (by kernel_rfl)) rfl ?_
    exact⟨_,_,eW,nK,nK,pB⟩
   ·obtain rfl:=bN c8;rw[if_neg nF] at H
    by_cases c10:a7=0
    ·rw[if_pos c10] at H;obtain⟨f5,f6⟩:=bE c10;clear c10;obtain⟨rfl,rfl,rfl,rfl⟩:=q4 H;obtain⟨f7,f8,f9,g6,g7,g8⟩:=bk3 b8;go_wp2
     refine bodyPost_ret (results_ct rfl _ _ b6 39 #[.bool false,.slice none 0 0,.slice none 0 0] (0,0) _ rfl (kQ b8) Try.underlying39 rfl (by kernel_rfl)) rfl ?_
     exact⟨_,_,eW,nK,nK,pB⟩
    ·rw[if_neg c10] at H;obtain⟨f5,f6⟩:=bI c10;obtain⟨g9,j5⟩:∃ j_:Int,(mx a6 (wrap64 (-a6)))=j_:=⟨_,rfl⟩;replace H:((Czp.f d8 (g9)).bind fun j9=>((Czp.f d8 (mx a7 (wrap64 (-a7)))).bind fun l5=>((Dzp.f d8 ((decide (a6 < 0)) != (decide (a7 < 0))) j9.1 l5.1).bind fun l6=>(some (l6.1,l6.2.1,l6.2.2,0)))))=some (a8,a9,b3,b4):=by first|(rw[j5] at H;exact H)|(simp only[j5] at H ⊢;exact H)
     have l7:(if a6 < (wrap64 (-a6)) then(wrap64 (-a6)) else a6)=g9:=j5
     obtain⟨⟨l8,l9⟩,m4,H⟩:=bT H;(try dsimp only at H);obtain⟨m5,m6⟩:∃ j_:Int,(mx a7 (wrap64 (-a7)))=j_:=⟨_,rfl⟩;replace H:((Czp.f d8 (m5)).bind fun l5=>((Dzp.f d8 ((decide (a6 < 0)) != (decide (a7 < 0))) l8 l5.1).bind fun l6=>(some (l6.1,l6.2.1,l6.2.2,0))))=some (a8,a9,b3,b4):=by first|(rw[m6] at H;exact H)|(simp only[m6] at H ⊢;exact H)
     (try rw[m6] at m4)
     have m7:(if a7 < (wrap64 (-a7)) then(wrap64 (-a7)) else a7)=m5:=m6
     obtain⟨⟨m8,m9⟩,n0,H⟩:=bT H;(try dsimp only at H);replace H:=bS H;obtain⟨⟨n1,n2,n3⟩,n4,H⟩:=H;replace H:(some (n1,n2,n3,0))=some (a8,a9,b3,b4):=H;have n5:=aM n4;clear n4;obtain⟨rfl,rfl,rfl,rfl⟩:=q4 H;go_wp2_with (first|((with_reducible refine gate_callee (f:=45) rfl ?_);refine goesL_ (some 33) rfl rfl Try.func45 (by kernel_rfl) rfl #[.int .i64 g9] rfl (by(try simp only[List.map_toArray,List.map_cons,List.map_nil]);first|done|(simp only[j5];rfl)|rfl|(simp only[List.length_drop,List.length_take];rfl)) ?_;(with_reducible refine(Czp.calls d8 g9 l8 l9 _ m4.out).mono ?_);rintro e n6 ⟨n7,rfl,n8,hb⟩;refine⟨_,rfl,?_⟩;have n9:=rL n8;replace b8:=kb b8 hb;replace HB:=bB hb;clear hb n8)|((with_reducible refine gate_callee (f:=45) rfl ?_);refine goesL_ (some 41) rfl rfl Try.func45 (by kernel_rfl) rfl #[.int .i64 m5] rfl (by(try simp only[List.map_toArray,List.map_cons,List.map_nil]);first|done|(simp only[m6];rfl)|rfl|(simp only[List.length_drop,List.length_take];rfl)) ?_;(with_reducible refine(Czp.calls d8 m5 m8 m9 _ n0.out).mono ?_);rintro e o0 ⟨o1,rfl,n8,hb⟩;refine⟨_,rfl,?_⟩;have o2:=rL (rn n8 n9);replace n9:=rE n9 n8 hb;replace b8:=kb b8 hb;replace HB:=bB hb;clear hb n8;obtain⟨o3,o4,rfl⟩:=Kd.R_slice n9.out;obtain⟨o5,o6,rfl⟩:=Kd.R_slice o2.out)|((with_reducible refine gc 46 rfl ?_);refine gC 46 (some 51) Try.func46 #[.bool ((decide (a6 < 0)) != (decide (a7 < 0))),.slice o3 l8.length o4,.slice o5 m8.length o6] ?_;(with_reducible refine(Dzp.calls d8 ((decide (a6 < 0)) != (decide (a7 < 0))) _ _ l8 _ _ m8 n1 n2 n3 _ ?_ ?_ ?_ ?_ n5.out).mono ?_);exact cR n9;exact lR n9;exact cR o2;exact lR o2;rintro e o7 ⟨o8,o9,rfl,n8,p3,hb⟩;refine⟨_,rfl,?_⟩;have p7:=rL (rn (rn n8 n9) o2);have p9:=rL (rn (rn p3 n9) o2);replace n9:=rO n9 hb n8 p3;replace o2:=rO o2 hb n8 p3;replace b8:=kb b8 hb;replace HB:=bB hb;clear hb n8 p3;obtain⟨r5,r6,r7,r8,r9,t0⟩:=bk3 b8;obtain⟨t1,t2,rfl⟩:=Kd.R_slice p7.out;obtain⟨t3,t4,rfl⟩:=Kd.R_slice p9.out))
     refine bodyPost_ret (results_ct rfl _ _ b6 39 #[.bool n1,.slice t1 n2.length t2,.slice t3 n3.length t4] (0,0) _ rfl (kQ b8) Try.underlying39 rfl (by kernel_rfl)) rfl ?_
     exact⟨_,_,by first|rfl|(simp [errW_none,errW_some] <;> rfl)|(simp only[← j5,← m6];first|rfl|(simp [errW_none,errW_some] <;> rfl))|(simp [*,errW_none,errW_some] <;> rfl),by exact Kd.R_mono (rT p7 b8) (fun _ hk=>hk.1.1),by exact Kd.R_mono (rT p9 b8) (fun _ hk=>hk.1.1),pB⟩

def Ezk.f  : Option ((List (S46))):=some (([(⟨0,100⟩:S46),(⟨10,125⟩:S46),(⟨20,125⟩:S46)]:List (S46)))
theorem Ezk.calls  (r:List (S46)) (w:World) (h:Ezk.f  = some r) :
  Calls Try.prog 30 #[] w fun e w'=>∃ v0_:Value,e=.returned (v0_)∧Kd.R k46 46 w' w.heap.size (fun _=>True) v0_ r∧Below w.heap.size w w':=by
 have hu46:=Try.underlying46;have HB:=aM (Below.refl w.heap.size w);have H:(some (([(⟨0,100⟩:S46),(⟨10,125⟩:S46),(⟨20,125⟩:S46)]:List (S46))))=some r:=h;clear h;obtain⟨a6,a7⟩:∃ y_:List (S46),y_=(([(⟨0,100⟩:S46),(⟨10,125⟩:S46),(⟨20,125⟩:S46)]:List (S46))):=⟨_,rfl⟩;replace H:(some a6)=some r:=yE a7 H
 have a8:=aM a7;clear a7;obtain rfl:=Option.some.inj H;go_enter Try.func30,Try.ntmps30
 go_wp2_with (first|((with_reducible refine gate_dst (N:=4) rfl ?_);refine Kd.R_lit k46 _ 46 ?hg (N:=4) ?hd (xs:=([(⟨0,100⟩:S46),(⟨10,125⟩:S46),(⟨20,125⟩:S46)]:List (S46))) (inner:=[.int .i64 0,.int .i64 100,.int .i64 10,.int .i64 125,.int .i64 20,.int .i64 125]) (ok:=fun _=>True) (okp:=fun _=>True) ?hr ?hp (fun _ hk=>hk) trivial (Below.refl _ _) (Nat.le_refl _) (by simp) ?_;(case hd=>rfl);(case hg=>rfl);(case hr=>first|(go_simp;done)|(go_simp;rfl));(case hp=>exact(Reps.c2 (show Kd.M k46 _ _ _ (⟨0,100⟩:S46) [.int .i64 0,.int .i64 100] from(k46_mkM _ _ _ (⟨0,100⟩:S46) )) (Reps.c2 (show Kd.M k46 _ _ _ (⟨10,125⟩:S46) [.int .i64 10,.int .i64 125] from(k46_mkM _ _ _ (⟨10,125⟩:S46) )) (Reps.c2 (show Kd.M k46 _ _ _ (⟨20,125⟩:S46) [.int .i64 20,.int .i64 125] from(k46_mkM _ _ _ (⟨20,125⟩:S46) )) (Reps.none _ _)))));intro a9 b3 b4 hb hg_ hnew_;clear hg_ hnew_;replace b4:=rY a8 b4;have b5:=rL b4;replace HB:=bB hb;clear hb b4))
 go_ret
 exact⟨_,eW,rX b5.out,pB⟩

def Ezy.f (k:Nat)  : Option (Bool):=(Ezk.f).bind fun t638=>((Gzj.f k t638 5).bind fun bt641=>((Ezk.f).bind fun t643=>((Gzy.f k t643 5 15).bind fun bt646=>((Czm.f k 13 2000000).bind fun bt648=>((Fzy.f k 7 (([1,1]:List Int))).bind fun bt660=>((Bzy.f k 13 2).bind fun bt664=>(if bt641.2=0 then(if bt646.2=0 then(if bt648.2.2.2=0 then(if bt660.2=0 then(if bt641.1=112 then(if bt646.1=13 then((Ezq.f k bt648.1 bt648.2.1 bt648.2.2.1 bt664.1 bt664.2.1 bt664.2.2.1).bind fun t673=>(if t673=true then((Czw.f k bt660.1 (([4,3]:List Int))).bind fun t677=>(if t677=true then((Ezk.f).bind fun t678=>((Czv.f k t678).bind fun t681=>(some (t681 == 0)))) else(none))) else(none))) else(none)) else(none)) else(none)) else(none)) else(none)) else(none))))))))
theorem Ezy.mono:∀ k,LeO (Ezy.f k ) (Ezy.f (k+1) ):=by
 intro  k;unfold Ezy.f;have i0:=@Czv.mono;have i1:=@Czm.mono;have i2:=@Fzy.mono;have i3:=@Gzy.mono;have i4:=@Gzj.mono;have i5:=@Bzy.mono;have i6:=@Czw.mono;have i7:=@Ezq.mono;exact mM
theorem Ezy.calls (k:Nat)  (r:Bool) (w:World) (h:Ezy.f k  = some r) :
  Calls Try.prog 11 #[] w fun e w'=>e=.returned (.bool r)∧Below w.heap.size w w':=by
 have hu31:=Try.underlying31;have hu39:=Try.underlying39;have HB:=aM (Below.refl w.heap.size w);have H:((Ezk.f).bind fun a6=>((Gzj.f k a6 5).bind fun a7=>((Ezk.f).bind fun a8=>((Gzy.f k a8 5 15).bind fun a9=>((Czm.f k 13 2000000).bind fun b3=>((Fzy.f k 7 (([1,1]:List Int))).bind fun b4=>((Bzy.f k 13 2).bind fun b5=>(if a7.2=0 then(if a9.2=0 then(if b3.2.2.2=0 then(if b4.2=0 then(if a7.1=112 then(if a9.1=13 then((Ezq.f k b3.1 b3.2.1 b3.2.2.1 b5.1 b5.2.1 b5.2.2.1).bind fun b6=>(if b6=true then((Czw.f k b4.1 (([4,3]:List Int))).bind fun b7=>(if b7=true then((Ezk.f).bind fun b8=>((Czv.f k b8).bind fun b9=>(some (b9 == 0)))) else(none))) else(none))) else(none)) else(none)) else(none)) else(none)) else(none)) else(none)))))))))=some r:=h
 clear h;obtain⟨a6,d0,H⟩:=bT H;(try dsimp only at H);obtain⟨⟨d1,d3⟩,d4,H⟩:=bT H;(try dsimp only at H);obtain⟨a8,d5,H⟩:=bT H;(try dsimp only at H);obtain⟨⟨d6,d7⟩,d8,H⟩:=bT H;(try dsimp only at H);obtain⟨⟨d9,e6,e7,e8⟩,f3,H⟩:=bT H;(try dsimp only at H);obtain⟨f4,f5⟩:∃ y_:List Int,y_=(([1,1]:List Int)):=⟨_,rfl⟩;replace H:((Fzy.f k 7 f4).bind fun b4=>((Bzy.f k 13 2).bind fun b5=>(if d3=0 then(if d7=0 then(if e8=0 then(if b4.2=0 then(if d1=112 then(if d6=13 then((Ezq.f k d9 e6 e7 b5.1 b5.2.1 b5.2.2.1).bind fun b6=>(if b6=true then((Czw.f k b4.1 (([4,3]:List Int))).bind fun b7=>(if b7=true then((Ezk.f).bind fun b8=>((Czv.f k b8).bind fun b9=>(some (b9 == 0)))) else(none))) else(none))) else(none)) else(none)) else(none)) else(none)) else(none)) else(none))))=some r:=yE f5 H
 have f6:=aM f5;clear f5;obtain⟨⟨f7,f8⟩,f9,H⟩:=bT H;(try dsimp only at H);obtain⟨⟨g6,g7,g8,g9⟩,j5,H⟩:=bT H;(try dsimp only at H);by_cases c8:d3=0
 ·rw[if_pos c8] at H;obtain⟨j9,l5⟩:=bE c8;clear c8;obtain⟨c9,H⟩:=iO H;have l6:(d7 == 0)=true:=beq_iff_eq.mpr c9;have l7:(d7 != 0)=false:=bne_eq_false_iff_eq.mpr c9;clear c9;obtain⟨c10,H⟩:=iO H;have l8:(e8 == 0)=true:=beq_iff_eq.mpr c10;have l9:(e8 != 0)=false:=bne_eq_false_iff_eq.mpr c10;clear c10;obtain⟨m4,H⟩:=iO H;have m5:(f8 == 0)=true:=beq_iff_eq.mpr m4;have m6:(f8 != 0)=false:=bne_eq_false_iff_eq.mpr m4;clear m4;obtain⟨m7,H⟩:=iO H;have m8:(d1 == 112)=true:=beq_iff_eq.mpr m7;have m9:(d1 != 112)=false:=bne_eq_false_iff_eq.mpr m7;clear m7;obtain⟨n0,H⟩:=iO H;have n1:(d6 == 13)=true:=beq_iff_eq.mpr n0;have n2:(d6 != 13)=false:=bne_eq_false_iff_eq.mpr n0;clear n0;obtain⟨b6,n3,H⟩:=bT H;(try dsimp only at H);by_cases n4:b6=true
  ·subst n4;rw[if_pos rfl] at H;obtain⟨n5,n6⟩:∃ y_:List Int,y_=(([4,3]:List Int)):=⟨_,rfl⟩;replace H:((Czw.f k f7 n5).bind fun b7=>(if b7=true then((Ezk.f).bind fun b8=>((Czv.f k b8).bind fun b9=>(some (b9 == 0)))) else(none)))=some r:=yE n6 H
   have n7:=aM n6;clear n6;obtain⟨b7,n8,H⟩:=bT H;(try dsimp only at H);by_cases n9:b7=true
   ·subst n9;rw[if_pos rfl] at H;obtain⟨b8,o0,H⟩:=bT H;(try dsimp only at H);replace H:=bS H;obtain⟨b9,o1,H⟩:=H;replace H:(some (b9 == 0))=some r:=H;have o2:=aM o1;clear o1;obtain rfl:=Option.some.inj H;go_enter Try.func11,Try.ntmps11
    go_wp2_with (first|((with_reducible refine gc 30 rfl ?_);refine gC 30 (some 12) Try.func30 #[] ?_;(with_reducible refine(Ezk.calls  a6 _ d0.out).mono ?_);rintro e o3 ⟨o4,rfl,o5,hb⟩;refine⟨_,rfl,?_⟩;have o6:=rL o5;replace HB:=bB hb;clear hb o5;obtain⟨o7,o8,rfl⟩:=Kd.R_slice o6.out)|((with_reducible refine gc 12 rfl ?_);refine gC 12 (some 13) Try.func12 #[.slice o7 a6.length o8,.int .i64 5] ?_;(with_reducible refine(Gzj.calls k _ _ a6 5 d1 d3 _ ?_ ?_ d4.out).mono ?_);exact cR o6;exact lR o6;rintro e o9 ⟨rfl,hb⟩;refine⟨_,rfl,?_⟩;replace o6:=rB o6 hb;replace HB:=bB hb;clear hb)|((with_reducible refine gc 30 rfl ?_);refine gC 30 (some 17) Try.func30 #[] ?_;(with_reducible refine(Ezk.calls  a8 _ d5.out).mono ?_);rintro e p3 ⟨p7,rfl,o5,hb⟩;refine⟨_,rfl,?_⟩;have p9:=rL (rn o5 o6);replace o6:=rE o6 o5 hb;replace HB:=bB hb;clear hb o5;obtain⟨r5,r6,rfl⟩:=Kd.R_slice p9.out)|((with_reducible refine gc 16 rfl ?_);refine gC 16 (some 19) Try.func16 #[.slice r5 a8.length r6,.agg #[.int .i64 5,.int .i64 15]] ?_;(with_reducible refine(Gzy.calls k _ _ a8 5 15 d6 d7 _ ?_ ?_ d8.out).mono ?_);exact cR p9;exact lR p9;rintro e r7 ⟨rfl,hb⟩;refine⟨_,rfl,?_⟩;replace o6:=rB o6 hb;replace p9:=rB p9 hb;replace HB:=bB hb;clear hb)|((with_reducible refine gc 20 rfl ?_);refine gC 20 (some 23) Try.func20 #[.int .i64 13,.int .i64 2000000] ?_;(with_reducible refine(Czm.calls k 13 2000000 d9 e6 e7 e8 _ f3.out).mono ?_);rintro e r8 ⟨r9,t0,rfl,o5,t1,hb⟩;refine⟨_,rfl,?_⟩;have t2:=rL o5;have t3:=rL t1;replace o6:=rB o6 hb;replace p9:=rB p9 hb;replace HB:=bB hb;clear hb o5 t1)|((with_reducible refine gd 5 rfl ?_);refine bxg #[.bool false,.slice none 0 0,.slice none 0 0] 39 ?_;intro t4 hg t5 t6 hb;have t7:=gA w hg;have t8:=gA w hg;replace o6:=rB o6 hb;replace p9:=rB p9 hb;replace t2:=rB t2 hb;replace t3:=rB t3 hb;replace HB:=bB hb;clear hb hg;obtain⟨t9,z3,z4,z5,z6,z7⟩:=bk3 t6;obtain⟨z8,z9,rfl⟩:=Kd.R_slice t2.out;obtain⟨B0,B1,rfl⟩:=Kd.R_slice t3.out)|((with_reducible refine gd 27 rfl ?_);refine iLg 27 [1,1] ?_;intro B8 C0 C1 hb;replace C1:=rY f6 C1;have C2:=rL (Kd.R_new' (Kd.R_new' C1 (Kd.R_lt (rT t2 t6))) (Kd.R_lt (rT t3 t6)));replace o6:=rb (rT o6 t6) hb;replace p9:=rb (rT p9 t6) hb;replace t2:=re (rT t2 t6) C1 hb;replace t3:=re (rT t3 t6) C1 hb;replace t6:=kP (o':=.cells #[.bool d9,.slice z8 e6.length z9,.slice B0 e7.length B1] 39 (0,0)) t6 hb;replace HB:=bB hb;clear hb C1;obtain⟨C3,C4,rfl⟩:=Kd.R_slice C2.out)|((with_reducible refine gc 18 rfl ?_);refine gC 18 (some 28) Try.func18 #[.int .i64 7,.slice C3 f4.length C4] ?_;(with_reducible refine(Fzy.calls k 7 _ _ f4 f7 f8 _ ?_ ?_ f9.out).mono ?_);exact cR C2;exact lR C2;rintro e C6 ⟨C7,rfl,o5,hb⟩;refine⟨_,rfl,?_⟩;have C8:=rL (rn (rn (rn o5 t2) t3) C2);replace o6:=rB o6 hb;replace p9:=rB p9 hb;replace t2:=rE t2 o5 hb;replace t3:=rE t3 o5 hb;replace C2:=rE C2 o5 hb;replace t6:=kb t6 hb;replace HB:=bB hb;clear hb o5)|((with_reducible refine gc 25 rfl ?_);refine gC 25 (some 32) Try.func25 #[.int .i64 13,.int .i64 2] ?_;(with_reducible refine(Bzy.calls k 13 2 g6 g7 g8 g9 _ j5.out).mono ?_);rintro e C9 ⟨D0,D1,rfl,o5,t1,hb⟩;refine⟨_,rfl,?_⟩;have D2:=rL (rn (rn (rn (rn o5 t2) t3) C2) C8);have D3:=rL (rn (rn (rn (rn t1 t2) t3) C2) C8);replace o6:=rB o6 hb;replace p9:=rB p9 hb;replace t2:=rO t2 hb o5 t1;replace t3:=rO t3 hb o5 t1;replace C2:=rO C2 hb o5 t1;replace C8:=rO C8 hb o5 t1;replace t6:=kb t6 hb;replace HB:=bB hb;clear hb o5 t1)|((with_reducible refine gd 9 rfl ?_);refine bxg #[.bool false,.slice none 0 0,.slice none 0 0] 39 ?_;intro D4 hg D5 D6 hb;have D7:=gA w hg;have D8:=gA w hg;have D9:=nl hg t6;have E3:=ng hg t6;replace o6:=rB o6 hb;replace p9:=rB p9 hb;replace t2:=rB t2 hb;replace t3:=rB t3 hb;replace C2:=rB C2 hb;replace C8:=rB C8 hb;replace D2:=rB D2 hb;replace D3:=rB D3 hb;replace t6:=kb t6 hb;replace HB:=bB hb;clear hb hg;have E4:=E3.out;have E5:=D9.out;obtain⟨E6,E7,E8,E9,F0,F1⟩:=bk3 D6;obtain⟨F2,F3,rfl⟩:=Kd.R_slice D2.out;obtain⟨F4,F5,rfl⟩:=Kd.R_slice D3.out;obtain⟨F6,F7,F8,F9,G0,G1⟩:=bk3 t6)|(go_at_call 23;(with_reducible refine(Ezq.calls k d9 _ _ e6 _ _ e7 g6 _ _ g7 _ _ g8 true _ ?_ ?_ ?_ ?_ ?_ ?_ ?_ ?_ n3.out).mono ?_);(focus(refine(Kd.R_reads' (e:=3) (base:=w.heap.size) (ok:=fun k_=>((((some k_≠(.slice B0 e7.length B1:Value).ownBlock∧some k_≠(.slice C3 f4.length C4:Value).ownBlock)∧some k_≠(C7:Value).ownBlock)∧some k_≠(.slice F2 g7.length F3:Value).ownBlock)∧some k_≠(.slice F4 g8.length F5:Value).ownBlock)) (n:=e6.length) (c:=z9) ?_).2.2;exact(rT t2 D6)));exact lR t2;(focus(refine(Kd.R_reads' (e:=3) (base:=w.heap.size) (ok:=fun k_=>((((some k_≠(.slice z8 e6.length z9:Value).ownBlock∧some k_≠(.slice C3 f4.length C4:Value).ownBlock)∧some k_≠(C7:Value).ownBlock)∧some k_≠(.slice F2 g7.length F3:Value).ownBlock)∧some k_≠(.slice F4 g8.length F5:Value).ownBlock)) (n:=e7.length) (c:=B1) ?_).2.2;exact(rT t3 D6)));exact lR t3;(focus(refine(Kd.R_reads' (e:=3) (base:=w.heap.size) (ok:=fun k_=>((((some k_≠(.slice F4 g8.length F5:Value).ownBlock∧some k_≠(.slice z8 e6.length z9:Value).ownBlock)∧some k_≠(.slice B0 e7.length B1:Value).ownBlock)∧some k_≠(.slice C3 f4.length C4:Value).ownBlock)∧some k_≠(C7:Value).ownBlock)) (n:=g7.length) (c:=F3) ?_).2.2;exact(rT D2 D6)));exact lR D2;(focus(refine(Kd.R_reads' (e:=3) (base:=w.heap.size) (ok:=fun k_=>((((some k_≠(.slice F2 g7.length F3:Value).ownBlock∧some k_≠(.slice z8 e6.length z9:Value).ownBlock)∧some k_≠(.slice B0 e7.length B1:Value).ownBlock)∧some k_≠(.slice C3 f4.length C4:Value).ownBlock)∧some k_≠(C7:Value).ownBlock)) (n:=g8.length) (c:=F5) ?_).2.2;exact(rT D3 D6)));exact lR D3;rintro e G2 ⟨rfl,hb⟩;replace o6:=rb (rT o6 D6) hb;replace p9:=rb (rT p9 D6) hb;replace t2:=rb (rT t2 D6) hb;replace t3:=rb (rT t3 D6) hb;replace C2:=rb (rT C2 D6) hb;replace C8:=rb (rT C8 D6) hb;replace D2:=rb (rT D2 D6) hb;replace D3:=rb (rT D3 D6) hb;replace t6:=kF t6 D9 hb;replace D6:=kP (o':=.cells #[.bool g6,.slice F2 g7.length F3,.slice F4 g8.length F5] 39 (0,0)) D6 hb;replace HB:=bB hb;clear hb)|((with_reducible refine gd 64 rfl ?_);refine iLg 64 [4,3] ?_;intro G3 G4 G5 hb;replace G5:=rY n7 G5;have G6:=rL (rn (rn (rn (rn (rn (rn G5 t2) t3) C2) C8) D2) D3);replace o6:=rB o6 hb;replace p9:=rB p9 hb;replace t2:=rE t2 G5 hb;replace t3:=rE t3 G5 hb;replace C2:=rE C2 G5 hb;replace C8:=rE C8 G5 hb;replace D2:=rE D2 G5 hb;replace D3:=rE D3 G5 hb;replace t6:=kb t6 hb;replace D6:=kb D6 hb;replace HB:=bB hb;clear hb G5;obtain⟨G7,G8,rfl⟩:=Kd.R_slice C8.out;obtain⟨G9,H1,rfl⟩:=Kd.R_slice G6.out)|(go_at_call 22;(with_reducible refine(Czw.calls k _ _ f7 _ _ n5 true _ ?_ ?_ ?_ ?_ n8.out).mono ?_);exact cR C8;exact lR C8;exact cR G6;exact lR G6;rintro e w' ⟨rfl,⟨nd,rfl⟩⟩)|(go_at_call 30;(with_reducible refine(Ezk.calls  b8 _ o0.out).mono ?_);rintro e H2 ⟨H3,rfl,o5,hb⟩;have H4:=rL (rn (rn o5 o6) p9);replace o6:=rE o6 o5 hb;replace p9:=rE p9 o5 hb;replace t2:=rB t2 hb;replace t3:=rB t3 hb;replace C2:=rB C2 hb;replace C8:=rB C8 hb;replace D2:=rB D2 hb;replace D3:=rB D3 hb;replace G6:=rB G6 hb;replace t6:=kb t6 hb;replace D6:=kb D6 hb;replace HB:=bB hb;clear hb o5;obtain⟨H5,H6,rfl⟩:=Kd.R_slice H4.out)|(go_at_call 14;(with_reducible refine(Czv.calls k _ _ b8 b9 _ ?_ ?_ o2.out).mono ?_);exact cR H4;exact lR H4;rintro e H7 ⟨rfl,hb⟩;replace o6:=rB o6 hb;replace p9:=rB p9 hb;replace t2:=rB t2 hb;replace t3:=rB t3 hb;replace C2:=rB C2 hb;replace C8:=rB C8 hb;replace D2:=rB D2 hb;replace D3:=rB D3 hb;replace G6:=rB G6 hb;replace H4:=rB H4 hb;replace t6:=kb t6 hb;replace D6:=kb D6 hb;replace HB:=bB hb;clear hb))
    go_ret
    exact⟨eW,pB⟩
   ·obtain rfl:=bN n9;rw[if_neg nF] at H
    exact absurd H (by simp)
  ·obtain rfl:=bN n4;rw[if_neg nF] at H
   exact absurd H (by simp)
 ·rw[if_neg c8] at H;exact absurd H (by simp)


mutual
def Azm.j0:Nat→Int→List Int→Bool→Option (Int × Int)
 | 0,_,_,_=>none
 | k+1,x0,x1,x14=>if x14=true then(some (0,1)) else(if(x1.length:Int)=0 then(some (0,10)) else(if(x1.length:Int) > 512 then(some (0,8)) else(Azm.l0 k x0 x1 0)))
def Azm.l0:Nat→Int→List Int→Int→Option (Int × Int)
 | 0,_,_,_=>none
 | k+1,x0,x1,x6=>if x6 < (x1.length:Int) then(if 0≤x6 then(if(rd x1 x6) < 0 then(some (0,1)) else(if(rd x1 x6) > 1125899906842624 then(some (0,1)) else(Azm.l0 k x0 x1 (wrap64 (x6+1))))) else(none)) else(Azm.l1 k x0 x1 0 0)
def Azm.l1:Nat→Int→List Int→Int→Int→Option (Int × Int)
 | 0,_,_,_,_=>none
 | k+1,x0,x1,x7,x8=>if x8 < (x1.length:Int) then(if 0≤x8 then(Azm.l1 k x0 x1 (wrap64 (x7+(rd x1 x8))) (wrap64 (x8+1))) else(none)) else(if x7 > 1125899906842624 then(some (0,2)) else(if x7=0 then(if x0=0 then(some (x7,0)) else(some (0,16))) else(some (x7,0))))
end
def Azm.f (k:Nat) (a0:Int) (l1:List Int):Option (Int × Int):=if a0 < 0 then(Azm.j0 k a0 l1 true) else(Azm.j0 k a0 l1 (decide (a0 > 1125899906842624)))
theorem Azm.mono_l:∀ k,(∀ a6 a7 a8,LeO (Azm.j0 k a6 a7 a8) (Azm.j0 (k+1) a6 a7 a8))∧(∀ a6 a7 a8,LeO (Azm.l0 k a6 a7 a8) (Azm.l0 (k+1) a6 a7 a8))∧(∀ a6 a7 a8 a9,LeO (Azm.l1 k a6 a7 a8 a9) (Azm.l1 (k+1) a6 a7 a8 a9))
 | 0=>⟨fun _ _ _ r h=>by simp [Azm.j0] at h,fun _ _ _ r h=>by simp [Azm.l0] at h,fun _ _ _ _ r h=>by simp [Azm.l1] at h⟩
 | k+1=>by
  obtain⟨ih0,ih1,ih2⟩:=Azm.mono_l k;refine⟨?_,?_,?_⟩
  ·intro a6 a7 a8;unfold Azm.j0;exact mM
  ·intro a6 a7 a8;unfold Azm.l0;exact mM
  ·intro a6 a7 a8 a9;unfold Azm.l1;exact mM
theorem Azm.mono:∀ a6 a7 k,LeO (Azm.f k a6 a7) (Azm.f (k+1) a6 a7):=by
 intro a6 a7 k;obtain⟨ih0,ih1,ih2⟩:=Azm.mono_l k;unfold Azm.f;exact mM
theorem Azm.calls (k:Nat) (a6:Int) (a7:Option Addr) (a8:Nat) (l1:List Int) (a9:Int) (b3:Int) (w:World) (b4:Kd.C (Kd.int .i64) w a7 l1.length l1) (b5:l1.length≤a8) (h:Azm.f k a6 l1=some (a9,b3)) :
  Calls Try.prog 56 #[.int .i64 a6,.slice a7 l1.length a8] w fun e w'=>e=.returned (.tuple #[.int .i64 a9,.int .i64 b3])∧Drawn0 w w':=by
 have b6:=aM b4;have b7:=aM b5;clear b4 b5;have H:(if a6 < 0 then(Azm.j0 k a6 l1 true) else(Azm.j0 k a6 l1 (decide (a6 > 1125899906842624))))=some (a9,b3):=h
 clear h;have b8:=aM H;clear H;go_enter Try.func56,Try.ntmps56
 go_upto_region 1 with (fail)
 go_cut [14] (fun b9 wc=>∃ (kq:Nat) (d0:Bool),b9=.bool d0∧Aside0 (Azm.j0 kq a6 l1 d0=some (a9,b3))∧Aside0 (kq≤k)∧Drawn0 w wc)
 case first =>
  have H:=b8.out;clear b8;by_cases c4:a6 < 0
  ·rw[if_pos c4] at H;have d1:=dE c4;clear c4;(first|rw[d1]|(simp only[i64_w,i32_w];rw[d1])|skip)
   have H':=aM H;clear H;go_wp2
   go_meet
   case rel=>exact⟨_,(true),sD,H',⟨by first|omega|exact Nat.le_refl _⟩,dR⟩
  ·rw[if_neg c4] at H;have d1:decide (a6 < 0)=false:=decide_eq_false c4;clear c4;(first|rw[d1]|(simp only[i64_w,i32_w];rw[d1])|skip)
   have H':=aM H;clear H;go_wp2
   go_meet
   case rel=>exact⟨_,(decide (a6 > 1125899906842624)),sD,H',⟨by first|omega|exact Nat.le_refl _⟩,dR⟩
 case rest =>
  clear b8;try clear a8
  obtain⟨kq,d0,rfl,HA,d3,⟨mc2,rfl⟩⟩:=hcut;cases kq with
  | zero=>exact absurd HA.out (by simp [Azm.j0])
  | succ d4 =>
   have H:=HA.out;clear HA;simp only[Azm.j0] at H;by_cases c5:d0=true
   ·subst c5;rw[if_pos rfl] at H;obtain⟨rfl,rfl⟩:=q2 H;go_wp2
    go_ret2
    exact⟨sD,dR⟩
   ·obtain rfl:=bN c5;rw[if_neg nF] at H
    by_cases c6:(l1.length:Int)=0
    ·rw[if_pos c6] at H;obtain⟨d5,d6⟩:=bE c6;clear c6;obtain⟨rfl,rfl⟩:=q2 H;go_wp2
     go_ret2
     exact⟨sD,dR⟩
    ·rw[if_neg c6] at H;obtain⟨d5,d6⟩:=bI c6;have d7:¬ (l1=[]):=fun h_=>c6 (by rw[h_];rfl)
     by_cases c7:(l1.length:Int) > 512
     ·rw[if_pos c7] at H;have d8:decide (512 < (l1.length:Int))=true:=dE c7;have d9:decide (512 < l1.length)=true:=dE (by omega)
      clear c7;obtain⟨rfl,rfl⟩:=q2 H;go_wp2
      go_ret2
      exact⟨sD,dR⟩
     ·rw[if_neg c7] at H;have d8:decide (512 < (l1.length:Int))=false:=decide_eq_false c7;have d9:decide (512 < l1.length)=false:=decide_eq_false (by omega)
      clear c7;have H':=aM H;clear H;go_wp2
      go_loopg [6] d4 (fun kq e6 w'=>∃ (e7:Int),e6=.int .i64 e7∧Aside0 (Azm.l0 kq a6 l1 e7=some (a9,b3))∧Aside0 (kq≤d4)∧Drawn0 w w')
      case atStart=>exact⟨(0),sD,H',⟨Nat.le_refl _⟩,dR⟩
      case round =>
       clear H';try clear a8
       obtain⟨e7,rfl,HA,e8,⟨f3,rfl⟩⟩:=hrel;cases gk with
       | zero=>exact absurd HA.out (by simp [Azm.l0])
       | succ k2 =>
        have H:=HA.out;clear HA;simp only[Azm.l0] at H;by_cases c8:e7 < (l1.length:Int)
        ·rw[if_pos c8] at H;have f4:=dE c8;clear c8;obtain⟨f5,H⟩:=iN H;by_cases c10:(rd l1 e7) < 0
         ·rw[if_pos c10] at H;have f6:=dE c10;clear c10;obtain⟨rfl,rfl⟩:=q2 H;obtain⟨f7,f8,f9,g6,g7⟩:=aI b6.out e7;cases f8;go_wp2
          go_ret2
          exact⟨sD,dR⟩
         ·rw[if_neg c10] at H;have f6:decide ((rd l1 e7) < 0)=false:=decide_eq_false c10;clear c10;by_cases g8:(rd l1 e7) > 1125899906842624
          ·rw[if_pos g8] at H;have g9:decide (1125899906842624 < (rd l1 e7))=true:=dE g8;clear g8;obtain⟨rfl,rfl⟩:=q2 H;obtain⟨f7,f8,f9,g6,g7⟩:=aI b6.out e7;cases f8;obtain⟨j5,j9,l5,l6,l7⟩:=aI b6.out e7;obtain rfl:f7=j5:=(by injection j9);go_wp2
           go_ret2
           exact⟨sD,dR⟩
          ·rw[if_neg g8] at H;have g9:decide (1125899906842624 < (rd l1 e7))=false:=decide_eq_false g8;clear g8;have H':=aM H;clear H;obtain⟨f7,f8,f9,g6,g7⟩:=aI b6.out e7;cases f8;obtain⟨j5,j9,l5,l6,l7⟩:=aI b6.out e7;obtain rfl:f7=j5:=(by injection j9);go_wp2
           go_roundg k2
           case measure=>have:=d3.out;have:=e8.out;omega
           case rel=>exact⟨(wrap64 (e7+1)),sD,H',⟨by have:=d3.out;have:=e8.out;omega⟩,dR⟩
        ·rw[if_neg c8] at H;have f4:decide (e7 < (l1.length:Int))=false:=decide_eq_false c8;clear c8;have H':=aM H;clear H;go_wp2
         go_loopg [7,8] k2 (fun kq l8 l9 w'=>∃ (m4:Int) (m5:Int),l8=.int .i64 m4∧l9=.int .i64 m5∧Aside0 (Azm.l1 kq a6 l1 m4 m5=some (a9,b3))∧Aside0 (kq≤k2)∧Drawn0 w w')
         case atStart=>exact⟨(0),(0),sD,sD,H',⟨Nat.le_refl _⟩,dR⟩
         case round =>
          clear H';try clear a8
          obtain⟨m4,m5,rfl,rfl,HA,m6,⟨m7,rfl⟩⟩:=hrel;cases gk with
          | zero=>exact absurd HA.out (by simp [Azm.l1])
          | succ k3 =>
           have H:=HA.out;clear HA;simp only[Azm.l1] at H;by_cases m8:m5 < (l1.length:Int)
           ·rw[if_pos m8] at H;have m9:=dE m8;clear m8;obtain⟨n0,H⟩:=iN H;have H':=aM H;clear H;obtain⟨n1,n2,n3,n4,n5⟩:=aI b6.out m5;cases n2;go_wp2
            go_roundg k3
            case measure=>have:=d3.out;have:=e8.out;have:=m6.out;omega
            case rel=>exact⟨(wrap64 (m4+(rd l1 m5))),(wrap64 (m5+1)),sD,sD,H',⟨by have:=d3.out;have:=e8.out;have:=m6.out;omega⟩,dR⟩
           ·rw[if_neg m8] at H;have m9:decide (m5 < (l1.length:Int))=false:=decide_eq_false m8;clear m8;by_cases n6:m4 > 1125899906842624
            ·rw[if_pos n6] at H;have n7:decide (1125899906842624 < m4)=true:=dE n6;clear n6;obtain⟨rfl,rfl⟩:=q2 H;go_wp2
             go_ret2
             exact⟨sD,dR⟩
            ·rw[if_neg n6] at H;have n7:decide (1125899906842624 < m4)=false:=decide_eq_false n6;clear n6;by_cases n8:m4=0
             ·rw[if_pos n8] at H;obtain⟨n9,o0⟩:=bE n8;clear n8;by_cases o1:a6=0
              ·rw[if_pos o1] at H;obtain⟨o2,o3⟩:=bE o1;clear o1;obtain⟨rfl,rfl⟩:=q2 H;go_wp2
               go_ret2
               exact⟨sD,dR⟩
              ·rw[if_neg o1] at H;obtain⟨o2,o3⟩:=bI o1;obtain⟨rfl,rfl⟩:=q2 H;go_wp2
               go_ret2
               exact⟨sD,dR⟩
             ·rw[if_neg n8] at H;obtain⟨n9,o0⟩:=bI n8;obtain⟨rfl,rfl⟩:=q2 H;go_wp2
              go_ret2
              exact⟨sD,dR⟩


mutual
def Azf.l0:Nat→Int→Int→Int→Int→Int→Int→Option (Int × Int)
 | 0,_,_,_,_,_,_=>none
 | k+1,x0,x1,x2,x8,x9,x10=>if x10≥0 then(if 0≤x10 then(if(Go.bits .and .i64 (shr .i64 x1 x10) 1)=1 then(Azf.j1 k x0 x1 x2 (wrap64 (2 * x8)) (wrap64 ((wrap64 (2 * x9))+x0)) x10) else(Azf.j1 k x0 x1 x2 (wrap64 (2 * x8)) (wrap64 (2 * x9)) x10)) else(none)) else(some (x8,x9))
def Azf.j1:Nat→Int→Int→Int→Int→Int→Int→Option (Int × Int)
 | 0,_,_,_,_,_,_=>none
 | k+1,x0,x1,x2,x8,x9,x10=>Azf.l1 k x0 x1 x2 x8 x9 x10
def Azf.l1:Nat→Int→Int→Int→Int→Int→Int→Option (Int × Int)
 | 0,_,_,_,_,_,_=>none
 | k+1,x0,x1,x2,x8,x9,x10=>if x9≥x2 then(Azf.l1 k x0 x1 x2 (wrap64 (x8+1)) (wrap64 (x9 - x2)) x10) else(Azf.l0 k x0 x1 x2 x8 x9 (wrap64 (x10 - 1)))
end
def Azf.f (k:Nat) (a0:Int) (a1:Int) (a2:Int):Option (Int × Int):=Azf.l0 k a0 a1 a2 0 0 50
theorem Azf.mono_l:∀ k,(∀ a6 a7 a8 a9 b3 b4,LeO (Azf.l0 k a6 a7 a8 a9 b3 b4) (Azf.l0 (k+1) a6 a7 a8 a9 b3 b4))∧(∀ a6 a7 a8 a9 b3 b4,LeO (Azf.j1 k a6 a7 a8 a9 b3 b4) (Azf.j1 (k+1) a6 a7 a8 a9 b3 b4))∧(∀ a6 a7 a8 a9 b3 b4,LeO (Azf.l1 k a6 a7 a8 a9 b3 b4) (Azf.l1 (k+1) a6 a7 a8 a9 b3 b4))
 | 0=>⟨fun _ _ _ _ _ _ r h=>by simp [Azf.l0] at h,fun _ _ _ _ _ _ r h=>by simp [Azf.j1] at h,fun _ _ _ _ _ _ r h=>by simp [Azf.l1] at h⟩
 | k+1=>by
  obtain⟨ih0,ih1,ih2⟩:=Azf.mono_l k;refine⟨?_,?_,?_⟩
  ·intro a6 a7 a8 a9 b3 b4;unfold Azf.l0;exact mM
  ·intro a6 a7 a8 a9 b3 b4;unfold Azf.j1;exact mM
  ·intro a6 a7 a8 a9 b3 b4;unfold Azf.l1;exact mM
theorem Azf.mono:∀ a6 a7 a8 k,LeO (Azf.f k a6 a7 a8) (Azf.f (k+1) a6 a7 a8):=by
 intro a6 a7 a8 k;obtain⟨ih0,ih1,ih2⟩:=Azf.mono_l k;unfold Azf.f;exact mM
theorem Azf.calls (k:Nat) (a6:Int) (a7:Int) (a8:Int) (a9:Int) (b3:Int) (w:World) (h:Azf.f k a6 a7 a8=some (a9,b3)) :
  Calls Try.prog 57 #[.int .i64 a6,.int .i64 a7,.int .i64 a8] w fun e w'=>e=.returned (.tuple #[.int .i64 a9,.int .i64 b3])∧Drawn0 w w':=by
 have H:(Azf.l0 k a6 a7 a8 0 0 50)=some (a9,b3):=h;clear h;have H':=aM H;clear H;go_enter Try.func57,Try.ntmps57
 go_wp2
 go_loopg [8,9,10] k (fun kq b4 b5 b6 w'=>∃ (b7:Int) (b8:Int) (b9:Int),b4=.int .i64 b7∧b5=.int .i64 b8∧b6=.int .i64 b9∧Aside0 (Azf.l0 kq a6 a7 a8 b7 b8 b9=some (a9,b3))∧Aside0 (kq≤k)∧Drawn0 w w')
 case atStart=>exact⟨(0),(0),(50),sD,sD,sD,H',⟨Nat.le_refl _⟩,dR⟩
 case round =>
  clear H';try clear p2
  obtain⟨b7,b8,b9,rfl,rfl,rfl,HA,d0,⟨d1,rfl⟩⟩:=hrel;cases gk with
  | zero=>exact absurd HA.out (by simp [Azf.l0])
  | succ k1 =>
   have H:=HA.out;clear HA;simp only[Azf.l0] at H;by_cases c4:b9≥0
   ·rw[if_pos c4] at H;have d3:decide (0≤b9)=true:=dE c4;clear c4;obtain⟨c5,H⟩:=iO H;have d4:=eq_true c5;have d5:decide (0≤b9)=true:=dE c5;clear c5;obtain⟨d6,d7⟩:∃ j_:Int,(shr .i64 a7 b9)=j_:=⟨_,rfl⟩;replace H:(if(Go.bits .and .i64 (d6) 1)=1 then(Azf.j1 k1 a6 a7 a8 (wrap64 (2 * b7)) (wrap64 ((wrap64 (2 * b8))+a6)) b9) else(Azf.j1 k1 a6 a7 a8 (wrap64 (2 * b7)) (wrap64 (2 * b8)) b9))=some (a9,b3):=by first|(rw[d7] at H;exact H)|(simp only[d7] at H ⊢;exact H)
    have d8:(a7 / 2 ^ min b9.toNat 64)=d6:=d7;have d9:b9≤64→(a7 / 2 ^ b9.toNat)=d6:=shr_small d7;have e6:=aM H;clear H;go_upto_if 23 with (fail)
    go_cut [9] (fun b5 wc=>∃ (kq:Nat) (e7:Int),b5=.int .i64 e7∧Aside0 (Azf.j1 kq a6 a7 a8 (wrap64 (2 * b7)) e7 b9=some (a9,b3))∧Aside0 (kq≤k1)∧Drawn0 w wc)
    case first =>
     have H:=e6.out;clear e6;by_cases c8:(Go.bits .and .i64 (d6) 1)=1
     ·rw[if_pos c8] at H;obtain⟨e8,f3⟩:=bE c8;clear c8;(first|rw[e8]|(simp only[i64_w,i32_w];rw[e8])|skip)
      have H':=aM H;clear H;go_wp2
      go_meet
      case rel=>exact⟨_,(wrap64 ((wrap64 (2 * b8))+a6)),sD,H',⟨by have:=d0.out;first|omega|exact Nat.le_refl _⟩,dR⟩
     ·rw[if_neg c8] at H;obtain⟨e8,f3⟩:=bI c8;(first|rw[e8]|(simp only[i64_w,i32_w];rw[e8])|skip)
      have H':=aM H;clear H;go_wp2
      go_meet
      case rel=>exact⟨_,(wrap64 (2 * b8)),sD,H',⟨by have:=d0.out;first|omega|exact Nat.le_refl _⟩,dR⟩
    case rest =>
     clear e6;try clear p2
     obtain⟨kq,e7,rfl,HA,f4,⟨mc6,rfl⟩⟩:=hcut;cases kq with
     | zero=>exact absurd HA.out (by simp [Azf.j1])
     | succ f5 =>
      have H:=HA.out;clear HA;simp only[Azf.j1] at H;have H':=aM H;clear H;go_wp2
      go_loopg [8,9] f5 (fun kq b4 b5 w'=>∃ (f6:Int) (f7:Int),b4=.int .i64 f6∧b5=.int .i64 f7∧Aside0 (Azf.l1 kq a6 a7 a8 f6 f7 b9=some (a9,b3))∧Aside0 (kq≤f5)∧Drawn0 w w')
      case atStart=>exact⟨((wrap64 (2 * b7))),(e7),sD,sD,H',⟨Nat.le_refl _⟩,dR⟩
      case round =>
       clear H';try clear p2
       obtain⟨f6,f7,rfl,rfl,HA,f8,⟨f9,rfl⟩⟩:=hrel;cases gk with
       | zero=>exact absurd HA.out (by simp [Azf.l1])
       | succ k3 =>
        have H:=HA.out;clear HA;simp only[Azf.l1] at H;by_cases c9:f7≥a8
        ·rw[if_pos c9] at H;have g6:decide (a8≤f7)=true:=dE c9;clear c9;have H':=aM H;clear H;go_wp2
         go_roundg k3
         case measure=>have:=d0.out;have:=f4.out;have:=f8.out;omega
         case rel=>exact⟨(wrap64 (f6+1)),(wrap64 (f7 - a8)),sD,sD,H',⟨by have:=d0.out;have:=f4.out;have:=f8.out;omega⟩,dR⟩
        ·rw[if_neg c9] at H;have g6:decide (a8≤f7)=false:=decide_eq_false c9;clear c9;have H':=aM H;clear H;go_wp2
         go_roundg k3
         case measure=>have:=d0.out;have:=f4.out;have:=f8.out;omega
         case rel=>exact⟨(f6),(f7),(wrap64 (b9 - 1)),sD,sD,sD,H',⟨by have:=d0.out;have:=f4.out;have:=f8.out;omega⟩,dR⟩
   ·rw[if_neg c4] at H;have d3:decide (0≤b9)=false:=decide_eq_false c4;clear c4;obtain⟨rfl,rfl⟩:=q2 H;go_wp2
    go_ret2
    exact⟨sD,dR⟩

end Go.Proofs.Ytnklckihalhlmaa.Print
