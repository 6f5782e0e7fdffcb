import Derived.Test.YtnklckihalhlmaaPrint0
import Derived.Test.YtnklckihalhlmaaPrint28
import Derived.Test.YtnklckihalhlmaaPrint32
namespace Go.Proofs.Ytnklckihalhlmaa.Print
open Go.RowKit Go.Proofs.YtnklckihalhlmaaW.PrintWords Go.Proofs.YtnklckihalhlmaaW.PrintLast Go.Proofs.YtnklckihalhlmaaW.PrintMore
attribute [local go_sem] max2_int min2_int max_two min_two max_three min_three max_four min_four
set_option linter.unusedVariables false
set_option maxRecDepth 100000
set_option maxHeartbeats 8000000
set_option linter.unusedSimpArgs false

def Czm.j0:Nat→Int→Int→Bool→Option (Bool × List Int × List Int × Int)
 | 0,_,_,_=>none
 | k+1,x0,x1,x22=>if x22=true then(some (false,([]:List Int),([]:List Int),1)) else(if x1=0 then(some (false,([]:List Int),([]:List Int),16)) else((Ezm.f k x0 x1).bind fun bt454=>(if bt454.2.2.2=0 then((Gzb.f k 1000000).bind fun bt463=>(if bt463.2.2.2=0 then((Fzm.f k bt454.1 bt454.2.1 bt454.2.2.1 bt463.1 bt463.2.1 bt463.2.2.1).bind fun bt472=>(some (bt472.1,bt472.2.1,bt472.2.2.1,bt472.2.2.2))) else(some (false,([]:List Int),([]:List Int),bt463.2.2.2)))) else(some (false,([]:List Int),([]:List Int),bt454.2.2.2)))))
def Czm.f (k:Nat) (a0:Int) (a1:Int):Option (Bool × List Int × List Int × Int):=if a0 < 0 then(Czm.j0 k a0 a1 true) else(if a0 > 1125899906842624 then(Czm.j0 k a0 a1 true) else(if a1 < 0 then(Czm.j0 k a0 a1 true) else(Czm.j0 k a0 a1 (decide (a1 > 1099511627776)))))
theorem Czm.mono_l:∀ k,(∀ a6 a7 a8,LeO (Czm.j0 k a6 a7 a8) (Czm.j0 (k+1) a6 a7 a8))
 | 0=>fun _ _ _ r h=>by simp [Czm.j0] at h
 | k+1=>by
  have ih0:=Czm.mono_l k
  ·intro a6 a7 a8;unfold Czm.j0;have i0:=@Ezm.mono;have i1:=@Fzm.mono;have i2:=@Gzb.mono;exact mM
theorem Czm.mono:∀ a6 a7 k,LeO (Czm.f k a6 a7) (Czm.f (k+1) a6 a7):=by
 intro a6 a7 k;have ih0:=Czm.mono_l k;unfold Czm.f;have i0:=@Ezm.mono;have i1:=@Fzm.mono;have i2:=@Gzb.mono;exact mM
theorem Czm.calls (k:Nat) (a6:Int) (a7:Int) (a8:Bool) (a9:List Int) (b3:List Int) (b4:Int) (w:World) (h:Czm.f k a6 a7=some (a8,a9,b3,b4)) :
  Calls Try.prog 20 #[.int .i64 a6,.int .i64 a7] w fun e w'=>∃ v1_ v2_:Value,e=.returned (.tuple #[.agg #[.bool a8,v1_,v2_],.int .i64 b4])∧Kd.R (Kd.int .i64) 3 w' w.heap.size (fun k_=>some k_≠(v2_:Value).ownBlock) v1_ a9∧Kd.R (Kd.int .i64) 3 w' w.heap.size (fun k_=>some k_≠(v1_:Value).ownBlock) v2_ b3∧Below w.heap.size w w':=by
 have hu39:=Try.underlying39;have HB:=aM (Below.refl w.heap.size w);have H:(if a6 < 0 then(Czm.j0 k a6 a7 true) else(if a6 > 1125899906842624 then(Czm.j0 k a6 a7 true) else(if a7 < 0 then(Czm.j0 k a6 a7 true) else(Czm.j0 k a6 a7 (decide (a7 > 1099511627776))))))=some (a8,a9,b3,b4):=h
 clear h;have b5:=aM H;clear H;go_enter Try.func20,Try.ntmps20
 go_upto_region 1 with (first|((with_reducible refine gd 4 rfl ?_);refine bx #[.bool false,.slice none 0 0,.slice none 0 0] 39 ?_;intro b6 hg b7 b8 hb;have b9:=gA w hg;have d0:=gA w hg;replace HB:=bB hb;clear hb hg))
 (try simp only[Act.put,sA,sZ,sC])
 go_cut [22] (fun d1 wc=>∃ (kq:Nat) (d3:Bool),d1=.bool d3∧Aside0 (Czm.j0 kq a6 a7 d3=some (a8,a9,b3,b4))∧Aside0 (kq≤k)∧Aside0 (wc.heap[b6]?=some (.cells #[.bool false,(.slice none 0 0),(.slice none 0 0)] 39 (0,0)))∧Aside0 (Below w.heap.size w wc))
 case first =>
  have H:=b5.out;clear b5;by_cases c5:a6 < 0
  ·rw[if_pos c5] at H;have d4:=dE c5;clear c5;(first|rw[d4]|(simp only[i64_w,i32_w];rw[d4])|skip)
   have H':=aM H;clear H;go_wp2
   go_meet
   case rel=>exact⟨_,(true),sD,H',⟨by first|omega|exact Nat.le_refl _⟩,⟨by exact kW b8⟩,⟨pB⟩⟩
  ·rw[if_neg c5] at H;have d4:decide (a6 < 0)=false:=decide_eq_false c5;clear c5;(first|rw[d4]|(simp only[i64_w,i32_w];rw[d4])|skip)
   by_cases c6:a6 > 1125899906842624
   ·rw[if_pos c6] at H;have d5:decide (1125899906842624 < a6)=true:=dE c6;clear c6;have H':=aM H;clear H;go_wp2
    go_meet
    case rel=>exact⟨_,(true),sD,H',⟨by first|omega|exact Nat.le_refl _⟩,⟨by exact kW b8⟩,⟨pB⟩⟩
   ·rw[if_neg c6] at H;have d5:decide (1125899906842624 < a6)=false:=decide_eq_false c6;clear c6;by_cases c7:a7 < 0
    ·rw[if_pos c7] at H;have d6:=dE c7;clear c7;have H':=aM H;clear H;go_wp2
     go_meet
     case rel=>exact⟨_,(true),sD,H',⟨by first|omega|exact Nat.le_refl _⟩,⟨by exact kW b8⟩,⟨pB⟩⟩
    ·rw[if_neg c7] at H;have d6:decide (a7 < 0)=false:=decide_eq_false c7;clear c7;have H':=aM H;clear H;go_wp2
     go_meet
     case rel=>exact⟨_,(decide (a7 > 1099511627776)),sD,H',⟨by first|omega|exact Nat.le_refl _⟩,⟨by exact kW b8⟩,⟨pB⟩⟩
 case rest =>
  clear b5;try clear c2
  obtain⟨kq,d3,rfl,HA,d7,b8,HB⟩:=hcut;cases kq with
  | zero=>exact absurd HA.out (by simp [Czm.j0])
  | succ d8 =>
   have H:=HA.out;clear HA;simp only[Czm.j0] at H;by_cases c8:d3=true
   ·subst c8;rw[if_pos rfl] at H;obtain⟨rfl,rfl,rfl,rfl⟩:=q4 H;obtain⟨d9,e6,e7,e8,f3,f4⟩:=bk3 b8;go_wp2
    refine bodyPost_ret (results_ct rfl _ _ b6 39 #[.bool false,.slice none 0 0,.slice none 0 0] (0,0) _ rfl (kQ b8) Try.underlying39 rfl (by kernel_rfl)) rfl ?_
    exact⟨_,_,eW,nK,nK,pB⟩
   ·obtain rfl:=bN c8;rw[if_neg nF] at H
    by_cases c10:a7=0
    ·rw[if_pos c10] at H;obtain⟨f5,f6⟩:=bE c10;clear c10;obtain⟨rfl,rfl,rfl,rfl⟩:=q4 H;obtain⟨f7,f8,f9,g6,g7,g8⟩:=bk3 b8;go_wp2
     refine bodyPost_ret (results_ct rfl _ _ b6 39 #[.bool false,.slice none 0 0,.slice none 0 0] (0,0) _ rfl (kQ b8) Try.underlying39 rfl (by kernel_rfl)) rfl ?_
     exact⟨_,_,eW,nK,nK,pB⟩
    ·rw[if_neg c10] at H;obtain⟨f5,f6⟩:=bI c10;obtain⟨⟨g9,j5,j9,l5⟩,l6,H⟩:=bT H;(try dsimp only at H);by_cases l7:l5=0
     ·rw[if_pos l7] at H;obtain⟨l8,l9⟩:=bE l7;clear l7;obtain⟨⟨m4,m5,m6,m7⟩,m8,H⟩:=bT H;(try dsimp only at H);by_cases m9:m7=0
      ·rw[if_pos m9] at H;obtain⟨n0,n1⟩:=bE m9;clear m9;replace H:=bS H;obtain⟨⟨n2,n3,n4,n5⟩,n6,H⟩:=H;replace H:(some (n2,n3,n4,n5))=some (a8,a9,b3,b4):=H;have n7:=aM n6;clear n6;obtain⟨rfl,rfl,rfl,rfl⟩:=q4 H;go_wp2_with (first|((with_reducible refine gc 38 rfl ?_);refine gC 38 (some 30) Try.func38 #[.int .i64 a6,.int .i64 a7] ?_;(with_reducible refine(Ezm.calls d8 a6 a7 g9 j5 j9 l5 _ l6.out).mono ?_);rintro e n8 ⟨n9,o0,rfl,o1,o2,hb⟩;refine⟨_,rfl,?_⟩;have o3:=rL o1;have o4:=rL o2;replace b8:=kb b8 hb;replace HB:=bB hb;clear hb o1 o2)|((with_reducible refine gd 6 rfl ?_);refine bx #[.bool false,.slice none 0 0,.slice none 0 0] 39 ?_;intro o5 hg o6 o7 hb;have o8:=gA w hg;have o9:=gA w hg;have p3:=nl hg b8;have p7:=ng hg b8;replace o3:=rB o3 hb;replace o4:=rB o4 hb;replace b8:=kb b8 hb;replace HB:=bB hb;clear hb hg;have p9:=p7.out;have r5:=p3.out;obtain⟨r6,r7,r8,r9,t0,t1⟩:=bk3 o7;obtain⟨t2,t3,rfl⟩:=Kd.R_slice o3.out;obtain⟨t4,t5,rfl⟩:=Kd.R_slice o4.out)|((with_reducible refine gc 39 rfl ?_);refine gC 39 (some 38) Try.func39 #[.int .i64 1000000] ?_;(with_reducible refine(Gzb.calls d8 1000000 m4 m5 m6 m7 _ m8.out).mono ?_);rintro e t6 ⟨t7,t8,rfl,o1,o2,hb⟩;refine⟨_,rfl,?_⟩;have t9:=rL (Kd.R_new' (Kd.R_new' o1 (Kd.R_lt (rT o3 o7))) (Kd.R_lt (rT o4 o7)));have z3:=rL (Kd.R_new' (Kd.R_new' o2 (Kd.R_lt (rT o3 o7))) (Kd.R_lt (rT o4 o7)));replace o3:=ro (rT o3 o7) hb o1 o2;replace o4:=ro (rT o4 o7) hb o1 o2;replace b8:=kF b8 p3 hb;replace o7:=kP (o':=.cells #[.bool g9,.slice t2 j5.length t3,.slice t4 j9.length t5] 39 (0,0)) o7 hb;replace HB:=bB hb;clear hb o1 o2)|((with_reducible refine gd 8 rfl ?_);refine bx #[.bool false,.slice none 0 0,.slice none 0 0] 39 ?_;intro z4 hg z5 z6 hb;have z7:=gA w hg;have z8:=gA w hg;have z9:=nl hg b8;have B0:=ng hg b8;have B1:=nl hg o7;have B8:=ng hg o7;replace o3:=rB o3 hb;replace o4:=rB o4 hb;replace t9:=rB t9 hb;replace z3:=rB z3 hb;replace b8:=kb b8 hb;replace o7:=kb o7 hb;replace HB:=bB hb;clear hb hg;have C0:=B0.out;have C1:=z9.out;have C2:=B8.out;have C3:=B1.out;obtain⟨C4,C6,C7,C8,C9,D0⟩:=bk3 z6;obtain⟨D1,D2,rfl⟩:=Kd.R_slice t9.out;obtain⟨D3,D4,rfl⟩:=Kd.R_slice z3.out;obtain⟨D5,D6,D7,D8,D9,E3⟩:=bk3 o7)|((with_reducible refine gc 40 rfl ?_);refine gC 40 (some 47) Try.func40 #[.agg #[.bool g9,.slice t2 j5.length t3,.slice t4 j9.length t5],.agg #[.bool m4,.slice D1 m5.length D2,.slice D3 m6.length D4]] ?_;(with_reducible refine(Fzm.calls d8 g9 _ _ j5 _ _ j9 m4 _ _ m5 _ _ m6 n2 n3 n4 n5 _ ?_ ?_ ?_ ?_ ?_ ?_ ?_ ?_ n7.out).mono ?_);(focus(refine(Kd.R_reads' (e:=3) (base:=w.heap.size) (ok:=fun k_=>((some k_≠(.slice t4 j9.length t5:Value).ownBlock∧some k_≠(.slice D1 m5.length D2:Value).ownBlock)∧some k_≠(.slice D3 m6.length D4:Value).ownBlock)) (n:=j5.length) (c:=t3) ?_).2.2;exact(rT o3 z6)));exact lR o3;(focus(refine(Kd.R_reads' (e:=3) (base:=w.heap.size) (ok:=fun k_=>((some k_≠(.slice t2 j5.length t3:Value).ownBlock∧some k_≠(.slice D1 m5.length D2:Value).ownBlock)∧some k_≠(.slice D3 m6.length D4:Value).ownBlock)) (n:=j9.length) (c:=t5) ?_).2.2;exact(rT o4 z6)));exact lR o4;(focus(refine(Kd.R_reads' (e:=3) (base:=w.heap.size) (ok:=fun k_=>((some k_≠(.slice D3 m6.length D4:Value).ownBlock∧some k_≠(.slice t2 j5.length t3:Value).ownBlock)∧some k_≠(.slice t4 j9.length t5:Value).ownBlock)) (n:=m5.length) (c:=D2) ?_).2.2;exact(rT t9 z6)));exact lR t9;(focus(refine(Kd.R_reads' (e:=3) (base:=w.heap.size) (ok:=fun k_=>((some k_≠(.slice D1 m5.length D2:Value).ownBlock∧some k_≠(.slice t2 j5.length t3:Value).ownBlock)∧some k_≠(.slice t4 j9.length t5:Value).ownBlock)) (n:=m6.length) (c:=D4) ?_).2.2;exact(rT z3 z6)));exact lR z3;rintro e E4 ⟨E5,E6,rfl,o1,o2,hb⟩;refine⟨_,rfl,?_⟩;have E7:=rL (Kd.R_new' (Kd.R_new' (Kd.R_new' (Kd.R_new' o1 (Kd.R_lt (rT o3 z6))) (Kd.R_lt (rT o4 z6))) (Kd.R_lt (rT t9 z6))) (Kd.R_lt (rT z3 z6)));have E8:=rL (Kd.R_new' (Kd.R_new' (Kd.R_new' (Kd.R_new' o2 (Kd.R_lt (rT o3 z6))) (Kd.R_lt (rT o4 z6))) (Kd.R_lt (rT t9 z6))) (Kd.R_lt (rT z3 z6)));replace o3:=ro (rT o3 z6) hb o1 o2;replace o4:=ro (rT o4 z6) hb o1 o2;replace t9:=ro (rT t9 z6) hb o1 o2;replace z3:=ro (rT z3 z6) hb o1 o2;replace b8:=kF b8 z9 hb;replace o7:=kF o7 B1 hb;replace z6:=kP (o':=.cells #[.bool m4,.slice D1 m5.length D2,.slice D3 m6.length D4] 39 (0,0)) z6 hb;replace HB:=bB hb;clear hb o1 o2;obtain⟨E9,F0,F1,F2,F3,F4⟩:=bk3 b8;obtain⟨F5,F6,rfl⟩:=Kd.R_slice E7.out;obtain⟨F7,F8,rfl⟩:=Kd.R_slice E8.out))
       refine bodyPost_ret (results_ct rfl _ _ b6 39 #[.bool n2,.slice F5 n3.length F6,.slice F7 n4.length F8] (0,0) _ rfl (kQ b8) Try.underlying39 rfl (by kernel_rfl)) rfl ?_
       exact⟨_,_,eW,by exact Kd.R_mono (rT E7 b8) (fun _ hk=>hk.1.1.1.1),by exact Kd.R_mono (rT E8 b8) (fun _ hk=>hk.1.1.1.1),pB⟩
      ·rw[if_neg m9] at H;obtain⟨n0,n1⟩:=bI m9;obtain⟨rfl,rfl,rfl,rfl⟩:=q4 H;go_wp2_with (first|((with_reducible refine gc 38 rfl ?_);refine gC 38 (some 30) Try.func38 #[.int .i64 a6,.int .i64 a7] ?_;(with_reducible refine(Ezm.calls d8 a6 a7 g9 j5 j9 l5 _ l6.out).mono ?_);rintro e F9 ⟨n9,o0,rfl,o1,o2,hb⟩;refine⟨_,rfl,?_⟩;have o3:=rL o1;have o4:=rL o2;replace b8:=kb b8 hb;replace HB:=bB hb;clear hb o1 o2)|((with_reducible refine gd 6 rfl ?_);refine bx #[.bool false,.slice none 0 0,.slice none 0 0] 39 ?_;intro o5 hg G0 o7 hb;have o8:=gA w hg;have o9:=gA w hg;have p3:=nl hg b8;have p7:=ng hg b8;replace o3:=rB o3 hb;replace o4:=rB o4 hb;replace b8:=kb b8 hb;replace HB:=bB hb;clear hb hg;have G1:=p7.out;have G2:=p3.out;obtain⟨G3,G4,G5,G6,G7,G8⟩:=bk3 o7;obtain⟨G9,H1,rfl⟩:=Kd.R_slice o3.out;obtain⟨H2,H3,rfl⟩:=Kd.R_slice o4.out)|((with_reducible refine gc 39 rfl ?_);refine gC 39 (some 38) Try.func39 #[.int .i64 1000000] ?_;(with_reducible refine(Gzb.calls d8 1000000 m4 m5 m6 m7 _ m8.out).mono ?_);rintro e H4 ⟨t7,t8,rfl,o1,o2,hb⟩;refine⟨_,rfl,?_⟩;have t9:=rL (Kd.R_new' (Kd.R_new' o1 (Kd.R_lt (rT o3 o7))) (Kd.R_lt (rT o4 o7)));have z3:=rL (Kd.R_new' (Kd.R_new' o2 (Kd.R_lt (rT o3 o7))) (Kd.R_lt (rT o4 o7)));replace o3:=ro (rT o3 o7) hb o1 o2;replace o4:=ro (rT o4 o7) hb o1 o2;replace b8:=kF b8 p3 hb;replace o7:=kP (o':=.cells #[.bool g9,.slice G9 j5.length H1,.slice H2 j9.length H3] 39 (0,0)) o7 hb;replace HB:=bB hb;clear hb o1 o2)|((with_reducible refine gd 8 rfl ?_);refine bx #[.bool false,.slice none 0 0,.slice none 0 0] 39 ?_;intro z4 hg H5 z6 hb;have z7:=gA w hg;have z8:=gA w hg;have z9:=nl hg b8;have B0:=ng hg b8;have B1:=nl hg o7;have B8:=ng hg o7;replace o3:=rB o3 hb;replace o4:=rB o4 hb;replace t9:=rB t9 hb;replace z3:=rB z3 hb;replace b8:=kb b8 hb;replace o7:=kb o7 hb;replace HB:=bB hb;clear hb hg;have H6:=B0.out;have H7:=z9.out;have H8:=B8.out;have H9:=B1.out;obtain⟨I0,I1,I2,I3,I4,I5⟩:=bk3 z6;obtain⟨I6,I7,rfl⟩:=Kd.R_slice t9.out;obtain⟨I8,I9,rfl⟩:=Kd.R_slice z3.out;obtain⟨J0,J1,J2,J3,J4,J5⟩:=bk3 b8))
       refine bodyPost_ret (results_ct rfl _ _ b6 39 #[.bool false,.slice none 0 0,.slice none 0 0] (0,0) _ rfl (by refine bD ?_;refine blk_put (cs:=#[.bool false,.slice none 0 0,.slice none 0 0]) ?_ 2 _ rfl;refine bD ?_;refine blk_put (cs:=#[.bool false,.slice none 0 0,.slice none 0 0]) ?_ 1 _ rfl;refine bD ?_;refine blk_put (cs:=#[.bool false,.slice none 0 0,.slice none 0 0]) ?_ 0 _ rfl;refine bD ?_;refine blk_far ?_ z9.out _;refine bD ?_;refine blk_far ?_ z9.out _;refine bD ?_;refine blk_far ?_ z9.out _;(with_reducible repeat(first|refine blk_drewN ?_ _|refine blk_drew ?_|refine blk_alloc ?_ _));exact b8.out) Try.underlying39 rfl (by kernel_rfl)) rfl ?_
       exact⟨_,_,eW,nK,nK,pB⟩
     ·rw[if_neg l7] at H;obtain⟨l8,l9⟩:=bI l7;obtain⟨rfl,rfl,rfl,rfl⟩:=q4 H;go_wp2_with (first|((with_reducible refine gc 38 rfl ?_);refine gC 38 (some 30) Try.func38 #[.int .i64 a6,.int .i64 a7] ?_;(with_reducible refine(Ezm.calls d8 a6 a7 g9 j5 j9 l5 _ l6.out).mono ?_);rintro e J6 ⟨n9,o0,rfl,o1,o2,hb⟩;refine⟨_,rfl,?_⟩;have o3:=rL o1;have o4:=rL o2;replace b8:=kb b8 hb;replace HB:=bB hb;clear hb o1 o2)|((with_reducible refine gd 6 rfl ?_);refine bx #[.bool false,.slice none 0 0,.slice none 0 0] 39 ?_;intro o5 hg J7 o7 hb;have o8:=gA w hg;have o9:=gA w hg;have p3:=nl hg b8;have p7:=ng hg b8;replace o3:=rB o3 hb;replace o4:=rB o4 hb;replace b8:=kb b8 hb;replace HB:=bB hb;clear hb hg;have J8:=p7.out;have J9:=p3.out;obtain⟨K0,K1,K2,K3,K4,K5⟩:=bk3 o7;obtain⟨K6,K7,rfl⟩:=Kd.R_slice o3.out;obtain⟨K8,K9,rfl⟩:=Kd.R_slice o4.out;obtain⟨L0,L3,L4,L5,L6,L7⟩:=bk3 b8))
      refine bodyPost_ret (results_ct rfl _ _ b6 39 #[.bool false,.slice none 0 0,.slice none 0 0] (0,0) _ rfl (by refine bD ?_;refine blk_put (cs:=#[.bool false,.slice none 0 0,.slice none 0 0]) ?_ 2 _ rfl;refine bD ?_;refine blk_put (cs:=#[.bool false,.slice none 0 0,.slice none 0 0]) ?_ 1 _ rfl;refine bD ?_;refine blk_put (cs:=#[.bool false,.slice none 0 0,.slice none 0 0]) ?_ 0 _ rfl;refine bD ?_;refine blk_far ?_ p3.out _;refine bD ?_;refine blk_far ?_ p3.out _;refine bD ?_;refine blk_far ?_ p3.out _;(with_reducible repeat(first|refine blk_drewN ?_ _|refine blk_drew ?_|refine blk_alloc ?_ _));exact b8.out) Try.underlying39 rfl (by kernel_rfl)) rfl ?_
      exact⟨_,_,eW,nK,nK,pB⟩

def Czw.l0:Nat→List Int→List Int→Int→Option (Bool)
 | 0,_,_,_=>none
 | k+1,x0,x1,x5=>if x5 < (x0.length:Int) then(if 0≤x5 then(if x5 < (x1.length:Int) then(if(rd x0 x5)=(rd x1 x5) then(Czw.l0 k x0 x1 (wrap64 (x5+1))) else(some false)) else(none)) else(none)) else(some true)
def Czw.f (k:Nat) (l0:List Int) (l1:List Int):Option (Bool):=if(l0.length:Int)=(l1.length:Int) then(Czw.l0 k l0 l1 0) else(some false)
theorem Czw.mono_l:∀ k,(∀ a6 a7 a8,LeO (Czw.l0 k a6 a7 a8) (Czw.l0 (k+1) a6 a7 a8))
 | 0=>fun _ _ _ r h=>by simp [Czw.l0] at h
 | k+1=>by
  have ih0:=Czw.mono_l k
  ·intro a6 a7 a8;unfold Czw.l0;exact mM
theorem Czw.mono:∀ a6 a7 k,LeO (Czw.f k a6 a7) (Czw.f (k+1) a6 a7):=by
 intro a6 a7 k;have ih0:=Czw.mono_l k;unfold Czw.f;exact mM
theorem Czw.calls (k:Nat) (a6:Option Addr) (a7:Nat) (l0:List Int) (a8:Option Addr) (a9:Nat) (l1:List Int) (r:Bool) (w:World) (b3:Kd.C (Kd.int .i64) w a6 l0.length l0) (b4:l0.length≤a7) (b5:Kd.C (Kd.int .i64) w a8 l1.length l1) (b6:l1.length≤a9) (h:Czw.f k l0 l1=some r) :
  Calls Try.prog 22 #[.slice a6 l0.length a7,.slice a8 l1.length a9] w fun e w'=>e=.returned (.bool r)∧Drawn0 w w':=by
 have b7:=aM b3;have b8:=aM b4;clear b3 b4;have b9:=aM b5;have d0:=aM b6;clear b5 b6;have H:(if(l0.length:Int)=(l1.length:Int) then(Czw.l0 k l0 l1 0) else(some false))=some r:=h
 clear h;by_cases c3:(l0.length:Int)=(l1.length:Int)
 ·rw[if_pos c3] at H;obtain⟨d1,d3⟩:=bE c3;have d4:(l0.length == l1.length)=true:=by first|simpa using c3|(simp at c3 ⊢;omega)
  clear c3;have H':=aM H;clear H;go_enter Try.func22,Try.ntmps22
  go_wp2
  repeat(go_quiet (fail);try go_wp2)
  go_loopg [5] k (fun kq d5 w'=>∃ (d6:Int),d5=.int .i64 d6∧Aside0 (Czw.l0 kq l0 l1 d6=some r)∧Aside0 (kq≤k)∧Drawn0 w w')
  case atStart=>exact⟨(0),sD,H',⟨Nat.le_refl _⟩,dR⟩
  case round =>
   clear H';try clear a9
   obtain⟨d6,rfl,HA,d7,⟨d8,rfl⟩⟩:=hrel;cases gk with
   | zero=>exact absurd HA.out (by simp [Czw.l0])
   | succ k1 =>
    have H:=HA.out;clear HA;simp only[Czw.l0] at H;by_cases c4:d6 < (l0.length:Int)
    ·rw[if_pos c4] at H;have d9:=dE c4;clear c4;obtain⟨e6,H⟩:=iN H;obtain⟨e7,H⟩:=iN H;by_cases c7:(rd l0 d6)=(rd l1 d6)
     ·rw[if_pos c7] at H;obtain⟨e8,f3⟩:=bE c7;clear c7;have H':=aM H;clear H;obtain⟨f4,f5,f6,f7,f8⟩:=aI b7.out d6;cases f5;obtain⟨f9,g6,g7,g8,g9⟩:=aI b9.out d6;cases g6;go_wp2
      repeat(go_quiet (fail);try go_wp2)
      go_roundg k1
      case measure=>have:=d7.out;omega
      case rel=>exact⟨(wrap64 (d6+1)),sD,H',⟨by have:=d7.out;omega⟩,dR⟩
     ·rw[if_neg c7] at H;obtain⟨e8,f3⟩:=bI c7;obtain rfl:=Option.some.inj H;obtain⟨f4,f5,f6,f7,f8⟩:=aI b7.out d6;cases f5;obtain⟨f9,g6,g7,g8,g9⟩:=aI b9.out d6;cases g6;go_wp2
      repeat(go_quiet (fail);try go_wp2)
      go_ret
      exact⟨sD,dR⟩
    ·rw[if_neg c4] at H;have d9:decide (d6 < (l0.length:Int))=false:=decide_eq_false c4;clear c4;obtain rfl:=Option.some.inj H;go_wp2
     repeat(go_quiet (fail);try go_wp2)
     go_ret
     exact⟨sD,dR⟩
 ·rw[if_neg c3] at H;obtain⟨d1,d3⟩:=bI c3;have d4:(l0.length == l1.length)=false:=by first|simpa using c3|(simp at c3 ⊢;omega)
  obtain rfl:=Option.some.inj H;go_enter Try.func22,Try.ntmps22
  go_wp2
  repeat(go_quiet (fail);try go_wp2)
  go_ret
  exact⟨sD,dR⟩

end Go.Proofs.Ytnklckihalhlmaa.Print
