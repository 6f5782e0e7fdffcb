import Derived.Test.YtnklckihalhlmaaPrint0
import Derived.Test.YtnklckihalhlmaaPrint25
import Derived.Test.YtnklckihalhlmaaPrint29
namespace Go.Proofs.Ytnklckihalhlmaa.Print
open Go.RowKit Go.Proofs.YtnklckihalhlmaaW.PrintWords Go.Proofs.YtnklckihalhlmaaW.PrintLast Go.Proofs.YtnklckihalhlmaaW.PrintMore
attribute [local go_sem] max2_int min2_int max_two min_two max_three min_three max_four min_four
set_option linter.unusedVariables false
set_option maxRecDepth 100000
set_option maxHeartbeats 8000000
set_option linter.unusedSimpArgs false

def Bzx.j0:Nat→Int→Int→Bool→Option (Bool × List Int × List Int × Int)
 | 0,_,_,_=>none
 | k+1,x0,x1,x22=>if x22=true then(some (false,([]:List Int),([]:List Int),1)) else(if x1=0 then(some (false,([]:List Int),([]:List Int),16)) else((Ezx.f k x0 x1).bind fun bt409=>(if bt409.2.2.2=0 then((Gzp.f k 1000000).bind fun bt418=>(if bt418.2.2.2=0 then((Fzx.f k bt409.1 bt409.2.1 bt409.2.2.1 bt418.1 bt418.2.1 bt418.2.2.1).bind fun bt427=>(some (bt427.1,bt427.2.1,bt427.2.2.1,bt427.2.2.2))) else(some (false,([]:List Int),([]:List Int),bt418.2.2.2)))) else(some (false,([]:List Int),([]:List Int),bt409.2.2.2)))))
def Bzx.f (k:Nat) (a0:Int) (a1:Int):Option (Bool × List Int × List Int × Int):=if a0 < 0 then(Bzx.j0 k a0 a1 true) else(if a0 > 1125899906842624 then(Bzx.j0 k a0 a1 true) else(if a1 < 0 then(Bzx.j0 k a0 a1 true) else(Bzx.j0 k a0 a1 (decide (a1 > 1099511627776)))))
theorem Bzx.mono_l:∀ k,(∀ y0 y1 y2,LeO (Bzx.j0 k y0 y1 y2) (Bzx.j0 (k+1) y0 y1 y2))
 | 0=>fun _ _ _ r h=>by simp [Bzx.j0] at h
 | k+1=>by
  have ih0:=Bzx.mono_l k
  ·intro y0 y1 y2;unfold Bzx.j0;have i0:=@Ezx.mono;have i1:=@Fzx.mono;have i2:=@Gzp.mono;exact mM
theorem Bzx.mono:∀ a0 a1 k,LeO (Bzx.f k a0 a1) (Bzx.f (k+1) a0 a1):=by
 intro a0 a1 k;have ih0:=Bzx.mono_l k;unfold Bzx.f;have i0:=@Ezx.mono;have i1:=@Fzx.mono;have i2:=@Gzp.mono;exact mM
theorem Bzx.calls (k:Nat) (a0:Int) (a1:Int) (r1:Bool) (r2:List Int) (r3:List Int) (r4:Int) (w:World) (h:Bzx.f k a0 a1=some (r1,r2,r3,r4)) :
  Calls Try.prog 20 #[.int .i64 a0,.int .i64 a1] w fun e w'=>∃ v1_ v2_:Value,e=.returned (.tuple #[.agg #[.bool r1,v1_,v2_],.int .i64 r4])∧Kd.R (Kd.int .i64) 3 w' w.heap.size (fun k_=>some k_≠(v2_:Value).ownBlock) v1_ r2∧Kd.R (Kd.int .i64) 3 w' w.heap.size (fun k_=>some k_≠(v1_:Value).ownBlock) v2_ r3∧Below w.heap.size w w':=by
 have hu39:=Try.underlying39;have HB:=aM (Below.refl w.heap.size w);have H:(if a0 < 0 then(Bzx.j0 k a0 a1 true) else(if a0 > 1125899906842624 then(Bzx.j0 k a0 a1 true) else(if a1 < 0 then(Bzx.j0 k a0 a1 true) else(Bzx.j0 k a0 a1 (decide (a1 > 1099511627776))))))=some (r1,r2,r3,r4):=h
 clear h;have HC3:=aM H;clear H;go_enter Try.func20,Try.ntmps20
 go_upto_region 1 with (first|((with_reducible refine gd 4 rfl ?_);refine bx #[.bool false,.slice none 0 0,.slice none 0 0] 39 ?_;intro gb408 hg w4 BK408 hb;have GW408:=gA w hg;have GE408:=gA w hg;replace HB:=bB hb;clear hb hg))
 (try simp only[Act.put,sA,sZ,sC])
 go_cut [22] (fun v22 wc=>∃ (kq:Nat) (x22_2:Bool),v22=.bool x22_2∧Aside0 (Bzx.j0 kq a0 a1 x22_2=some (r1,r2,r3,r4))∧Aside0 (kq≤k)∧Aside0 (wc.heap[gb408]?=some (.cells #[.bool false,(.slice none 0 0),(.slice none 0 0)] 39 (0,0)))∧Aside0 (Below w.heap.size w wc))
 case first =>
  have H:=HC3.out;clear HC3;by_cases c5:a0 < 0
  ·rw[if_pos c5] at H;have c5b0:=dE c5;clear c5;(first|rw[c5b0]|(simp only[i64_w,i32_w];rw[c5b0])|skip)
   have H':=aM H;clear H;go_wp2
   go_meet
   case rel=>exact⟨_,(true),sD,H',⟨by first|omega|exact Nat.le_refl _⟩,⟨by(with_reducible repeat(first|refine blk_drewN ?_ _|refine blk_drew ?_|refine blk_alloc ?_ _));exact BK408.out⟩,⟨pB⟩⟩
  ·rw[if_neg c5] at H;have c5b0:decide (a0 < 0)=false:=decide_eq_false c5;clear c5;(first|rw[c5b0]|(simp only[i64_w,i32_w];rw[c5b0])|skip)
   by_cases c6:a0 > 1125899906842624
   ·rw[if_pos c6] at H;have c6b0:decide (1125899906842624 < a0)=true:=dE c6;clear c6;have H':=aM H;clear H;go_wp2
    go_meet
    case rel=>exact⟨_,(true),sD,H',⟨by first|omega|exact Nat.le_refl _⟩,⟨by(with_reducible repeat(first|refine blk_drewN ?_ _|refine blk_drew ?_|refine blk_alloc ?_ _));exact BK408.out⟩,⟨pB⟩⟩
   ·rw[if_neg c6] at H;have c6b0:decide (1125899906842624 < a0)=false:=decide_eq_false c6;clear c6;by_cases c7:a1 < 0
    ·rw[if_pos c7] at H;have c7b0:=dE c7;clear c7;have H':=aM H;clear H;go_wp2
     go_meet
     case rel=>exact⟨_,(true),sD,H',⟨by first|omega|exact Nat.le_refl _⟩,⟨by(with_reducible repeat(first|refine blk_drewN ?_ _|refine blk_drew ?_|refine blk_alloc ?_ _));exact BK408.out⟩,⟨pB⟩⟩
    ·rw[if_neg c7] at H;have c7b0:decide (a1 < 0)=false:=decide_eq_false c7;clear c7;have H':=aM H;clear H;go_wp2
     go_meet
     case rel=>exact⟨_,(decide (a1 > 1099511627776)),sD,H',⟨by first|omega|exact Nat.le_refl _⟩,⟨by(with_reducible repeat(first|refine blk_drewN ?_ _|refine blk_drew ?_|refine blk_alloc ?_ _));exact BK408.out⟩,⟨pB⟩⟩
 case rest =>
  clear HC3;try clear c2
  try clear p2
  try clear c5
  try clear c5b0
  try clear c6
  try clear c6b0
  try clear c7
  try clear c7b0
  obtain⟨kq,x22_2,rfl,HA,HJ2,BK408,HB⟩:=hcut;cases kq with
  | zero=>exact absurd HA.out (by simp [Bzx.j0])
  | succ kj2 =>
   have H:=HA.out;clear HA;simp only[Bzx.j0] at H;by_cases c8:x22_2=true
   ·subst c8;rw[if_pos rfl] at H;obtain⟨rfl,rfl,rfl,rfl⟩:=q4 H;obtain⟨hcz9_0,hcz9_1,hcz9_2,hfz9_0,hfz9_1,hfz9_2⟩:=bk3 BK408;go_wp2
    refine bodyPost_ret (results_ct rfl _ _ gb408 39 #[.bool false,.slice none 0 0,.slice none 0 0] (0,0) _ rfl (kQ BK408) Try.underlying39 rfl (by kernel_rfl)) rfl ?_
    exact⟨_,_,eW,nK,nK,pB⟩
   ·obtain rfl:=bN c8;rw[if_neg nF] at H
    by_cases c10:a1=0
    ·rw[if_pos c10] at H;have c10b0:(a1 == 0)=true:=beq_iff_eq.mpr c10;have c10b1:(a1 != 0)=false:=bne_eq_false_iff_eq.mpr c10;clear c10;obtain⟨rfl,rfl,rfl,rfl⟩:=q4 H;obtain⟨hcz11_0,hcz11_1,hcz11_2,hfz11_0,hfz11_1,hfz11_2⟩:=bk3 BK408;go_wp2
     refine bodyPost_ret (results_ct rfl _ _ gb408 39 #[.bool false,.slice none 0 0,.slice none 0 0] (0,0) _ rfl (kQ BK408) Try.underlying39 rfl (by kernel_rfl)) rfl ?_
     exact⟨_,_,eW,nK,nK,pB⟩
    ·rw[if_neg c10] at H;have c10b0:(a1 == 0)=false:=beq_eq_false_iff_ne.mpr c10;have c10b1:(a1 != 0)=true:=bne_iff_ne.mpr c10;obtain⟨⟨t409,t410,t413,t416⟩,A12,H⟩:=bT H;(try dsimp only at H);by_cases c13:t416=0
     ·rw[if_pos c13] at H;have c13b0:(t416 == 0)=true:=beq_iff_eq.mpr c13;have c13b1:(t416 != 0)=false:=bne_eq_false_iff_eq.mpr c13;clear c13;obtain⟨⟨t418,t419,t422,t425⟩,A14,H⟩:=bT H;(try dsimp only at H);by_cases c15:t425=0
      ·rw[if_pos c15] at H;have c15b0:(t425 == 0)=true:=beq_iff_eq.mpr c15;have c15b1:(t425 != 0)=false:=bne_eq_false_iff_eq.mpr c15;clear c15;replace H:=bS H;obtain⟨⟨t427,t428,t431,t434⟩,A160,H⟩:=H;replace H:(some (t427,t428,t431,t434))=some (r1,r2,r3,r4):=H;have A16:=aM A160;clear A160;obtain⟨rfl,rfl,rfl,rfl⟩:=q4 H;go_wp2_with (first|((with_reducible refine gc 38 rfl ?_);refine gC 38 (some 30) Try.func38 #[.int .i64 a0,.int .i64 a1] ?_;(with_reducible refine(Ezx.calls kj2 a0 a1 t409 t410 t413 t416 _ A12.out).mono ?_);rintro e w17 ⟨v411,v414,rfl,ho0,ho1,hb⟩;refine⟨_,rfl,?_⟩;have HO412:=rL ho0;have HO415:=rL ho1;replace BK408:=kb BK408 hb;replace HB:=bB hb;clear hb ho0 ho1)|((with_reducible refine gd 6 rfl ?_);refine bx #[.bool false,.slice none 0 0,.slice none 0 0] 39 ?_;intro gb417 hg w18 BK417 hb;have GW417:=gA w hg;have GE417:=gA w hg;have NB408_417:=nl hg BK408;have NB417_408:=ng hg BK408;replace HO412:=rB HO412 hb;replace HO415:=rB HO415 hb;replace BK408:=kb BK408 hb;replace HB:=bB hb;clear hb hg;have hnb19:=NB417_408.out;have hnc19:=NB408_417.out;obtain⟨hcz20_0,hcz20_1,hcz20_2,hfz20_0,hfz20_1,hfz20_2⟩:=bk3 BK417;obtain⟨Ao21,co21,rfl⟩:=Kd.R_slice HO412.out;obtain⟨Ao22,co22,rfl⟩:=Kd.R_slice HO415.out)|((with_reducible refine gc 39 rfl ?_);refine gC 39 (some 38) Try.func39 #[.int .i64 1000000] ?_;(with_reducible refine(Gzp.calls kj2 1000000 t418 t419 t422 t425 _ A14.out).mono ?_);rintro e w23 ⟨v420,v423,rfl,ho0,ho1,hb⟩;refine⟨_,rfl,?_⟩;have HO421:=rL (Kd.R_new' (Kd.R_new' ho0 (Kd.R_lt (rT HO412 BK417))) (Kd.R_lt (rT HO415 BK417)));have HO424:=rL (Kd.R_new' (Kd.R_new' ho1 (Kd.R_lt (rT HO412 BK417))) (Kd.R_lt (rT HO415 BK417)));replace HO412:=ro (rT HO412 BK417) hb ho0 ho1;replace HO415:=ro (rT HO415 BK417) hb ho0 ho1;replace BK408:=kF BK408 NB408_417 hb;replace BK417:=kP (o':=.cells #[.bool t409,.slice Ao21 t410.length co21,.slice Ao22 t413.length co22] 39 (0,0)) BK417 hb;replace HB:=bB hb;clear hb ho0 ho1)|((with_reducible refine gd 8 rfl ?_);refine bx #[.bool false,.slice none 0 0,.slice none 0 0] 39 ?_;intro gb426 hg w24 BK426 hb;have GW426:=gA w hg;have GE426:=gA w hg;have NB408_426:=nl hg BK408;have NB426_408:=ng hg BK408;have NB417_426:=nl hg BK417;have NB426_417:=ng hg BK417;replace HO412:=rB HO412 hb;replace HO415:=rB HO415 hb;replace HO421:=rB HO421 hb;replace HO424:=rB HO424 hb;replace BK408:=kb BK408 hb;replace BK417:=kb BK417 hb;replace HB:=bB hb;clear hb hg;have hnb25:=NB426_408.out;have hnc25:=NB408_426.out;have hnb26:=NB426_417.out;have hnc26:=NB417_426.out;obtain⟨hcz27_0,hcz27_1,hcz27_2,hfz27_0,hfz27_1,hfz27_2⟩:=bk3 BK426;obtain⟨Ao28,co28,rfl⟩:=Kd.R_slice HO421.out;obtain⟨Ao29,co29,rfl⟩:=Kd.R_slice HO424.out;obtain⟨hcz30_0,hcz30_1,hcz30_2,hfz30_0,hfz30_1,hfz30_2⟩:=bk3 BK417)|((with_reducible refine gc 40 rfl ?_);refine gC 40 (some 47) Try.func40 #[.agg #[.bool t409,.slice Ao21 t410.length co21,.slice Ao22 t413.length co22],.agg #[.bool t418,.slice Ao28 t419.length co28,.slice Ao29 t422.length co29]] ?_;(with_reducible refine(Fzx.calls kj2 t409 _ _ t410 _ _ t413 t418 _ _ t419 _ _ t422 t427 t428 t431 t434 _ ?side1 ?side2 ?side3 ?side4 ?side5 ?side6 ?side7 ?side8 A16.out).mono ?_);(case side1=>refine(Kd.R_reads' (e:=3) (base:=w.heap.size) (ok:=fun k_=>((some k_≠(.slice Ao22 t413.length co22:Value).ownBlock∧some k_≠(.slice Ao28 t419.length co28:Value).ownBlock)∧some k_≠(.slice Ao29 t422.length co29:Value).ownBlock)) (n:=t410.length) (c:=co21) ?_).2.2;exact(rT HO412 BK426));(case side2=>exact lR HO412);(case side3=>refine(Kd.R_reads' (e:=3) (base:=w.heap.size) (ok:=fun k_=>((some k_≠(.slice Ao21 t410.length co21:Value).ownBlock∧some k_≠(.slice Ao28 t419.length co28:Value).ownBlock)∧some k_≠(.slice Ao29 t422.length co29:Value).ownBlock)) (n:=t413.length) (c:=co22) ?_).2.2;exact(rT HO415 BK426));(case side4=>exact lR HO415);(case side5=>refine(Kd.R_reads' (e:=3) (base:=w.heap.size) (ok:=fun k_=>((some k_≠(.slice Ao29 t422.length co29:Value).ownBlock∧some k_≠(.slice Ao21 t410.length co21:Value).ownBlock)∧some k_≠(.slice Ao22 t413.length co22:Value).ownBlock)) (n:=t419.length) (c:=co28) ?_).2.2;exact(rT HO421 BK426));(case side6=>exact lR HO421);(case side7=>refine(Kd.R_reads' (e:=3) (base:=w.heap.size) (ok:=fun k_=>((some k_≠(.slice Ao28 t419.length co28:Value).ownBlock∧some k_≠(.slice Ao21 t410.length co21:Value).ownBlock)∧some k_≠(.slice Ao22 t413.length co22:Value).ownBlock)) (n:=t422.length) (c:=co29) ?_).2.2;exact(rT HO424 BK426));(case side8=>exact lR HO424);rintro e w31 ⟨v429,v432,rfl,ho0,ho1,hb⟩;refine⟨_,rfl,?_⟩;have HO430:=rL (Kd.R_new' (Kd.R_new' (Kd.R_new' (Kd.R_new' ho0 (Kd.R_lt (rT HO412 BK426))) (Kd.R_lt (rT HO415 BK426))) (Kd.R_lt (rT HO421 BK426))) (Kd.R_lt (rT HO424 BK426)));have HO433:=rL (Kd.R_new' (Kd.R_new' (Kd.R_new' (Kd.R_new' ho1 (Kd.R_lt (rT HO412 BK426))) (Kd.R_lt (rT HO415 BK426))) (Kd.R_lt (rT HO421 BK426))) (Kd.R_lt (rT HO424 BK426)));replace HO412:=ro (rT HO412 BK426) hb ho0 ho1;replace HO415:=ro (rT HO415 BK426) hb ho0 ho1;replace HO421:=ro (rT HO421 BK426) hb ho0 ho1;replace HO424:=ro (rT HO424 BK426) hb ho0 ho1;replace BK408:=kF BK408 NB408_426 hb;replace BK417:=kF BK417 NB417_426 hb;replace BK426:=kP (o':=.cells #[.bool t418,.slice Ao28 t419.length co28,.slice Ao29 t422.length co29] 39 (0,0)) BK426 hb;replace HB:=bB hb;clear hb ho0 ho1;obtain⟨hcz32_0,hcz32_1,hcz32_2,hfz32_0,hfz32_1,hfz32_2⟩:=bk3 BK408;obtain⟨Ao33,co33,rfl⟩:=Kd.R_slice HO430.out;obtain⟨Ao34,co34,rfl⟩:=Kd.R_slice HO433.out))
       refine bodyPost_ret (results_ct rfl _ _ gb408 39 #[.bool t427,.slice Ao33 t428.length co33,.slice Ao34 t431.length co34] (0,0) _ rfl (kQ BK408) Try.underlying39 rfl (by kernel_rfl)) rfl ?_
       exact⟨_,_,eW,by exact Kd.R_mono (rT HO430 BK408) (fun _ hk=>hk.1.1.1.1),by exact Kd.R_mono (rT HO433 BK408) (fun _ hk=>hk.1.1.1.1),pB⟩
      ·rw[if_neg c15] at H;have c15b0:(t425 == 0)=false:=beq_eq_false_iff_ne.mpr c15;have c15b1:(t425 != 0)=true:=bne_iff_ne.mpr c15;obtain⟨rfl,rfl,rfl,rfl⟩:=q4 H;go_wp2_with (first|((with_reducible refine gc 38 rfl ?_);refine gC 38 (some 30) Try.func38 #[.int .i64 a0,.int .i64 a1] ?_;(with_reducible refine(Ezx.calls kj2 a0 a1 t409 t410 t413 t416 _ A12.out).mono ?_);rintro e w35 ⟨v411,v414,rfl,ho0,ho1,hb⟩;refine⟨_,rfl,?_⟩;have HO412:=rL ho0;have HO415:=rL ho1;replace BK408:=kb BK408 hb;replace HB:=bB hb;clear hb ho0 ho1)|((with_reducible refine gd 6 rfl ?_);refine bx #[.bool false,.slice none 0 0,.slice none 0 0] 39 ?_;intro gb417 hg w36 BK417 hb;have GW417:=gA w hg;have GE417:=gA w hg;have NB408_417:=nl hg BK408;have NB417_408:=ng hg BK408;replace HO412:=rB HO412 hb;replace HO415:=rB HO415 hb;replace BK408:=kb BK408 hb;replace HB:=bB hb;clear hb hg;have hnb37:=NB417_408.out;have hnc37:=NB408_417.out;obtain⟨hcz38_0,hcz38_1,hcz38_2,hfz38_0,hfz38_1,hfz38_2⟩:=bk3 BK417;obtain⟨Ao39,co39,rfl⟩:=Kd.R_slice HO412.out;obtain⟨Ao40,co40,rfl⟩:=Kd.R_slice HO415.out)|((with_reducible refine gc 39 rfl ?_);refine gC 39 (some 38) Try.func39 #[.int .i64 1000000] ?_;(with_reducible refine(Gzp.calls kj2 1000000 t418 t419 t422 t425 _ A14.out).mono ?_);rintro e w41 ⟨v420,v423,rfl,ho0,ho1,hb⟩;refine⟨_,rfl,?_⟩;have HO421:=rL (Kd.R_new' (Kd.R_new' ho0 (Kd.R_lt (rT HO412 BK417))) (Kd.R_lt (rT HO415 BK417)));have HO424:=rL (Kd.R_new' (Kd.R_new' ho1 (Kd.R_lt (rT HO412 BK417))) (Kd.R_lt (rT HO415 BK417)));replace HO412:=ro (rT HO412 BK417) hb ho0 ho1;replace HO415:=ro (rT HO415 BK417) hb ho0 ho1;replace BK408:=kF BK408 NB408_417 hb;replace BK417:=kP (o':=.cells #[.bool t409,.slice Ao39 t410.length co39,.slice Ao40 t413.length co40] 39 (0,0)) BK417 hb;replace HB:=bB hb;clear hb ho0 ho1)|((with_reducible refine gd 8 rfl ?_);refine bx #[.bool false,.slice none 0 0,.slice none 0 0] 39 ?_;intro gb426 hg w42 BK426 hb;have GW426:=gA w hg;have GE426:=gA w hg;have NB408_426:=nl hg BK408;have NB426_408:=ng hg BK408;have NB417_426:=nl hg BK417;have NB426_417:=ng hg BK417;replace HO412:=rB HO412 hb;replace HO415:=rB HO415 hb;replace HO421:=rB HO421 hb;replace HO424:=rB HO424 hb;replace BK408:=kb BK408 hb;replace BK417:=kb BK417 hb;replace HB:=bB hb;clear hb hg;have hnb43:=NB426_408.out;have hnc43:=NB408_426.out;have hnb44:=NB426_417.out;have hnc44:=NB417_426.out;obtain⟨hcz45_0,hcz45_1,hcz45_2,hfz45_0,hfz45_1,hfz45_2⟩:=bk3 BK426;obtain⟨Ao46,co46,rfl⟩:=Kd.R_slice HO421.out;obtain⟨Ao47,co47,rfl⟩:=Kd.R_slice HO424.out;obtain⟨hcz48_0,hcz48_1,hcz48_2,hfz48_0,hfz48_1,hfz48_2⟩:=bk3 BK408))
       refine bodyPost_ret (results_ct rfl _ _ gb408 39 #[.bool false,.slice none 0 0,.slice none 0 0] (0,0) _ rfl (by refine bD ?_;refine blk_put (cs:=#[.bool false,.slice none 0 0,.slice none 0 0]) ?_ 2 _ rfl;refine bD ?_;refine blk_put (cs:=#[.bool false,.slice none 0 0,.slice none 0 0]) ?_ 1 _ rfl;refine bD ?_;refine blk_put (cs:=#[.bool false,.slice none 0 0,.slice none 0 0]) ?_ 0 _ rfl;refine bD ?_;refine blk_far ?_ NB408_426.out _;refine bD ?_;refine blk_far ?_ NB408_426.out _;refine bD ?_;refine blk_far ?_ NB408_426.out _;(with_reducible repeat(first|refine blk_drewN ?_ _|refine blk_drew ?_|refine blk_alloc ?_ _));exact BK408.out) Try.underlying39 rfl (by kernel_rfl)) rfl ?_
       exact⟨_,_,eW,nK,nK,pB⟩
     ·rw[if_neg c13] at H;have c13b0:(t416 == 0)=false:=beq_eq_false_iff_ne.mpr c13;have c13b1:(t416 != 0)=true:=bne_iff_ne.mpr c13;obtain⟨rfl,rfl,rfl,rfl⟩:=q4 H;go_wp2_with (first|((with_reducible refine gc 38 rfl ?_);refine gC 38 (some 30) Try.func38 #[.int .i64 a0,.int .i64 a1] ?_;(with_reducible refine(Ezx.calls kj2 a0 a1 t409 t410 t413 t416 _ A12.out).mono ?_);rintro e w49 ⟨v411,v414,rfl,ho0,ho1,hb⟩;refine⟨_,rfl,?_⟩;have HO412:=rL ho0;have HO415:=rL ho1;replace BK408:=kb BK408 hb;replace HB:=bB hb;clear hb ho0 ho1)|((with_reducible refine gd 6 rfl ?_);refine bx #[.bool false,.slice none 0 0,.slice none 0 0] 39 ?_;intro gb417 hg w50 BK417 hb;have GW417:=gA w hg;have GE417:=gA w hg;have NB408_417:=nl hg BK408;have NB417_408:=ng hg BK408;replace HO412:=rB HO412 hb;replace HO415:=rB HO415 hb;replace BK408:=kb BK408 hb;replace HB:=bB hb;clear hb hg;have hnb51:=NB417_408.out;have hnc51:=NB408_417.out;obtain⟨hcz52_0,hcz52_1,hcz52_2,hfz52_0,hfz52_1,hfz52_2⟩:=bk3 BK417;obtain⟨Ao53,co53,rfl⟩:=Kd.R_slice HO412.out;obtain⟨Ao54,co54,rfl⟩:=Kd.R_slice HO415.out;obtain⟨hcz55_0,hcz55_1,hcz55_2,hfz55_0,hfz55_1,hfz55_2⟩:=bk3 BK408))
      refine bodyPost_ret (results_ct rfl _ _ gb408 39 #[.bool false,.slice none 0 0,.slice none 0 0] (0,0) _ rfl (by refine bD ?_;refine blk_put (cs:=#[.bool false,.slice none 0 0,.slice none 0 0]) ?_ 2 _ rfl;refine bD ?_;refine blk_put (cs:=#[.bool false,.slice none 0 0,.slice none 0 0]) ?_ 1 _ rfl;refine bD ?_;refine blk_put (cs:=#[.bool false,.slice none 0 0,.slice none 0 0]) ?_ 0 _ rfl;refine bD ?_;refine blk_far ?_ NB408_417.out _;refine bD ?_;refine blk_far ?_ NB408_417.out _;refine bD ?_;refine blk_far ?_ NB408_417.out _;(with_reducible repeat(first|refine blk_drewN ?_ _|refine blk_drew ?_|refine blk_alloc ?_ _));exact BK408.out) Try.underlying39 rfl (by kernel_rfl)) rfl ?_
      exact⟨_,_,eW,nK,nK,pB⟩

def Czw.l0:Nat→List Int→List Int→Int→Option (Bool)
 | 0,_,_,_=>none
 | k+1,x0,x1,x5=>if x5 < (x0.length:Int) then(if 0≤x5 then(if x5 < (x1.length:Int) then(if(rd x0 x5)=(rd x1 x5) then(Czw.l0 k x0 x1 (wrap64 (x5+1))) else(some false)) else(none)) else(none)) else(some true)
def Czw.f (k:Nat) (l0:List Int) (l1:List Int):Option (Bool):=if(l0.length:Int)=(l1.length:Int) then(Czw.l0 k l0 l1 0) else(some false)
theorem Czw.mono_l:∀ k,(∀ y0 y1 y2,LeO (Czw.l0 k y0 y1 y2) (Czw.l0 (k+1) y0 y1 y2))
 | 0=>fun _ _ _ r h=>by simp [Czw.l0] at h
 | k+1=>by
  have ih0:=Czw.mono_l k
  ·intro y0 y1 y2;unfold Czw.l0;exact mM
theorem Czw.mono:∀ a0 a1 k,LeO (Czw.f k a0 a1) (Czw.f (k+1) a0 a1):=by
 intro a0 a1 k;have ih0:=Czw.mono_l k;unfold Czw.f;exact mM
theorem Czw.calls (k:Nat) (A0:Option Addr) (c0:Nat) (l0:List Int) (A1:Option Addr) (c1:Nat) (l1:List Int) (r:Bool) (w:World) (hr0:Kd.C (Kd.int .i64) w A0 l0.length l0) (hc0:l0.length≤c0) (hr1:Kd.C (Kd.int .i64) w A1 l1.length l1) (hc1:l1.length≤c1) (h:Czw.f k l0 l1=some r) :
  Calls Try.prog 22 #[.slice A0 l0.length c0,.slice A1 l1.length c1] w fun e w'=>e=.returned (.bool r)∧Drawn0 w w':=by
 have HR0:=aM hr0;have HC0:=aM hc0;clear hr0 hc0;have HR1:=aM hr1;have HC1:=aM hc1;clear hr1 hc1;have H:(if(l0.length:Int)=(l1.length:Int) then(Czw.l0 k l0 l1 0) else(some false))=some r:=h
 clear h;by_cases c3:(l0.length:Int)=(l1.length:Int)
 ·rw[if_pos c3] at H;have c3b0:((l0.length:Int) == (l1.length:Int))=true:=beq_iff_eq.mpr c3;have c3b1:((l0.length:Int) != (l1.length:Int))=false:=bne_eq_false_iff_eq.mpr c3;have c3b2:(l0.length == l1.length)=true:=by first|simpa using c3|(simp at c3 ⊢;omega)
  clear c3;have H':=aM H;clear H;go_enter Try.func22,Try.ntmps22
  go_wp2
  repeat(go_quiet (fail);try go_wp2)
  go_loopg [5] k (fun kq v5 w'=>∃ (x5_1:Int),v5=.int .i64 x5_1∧Aside0 (Czw.l0 kq l0 l1 x5_1=some r)∧Aside0 (kq≤k)∧Drawn0 w w')
  case atStart=>exact⟨(0),sD,H',⟨Nat.le_refl _⟩,dR⟩
  case round =>
   clear H';try clear c1
   try clear c2
   try clear p2
   try clear c3
   try clear c3b0
   try clear c3b1
   try clear c3b2
   obtain⟨x5_1,rfl,HA,HK1,⟨m1,rfl⟩⟩:=hrel;cases gk with
   | zero=>exact absurd HA.out (by simp [Czw.l0])
   | succ k1 =>
    have H:=HA.out;clear HA;simp only[Czw.l0] at H;by_cases c4:x5_1 < (l0.length:Int)
    ·rw[if_pos c4] at H;have c4b0:=dE c4;clear c4;obtain⟨c5b0,H⟩:=iN H;obtain⟨c6b0,H⟩:=iN H;by_cases c7:(rd l0 x5_1)=(rd l1 x5_1)
     ·rw[if_pos c7] at H;have c7b0:((rd l0 x5_1) == (rd l1 x5_1))=true:=beq_iff_eq.mpr c7;have c7b1:((rd l0 x5_1) != (rd l1 x5_1))=false:=bne_eq_false_iff_eq.mpr c7;clear c7;have H':=aM H;clear H;obtain⟨ad435,e435,hx435_0,p435,q435⟩:=aI HR0.out x5_1;cases e435;obtain⟨ad436,e436,hx436_0,p436,q436⟩:=aI HR1.out x5_1;cases e436;go_wp2
      repeat(go_quiet (fail);try go_wp2)
      go_roundg k1
      case measure=>have:=HK1.out;omega
      case rel=>exact⟨(wrap64 (x5_1+1)),sD,H',⟨by have:=HK1.out;omega⟩,dR⟩
     ·rw[if_neg c7] at H;have c7b0:((rd l0 x5_1) == (rd l1 x5_1))=false:=beq_eq_false_iff_ne.mpr c7;have c7b1:((rd l0 x5_1) != (rd l1 x5_1))=true:=bne_iff_ne.mpr c7;obtain rfl:=Option.some.inj H;obtain⟨ad435,e435,hx435_0,p435,q435⟩:=aI HR0.out x5_1;cases e435;obtain⟨ad436,e436,hx436_0,p436,q436⟩:=aI HR1.out x5_1;cases e436;go_wp2
      repeat(go_quiet (fail);try go_wp2)
      go_ret
      exact⟨sD,dR⟩
    ·rw[if_neg c4] at H;have c4b0:decide (x5_1 < (l0.length:Int))=false:=decide_eq_false c4;clear c4;obtain rfl:=Option.some.inj H;go_wp2
     repeat(go_quiet (fail);try go_wp2)
     go_ret
     exact⟨sD,dR⟩
 ·rw[if_neg c3] at H;have c3b0:((l0.length:Int) == (l1.length:Int))=false:=beq_eq_false_iff_ne.mpr c3;have c3b1:((l0.length:Int) != (l1.length:Int))=true:=bne_iff_ne.mpr c3;have c3b2:(l0.length == l1.length)=false:=by first|simpa using c3|(simp at c3 ⊢;omega)
  obtain rfl:=Option.some.inj H;go_enter Try.func22,Try.ntmps22
  go_wp2
  repeat(go_quiet (fail);try go_wp2)
  go_ret
  exact⟨sD,dR⟩

end Go.Proofs.Ytnklckihalhlmaa.Print
