import Derived.Test.YtpjcpgobdiahpaaPrint0
namespace Go.Proofs.Ytpjcpgobdiahpaa.Print
open Go.RowKit Go.Proofs.YtpjcpgobdiahpaaW.PrintWords Go.Proofs.YtpjcpgobdiahpaaW.PrintLast Go.Proofs.YtpjcpgobdiahpaaW.PrintMore
attribute [local go_sem] max2_int min2_int max_two min_two max_three min_three max_four min_four
set_option linter.unusedVariables false
set_option maxRecDepth 100000
set_option maxHeartbeats 8000000
set_option linter.unusedSimpArgs false

def Czf.f (k:Nat) (l0:List Int) (a1:Int):Option (Int):=(Ezm.f l0 a1).bind fun t108=>(if t108=true then((Ezq.f k l0 1099511627776).bind fun t109=>(if t109=true then(some 0) else(some 1))) else(some 17))
theorem Czf.mono:∀ a0 a1 k,LeO (Czf.f k a0 a1) (Czf.f (k+1) a0 a1):=by
 intro a0 a1 k;unfold Czf.f;with_reducible repeat' first|exact Ezq.mono _ _ _|exact LeO.refl _|exact LeO.none _|refine LeO.ite ?_ ?_|refine LeO.bind ?_ (fun _=>?_)
theorem Czf.calls (k:Nat) (A0:Option Addr) (c0:Nat) (l0:List Int) (a1:Int) (r:Int) (w:World) (hr0:Kd.C (Kd.int .i64) w A0 l0.length l0) (hc0:l0.length≤c0) (h:Czf.f k l0 a1=some r) :
  Calls Try.prog 38 #[.slice A0 l0.length c0,.int .i64 a1] w fun e w'=>e=.returned (.int .i64 r)∧Below w.heap.size w w':=by
 have HR0:=aM hr0;have HC0:=aM hc0;clear hr0 hc0;have HB:=aM (Below.refl w.heap.size w);have H:((Ezm.f l0 a1).bind fun t108=>(if t108=true then((Ezq.f k l0 1099511627776).bind fun t109=>(if t109=true then(some 0) else(some 1))) else(some 17)))=some r:=h
 clear h;replace H:=bS H;obtain⟨t108,A30,H⟩:=H;(try dsimp only at H);have A3:=aM A30;clear A30;by_cases c4:t108=true
 ·subst c4;rw[if_pos rfl] at H;replace H:=bS H;obtain⟨t109,A50,H⟩:=H;(try dsimp only at H);have A5:=aM A50;clear A50;by_cases c6:t109=true
  ·subst c6;rw[if_pos rfl] at H;obtain rfl:=Option.some.inj H;go_enter Try.func38,Try.ntmps38
   go_wp2_with (first|((with_reducible refine gate_callee (f:=63) rfl ?_);refine goesL_ (some 7) rfl rfl Try.func63 (by kernel_rfl) rfl #[.slice A0 l0.length c0,.int .i64 a1] rfl mA ?_;(with_reducible refine(Ezm.calls _ _ l0 a1 true _ ?side1 ?side2 A3.out).mono ?_);(case side1=>exact cX HR0.out);(case side2=>exact HC0.out);rintro e w' ⟨rfl,⟨nd,rfl⟩⟩;refine⟨_,rfl,?_⟩)|((with_reducible refine gate_callee (f:=64) rfl ?_);refine goesL_ (some 10) rfl rfl Try.func64 (by kernel_rfl) rfl #[.slice A0 l0.length c0,.int .i64 1099511627776] rfl mA ?_;(with_reducible refine(Ezq.calls k _ _ l0 1099511627776 true _ ?side1 ?side2 A5.out).mono ?_);(case side1=>exact cX HR0.out);(case side2=>exact HC0.out);rintro e w7 ⟨rfl,hb⟩;refine⟨_,rfl,?_⟩;replace HB:=aM (below_step pB hb);(try clear hb);(try clear hb2);(try clear hk);(try clear hi)))
   go_ret
   exact⟨eW,pB⟩
  ·replace c6:=Bool.eq_false_iff.mpr c6;subst c6;rw[if_neg (show ¬ (false=true) by decide)] at H
   obtain rfl:=Option.some.inj H;go_enter Try.func38,Try.ntmps38
   go_wp2_with (first|((with_reducible refine gate_callee (f:=63) rfl ?_);refine goesL_ (some 7) rfl rfl Try.func63 (by kernel_rfl) rfl #[.slice A0 l0.length c0,.int .i64 a1] rfl mA ?_;(with_reducible refine(Ezm.calls _ _ l0 a1 true _ ?side1 ?side2 A3.out).mono ?_);(case side1=>exact cX HR0.out);(case side2=>exact HC0.out);rintro e w' ⟨rfl,⟨nd,rfl⟩⟩;refine⟨_,rfl,?_⟩)|((with_reducible refine gate_callee (f:=64) rfl ?_);refine goesL_ (some 10) rfl rfl Try.func64 (by kernel_rfl) rfl #[.slice A0 l0.length c0,.int .i64 1099511627776] rfl mA ?_;(with_reducible refine(Ezq.calls k _ _ l0 1099511627776 false _ ?side1 ?side2 A5.out).mono ?_);(case side1=>exact cX HR0.out);(case side2=>exact HC0.out);rintro e w8 ⟨rfl,hb⟩;refine⟨_,rfl,?_⟩;replace HB:=aM (below_step pB hb);(try clear hb);(try clear hb2);(try clear hk);(try clear hi)))
   go_ret
   exact⟨eW,pB⟩
 ·replace c4:=Bool.eq_false_iff.mpr c4;subst c4;rw[if_neg (show ¬ (false=true) by decide)] at H
  obtain rfl:=Option.some.inj H;go_enter Try.func38,Try.ntmps38
  go_wp2_with (first|((with_reducible refine gate_callee (f:=63) rfl ?_);refine goesL_ (some 7) rfl rfl Try.func63 (by kernel_rfl) rfl #[.slice A0 l0.length c0,.int .i64 a1] rfl mA ?_;(with_reducible refine(Ezm.calls _ _ l0 a1 false _ ?side1 ?side2 A3.out).mono ?_);(case side1=>exact cX HR0.out);(case side2=>exact HC0.out);rintro e w' ⟨rfl,⟨nd,rfl⟩⟩;refine⟨_,rfl,?_⟩))
  go_ret
  exact⟨eW,pB⟩

def Bzv.j0:Nat→Bool→Int→List Int→Option (Int)
 | 0,_,_,_=>none
 | k+1,x11,x111000,x111001=>if x11=true then(some 1) else((Czf.f k x111001 (x111001.length:Int)).bind fun t111=>(if t111=0 then((Bzq.f k x111001).bind fun t112=>(if t112 > x111000 then(some 8) else(some 0))) else(some t111)))
def Bzv.f (k:Nat) (a0_0:Int) (l0_1:List Int):Option (Int):=if a0_0 < 1 then(Bzv.j0 k true a0_0 l0_1) else(Bzv.j0 k (decide (a0_0 > 1099511627776)) a0_0 l0_1)
theorem Bzv.mono_l:∀ k,(∀ y0 y1 y2,LeO (Bzv.j0 k y0 y1 y2) (Bzv.j0 (k+1) y0 y1 y2))
 | 0=>fun _ _ _ r h=>by simp [Bzv.j0] at h
 | k+1=>by
  have ih0:=Bzv.mono_l k
  ·intro y0 y1 y2;unfold Bzv.j0;with_reducible repeat' first|exact ih0 _ _ _|exact Bzq.mono _ _|exact Czf.mono _ _ _|exact LeO.refl _|exact LeO.none _|refine LeO.ite ?_ ?_|refine LeO.bind ?_ (fun _=>?_)
theorem Bzv.mono:∀ a0 a1 k,LeO (Bzv.f k a0 a1) (Bzv.f (k+1) a0 a1):=by
 intro a0 a1 k;have ih0:=Bzv.mono_l k;unfold Bzv.f;with_reducible repeat' first|exact ih0 _ _ _|exact Bzq.mono _ _|exact Czf.mono _ _ _|exact LeO.refl _|exact LeO.none _|refine LeO.ite ?_ ?_|refine LeO.bind ?_ (fun _=>?_)
theorem Bzv.calls (k:Nat) (a0_0:Int) (A0_1:Option Addr) (c0_1:Nat) (l0_1:List Int) (r:Int) (w:World) (hr0_1:Kd.C (Kd.int .i64) w A0_1 l0_1.length l0_1) (hc0_1:l0_1.length≤c0_1) (h:Bzv.f k a0_0 l0_1=some r) :
  Calls Try.prog 15 #[.agg #[.int .i64 a0_0,.slice A0_1 l0_1.length c0_1]] w fun e w'=>e=.returned (.int .i64 r)∧Below w.heap.size w w':=by
 have hu24:=Try.underlying24;have HR0_1:=aM hr0_1;have HC0_1:=aM hc0_1;clear hr0_1 hc0_1;have HB:=aM (Below.refl w.heap.size w);have H:(if a0_0 < 1 then(Bzv.j0 k true a0_0 l0_1) else(Bzv.j0 k (decide (a0_0 > 1099511627776)) a0_0 l0_1))=some r:=h
 clear h;have HC2:=aM H;clear H;go_enter Try.func15,Try.ntmps15
 go_upto_region 1 with (first|((with_reducible refine gate_dst (N:=1) rfl ?_);refine box_event ?hg (N:=1) ?hd (cs:=#[.int .i64 a0_0,.slice A0_1 l0_1.length c0_1]) (t:=24) ?hr ?_;(case hd=>rfl);(case hg=>rfl);(case hr=>first|(go_simp;done)|(go_simp;rfl));intro gb110 hg w3 hbox hb;have BK110:=aM (hbox);have GW110:=aM (gW hg:w.heap.size≤gb110);have GE110:=aM (gW hg:w.heap.size≤gb110);replace HB:=aM (below_step pB hb);clear hb hbox hg))
 repeat(go_quiet (first|((with_reducible refine gate_dst (N:=1) rfl ?_);refine box_event ?hg (N:=1) ?hd (cs:=#[.int .i64 a0_0,.slice A0_1 l0_1.length c0_1]) (t:=24) ?hr ?_;(case hd=>rfl);(case hg=>rfl);(case hr=>first|(go_simp;done)|(go_simp;rfl));intro gb110 hg w3 hbox hb;have BK110:=aM (hbox);have GW110:=aM (gW hg:w.heap.size≤gb110);have GE110:=aM (gW hg:w.heap.size≤gb110);replace HB:=aM (below_step pB hb);clear hb hbox hg));go_upto_region 1 with (first|((with_reducible refine gate_dst (N:=1) rfl ?_);refine box_event ?hg (N:=1) ?hd (cs:=#[.int .i64 a0_0,.slice A0_1 l0_1.length c0_1]) (t:=24) ?hr ?_;(case hd=>rfl);(case hg=>rfl);(case hr=>first|(go_simp;done)|(go_simp;rfl));intro gb110 hg w3 hbox hb;have BK110:=aM (hbox);have GW110:=aM (gW hg:w.heap.size≤gb110);have GE110:=aM (gW hg:w.heap.size≤gb110);replace HB:=aM (below_step pB hb);clear hb hbox hg)))
 (try simp only[Act.put,sA,sZ,sC])
 go_cut [11] (fun v11 wc=>∃ (kq:Nat) (x11_1:Bool),v11=.bool x11_1∧Aside0 (Bzv.j0 kq x11_1 a0_0 l0_1=some r)∧Aside0 (kq≤k)∧Aside0 (wc.heap[gb110]?=some (.cells #[.int .i64 a0_0,(.slice A0_1 l0_1.length c0_1)] 24 (0,0)))∧Aside0 (Below w.heap.size w wc))
 case first =>
  have H:=HC2.out;clear HC2;by_cases c4:a0_0 < 1
  ·rw[if_pos c4] at H;have c4b0:decide (a0_0 < 1)=true:=dE c4;clear c4;(first|rw[c4b0]|(simp only[i64_w,i32_w];rw[c4b0])|skip)
   have H':=aM H;clear H;obtain⟨hcz5_0,hcz5_1,hfz5_0,hfz5_1⟩:=bk2 BK110;go_wp2
   repeat(go_quiet (fail);try go_wp2)
   go_meet
   case rel=>exact⟨_,(true),sD,H',⟨by first|omega|exact Nat.le_refl _⟩,⟨by(with_reducible repeat(first|refine blk_drewN ?_ _|refine blk_drew ?_|refine blk_alloc ?_ _));exact BK110.out⟩,⟨pB⟩⟩
  ·rw[if_neg c4] at H;have c4b0:decide (a0_0 < 1)=false:=decide_eq_false c4;clear c4;(first|rw[c4b0]|(simp only[i64_w,i32_w];rw[c4b0])|skip)
   have H':=aM H;clear H;obtain⟨hcz6_0,hcz6_1,hfz6_0,hfz6_1⟩:=bk2 BK110;go_wp2
   repeat(go_quiet (fail);try go_wp2)
   go_meet
   case rel=>exact⟨_,(decide (a0_0 > 1099511627776)),sD,H',⟨by first|omega|exact Nat.le_refl _⟩,⟨by(with_reducible repeat(first|refine blk_drewN ?_ _|refine blk_drew ?_|refine blk_alloc ?_ _));exact BK110.out⟩,⟨pB⟩⟩
 case rest =>
  clear HC2;try clear c1
  try clear p2
  try clear c4
  try clear c4b0
  try clear hcz5_0
  try clear hcz5_1
  try clear hcz6_0
  try clear hcz6_1
  try clear hfz5_0
  try clear hfz5_1
  try clear hfz6_0
  try clear hfz6_1
  obtain⟨kq,x11_1,rfl,HA,HJ1,BK110,HB⟩:=hcut;cases kq with
  | zero=>exact absurd HA.out (by simp [Bzv.j0])
  | succ kj1 =>
   have H:=HA.out;clear HA;simp only[Bzv.j0] at H;by_cases c7:x11_1=true
   ·subst c7;rw[if_pos rfl] at H;obtain rfl:=Option.some.inj H;go_wp2
    repeat(go_quiet (fail);try go_wp2)
    go_ret
    exact⟨eW,pB⟩
   ·replace c7:=Bool.eq_false_iff.mpr c7;subst c7;rw[if_neg (show ¬ (false=true) by decide)] at H
    replace H:=bS H;obtain⟨t111,A80,H⟩:=H;(try dsimp only at H);have A8:=aM A80;clear A80;by_cases c9:t111=0
    ·rw[if_pos c9] at H;have c9b0:(t111 == 0)=true:=beq_iff_eq.mpr c9;have c9b1:(t111 != 0)=false:=bne_eq_false_iff_eq.mpr c9;clear c9;replace H:=bS H;obtain⟨t112,A100,H⟩:=H;(try dsimp only at H);have A10:=aM A100;clear A100;by_cases c11:t112 > a0_0
     ·rw[if_pos c11] at H;have c11b0:decide (a0_0 < t112)=true:=dE c11;clear c11;obtain rfl:=Option.some.inj H;obtain⟨hcz12_0,hcz12_1,hfz12_0,hfz12_1⟩:=bk2 BK110;have fl_:True:=trivial;repeat((first|clear fl_|go_quiet (first|(go_at_call 38;(with_reducible refine(Czf.calls kj1 _ _ l0_1 (l0_1.length:Int) t111 _ ?side1 ?side2 A8.out).mono ?_);(case side1=>exact cX (Kd.C_below HR0_1.out HB.out));(case side2=>exact HC0_1.out);rintro e w13 ⟨rfl,hb⟩;replace BK110:=aM (kB BK110 hb);replace HB:=aM (below_step pB hb);(try clear hb);(try clear hb2);(try clear hk);(try clear hi);obtain⟨hcz14_0,hcz14_1,hfz14_0,hfz14_1⟩:=bk2 BK110)|(go_at_call 36;(with_reducible refine(Bzq.calls kj1 _ _ l0_1 t112 _ ?side1 ?side2 A10.out).mono ?_);(case side1=>exact cX (Kd.C_below HR0_1.out HB.out));(case side2=>exact HC0_1.out);rintro e w' ⟨rfl,⟨nd,rfl⟩⟩;(try first|exact⟨rfl,_,World.drewN_drewN _ _ _⟩|exact⟨rfl,_,Eq.trans (World.drewN_drewN _ _ _) (congrArg (World.drewN _) (Nat.add_assoc _ _ _))⟩))));go_wp2_with (first|(go_at_call 38;(with_reducible refine(Czf.calls kj1 _ _ l0_1 (l0_1.length:Int) t111 _ ?side1 ?side2 A8.out).mono ?_);(case side1=>exact cX (Kd.C_below HR0_1.out HB.out));(case side2=>exact HC0_1.out);rintro e w13 ⟨rfl,hb⟩;replace BK110:=aM (kB BK110 hb);replace HB:=aM (below_step pB hb);(try clear hb);(try clear hb2);(try clear hk);(try clear hi);obtain⟨hcz14_0,hcz14_1,hfz14_0,hfz14_1⟩:=bk2 BK110)|(go_at_call 36;(with_reducible refine(Bzq.calls kj1 _ _ l0_1 t112 _ ?side1 ?side2 A10.out).mono ?_);(case side1=>exact cX (Kd.C_below HR0_1.out HB.out));(case side2=>exact HC0_1.out);rintro e w' ⟨rfl,⟨nd,rfl⟩⟩;(try first|exact⟨rfl,_,World.drewN_drewN _ _ _⟩|exact⟨rfl,_,Eq.trans (World.drewN_drewN _ _ _) (congrArg (World.drewN _) (Nat.add_assoc _ _ _))⟩))))
      go_ret
      exact⟨eW,pB⟩
     ·rw[if_neg c11] at H;have c11b0:decide (a0_0 < t112)=false:=decide_eq_false c11;clear c11;obtain rfl:=Option.some.inj H;obtain⟨hcz15_0,hcz15_1,hfz15_0,hfz15_1⟩:=bk2 BK110;have fl_:True:=trivial;repeat((first|clear fl_|go_quiet (first|(go_at_call 38;(with_reducible refine(Czf.calls kj1 _ _ l0_1 (l0_1.length:Int) t111 _ ?side1 ?side2 A8.out).mono ?_);(case side1=>exact cX (Kd.C_below HR0_1.out HB.out));(case side2=>exact HC0_1.out);rintro e w16 ⟨rfl,hb⟩;replace BK110:=aM (kB BK110 hb);replace HB:=aM (below_step pB hb);(try clear hb);(try clear hb2);(try clear hk);(try clear hi);obtain⟨hcz17_0,hcz17_1,hfz17_0,hfz17_1⟩:=bk2 BK110)|(go_at_call 36;(with_reducible refine(Bzq.calls kj1 _ _ l0_1 t112 _ ?side1 ?side2 A10.out).mono ?_);(case side1=>exact cX (Kd.C_below HR0_1.out HB.out));(case side2=>exact HC0_1.out);rintro e w' ⟨rfl,⟨nd,rfl⟩⟩;(try first|exact⟨rfl,_,World.drewN_drewN _ _ _⟩|exact⟨rfl,_,Eq.trans (World.drewN_drewN _ _ _) (congrArg (World.drewN _) (Nat.add_assoc _ _ _))⟩))));go_wp2_with (first|(go_at_call 38;(with_reducible refine(Czf.calls kj1 _ _ l0_1 (l0_1.length:Int) t111 _ ?side1 ?side2 A8.out).mono ?_);(case side1=>exact cX (Kd.C_below HR0_1.out HB.out));(case side2=>exact HC0_1.out);rintro e w16 ⟨rfl,hb⟩;replace BK110:=aM (kB BK110 hb);replace HB:=aM (below_step pB hb);(try clear hb);(try clear hb2);(try clear hk);(try clear hi);obtain⟨hcz17_0,hcz17_1,hfz17_0,hfz17_1⟩:=bk2 BK110)|(go_at_call 36;(with_reducible refine(Bzq.calls kj1 _ _ l0_1 t112 _ ?side1 ?side2 A10.out).mono ?_);(case side1=>exact cX (Kd.C_below HR0_1.out HB.out));(case side2=>exact HC0_1.out);rintro e w' ⟨rfl,⟨nd,rfl⟩⟩;(try first|exact⟨rfl,_,World.drewN_drewN _ _ _⟩|exact⟨rfl,_,Eq.trans (World.drewN_drewN _ _ _) (congrArg (World.drewN _) (Nat.add_assoc _ _ _))⟩))))
      go_ret
      exact⟨eW,pB⟩
    ·rw[if_neg c9] at H;have c9b0:(t111 == 0)=false:=beq_eq_false_iff_ne.mpr c9;have c9b1:(t111 != 0)=true:=bne_iff_ne.mpr c9;obtain rfl:=Option.some.inj H;obtain⟨hcz18_0,hcz18_1,hfz18_0,hfz18_1⟩:=bk2 BK110;have fl_:True:=trivial;repeat((first|clear fl_|go_quiet (first|(go_at_call 38;(with_reducible refine(Czf.calls kj1 _ _ l0_1 (l0_1.length:Int) t111 _ ?side1 ?side2 A8.out).mono ?_);(case side1=>exact cX (Kd.C_below HR0_1.out HB.out));(case side2=>exact HC0_1.out);rintro e w19 ⟨rfl,hb⟩;replace BK110:=aM (kB BK110 hb);replace HB:=aM (below_step pB hb);(try clear hb);(try clear hb2);(try clear hk);(try clear hi))));go_wp2_with (first|(go_at_call 38;(with_reducible refine(Czf.calls kj1 _ _ l0_1 (l0_1.length:Int) t111 _ ?side1 ?side2 A8.out).mono ?_);(case side1=>exact cX (Kd.C_below HR0_1.out HB.out));(case side2=>exact HC0_1.out);rintro e w19 ⟨rfl,hb⟩;replace BK110:=aM (kB BK110 hb);replace HB:=aM (below_step pB hb);(try clear hb);(try clear hb2);(try clear hk);(try clear hi))))
     go_ret
     exact⟨eW,pB⟩

def Dzq.f (k:Nat) (a0_0:Int) (l0_1:List Int):Option (Int × Int):=(Bzv.f k a0_0 l0_1).bind fun t114=>(if t114=0 then((Bzq.f k l0_1).bind fun t115=>(some (t115,0))) else(some (0,t114)))
theorem Dzq.mono:∀ a0 a1 k,LeO (Dzq.f k a0 a1) (Dzq.f (k+1) a0 a1):=by
 intro a0 a1 k;unfold Dzq.f;with_reducible repeat' first|exact Bzv.mono _ _ _|exact Bzq.mono _ _|exact LeO.refl _|exact LeO.none _|refine LeO.ite ?_ ?_|refine LeO.bind ?_ (fun _=>?_)
theorem Dzq.calls (k:Nat) (a0_0:Int) (A0_1:Option Addr) (c0_1:Nat) (l0_1:List Int) (r1:Int) (r2:Int) (w:World) (hr0_1:Kd.C (Kd.int .i64) w A0_1 l0_1.length l0_1) (hc0_1:l0_1.length≤c0_1) (h:Dzq.f k a0_0 l0_1=some (r1,r2)) :
  Calls Try.prog 11 #[.agg #[.int .i64 a0_0,.slice A0_1 l0_1.length c0_1]] w fun e w'=>e=.returned (.tuple #[.int .i64 r1,.int .i64 r2])∧Below w.heap.size w w':=by
 have hu24:=Try.underlying24;have HR0_1:=aM hr0_1;have HC0_1:=aM hc0_1;clear hr0_1 hc0_1;have HB:=aM (Below.refl w.heap.size w);have H:((Bzv.f k a0_0 l0_1).bind fun t114=>(if t114=0 then((Bzq.f k l0_1).bind fun t115=>(some (t115,0))) else(some (0,t114))))=some (r1,r2):=h
 clear h;replace H:=bS H;obtain⟨t114,A20,H⟩:=H;(try dsimp only at H);have A2:=aM A20;clear A20;by_cases c3:t114=0
 ·rw[if_pos c3] at H;have c3b0:(t114 == 0)=true:=beq_iff_eq.mpr c3;have c3b1:(t114 != 0)=false:=bne_eq_false_iff_eq.mpr c3;clear c3;replace H:=bS H;obtain⟨t115,A40,H⟩:=H;replace H:(some (t115,0))=some (r1,r2):=H;have A4:=aM A40;clear A40;simp only[Option.some.injEq,Prod.mk.injEq] at H;obtain⟨rfl,rfl⟩:=H;go_enter Try.func11,Try.ntmps11
  go_wp2_with (first|((with_reducible refine gate_dst (N:=1) rfl ?_);refine box_event ?hg (N:=1) ?hd (cs:=#[.int .i64 a0_0,.slice A0_1 l0_1.length c0_1]) (t:=24) ?hr ?_;(case hd=>rfl);(case hg=>rfl);(case hr=>first|(go_simp;done)|(go_simp;rfl));intro gb113 hg w5 hbox hb;have BK113:=aM (hbox);have GW113:=aM (gW hg:w.heap.size≤gb113);have GE113:=aM (gW hg:w.heap.size≤gb113);replace HB:=aM (below_step pB hb);clear hb hbox hg;obtain⟨hcz6_0,hcz6_1,hfz6_0,hfz6_1⟩:=bk2 BK113)|((with_reducible refine gate_callee (f:=15) rfl ?_);refine goesL_ (some 6) rfl rfl Try.func15 (by kernel_rfl) rfl #[.agg #[.int .i64 a0_0,.slice A0_1 l0_1.length c0_1]] rfl mA ?_;(with_reducible refine(Bzv.calls k a0_0 _ _ l0_1 t114 _ ?side1 ?side2 A2.out).mono ?_);(case side1=>exact cX (Kd.C_below HR0_1.out HB.out));(case side2=>exact HC0_1.out);rintro e w7 ⟨rfl,hb⟩;refine⟨_,rfl,?_⟩;replace BK113:=aM (kB BK113 hb);replace HB:=aM (below_step pB hb);(try clear hb);(try clear hb2);(try clear hk);(try clear hi);obtain⟨hcz8_0,hcz8_1,hfz8_0,hfz8_1⟩:=bk2 BK113)|((with_reducible refine gate_callee (f:=36) rfl ?_);refine goesL_ (some 12) rfl rfl Try.func36 (by kernel_rfl) rfl #[.slice A0_1 l0_1.length c0_1] rfl mA ?_;(with_reducible refine(Bzq.calls k _ _ l0_1 t115 _ ?side1 ?side2 A4.out).mono ?_);(case side1=>exact cX (Kd.C_below HR0_1.out HB.out));(case side2=>exact HC0_1.out);rintro e w' ⟨rfl,⟨nd,rfl⟩⟩;refine⟨_,rfl,?_⟩))
  go_ret2
  exact⟨eW,pB⟩
 ·rw[if_neg c3] at H;have c3b0:(t114 == 0)=false:=beq_eq_false_iff_ne.mpr c3;have c3b1:(t114 != 0)=true:=bne_iff_ne.mpr c3;simp only[Option.some.injEq,Prod.mk.injEq] at H;obtain⟨rfl,rfl⟩:=H;go_enter Try.func11,Try.ntmps11
  go_wp2_with (first|((with_reducible refine gate_dst (N:=1) rfl ?_);refine box_event ?hg (N:=1) ?hd (cs:=#[.int .i64 a0_0,.slice A0_1 l0_1.length c0_1]) (t:=24) ?hr ?_;(case hd=>rfl);(case hg=>rfl);(case hr=>first|(go_simp;done)|(go_simp;rfl));intro gb113 hg w9 hbox hb;have BK113:=aM (hbox);have GW113:=aM (gW hg:w.heap.size≤gb113);have GE113:=aM (gW hg:w.heap.size≤gb113);replace HB:=aM (below_step pB hb);clear hb hbox hg;obtain⟨hcz10_0,hcz10_1,hfz10_0,hfz10_1⟩:=bk2 BK113)|((with_reducible refine gate_callee (f:=15) rfl ?_);refine goesL_ (some 6) rfl rfl Try.func15 (by kernel_rfl) rfl #[.agg #[.int .i64 a0_0,.slice A0_1 l0_1.length c0_1]] rfl mA ?_;(with_reducible refine(Bzv.calls k a0_0 _ _ l0_1 t114 _ ?side1 ?side2 A2.out).mono ?_);(case side1=>exact cX (Kd.C_below HR0_1.out HB.out));(case side2=>exact HC0_1.out);rintro e w11 ⟨rfl,hb⟩;refine⟨_,rfl,?_⟩;replace BK113:=aM (kB BK113 hb);replace HB:=aM (below_step pB hb);(try clear hb);(try clear hb2);(try clear hk);(try clear hi)))
  go_ret2
  exact⟨eW,pB⟩


def Czm.j0:Nat→Int→Bool→Int→List Int→Option (Int × Int)
 | 0,_,_,_,_=>none
 | k+1,x1,x21,x117000,x117001=>if x21=true then(some (0,7)) else((Bzq.f k x117001).bind fun t118=>(if t118=0 then(some (0,10)) else(if 0≤x1 then(if x1 < (x117001.length:Int) then(some (wrap64 (Int.tdiv (wrap64 (1000 * (rd x117001 x1))) t118),0)) else(none)) else(none))))
def Czm.f (k:Nat) (a0_0:Int) (l0_1:List Int) (a1:Int):Option (Int × Int):=(Bzv.f k a0_0 l0_1).bind fun t117=>(if t117=0 then(if a1 < 0 then(Czm.j0 k a1 true a0_0 l0_1) else(Czm.j0 k a1 (decide (a1≥(l0_1.length:Int))) a0_0 l0_1)) else(some (0,t117)))
theorem Czm.mono_l:∀ k,(∀ y0 y1 y2 y3,LeO (Czm.j0 k y0 y1 y2 y3) (Czm.j0 (k+1) y0 y1 y2 y3))
 | 0=>fun _ _ _ _ r h=>by simp [Czm.j0] at h
 | k+1=>by
  have ih0:=Czm.mono_l k
  ·intro y0 y1 y2 y3;unfold Czm.j0;with_reducible repeat' first|exact ih0 _ _ _ _|exact Bzv.mono _ _ _|exact Bzq.mono _ _|exact LeO.refl _|exact LeO.none _|refine LeO.ite ?_ ?_|refine LeO.bind ?_ (fun _=>?_)
theorem Czm.mono:∀ a0 a1 a2 k,LeO (Czm.f k a0 a1 a2) (Czm.f (k+1) a0 a1 a2):=by
 intro a0 a1 a2 k;have ih0:=Czm.mono_l k;unfold Czm.f;with_reducible repeat' first|exact ih0 _ _ _ _|exact Bzv.mono _ _ _|exact Bzq.mono _ _|exact LeO.refl _|exact LeO.none _|refine LeO.ite ?_ ?_|refine LeO.bind ?_ (fun _=>?_)
theorem Czm.calls (k:Nat) (a0_0:Int) (A0_1:Option Addr) (c0_1:Nat) (l0_1:List Int) (a1:Int) (r1:Int) (r2:Int) (w:World) (hr0_1:Kd.C (Kd.int .i64) w A0_1 l0_1.length l0_1) (hc0_1:l0_1.length≤c0_1) (h:Czm.f k a0_0 l0_1 a1=some (r1,r2)) :
  Calls Try.prog 13 #[.agg #[.int .i64 a0_0,.slice A0_1 l0_1.length c0_1],.int .i64 a1] w fun e w'=>e=.returned (.tuple #[.int .i64 r1,.int .i64 r2])∧Below w.heap.size w w':=by
 have hu24:=Try.underlying24;have HR0_1:=aM hr0_1;have HC0_1:=aM hc0_1;clear hr0_1 hc0_1;have HB:=aM (Below.refl w.heap.size w);have H:((Bzv.f k a0_0 l0_1).bind fun t117=>(if t117=0 then(if a1 < 0 then(Czm.j0 k a1 true a0_0 l0_1) else(Czm.j0 k a1 (decide (a1≥(l0_1.length:Int))) a0_0 l0_1)) else(some (0,t117))))=some (r1,r2):=h
 clear h;replace H:=bS H;obtain⟨t117,A30,H⟩:=H;(try dsimp only at H);have A3:=aM A30;clear A30;by_cases c4:t117=0
 ·rw[if_pos c4] at H;have c4b0:(t117 == 0)=true:=beq_iff_eq.mpr c4;have c4b1:(t117 != 0)=false:=bne_eq_false_iff_eq.mpr c4;clear c4;have HC5:=aM H;clear H;go_enter Try.func13,Try.ntmps13
  go_upto_region 4 with (first|((with_reducible refine gate_dst (N:=2) rfl ?_);(try(refine gate_guard (by rfl) ?_;dsimp only));refine box_event ?hg (N:=2) ?hd (cs:=#[.int .i64 a0_0,.slice A0_1 l0_1.length c0_1]) (t:=24) ?hr ?_;(case hd=>rfl);(case hg=>rfl);(case hr=>first|(go_simp;done)|(go_simp;rfl));intro gb116 hg w6 hbox hb;have BK116:=aM (hbox);have GW116:=aM (gW hg:w.heap.size≤gb116);have GE116:=aM (gW hg:w.heap.size≤gb116);replace HB:=aM (below_step pB hb);clear hb hbox hg;obtain⟨hcz7_0,hcz7_1,hfz7_0,hfz7_1⟩:=bk2 BK116)|((with_reducible refine gate_callee (f:=15) rfl ?_);refine goesL_ (some 9) rfl rfl Try.func15 (by kernel_rfl) rfl #[.agg #[.int .i64 a0_0,.slice A0_1 l0_1.length c0_1]] rfl mA ?_;(with_reducible refine(Bzv.calls k a0_0 _ _ l0_1 t117 _ ?side1 ?side2 A3.out).mono ?_);(case side1=>exact cX (Kd.C_below HR0_1.out HB.out));(case side2=>exact HC0_1.out);rintro e w8 ⟨rfl,hb⟩;refine⟨_,rfl,?_⟩;replace BK116:=aM (kB BK116 hb);replace HB:=aM (below_step pB hb);(try clear hb);(try clear hb2);(try clear hk);(try clear hi)))
  (try simp only[Act.put,sA,sZ,sC])
  go_cut [21] (fun v21 wc=>∃ (kq:Nat) (x21_4:Bool),v21=.bool x21_4∧Aside0 (Czm.j0 kq a1 x21_4 a0_0 l0_1=some (r1,r2))∧Aside0 (kq≤k)∧Aside0 (wc.heap[gb116]?=some (.cells #[.int .i64 a0_0,(.slice A0_1 l0_1.length c0_1)] 24 (0,0)))∧Aside0 (Below w.heap.size w wc))
  case first =>
   have H:=HC5.out;clear HC5;by_cases c9:a1 < 0
   ·rw[if_pos c9] at H;have c9b0:decide (a1 < 0)=true:=dE c9;clear c9;(first|rw[c9b0]|(simp only[i64_w,i32_w];rw[c9b0])|skip)
    have H':=aM H;clear H;go_wp2
    go_meet
    case rel=>exact⟨_,(true),sD,H',⟨by first|omega|exact Nat.le_refl _⟩,⟨by(with_reducible repeat(first|refine blk_drewN ?_ _|refine blk_drew ?_|refine blk_alloc ?_ _));exact BK116.out⟩,⟨pB⟩⟩
   ·rw[if_neg c9] at H;have c9b0:decide (a1 < 0)=false:=decide_eq_false c9;clear c9;(first|rw[c9b0]|(simp only[i64_w,i32_w];rw[c9b0])|skip)
    have H':=aM H;clear H;obtain⟨hcz10_0,hcz10_1,hfz10_0,hfz10_1⟩:=bk2 BK116;go_wp2
    go_meet
    case rel=>exact⟨_,(decide (a1≥(l0_1.length:Int))),sD,H',⟨by first|omega|exact Nat.le_refl _⟩,⟨by(with_reducible repeat(first|refine blk_drewN ?_ _|refine blk_drew ?_|refine blk_alloc ?_ _));exact BK116.out⟩,⟨pB⟩⟩
  case rest =>
   clear HC5;try clear c1
   try clear p2
   try clear c4
   try clear c4b0
   try clear c4b1
   try clear c9
   try clear c9b0
   try clear hcz10_0
   try clear hcz10_1
   try clear hcz7_0
   try clear hcz7_1
   try clear hfz10_0
   try clear hfz10_1
   try clear hfz7_0
   try clear hfz7_1
   obtain⟨kq,x21_4,rfl,HA,HJ4,BK116,HB⟩:=hcut;cases kq with
   | zero=>exact absurd HA.out (by simp [Czm.j0])
   | succ kj4 =>
    have H:=HA.out;clear HA;simp only[Czm.j0] at H;by_cases c11:x21_4=true
    ·subst c11;rw[if_pos rfl] at H;simp only[Option.some.injEq,Prod.mk.injEq] at H;obtain⟨rfl,rfl⟩:=H;go_wp2
     go_ret2
     exact⟨eW,pB⟩
    ·replace c11:=Bool.eq_false_iff.mpr c11;subst c11;rw[if_neg (show ¬ (false=true) by decide)] at H
     replace H:=bS H;obtain⟨t118,A120,H⟩:=H;(try dsimp only at H);have A12:=aM A120;clear A120;by_cases c13:t118=0
     ·rw[if_pos c13] at H;have c13b0:(t118 == 0)=true:=beq_iff_eq.mpr c13;have c13b1:(t118 != 0)=false:=bne_eq_false_iff_eq.mpr c13;clear c13;simp only[Option.some.injEq,Prod.mk.injEq] at H;obtain⟨rfl,rfl⟩:=H;obtain⟨hcz14_0,hcz14_1,hfz14_0,hfz14_1⟩:=bk2 BK116;go_wp2_with (first|((with_reducible refine gate_callee (f:=36) rfl ?_);refine goesL_ (some 24) rfl rfl Try.func36 (by kernel_rfl) rfl #[.slice A0_1 l0_1.length c0_1] rfl mA ?_;(with_reducible refine(Bzq.calls kj4 _ _ l0_1 t118 _ ?side1 ?side2 A12.out).mono ?_);(case side1=>exact cX (Kd.C_below HR0_1.out HB.out));(case side2=>exact HC0_1.out);rintro e w' ⟨rfl,⟨nd,rfl⟩⟩;refine⟨_,rfl,?_⟩))
      go_ret2
      exact⟨eW,pB⟩
     ·rw[if_neg c13] at H;have c13b0:(t118 == 0)=false:=beq_eq_false_iff_ne.mpr c13;have c13b1:(t118 != 0)=true:=bne_iff_ne.mpr c13;by_cases c15:0≤a1
      ·rw[if_pos c15] at H;have c15b0:decide (0≤a1)=true:=dE c15;clear c15;by_cases c16:a1 < (l0_1.length:Int)
       ·rw[if_pos c16] at H;have c16b0:decide (a1 < (l0_1.length:Int))=true:=dE c16;clear c16;simp only[Option.some.injEq,Prod.mk.injEq] at H;obtain⟨rfl,rfl⟩:=H;obtain⟨hcz17_0,hcz17_1,hfz17_0,hfz17_1⟩:=bk2 BK116;go_wp2_with (first|((with_reducible refine gate_callee (f:=36) rfl ?_);refine goesL_ (some 24) rfl rfl Try.func36 (by kernel_rfl) rfl #[.slice A0_1 l0_1.length c0_1] rfl mA ?_;(with_reducible refine(Bzq.calls kj4 _ _ l0_1 t118 _ ?side1 ?side2 A12.out).mono ?_);(case side1=>exact cX (Kd.C_below HR0_1.out HB.out));(case side2=>exact HC0_1.out);rintro e w' ⟨rfl,⟨nd,rfl⟩⟩;refine⟨_,rfl,?_⟩;have p119:0≤(a1:Int):=oE aS;have q119:a1 < (l0_1.length:Int):=oE aS;obtain⟨ad119,e119,hx119_0⟩:=Kd.at_int HR0_1.out a1 p119 q119;cases e119;replace hx119_0:=(HB.out.cell (World.block_lt_of_cell? w _ hx119_0)).trans hx119_0;replace p119:=eq_true p119;replace q119:=eq_true q119))
        go_ret2
        exact⟨eW,pB⟩
       ·rw[if_neg c16] at H;exact absurd H (by simp)
      ·rw[if_neg c15] at H;exact absurd H (by simp)
 ·rw[if_neg c4] at H;have c4b0:(t117 == 0)=false:=beq_eq_false_iff_ne.mpr c4;have c4b1:(t117 != 0)=true:=bne_iff_ne.mpr c4;simp only[Option.some.injEq,Prod.mk.injEq] at H;obtain⟨rfl,rfl⟩:=H;go_enter Try.func13,Try.ntmps13
  go_wp2_with (first|((with_reducible refine gate_dst (N:=2) rfl ?_);(try(refine gate_guard (by rfl) ?_;dsimp only));refine box_event ?hg (N:=2) ?hd (cs:=#[.int .i64 a0_0,.slice A0_1 l0_1.length c0_1]) (t:=24) ?hr ?_;(case hd=>rfl);(case hg=>rfl);(case hr=>first|(go_simp;done)|(go_simp;rfl));intro gb116 hg w18 hbox hb;have BK116:=aM (hbox);have GW116:=aM (gW hg:w.heap.size≤gb116);have GE116:=aM (gW hg:w.heap.size≤gb116);replace HB:=aM (below_step pB hb);clear hb hbox hg;obtain⟨hcz19_0,hcz19_1,hfz19_0,hfz19_1⟩:=bk2 BK116)|((with_reducible refine gate_callee (f:=15) rfl ?_);refine goesL_ (some 9) rfl rfl Try.func15 (by kernel_rfl) rfl #[.agg #[.int .i64 a0_0,.slice A0_1 l0_1.length c0_1]] rfl mA ?_;(with_reducible refine(Bzv.calls k a0_0 _ _ l0_1 t117 _ ?side1 ?side2 A3.out).mono ?_);(case side1=>exact cX (Kd.C_below HR0_1.out HB.out));(case side2=>exact HC0_1.out);rintro e w20 ⟨rfl,hb⟩;refine⟨_,rfl,?_⟩;replace BK116:=aM (kB BK116 hb);replace HB:=aM (below_step pB hb);(try clear hb);(try clear hb2);(try clear hk);(try clear hi)))
  go_ret2
  exact⟨eW,pB⟩

end Go.Proofs.Ytpjcpgobdiahpaa.Print
