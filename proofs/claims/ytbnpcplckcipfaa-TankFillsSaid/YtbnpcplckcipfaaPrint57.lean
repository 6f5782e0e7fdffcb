import Derived.Test.YtbnpcplckcipfaaPrint0
import Derived.Test.YtbnpcplckcipfaaPrint15
import Derived.Test.YtbnpcplckcipfaaPrint29
import Derived.Test.YtbnpcplckcipfaaPrint47
import Derived.Test.YtbnpcplckcipfaaPrint56
namespace Go.Proofs.Ytbnpcplckcipfaa.Print
open Go.RowKit Go.Proofs.YtbnpcplckcipfaaW.PrintWords Go.Proofs.YtbnpcplckcipfaaW.PrintLast Go.Proofs.YtbnpcplckcipfaaW.PrintMore
attribute [local go_sem] max2_int min2_int max_two min_two max_three min_three max_four min_four
set_option linter.unusedVariables false
set_option maxRecDepth 100000
set_option maxHeartbeats 8000000
set_option linter.unusedSimpArgs false

def Bzf.j0:Nat→List Int→Bool→Int→List (S33)→Option (Bool)
 | 0,_,_,_,_=>none
 | k+1,x1,x16,x965000,x965001=>if x16=true then((Ezp.f k).bind fun t966=>(some t966)) else((Fzf.f k x965000 x965001 x1).bind fun bt967=>((Bzx.f k x965000 x965001 x1).bind fun bt973=>((Dzp.f k bt967.1 bt967.2.1 bt973.1 bt973.2.1).bind fun t979=>(if t979=true then(if bt967.2.2=bt973.2.2 then((Ezp.f k).bind fun t980=>(some t980)) else(none)) else(none)))))
def Bzf.f (k:Nat) (a0_0:Int) (l0_1:List (S33)) (l1:List Int):Option (Bool):=(Czq.f k a0_0 l0_1).bind fun t965=>(if t965=true then(Bzf.j0 k l1 (decide ((l1.length:Int) > 20)) a0_0 l0_1) else(Bzf.j0 k l1 true a0_0 l0_1))
theorem Bzf.mono_l:∀ k,(∀ a6 a7 a8 a9,LeO (Bzf.j0 k a6 a7 a8 a9) (Bzf.j0 (k+1) a6 a7 a8 a9))
 | 0=>fun _ _ _ _ r h=>by simp [Bzf.j0] at h
 | k+1=>by
  have ih0:=Bzf.mono_l k
  ·intro a6 a7 a8 a9;unfold Bzf.j0;have i0:=@Ezp.mono;have i1:=@Czq.mono;have i2:=@Dzp.mono;have i3:=@Bzx.mono;have i4:=@Fzf.mono;exact mM
theorem Bzf.mono:∀ a6 a7 a8 k,LeO (Bzf.f k a6 a7 a8) (Bzf.f (k+1) a6 a7 a8):=by
 intro a6 a7 a8 k;have ih0:=Bzf.mono_l k;unfold Bzf.f;have i0:=@Ezp.mono;have i1:=@Czq.mono;have i2:=@Dzp.mono;have i3:=@Bzx.mono;have i4:=@Fzf.mono;exact mM
theorem Bzf.calls (k:Nat) (a6:Int) (a7:Option Addr) (a8:Nat) (a9:List (S33)) (b4:Option Addr) (b5:Nat) (l1:List Int) (r:Bool) (w:World) (b6:Kd.C k33 w a7 a9.length a9) (b7:a9.length≤a8) (b8:cI w b4 l1) (b9:l1.length≤b5) (h:Bzf.f k a6 a9 l1=some r) :
  Calls Try.prog 4 #[.agg #[.int .i64 a6,.slice a7 a9.length a8],.slice b4 l1.length b5] w fun e w'=>e=.returned (.bool r)∧bw w w':=by
 have hu24:=Try.underlying24;have d6:=aM b6;have d7:=aM b7;clear b6 b7;have d8:=aM b8;have d9:=aM b9;clear b8 b9;have HB:=aM (Below.refl w.heap.size w);have H:((Czq.f k a6 a9).bind fun e6=>(if e6=true then(Bzf.j0 k l1 (decide ((l1.length:Int) > 20)) a6 a9) else(Bzf.j0 k l1 true a6 a9)))=some r:=h
 clear h;have e7:=aM H;clear H;go_enter Try.func4,Try.ntmps4
 go_upto_region 1 with (first|((with_reducible refine gd 2 rfl ?_);refine bxg #[.int .i64 a6,.slice a7 a9.length a8] 24 ?_;intro e8 hg e9 f3 hb;have f4:=gA w hg;replace HB:=bB hb;clear hb hg))
 (try simp only[Act.put,sA,sZ,sC])
 go_cut [16] (fun f6 wc=>∃ (kq:Nat) (f7:Bool),f6=.bool f7∧Aside0 (Bzf.j0 kq l1 f7 a6 a9=some r)∧Aside0 (kq≤k)∧Aside0 (wc.heap[e8]?=some (.cells #[.int .i64 a6,(.slice a7 a9.length a8)] 24 (0,0)))∧Aside0 (bw w wc))
 case first =>
  have H:=e7.out;clear e7;obtain⟨e6,f8,H⟩:=bT H;(try dsimp only at H);by_cases c6:e6=true
  ·subst c6;rw[if_pos rfl] at H;have H':=aM H;clear H;obtain⟨f9,g4,g5,g6⟩:=bk2 f3;go_wp2_with (first|((with_reducible refine gc 10 rfl ?_);refine gC 10 (some 10) Try.func10 #[.agg #[.int .i64 a6,.slice a7 a9.length a8]] ?_;(with_reducible refine(Czq.calls k a6 _ _ a9 true _ ?_ ?_ f8.out).mono ?_);exact cB d6;exact d7.out;rintro e g7 ⟨rfl,hb⟩;refine⟨_,rfl,?_⟩;replace f3:=kb f3 hb;replace HB:=bB hb;clear hb))
   go_meet
   case rel=>exact⟨_,(decide ((l1.length:Int) > 20)),sD,H',⟨by first|omega|exact Nat.le_refl _⟩,⟨by exact kW f3⟩,⟨pB⟩⟩
  ·obtain rfl:=bN c6;rw[if_neg nF] at H
   have H':=aM H;clear H;obtain⟨g8,g9,j3,j4⟩:=bk2 f3;go_wp2_with (first|((with_reducible refine gc 10 rfl ?_);refine gC 10 (some 10) Try.func10 #[.agg #[.int .i64 a6,.slice a7 a9.length a8]] ?_;(with_reducible refine(Czq.calls k a6 _ _ a9 false _ ?_ ?_ f8.out).mono ?_);exact cB d6;exact d7.out;rintro e j5 ⟨rfl,hb⟩;refine⟨_,rfl,?_⟩;replace f3:=kb f3 hb;replace HB:=bB hb;clear hb))
   go_meet
   case rel=>exact⟨_,(true),sD,H',⟨by first|omega|exact Nat.le_refl _⟩,⟨by exact kW f3⟩,⟨pB⟩⟩
 case rest =>
  clear e7;try clear b5
  obtain⟨kq,f7,rfl,HA,j6,f3,HB⟩:=hcut;cases kq with
  | zero=>exact absurd HA.out (by simp [Bzf.j0])
  | succ j7 =>
   have H:=HA.out;clear HA;simp only[Bzf.j0] at H;by_cases j8:f7=true
   ·subst j8;rw[if_pos rfl] at H;replace H:=bS H;obtain⟨j9,l5,H⟩:=H;replace H:(some j9)=some r:=H;have l6:=aM l5;clear l5;obtain rfl:=Option.some.inj H;go_wp2_with (first|((with_reducible refine gc 11 rfl ?_);refine gC 11 (some 17) Try.func11 #[] ?_;(with_reducible refine(Ezp.calls j7  j9 _ l6.out).mono ?_);rintro e l7 ⟨rfl,hb⟩;refine⟨_,rfl,?_⟩;replace f3:=kb f3 hb;replace HB:=bB hb;clear hb))
    go_ret
    exact⟨eW,pB⟩
   ·obtain rfl:=bN j8;rw[if_neg nF] at H
    obtain⟨⟨l8,l9,m0⟩,m4,H⟩:=bT H;(try dsimp only at H);obtain⟨⟨m5,m6,m7⟩,m8,H⟩:=bT H;(try dsimp only at H);obtain⟨m9,n0,H⟩:=bT H;(try dsimp only at H);by_cases n7:m9=true
    ·subst n7;rw[if_pos rfl] at H;obtain⟨n8,H⟩:=iO H;have n9:(m0 == m7)=true:=beq_iff_eq.mpr n8;have o0:(m0 != m7)=false:=bne_eq_false_iff_eq.mpr n8;clear n8;replace H:=bS H;obtain⟨o8,o9,H⟩:=H;replace H:(some o8)=some r:=H;have p0:=aM o9;clear o9;obtain rfl:=Option.some.inj H;obtain⟨p4,p7,p9,r5⟩:=bk2 f3;go_wp2_with (first|((with_reducible refine gc 20 rfl ?_);refine gC 20 (some 21) Try.func20 #[.agg #[.int .i64 a6,.slice a7 a9.length a8],.slice b4 l1.length b5] ?_;(with_reducible refine(Fzf.calls j7 a6 _ _ a9 _ _ l1 l8 l9 m0 _ ?_ ?_ ?_ ?_ m4.out).mono ?_);exact cB d6;exact d7.out;exact cB d8;exact d9.out;rintro e r6 ⟨r7,rfl,r8,hb⟩;refine⟨_,rfl,?_⟩;have r9:=aM (Kd.N_lower (Kd.N_mono (ok':=fun k_=>k_≠e8) (nBe r8) (fun k_ hk_=>(fB f3 hk_.2.1))) (below_size pB));replace f3:=kb f3 hb;replace HB:=bB hb;clear hb r8)|((with_reducible refine gd 5 rfl ?_);refine bxg #[.int .i64 0,.slice none 0 0] 24 ?_;intro t4 hg t5 t6 hb;have t7:=gA w hg;have t9:=nl hg f3;have z3:=ng hg f3;replace r9:=nG' r9 hg hb;replace f3:=kb f3 hb;replace HB:=bB hb;clear hb hg;have z4:=z3.out;have z5:=t9.out;obtain⟨z6,z7,z8,z9⟩:=bk2 t6;obtain⟨B0,B5,rfl⟩:=Kd.N_slice r9.out;obtain⟨B9,C0,C1,C2⟩:=bk2 f3)|((with_reducible refine gc 21 rfl ?_);refine gC 21 (some 27) Try.func21 #[.agg #[.int .i64 a6,.slice a7 a9.length a8],.slice b4 l1.length b5] ?_;(with_reducible refine(Bzx.calls j7 a6 _ _ a9 _ _ l1 m5 m6 m7 _ ?_ ?_ ?_ ?_ m8.out).mono ?_);exact Kd.C_below d6.out pB;exact d7.out;exact Kd.C_below d8.out pB;exact d9.out;rintro e C3 ⟨C4,rfl,r8,hb⟩;refine⟨_,rfl,?_⟩;have C6:=aM (Kd.N_lower (Kd.N_mono (ok':=fun k_=>oN B0 l9.length B5 k_∧k_≠e8∧k_≠t4) (Kd.S_N (Kd.S_bound r8)) (fun k_ hk_=>⟨(Kd.fresh' (Kd.N_lt (nT r9 fun _ hk=>hk.2)) k_ hk_.2.1),(Kd.freshB (kf f3 t9) k_ hk_.2.1),(Kd.freshB (kQ t6) k_ hk_.2.1)⟩)) (below_size pB));replace r9:=aM (Kd.N_elder' (nT r9 fun _ hk=>hk.2) (Kd.N_base (Kd.S_N r8)) hb);replace f3:=kF f3 t9 hb;replace t6:=kP (o':=.cells #[.int .i64 l8,.slice B0 l9.length B5] 24 (0,0)) t6 hb;replace HB:=bB hb;clear hb r8)|((with_reducible refine gd 7 rfl ?_);refine bxg #[.int .i64 0,.slice none 0 0] 24 ?_;intro C7 hg C8 C9 hb;have D2:=gA w hg;have D4:=nl hg f3;have D5:=ng hg f3;have D6:=nl hg t6;have D7:=ng hg t6;replace r9:=nG' r9 hg hb;replace C6:=nG' C6 hg hb;replace f3:=kb f3 hb;replace t6:=kb t6 hb;replace HB:=bB hb;clear hb hg;have D8:=D5.out;have D9:=D4.out;have E0:=D7.out;have E1:=D6.out;obtain⟨E2,E3,E4,E5⟩:=bk2 C9;obtain⟨E6,E7,rfl⟩:=Kd.N_slice C6.out;obtain⟨E8,E9,F0,F2⟩:=bk2 t6)|((with_reducible refine gc 16 rfl ?_);refine gC 16 (some 32) Try.func16 #[.agg #[.int .i64 l8,.slice B0 l9.length B5],.agg #[.int .i64 m5,.slice E6 m6.length E7]] ?_;(with_reducible refine(Dzp.calls j7 l8 _ _ l9 m5 _ _ m6 true _ ?_ ?_ ?_ ?_ n0.out).mono ?_);(focus(refine(Kd.N_reads' (e:=33) (base:=w.heap.size) (ok:=fun k_=>(((k_≠e8∧k_≠t4)∧oN E6 m6.length E7 k_)∧k_≠C7)) (n:=l9.length) (c:=B5) ?_).2.2;exact(nT r9 fun _ hk=>hk.2)));exact lN r9;(focus(refine(Kd.N_reads' (e:=33) (base:=w.heap.size) (ok:=fun k_=>((oN B0 l9.length B5 k_∧(k_≠e8∧k_≠t4))∧k_≠C7)) (n:=m6.length) (c:=E7) ?_).2.2;exact(nT C6 fun _ hk=>hk.2)));exact lN C6;rintro e F3 ⟨rfl,hb⟩;refine⟨_,rfl,?_⟩;replace r9:=nb (nT r9 fun _ hk=>hk.2) hb;replace C6:=nb (nT C6 fun _ hk=>hk.2) hb;replace f3:=kF f3 D4 hb;replace t6:=kF t6 D6 hb;replace C9:=kP (o':=.cells #[.int .i64 m5,.slice E6 m6.length E7] 24 (0,0)) C9 hb;replace HB:=bB hb;clear hb)|(go_at_call 11;(with_reducible refine(Ezp.calls j7  o8 _ p0.out).mono ?_);rintro e F4 ⟨rfl,hb⟩;replace r9:=nB r9 hb;replace C6:=nB C6 hb;replace f3:=kb f3 hb;replace t6:=kb t6 hb;replace C9:=kb C9 hb;replace HB:=bB hb;clear hb))
     go_ret
     exact⟨eW,pB⟩
    ·obtain rfl:=bN n7;rw[if_neg nF] at H
     exact absurd H (by simp)

/-- THE ONE PURE STATEMENT of Bzf: yours. -/
def Bzf.Pure:Prop:=∀ (a0_0:Int) (l0_1:List (S33)) (l1:List Int),(Lit.int .i64 a0_0).wf=true→l0_1.length≤maxLen→l0_1.length * 56≤140737488351232→(∀ x_ ∈ l0_1,(True)∧(x_.f1.length≤maxLen∧x_.f1.length * 8≤140737488351232∧∀ y_ ∈ x_.f1,(Lit.int .i64 y_).wf=true)∧(x_.f2.length≤maxLen∧x_.f2.length * 8≤140737488351232∧∀ y_ ∈ x_.f2,(Lit.int .i64 y_).wf=true))→l1.length≤maxLen→l1.length * 8≤140737488351232→(∀ x_ ∈ l1,(Lit.int .i64 x_).wf=true)→∃ k,Bzf.f k a0_0 l0_1 l1=some true

end Go.Proofs.Ytbnpcplckcipfaa.Print
