import Derived.Test.YtokkiljkgejnhaaGreatPrint0
import Derived.Test.YtokkiljkgejnhaaGreatPrint49
import Derived.Test.YtokkiljkgejnhaaGreatPrint53
namespace Go.Proofs.YtokkiljkgejnhaaGreat.Print
open Go.RowKit Go.Proofs.YtokkiljkgejnhaaGreatW.PrintWords Go.Proofs.YtokkiljkgejnhaaGreatW.PrintLast Go.Proofs.YtokkiljkgejnhaaGreatW.PrintMore
attribute [local go_sem] max2_int min2_int max_two min_two max_three min_three max_four min_four
set_option linter.unusedVariables false
set_option maxRecDepth 100000
set_option maxHeartbeats 8000000
set_option linter.unusedSimpArgs false

mutual
def Azf.l0:Nat→List (S26)→Int→Option (Bool × List Int × List Int × Int)
 | 0,_,_=>none
 | k+1,x0,x4=>if x4 < (x0.length:Int) then(if 0≤x4 then((Azq.f k ((rd_T26 x0 x4).f0) ((rd_T26 x0 x4).f1) ((rd_T26 x0 x4).f2)).bind fun t961=>(if t961=true then(Azf.l0 k x0 (wrap64 (x4+1))) else(some (false,([]:List Int),([]:List Int),3)))) else(none)) else((Ezz.f k 0).bind fun bt962=>(Azf.l1 k x0 0 bt962.1 bt962.2.1 bt962.2.2.1))
def Azf.l1:Nat→List (S26)→Int→Bool→List Int→List Int→Option (Bool × List Int × List Int × Int)
 | 0,_,_,_,_,_=>none
 | k+1,x0,x7,x971000,x971001,x971002=>if x7 < (x0.length:Int) then(if 0≤x7 then((Bzq.f k x971000 x971001 x971002 ((rd_T26 x0 x7).f0) ((rd_T26 x0 x7).f1) ((rd_T26 x0 x7).f2)).bind fun bt972=>(if bt972.2.2.2=0 then(Azf.l1 k x0 (wrap64 (x7+1)) bt972.1 bt972.2.1 bt972.2.2.1) else(some (false,([]:List Int),([]:List Int),bt972.2.2.2)))) else(none)) else(some (x971000,x971001,x971002,0))
end
def Azf.f (k:Nat) (l0:List (S26)):Option (Bool × List Int × List Int × Int):=if(l0.length:Int) > 4096 then(some (false,([]:List Int),([]:List Int),8)) else(Azf.l0 k l0 0)
theorem Azf.mono_l:∀ k,(∀ a6 a7,LeO (Azf.l0 k a6 a7) (Azf.l0 (k+1) a6 a7))∧(∀ a6 a7 a8 b4 b5,LeO (Azf.l1 k a6 a7 a8 b4 b5) (Azf.l1 (k+1) a6 a7 a8 b4 b5))
 | 0=>⟨fun _ _ r h=>by simp [Azf.l0] at h,fun _ _ _ _ _ r h=>by simp [Azf.l1] at h⟩
 | k+1=>by
  obtain⟨ih0,ih1⟩:=Azf.mono_l k;have i0:=@Bzq.mono;have i1:=@Ezz.mono;have i2:=@Azq.mono;refine⟨?_,?_⟩
  ·intro a6 a7;unfold Azf.l0;exact mM
  ·intro a6 a7 a8 b4 b5;unfold Azf.l1;exact mM
theorem Azf.mono:∀ a6 k,LeO (Azf.f k a6) (Azf.f (k+1) a6):=by
 intro a6 k;obtain⟨ih0,ih1⟩:=Azf.mono_l k;unfold Azf.f;have i0:=@Bzq.mono;have i1:=@Ezz.mono;have i2:=@Azq.mono;exact mM
def Azf.T12:Bool × List (List Nat × List Nat):=(true,[([],[]),([],[]),([],[]),([1,2],[1,2]),([3],[3]),([0,4],[0,4]),([5],[5]),([6],[6]),([6],[6]),([],[]),([9,7,5,0,1,2,3,4,5,6,7,9],[7,9]),([8,10,0,1,2,3,4,5,6,7,8,9,10],[8])])
def Azf.B12:List Nat:=[0,0,0,6,14,31,63,127,127,0,767,2047]
theorem Azf.tab12:rtab .any (opsOf Tryz.f40 12)=Azf.T12:=by kernel_rfl
theorem Azf.bits12:waitsOk Azf.T12.2 Azf.B12=true:=by kernel_rfl
theorem Azf.calls (k:Nat) (a6:Option Addr) (a7:Nat) (l0:List (S26)) (a8:Bool) (b4:List Int) (b5:List Int) (b6:Int) (w:World) (b7:Kd.C k26 w a6 l0.length l0) (b8:l0.length≤a7) (h:Azf.f k l0=some (a8,b4,b5,b6)) :
  Calls Tryz.prog 40 #[.slice a6 l0.length a7] w fun e w'=>∃ v1_ v2_:Value,e=.returned (.tuple #[.agg #[.bool a8,v1_,v2_],.int .i64 b6])∧Kd.R (Kd.int .i64) 3 w' w.heap.size (fun k_=>some k_≠(v2_:Value).ownBlock) v1_ b4∧Kd.R (Kd.int .i64) 3 w' w.heap.size (fun k_=>some k_≠(v1_:Value).ownBlock) v2_ b5∧Below w.heap.size w w':=by
 have hu26:=Tryz.underlying26;have b9:=aM b7;have d0:=aM b8;clear b7 b8;have HB:=aM (Below.refl w.heap.size w);have H:(if(l0.length:Int) > 4096 then(some (false,([]:List Int),([]:List Int),8)) else(Azf.l0 k l0 0))=some (a8,b4,b5,b6):=h
 clear h;by_cases c2:(l0.length:Int) > 4096
 ·rw[if_pos c2] at H;have d6:decide (4096 < (l0.length:Int))=true:=dE c2;have d7:decide (4096 < l0.length)=true:=dE (by omega)
  clear c2;obtain⟨rfl,rfl,rfl,rfl⟩:=q4 H;go_enter Tryz.func40,Tryz.ntmps40
  go_wp2_with (first|((with_reducible refine gd 2 rfl ?_);refine bx #[.bool false,.slice none 0 0,.slice none 0 0] 26 ?_;intro d8 hg d9 e6 hb;have e7:=gA w hg;have e8:=gA w hg;replace HB:=bB hb;clear hb hg;obtain⟨e9,f3,f4,f6,f9,g4⟩:=bk3 e6))
  refine bodyPost_ret (results_ct rfl _ _ d8 26 #[.bool false,.slice none 0 0,.slice none 0 0] (0,0) _ rfl (kQ e6) Tryz.underlying26 rfl (by kernel_rfl)) rfl ?_
  exact⟨_,_,eW,nK,nK,pB⟩
 ·rw[if_neg c2] at H;have d6:decide (4096 < (l0.length:Int))=false:=decide_eq_false c2;have d7:decide (4096 < l0.length)=false:=decide_eq_false (by omega)
  clear c2;have H':=aM H;clear H;go_enter Tryz.func40,Tryz.ntmps40
  go_wp2_with (first|((with_reducible refine gd 2 rfl ?_);refine bx #[.bool false,.slice none 0 0,.slice none 0 0] 26 ?_;intro d8 hg g5 e6 hb;have e7:=gA w hg;have e8:=gA w hg;replace HB:=bB hb;clear hb hg))
  go_loopg [4] k (fun kq g6 w'=>∃ (g7:Int) (g8:Bool),g6=.int .i64 g7∧Aside0 (Azf.l0 kq l0 g7=some (a8,b4,b5,b6))∧Aside0 (kq≤k)∧Aside0 (w'.heap[d8]?=some (.cells #[.bool g8,(.slice none 0 0),(.slice none 0 0)] 26 (0,0)))∧Aside0 (Below w.heap.size w w'))
  case atStart=>exact⟨(0),(false),sD,H',⟨Nat.le_refl _⟩,⟨by exact kW e6⟩,⟨pB⟩⟩
  case round =>
   clear H';try clear c2
   obtain⟨g7,g8,rfl,HA,g9,e6,HB⟩:=hrel;cases gk with
   | zero=>exact absurd HA.out (by simp [Azf.l0])
   | succ k1 =>
    have H:=HA.out;clear HA;simp only[Azf.l0] at H;by_cases c6:g7 < (l0.length:Int)
    ·rw[if_pos c6] at H;have j3:=dE c6;clear c6;obtain⟨j4,H⟩:=iN H;obtain⟨j5,j6,H⟩:=bT H;(try dsimp only at H);by_cases c9:j5=true
     ·subst c9;rw[if_pos rfl] at H;have H':=aM H;clear H;obtain⟨j7,j8,j9,l5,l6,l7,l8,l9,m0,m3,m4,m5,m6⟩:=at_T26 b9.out g7 (oE aS) (oE aS);cases l7
      replace l8:=hB HB l8;replace l9:=hB HB l9;replace m0:=hB HB m0;have m7:=aM m4;have m8:=aM m3;clear m4 m3;have m9:=aM m6;have n0:=aM m5;clear m6 m5;have n6:=eT (g7);have n7:=eU (g7) l0.length;go_wp2_with (first|((with_reducible refine gc 49 rfl ?_);refine gC 49 (some 24) Tryz.func49 #[.agg #[.bool ((rd_T26 l0 g7).f0),.slice j8 ((rd_T26 l0 g7).f1).length j9,.slice l5 ((rd_T26 l0 g7).f2).length l6]] ?_;(with_reducible refine(Azq.calls k1 ((rd_T26 l0 g7).f0) _ _ ((rd_T26 l0 g7).f1) _ _ ((rd_T26 l0 g7).f2) true _ ?_ ?_ ?_ ?_ j6.out).mono ?_);exact cB m7;exact m8.out;exact cB m9;exact n0.out;rintro e n8 ⟨rfl,hb⟩;refine⟨_,rfl,?_⟩;replace e6:=kb e6 hb;replace HB:=bB hb;clear hb))
      go_roundg k1
      case measure=>have:=g9.out;omega
      case rel=>exact⟨(wrap64 (g7+1)),(g8),sD,H',⟨by have:=g9.out;omega⟩,⟨by exact kW e6⟩,⟨pB⟩⟩
     ·obtain rfl:=bN c9;rw[if_neg nF] at H
      obtain⟨rfl,rfl,rfl,rfl⟩:=q4 H;obtain⟨j7,j8,j9,l5,l6,l7,l8,l9,m0,m3,m4,m5,m6⟩:=at_T26 b9.out g7 (oE aS) (oE aS);cases l7
      replace l8:=hB HB l8;replace l9:=hB HB l9;replace m0:=hB HB m0;have m7:=aM m4;have m8:=aM m3;clear m4 m3;have m9:=aM m6;have n0:=aM m5;clear m6 m5;have n6:=eT (g7);have n7:=eU (g7) l0.length;go_wp2_with (first|((with_reducible refine gc 49 rfl ?_);refine gC 49 (some 24) Tryz.func49 #[.agg #[.bool ((rd_T26 l0 g7).f0),.slice j8 ((rd_T26 l0 g7).f1).length j9,.slice l5 ((rd_T26 l0 g7).f2).length l6]] ?_;(with_reducible refine(Azq.calls k1 ((rd_T26 l0 g7).f0) _ _ ((rd_T26 l0 g7).f1) _ _ ((rd_T26 l0 g7).f2) false _ ?_ ?_ ?_ ?_ j6.out).mono ?_);exact cB m7;exact m8.out;exact cB m9;exact n0.out;rintro e n9 ⟨rfl,hb⟩;refine⟨_,rfl,?_⟩;replace e6:=kb e6 hb;replace HB:=bB hb;clear hb;obtain⟨o0,o8,o9,p0,p3,p4⟩:=bk3 e6))
      refine bodyPost_ret (results_ct rfl _ _ d8 26 #[.bool false,.slice none 0 0,.slice none 0 0] (0,0) _ rfl (kQ e6) Tryz.underlying26 rfl (by kernel_rfl)) rfl ?_
      exact⟨_,_,eW,nK,nK,pB⟩
    ·rw[if_neg c6] at H;have j3:decide (g7 < (l0.length:Int))=false:=decide_eq_false c6;clear c6;obtain⟨⟨p5,r5,r6,r7⟩,r8,H⟩:=bT H;(try dsimp only at H);have H':=aM H;clear H;go_wp2_with (first|((with_reducible refine gc 41 rfl ?_);refine gC 41 (some 28) Tryz.func41 #[.int .i64 0] ?_;(with_reducible refine(Ezz.calls k1 0 p5 r5 r6 r7 _ r8.out).mono ?_);rintro e r9 ⟨t6,t7,rfl,t8,z1,hb⟩;refine⟨_,rfl,?_⟩;have z2:=rL t8;have z6:=rL z1;replace e6:=kb e6 hb;replace HB:=bB hb;clear hb t8 z1)|((with_reducible refine gd 5 rfl ?_);refine bx #[.bool false,.slice none 0 0,.slice none 0 0] 26 ?_;intro z7 hg z8 B0 hb;have B5:=gA w hg;have B6:=gA w hg;have B8:=nl hg e6;have B9:=ng hg e6;replace z2:=rB z2 hb;replace z6:=rB z6 hb;replace e6:=kb e6 hb;replace HB:=bB hb;clear hb hg;have C0:=B9.out;have C1:=B8.out;obtain⟨C2,C3,C4,C6,C7,C8⟩:=bk3 B0;obtain⟨C9,D0,rfl⟩:=Kd.R_slice z2.out;obtain⟨D1,D2,rfl⟩:=Kd.R_slice z6.out))
     go_loopg [7] k1 (fun kq D3 w'=>∃ (D4:Int) (D5:Bool) (D6:Bool) (D7:List Int) (D8:List Int) (u971001:Value) (u971002:Value),D3=.int .i64 D4∧Aside0 (Azf.l1 kq l0 D4 D6 D7 D8=some (a8,b4,b5,b6))∧Aside0 (kq≤k1)∧Aside0 (Kd.R (Kd.int .i64) 3 w' w.heap.size (fun k_=>some k_≠(u971002:Value).ownBlock) u971001 D7)∧Aside0 (Kd.R (Kd.int .i64) 3 w' w.heap.size (fun k_=>some k_≠(u971001:Value).ownBlock) u971002 D8)∧Aside0 (w'.heap[d8]?=some (.cells #[.bool D5,(.slice none 0 0),(.slice none 0 0)] 26 (0,0)))∧Aside0 (w'.heap[z7]?=some (.cells #[.bool D6,u971001,u971002] 26 (0,0)))∧Aside0 (Below w.heap.size w w'))
     case atStart=>exact⟨(0),(g8),(p5),(r5),(r6),(.slice C9 r5.length D0),(.slice D1 r6.length D2),sD,H',⟨Nat.le_refl _⟩,⟨by exact Kd.R_mono (rT z2 B0) (fun _ hk=>hk)⟩,⟨by exact Kd.R_mono (rT z6 B0) (fun _ hk=>hk)⟩,⟨by exact kf e6 B8⟩,⟨by exact kQ B0⟩,⟨pB⟩⟩
     case round =>
      clear H';try clear D9
      obtain⟨D4,D5,D6,D7,D8,u971001,u971002,rfl,HA,E0,E1,E2,e6,B0,HB⟩:=hrel;cases gk with
      | zero=>exact absurd HA.out (by simp [Azf.l1])
      | succ k2 =>
       have H:=HA.out;clear HA;simp only[Azf.l1] at H;by_cases E3:D4 < (l0.length:Int)
       ·rw[if_pos E3] at H;have E4:=dE E3;clear E3;obtain⟨E5,H⟩:=iN H;obtain⟨⟨E6,E7,E8,E9⟩,F0,H⟩:=bT H;(try dsimp only at H);by_cases F1:E9=0
        ·rw[if_pos F1] at H;obtain⟨F2,F3⟩:=bE F1;clear F1;have H':=aM H;clear H;obtain⟨F4,F5,rfl⟩:=Kd.R_slice E1.out;obtain⟨F6,F7,rfl⟩:=Kd.R_slice E2.out;try go_wp2
         have n0_:=aM (Kd.R_drew E1.out);have n1_:=aM (Kd.R_drew E2.out);have n2_:=aM (blk_drew e6.out);have n3_:=aM (blk_drew B0.out);have n4_:=aM (below_drew1 HB.out);clear E1 E2 e6 B0 HB;have E1:=n0_;have E2:=n1_;have e6:=n2_;have B0:=n3_;have HB:=n4_;clear n0_ n1_ n2_ n3_ n4_;obtain⟨F8,F9,G0,G4,G5,G6,G7,G8,G9,H5,H6,H7,H8⟩:=at_T26 b9.out D4 (oE aS) (oE aS);have H9:=G9;have I0:=G8;have I1:=G7;cases G6
         replace G7:=hB HB G7;replace G8:=hB HB G8;replace G9:=hB HB G9;have I2:=aM H6;have I3:=aM H5;clear H6 H5;have I4:=aM H8;have I5:=aM H7;clear H8 H7;have I6:=eT (D4);have I7:=eU (D4) l0.length;refine start_ (n:=12) (S:=fun w'=>w'.cell? ⟨z7,0,none⟩=some (.bool D6)∧w'.cell? ⟨z7,1,none⟩=some (.slice F4 D7.length F5)∧w'.cell? ⟨z7,2,none⟩=some (.slice F6 D8.length F7)∧w'.cell? (F8.add ((D4).toNat * 3))=some (.bool ((rd_T26 l0 D4).f0))∧w'.cell? ⟨(F8.add ((D4).toNat * 3)).block,(F8.add ((D4).toNat * 3)).off+1,none⟩=some (.slice F9 ((rd_T26 l0 D4).f1).length G0)∧w'.cell? ⟨(F8.add ((D4).toNat * 3)).block,(F8.add ((D4).toNat * 3)).off+2,none⟩=some (.slice G4 ((rd_T26 l0 D4).f2).length G5)) (ds:=[]) (bA 12 0) (by kernel_rfl) rfl rfl ⟨(blk_cell B0.out 0).trans rfl,(blk_cell B0.out 1).trans rfl,(blk_cell B0.out 2).trans rfl,(hB HB I1),(hB HB I0),(hB HB H9)⟩ (fun hHeld=>?_);refine with_tabW Azf.tab12 Azf.bits12 (fun HT_ HW_=>?_)
         generalize wr.drew=I8 at E1 E2 e6 B0 HB I2 I4 G7 G8 G9 hHeld ⊢;refine pS 1 39 HT_ ?_;refine pS 2 40 HT_ ?_;refine pS 3 41 HT_ ?_;refine tU 0 38 HT_ HW_ hHeld ?_;refine tU 4 42 HT_ HW_ hHeld ?_;refine join_ (σ:=Value × Value × Nat) 2 (bA 12 1023) (fun s_=>[(43,.tuple #[.agg #[.bool E6,s_.1,s_.2.1],.int .i64 E9]),(8,.pointer (some ⟨s_.2.2,0,none⟩)),(37,.tuple #[.agg #[.bool E6,s_.1,s_.2.1],.int .i64 E9]),(44,.agg #[.bool E6,s_.1,s_.2.1]),(45,.int .i64 E9)]) (fun s_ w'=>(w'.cell? ⟨z7,0,none⟩=some (.bool D6)∧w'.cell? ⟨z7,1,none⟩=some (.slice F4 D7.length F5)∧w'.cell? ⟨z7,2,none⟩=some (.slice F6 D8.length F7)∧w'.cell? (F8.add ((D4).toNat * 3))=some (.bool ((rd_T26 l0 D4).f0))∧w'.cell? ⟨(F8.add ((D4).toNat * 3)).block,(F8.add ((D4).toNat * 3)).off+1,none⟩=some (.slice F9 ((rd_T26 l0 D4).f1).length G0)∧w'.cell? ⟨(F8.add ((D4).toNat * 3)).block,(F8.add ((D4).toNat * 3)).off+2,none⟩=some (.slice G4 ((rd_T26 l0 D4).f2).length G5))∧(Kd.R (Kd.int .i64) 3 w' w.heap.size (fun k_=>some k_≠(s_.2.1:Value).ownBlock∧some k_≠(.slice F4 D7.length F5:Value).ownBlock∧some k_≠(.slice F6 D8.length F7:Value).ownBlock) s_.1 E7)∧(Kd.R (Kd.int .i64) 3 w' w.heap.size (fun k_=>some k_≠(s_.1:Value).ownBlock∧some k_≠(.slice F4 D7.length F5:Value).ownBlock∧some k_≠(.slice F6 D8.length F7:Value).ownBlock) s_.2.1 E8)∧(Kd.R (Kd.int .i64) 3 w' w.heap.size (fun k_=>some k_≠(s_.1:Value).ownBlock∧some k_≠(s_.2.1:Value).ownBlock∧some k_≠(.slice F6 D8.length F7:Value).ownBlock) (.slice F4 D7.length F5) D7)∧(Kd.R (Kd.int .i64) 3 w' w.heap.size (fun k_=>some k_≠(s_.1:Value).ownBlock∧some k_≠(s_.2.1:Value).ownBlock∧some k_≠(.slice F4 D7.length F5:Value).ownBlock) (.slice F6 D8.length F7) D8)∧(w'.heap[d8]?=some (.cells #[.bool D5,.slice none 0 0,.slice none 0 0] 26 (0,0)))∧(w'.heap[z7]?=some (.cells #[.bool D6,.slice F4 D7.length F5,.slice F6 D8.length F7] 26 (0,0)))∧(w'.heap[s_.2.2]?=some (.cells #[.bool false,.slice none 0 0,.slice none 0 0] 26 (0,0)))∧(w.heap.size≤s_.2.2)∧(w.heap.size≤s_.2.2)∧(d8≠s_.2.2)∧(s_.2.2≠d8)∧(z7≠s_.2.2)∧(s_.2.2≠z7)∧(Below w.heap.size w w')) ?_ ?_
         rotate_left
         ·intro hCont;refine two_ (i:=5) (j:=9) (Ni:=some 43) (Nj:=some 8) (bA 12 63) (bA 12 543) rfl rfl rfl rfl (two_of HT_.out (by kernel_rfl)) (by decide) (by decide) (fun K hK=>?_) (fun K hK=>?_)
          ·skip
           refine goes_ Tryz.func50 (by kernel_rfl) rfl #[.agg #[.bool D6,.slice F4 D7.length F5,.slice F6 D8.length F7],.agg #[.bool ((rd_T26 l0 D4).f0),.slice F9 ((rd_T26 l0 D4).f1).length G0,.slice G4 ((rd_T26 l0 D4).f2).length G5]] (by rfl) rfl rfl mA ?_
           with_reducible refine(Bzq.calls k2 D6 _ _ D7 _ _ D8 ((rd_T26 l0 D4).f0) _ _ ((rd_T26 l0 D4).f1) _ _ ((rd_T26 l0 D4).f2) E6 E7 E8 E9 _ ?side1 ?side2 ?side3 ?side4 ?side5 ?side6 ?side7 ?side8 F0.out).mono ?_
           (case side1=>exact cR E1)
           (case side2=>exact lR E1)
           (case side3=>exact cR E2)
           (case side4=>exact lR E2)
           (case side5=>exact cB I2)
           (case side6=>exact I3.out)
           (case side7=>exact cB I4)
           (case side8=>exact I5.out)
           rintro e I9 ⟨J0,J1,rfl,t8,z1,hb⟩;refine⟨_,rfl,?_⟩;have n0_:=rO E1 hb t8 z1
           have n1_:=rO E2 hb t8 z1
           have n2_:=rL (rn (rn t8 E1) E2);have n3_:=rL (rn (rn z1 E1) E2);have n4_:=kb e6 hb;have n5_:=kb B0 hb;have n6_:=bB hb;clear E1 E2 e6 B0 HB;have E1:=n0_;have E2:=n1_;have J2:=n2_;have J3:=n3_;have e6:=n4_;have B0:=n5_;have HB:=n6_;clear n0_ n1_ n2_ n3_ n4_ n5_ n6_;(try clear hb)
           (try clear J4)
           (try clear hk)
           (try clear hi)
           (try clear t8)
           (try clear z1)
           refine hK.out _ _ ⟨(blk_cell B0.out 0).trans rfl,(blk_cell B0.out 1).trans rfl,(blk_cell B0.out 2).trans rfl,(hB HB I1),(hB HB I0),(hB HB H9)⟩ (fun hHeld=>?_)
           clear hK K;refine nm 43 ?_;refine pS 6 37 HT_ ?_;refine pS 7 44 HT_ ?_;refine pS 8 45 HT_ ?_;refine oU 9 (some 8) HT_ fun K hK=>?_
           refine box_step ?hg (N:=8) ?hd (cs:=#[.bool false,.slice none 0 0,.slice none 0 0]) (t:=26) ?hr ?_;(case hd=>rfl);(case hg=>rfl);(case hr=>first|(go_simp;done)|(go_simp;rfl))
           intro J5 hg J6 hbox hb;have n0_:=rB E1 hb;have n1_:=rB E2 hb;have n2_:=rB J2 hb;have n3_:=rB J3 hb;have n4_:=kb e6 hb;have n5_:=kb B0 hb;have n6_:=bB hb;have n7_:=aM (hbox);have n8_:=gA w hg;have n9_:=gA w hg;have J7:=nl hg e6;have J8:=ng hg e6;have J9:=nl hg B0;have K0:=ng hg B0;clear E1 E2 J2 J3 e6 B0 HB;have E1:=n0_;have E2:=n1_;have J2:=n2_;have J3:=n3_;have e6:=n4_;have B0:=n5_;have HB:=n6_;have K1:=n7_;have K2:=n8_;have K3:=n9_;have K4:=J7;have K5:=J8;have K6:=J9;have K7:=K0;clear n0_ n1_ n2_ n3_ n4_ n5_ n6_ n7_ n8_ n9_ J7 J8 J9 K0 hb hbox hg;refine hK.out _ _ ⟨(blk_cell B0.out 0).trans rfl,(blk_cell B0.out 1).trans rfl,(blk_cell B0.out 2).trans rfl,(hB HB I1),(hB HB I0),(hB HB H9)⟩ (fun hHeld=>?_)
           clear hK K;refine nm 8 ?_;exact norm_ (by simp only[putAll,Act.put,sA,sZ,sC]) (hCont (J0,J1,J5) _ ⟨hHeld,(rX (Kd.R_mono J2.out (fun _ hk=>⟨hk.1.1,⟨hk.1.2,hk.2⟩⟩))),(rX (Kd.R_mono J3.out (fun _ hk=>⟨hk.1.1,⟨hk.1.2,hk.2⟩⟩))),(rX (Kd.R_mono E1.out (fun _ hk=>⟨hk.1.2,⟨hk.2,hk.1.1⟩⟩))),(rX (Kd.R_mono E2.out (fun _ hk=>⟨hk.1.2,⟨hk.2,hk.1.1⟩⟩))),(kW e6),(kW B0),(kW K1),K2.out,K3.out,K4.out,K5.out,K6.out,K7.out,pB⟩)
          ·skip
           refine box_step ?hg (N:=8) ?hd (cs:=#[.bool false,.slice none 0 0,.slice none 0 0]) (t:=26) ?hr ?_;(case hd=>rfl);(case hg=>rfl);(case hr=>first|(go_simp;done)|(go_simp;rfl))
           intro J5 hg I9 hbox hb;have n0_:=rB E1 hb;have n1_:=rB E2 hb;have n2_:=kb e6 hb;have n3_:=kb B0 hb;have n4_:=bB hb;have n5_:=aM (hbox);have n6_:=gA w hg;have n7_:=gA w hg;have n8_:=nl hg e6;have n9_:=ng hg e6;have J7:=nl hg B0;have J8:=ng hg B0;clear E1 E2 e6 B0 HB;have E1:=n0_;have E2:=n1_;have e6:=n2_;have B0:=n3_;have HB:=n4_;have K1:=n5_;have K2:=n6_;have K3:=n7_;have K4:=n8_;have K5:=n9_;have K6:=J7;have K7:=J8;clear n0_ n1_ n2_ n3_ n4_ n5_ n6_ n7_ n8_ n9_ J7 J8 hb hbox hg;refine hK.out _ _ ⟨(blk_cell B0.out 0).trans rfl,(blk_cell B0.out 1).trans rfl,(blk_cell B0.out 2).trans rfl,(hB HB I1),(hB HB I0),(hB HB H9)⟩ (fun hHeld=>?_)
           clear hK K;refine nm 8 ?_;refine oU 5 (some 43) HT_ fun K hK=>?_
           refine goes_ Tryz.func50 (by kernel_rfl) rfl #[.agg #[.bool D6,.slice F4 D7.length F5,.slice F6 D8.length F7],.agg #[.bool ((rd_T26 l0 D4).f0),.slice F9 ((rd_T26 l0 D4).f1).length G0,.slice G4 ((rd_T26 l0 D4).f2).length G5]] (by rfl) rfl rfl mA ?_
           with_reducible refine(Bzq.calls k2 D6 _ _ D7 _ _ D8 ((rd_T26 l0 D4).f0) _ _ ((rd_T26 l0 D4).f1) _ _ ((rd_T26 l0 D4).f2) E6 E7 E8 E9 _ ?side1 ?side2 ?side3 ?side4 ?side5 ?side6 ?side7 ?side8 F0.out).mono ?_
           (case side1=>exact cR E1)
           (case side2=>exact lR E1)
           (case side3=>exact cR E2)
           (case side4=>exact lR E2)
           (case side5=>exact cB I2)
           (case side6=>exact I3.out)
           (case side7=>exact cB I4)
           (case side8=>exact I5.out)
           rintro e J6 ⟨J0,J1,rfl,t8,z1,hb⟩;refine⟨_,rfl,?_⟩;have n0_:=rO E1 hb t8 z1
           have n1_:=rO E2 hb t8 z1
           have n2_:=rL (rn (rn t8 E1) E2);have n3_:=rL (rn (rn z1 E1) E2);have n4_:=kb e6 hb;have n5_:=kb B0 hb;have n6_:=kb K1 hb;have n7_:=bB hb;clear E1 E2 e6 B0 K1 HB;have E1:=n0_;have E2:=n1_;have J2:=n2_;have J3:=n3_;have e6:=n4_;have B0:=n5_;have K1:=n6_;have HB:=n7_;clear n0_ n1_ n2_ n3_ n4_ n5_ n6_ n7_;(try clear hb)
           (try clear J4)
           (try clear hk)
           (try clear hi)
           (try clear t8)
           (try clear z1)
           refine hK.out _ _ ⟨(blk_cell B0.out 0).trans rfl,(blk_cell B0.out 1).trans rfl,(blk_cell B0.out 2).trans rfl,(hB HB I1),(hB HB I0),(hB HB H9)⟩ (fun hHeld=>?_)
           clear hK K;refine nm 43 ?_;refine pS 6 37 HT_ ?_;refine pS 7 44 HT_ ?_;refine pS 8 45 HT_ ?_;exact norm_ (by simp only[putAll,Act.put,sA,sZ,sC]) (hCont (J0,J1,J5) _ ⟨hHeld,(rX (Kd.R_mono J2.out (fun _ hk=>⟨hk.1.1,⟨hk.1.2,hk.2⟩⟩))),(rX (Kd.R_mono J3.out (fun _ hk=>⟨hk.1.1,⟨hk.1.2,hk.2⟩⟩))),(rX (Kd.R_mono E1.out (fun _ hk=>⟨hk.1.2,⟨hk.2,hk.1.1⟩⟩))),(rX (Kd.R_mono E2.out (fun _ hk=>⟨hk.1.2,⟨hk.2,hk.1.1⟩⟩))),(kW e6),(kW B0),(kW K1),K2.out,K3.out,K4.out,K5.out,K6.out,K7.out,pB⟩)
         rintro ⟨J0,J1,J5⟩ K8 ⟨hS_,h0_,h1_,h2_,h3_,h4_,h5_,h6_,h7_,h8_,h9_,K9,L0,L5,L6⟩;have n0_:Aside0 (Kd.R (Kd.int .i64) 3 K8 w.heap.size (fun k_=>some k_≠(J1:Value).ownBlock∧some k_≠(.slice F4 D7.length F5:Value).ownBlock∧some k_≠(.slice F6 D8.length F7:Value).ownBlock) J0 E7):=⟨h0_⟩
         have n1_:Aside0 (Kd.R (Kd.int .i64) 3 K8 w.heap.size (fun k_=>some k_≠(J0:Value).ownBlock∧some k_≠(.slice F4 D7.length F5:Value).ownBlock∧some k_≠(.slice F6 D8.length F7:Value).ownBlock) J1 E8):=⟨h1_⟩
         have n2_:Aside0 (Kd.R (Kd.int .i64) 3 K8 w.heap.size (fun k_=>some k_≠(J0:Value).ownBlock∧some k_≠(J1:Value).ownBlock∧some k_≠(.slice F6 D8.length F7:Value).ownBlock) (.slice F4 D7.length F5) D7):=⟨h2_⟩
         have n3_:Aside0 (Kd.R (Kd.int .i64) 3 K8 w.heap.size (fun k_=>some k_≠(J0:Value).ownBlock∧some k_≠(J1:Value).ownBlock∧some k_≠(.slice F4 D7.length F5:Value).ownBlock) (.slice F6 D8.length F7) D8):=⟨h3_⟩
         have n4_:Aside0 (K8.heap[d8]?=some (.cells #[.bool D5,.slice none 0 0,.slice none 0 0] 26 (0,0))):=⟨h4_⟩;have n5_:Aside0 (K8.heap[z7]?=some (.cells #[.bool D6,.slice F4 D7.length F5,.slice F6 D8.length F7] 26 (0,0))):=⟨h5_⟩;have n6_:Aside0 (K8.heap[J5]?=some (.cells #[.bool false,.slice none 0 0,.slice none 0 0] 26 (0,0))):=⟨h6_⟩;have n7_:Aside0 (w.heap.size≤J5):=⟨h7_⟩;have n8_:Aside0 (w.heap.size≤J5):=⟨h8_⟩;have n9_:Aside0 (d8≠J5):=⟨h9_⟩;have J7:Aside0 (J5≠d8):=⟨K9⟩;have J8:Aside0 (z7≠J5):=⟨L0⟩;have J9:Aside0 (J5≠z7):=⟨L5⟩;have K0:Aside0 (Below w.heap.size w K8):=⟨L6⟩;clear E1 E2 e6 B0 HB h0_ h1_ h2_ h3_ h4_ h5_ h6_ h7_ h8_ h9_ K9 L0 L5 L6;have J2:=n0_;have J3:=n1_;have E1:=n2_;have E2:=n3_;have e6:=n4_;have B0:=n5_;have K1:=n6_;have K2:=n7_;have K3:=n8_;have K4:=n9_;have K5:=J7;have K6:=J8;have K7:=J9;have HB:=K0;clear n0_ n1_ n2_ n3_ n4_ n5_ n6_ n7_ n8_ n9_ J7 J8 J9 K0;have hHeld:K8.cell? ⟨z7,0,none⟩=some (.bool D6)∧K8.cell? ⟨z7,1,none⟩=some (.slice F4 D7.length F5)∧K8.cell? ⟨z7,2,none⟩=some (.slice F6 D8.length F7)∧K8.cell? (F8.add ((D4).toNat * 3))=some (.bool ((rd_T26 l0 D4).f0))∧K8.cell? ⟨(F8.add ((D4).toNat * 3)).block,(F8.add ((D4).toNat * 3)).off+1,none⟩=some (.slice F9 ((rd_T26 l0 D4).f1).length G0)∧K8.cell? ⟨(F8.add ((D4).toNat * 3)).block,(F8.add ((D4).toNat * 3)).off+2,none⟩=some (.slice G4 ((rd_T26 l0 D4).f2).length G5):=hS_;obtain⟨L7,L8,L9⟩:=Kd.R_slice J2.out;(first|subst L9|(injection L9 with f1_ f2_ f3_;have f4_:=f1_.symm;have f5_:=f3_.symm;clear f1_ f2_ f3_;subst f4_;subst f5_))
         obtain⟨M0,M1,M2⟩:=Kd.R_slice J3.out;(first|subst M2|(injection M2 with f1_ f2_ f3_;have f4_:=f1_.symm;have f5_:=f3_.symm;clear f1_ f2_ f3_;subst f4_;subst f5_))
         refine norm_ (a':=?_) ?_ ?_;rotate_left
         ·simp only[putAll,Act.put,sA,sZ,sC];rfl
         refine oU 10 none HT_ fun K hK=>?_
         have M3:K8.cell? ⟨J5,0,none⟩=some (.bool false):=(blk_cell K1.out 0).trans rfl;have hfs30:=blk_frozen K1.out 0;have hns30_0:=K4.out;have hns30_1:=K6.out;have hms30_0:=K5.out;have hms30_1:=K7.out;have M4:K8.cell? ⟨J5,1,none⟩=some (.slice none 0 0):=(blk_cell K1.out 1).trans rfl;have hfs32:=blk_frozen K1.out 1;have hns32_0:=K4.out;have hns32_1:=K6.out;have hms32_0:=K5.out;have hms32_1:=K7.out;have M5:K8.cell? ⟨J5,2,none⟩=some (.slice none 0 0):=(blk_cell K1.out 2).trans rfl;have hfs34:=blk_frozen K1.out 2;have hns34_0:=K4.out;have hns34_1:=K6.out;have hms34_0:=K5.out;have hms34_1:=K7.out;refine skip_ (w1:=?_) (by rfl) rfl ?_ ?_
         rotate_left
         ·go_simp
          rfl
         refine hK.out _ _ ⟨((cell_far (p:=⟨J5,_,none⟩) K6.out _).trans (((cell_far (p:=⟨J5,_,none⟩) K6.out _).trans (((cell_far (p:=⟨J5,_,none⟩) K6.out _).trans (hHeld.1)))))),((cell_far (p:=⟨J5,_,none⟩) K6.out _).trans (((cell_far (p:=⟨J5,_,none⟩) K6.out _).trans (((cell_far (p:=⟨J5,_,none⟩) K6.out _).trans (hHeld.2.1)))))),((cell_far (p:=⟨J5,_,none⟩) K6.out _).trans (((cell_far (p:=⟨J5,_,none⟩) K6.out _).trans (((cell_far (p:=⟨J5,_,none⟩) K6.out _).trans (hHeld.2.2.1)))))),((cell_far (p:=⟨J5,_,none⟩) (nC I1 K2) _).trans (((cell_far (p:=⟨J5,_,none⟩) (nC I1 K2) _).trans (((cell_far (p:=⟨J5,_,none⟩) (nC I1 K2) _).trans (hHeld.2.2.2.1)))))),((cell_far (p:=⟨J5,_,none⟩) (nC I0 K2) _).trans (((cell_far (p:=⟨J5,_,none⟩) (nC I0 K2) _).trans (((cell_far (p:=⟨J5,_,none⟩) (nC I0 K2) _).trans (hHeld.2.2.2.2.1)))))),((cell_far (p:=⟨J5,_,none⟩) (nC H9 K2) _).trans (((cell_far (p:=⟨J5,_,none⟩) (nC H9 K2) _).trans (((cell_far (p:=⟨J5,_,none⟩) (nC H9 K2) _).trans (hHeld.2.2.2.2.2))))))⟩ (fun hHeld=>?_)
         clear hK K;refine pS 11 9 HT_ ?_;refine done_ (done_of HT_.out (by kernel_rfl)) ?_
         have M6:=K5.out;have M7:=K4.out;have M8:=K7.out;have M9:=K6.out;obtain⟨N0,N1,N2,N3,N4,N5⟩:=bk3 K1;have N6:=B9.out;have N7:=B8.out;obtain⟨N8,N9,O0,O1,O2,O3⟩:=bk3 B0;try go_wp2
         go_roundg k2
         case measure=>have:=g9.out;have:=E0.out;omega
         case rel=>exact⟨(wrap64 (D4+1)),(D5),(E6),(E7),(E8),(.slice L7 E7.length L8),(.slice M0 E8.length M1),sD,H',⟨by have:=g9.out;have:=E0.out;omega⟩,⟨by exact rX (Kd.R_mono (Kd.R_far (p:=⟨z7,2,none⟩) (Kd.R_far (p:=⟨z7,1,none⟩) (Kd.R_far (p:=⟨z7,0,none⟩) (Kd.R_far (p:=⟨J5,2,none⟩) (Kd.R_far (p:=⟨J5,1,none⟩) (Kd.R_far (p:=⟨J5,0,none⟩) (Kd.R_types (Kd.R_types J2.out K1.out (by decide)) B0.out (by decide)) (fun _ hk=>hk.1.2) (.bool E6)) (fun _ hk=>hk.1.2) (.slice L7 E7.length L8)) (fun _ hk=>hk.1.2) (.slice M0 E8.length M1)) (fun _ hk=>hk.2) (.bool E6)) (fun _ hk=>hk.2) (.slice L7 E7.length L8)) (fun _ hk=>hk.2) (.slice M0 E8.length M1)) (fun _ hk=>hk.1.1.1))⟩,⟨by exact rX (Kd.R_mono (Kd.R_far (p:=⟨z7,2,none⟩) (Kd.R_far (p:=⟨z7,1,none⟩) (Kd.R_far (p:=⟨z7,0,none⟩) (Kd.R_far (p:=⟨J5,2,none⟩) (Kd.R_far (p:=⟨J5,1,none⟩) (Kd.R_far (p:=⟨J5,0,none⟩) (Kd.R_types (Kd.R_types J3.out K1.out (by decide)) B0.out (by decide)) (fun _ hk=>hk.1.2) (.bool E6)) (fun _ hk=>hk.1.2) (.slice L7 E7.length L8)) (fun _ hk=>hk.1.2) (.slice M0 E8.length M1)) (fun _ hk=>hk.2) (.bool E6)) (fun _ hk=>hk.2) (.slice L7 E7.length L8)) (fun _ hk=>hk.2) (.slice M0 E8.length M1)) (fun _ hk=>hk.1.1.1))⟩,⟨by exact kf2 e6 B8 K4⟩,⟨by refine bD ?_;refine blk_put (cs:=#[.bool E6,.slice L7 E7.length L8,.slice F6 D8.length F7]) ?_ 2 _ rfl;refine bD ?_;refine blk_put (cs:=#[.bool E6,.slice F4 D7.length F5,.slice F6 D8.length F7]) ?_ 1 _ rfl;refine bD ?_;refine blk_put (cs:=#[.bool D6,.slice F4 D7.length F5,.slice F6 D8.length F7]) ?_ 0 _ rfl;refine bD ?_;refine blk_far ?_ K6.out _;refine bD ?_;refine blk_far ?_ K6.out _;refine bD ?_;refine blk_far ?_ K6.out _;(with_reducible repeat(first|refine blk_drewN ?_ _|refine blk_drew ?_|refine blk_alloc ?_ _));exact B0.out⟩,⟨pB⟩⟩
        ·rw[if_neg F1] at H;obtain⟨F2,F3⟩:=bI F1;obtain⟨rfl,rfl,rfl,rfl⟩:=q4 H;obtain⟨O4,O5,rfl⟩:=Kd.R_slice E1.out;obtain⟨O6,O7,rfl⟩:=Kd.R_slice E2.out;try go_wp2
         have n0_:=aM (Kd.R_drew E1.out);have n1_:=aM (Kd.R_drew E2.out);have n2_:=aM (blk_drew e6.out);have n3_:=aM (blk_drew B0.out);have n4_:=aM (below_drew1 HB.out);clear E1 E2 e6 B0 HB;have E1:=n0_;have E2:=n1_;have e6:=n2_;have B0:=n3_;have HB:=n4_;clear n0_ n1_ n2_ n3_ n4_;obtain⟨F8,F9,G0,G4,G5,G6,G7,G8,G9,H5,H6,H7,H8⟩:=at_T26 b9.out D4 (oE aS) (oE aS);have H9:=G9;have I0:=G8;have I1:=G7;cases G6
         replace G7:=hB HB G7;replace G8:=hB HB G8;replace G9:=hB HB G9;have I2:=aM H6;have I3:=aM H5;clear H6 H5;have I4:=aM H8;have I5:=aM H7;clear H8 H7;have I6:=eT (D4);have I7:=eU (D4) l0.length;refine start_ (n:=12) (S:=fun w'=>w'.cell? ⟨z7,0,none⟩=some (.bool D6)∧w'.cell? ⟨z7,1,none⟩=some (.slice O4 D7.length O5)∧w'.cell? ⟨z7,2,none⟩=some (.slice O6 D8.length O7)∧w'.cell? (F8.add ((D4).toNat * 3))=some (.bool ((rd_T26 l0 D4).f0))∧w'.cell? ⟨(F8.add ((D4).toNat * 3)).block,(F8.add ((D4).toNat * 3)).off+1,none⟩=some (.slice F9 ((rd_T26 l0 D4).f1).length G0)∧w'.cell? ⟨(F8.add ((D4).toNat * 3)).block,(F8.add ((D4).toNat * 3)).off+2,none⟩=some (.slice G4 ((rd_T26 l0 D4).f2).length G5)) (ds:=[]) (bA 12 0) (by kernel_rfl) rfl rfl ⟨(blk_cell B0.out 0).trans rfl,(blk_cell B0.out 1).trans rfl,(blk_cell B0.out 2).trans rfl,(hB HB I1),(hB HB I0),(hB HB H9)⟩ (fun hHeld=>?_);refine with_tabW Azf.tab12 Azf.bits12 (fun HT_ HW_=>?_)
         generalize wr.drew=O8 at E1 E2 e6 B0 HB I2 I4 G7 G8 G9 hHeld ⊢;refine pS 1 39 HT_ ?_;refine pS 2 40 HT_ ?_;refine pS 3 41 HT_ ?_;refine tU 0 38 HT_ HW_ hHeld ?_;refine tU 4 42 HT_ HW_ hHeld ?_;refine join_ (σ:=Value × Value × Nat) 2 (bA 12 1023) (fun s_=>[(43,.tuple #[.agg #[.bool E6,s_.1,s_.2.1],.int .i64 E9]),(8,.pointer (some ⟨s_.2.2,0,none⟩)),(37,.tuple #[.agg #[.bool E6,s_.1,s_.2.1],.int .i64 E9]),(44,.agg #[.bool E6,s_.1,s_.2.1]),(45,.int .i64 E9)]) (fun s_ w'=>(w'.cell? ⟨z7,0,none⟩=some (.bool D6)∧w'.cell? ⟨z7,1,none⟩=some (.slice O4 D7.length O5)∧w'.cell? ⟨z7,2,none⟩=some (.slice O6 D8.length O7)∧w'.cell? (F8.add ((D4).toNat * 3))=some (.bool ((rd_T26 l0 D4).f0))∧w'.cell? ⟨(F8.add ((D4).toNat * 3)).block,(F8.add ((D4).toNat * 3)).off+1,none⟩=some (.slice F9 ((rd_T26 l0 D4).f1).length G0)∧w'.cell? ⟨(F8.add ((D4).toNat * 3)).block,(F8.add ((D4).toNat * 3)).off+2,none⟩=some (.slice G4 ((rd_T26 l0 D4).f2).length G5))∧(Kd.R (Kd.int .i64) 3 w' w.heap.size (fun k_=>some k_≠(s_.2.1:Value).ownBlock∧some k_≠(.slice O4 D7.length O5:Value).ownBlock∧some k_≠(.slice O6 D8.length O7:Value).ownBlock) s_.1 E7)∧(Kd.R (Kd.int .i64) 3 w' w.heap.size (fun k_=>some k_≠(s_.1:Value).ownBlock∧some k_≠(.slice O4 D7.length O5:Value).ownBlock∧some k_≠(.slice O6 D8.length O7:Value).ownBlock) s_.2.1 E8)∧(Kd.R (Kd.int .i64) 3 w' w.heap.size (fun k_=>some k_≠(s_.1:Value).ownBlock∧some k_≠(s_.2.1:Value).ownBlock∧some k_≠(.slice O6 D8.length O7:Value).ownBlock) (.slice O4 D7.length O5) D7)∧(Kd.R (Kd.int .i64) 3 w' w.heap.size (fun k_=>some k_≠(s_.1:Value).ownBlock∧some k_≠(s_.2.1:Value).ownBlock∧some k_≠(.slice O4 D7.length O5:Value).ownBlock) (.slice O6 D8.length O7) D8)∧(w'.heap[d8]?=some (.cells #[.bool D5,.slice none 0 0,.slice none 0 0] 26 (0,0)))∧(w'.heap[z7]?=some (.cells #[.bool D6,.slice O4 D7.length O5,.slice O6 D8.length O7] 26 (0,0)))∧(w'.heap[s_.2.2]?=some (.cells #[.bool false,.slice none 0 0,.slice none 0 0] 26 (0,0)))∧(w.heap.size≤s_.2.2)∧(w.heap.size≤s_.2.2)∧(d8≠s_.2.2)∧(s_.2.2≠d8)∧(z7≠s_.2.2)∧(s_.2.2≠z7)∧(Below w.heap.size w w')) ?_ ?_
         rotate_left
         ·intro hCont;refine two_ (i:=5) (j:=9) (Ni:=some 43) (Nj:=some 8) (bA 12 63) (bA 12 543) rfl rfl rfl rfl (two_of HT_.out (by kernel_rfl)) (by decide) (by decide) (fun K hK=>?_) (fun K hK=>?_)
          ·skip
           refine goes_ Tryz.func50 (by kernel_rfl) rfl #[.agg #[.bool D6,.slice O4 D7.length O5,.slice O6 D8.length O7],.agg #[.bool ((rd_T26 l0 D4).f0),.slice F9 ((rd_T26 l0 D4).f1).length G0,.slice G4 ((rd_T26 l0 D4).f2).length G5]] (by rfl) rfl rfl mA ?_
           with_reducible refine(Bzq.calls k2 D6 _ _ D7 _ _ D8 ((rd_T26 l0 D4).f0) _ _ ((rd_T26 l0 D4).f1) _ _ ((rd_T26 l0 D4).f2) E6 E7 E8 E9 _ ?side1 ?side2 ?side3 ?side4 ?side5 ?side6 ?side7 ?side8 F0.out).mono ?_
           (case side1=>exact cR E1)
           (case side2=>exact lR E1)
           (case side3=>exact cR E2)
           (case side4=>exact lR E2)
           (case side5=>exact cB I2)
           (case side6=>exact I3.out)
           (case side7=>exact cB I4)
           (case side8=>exact I5.out)
           rintro e O9 ⟨J0,J1,rfl,t8,z1,hb⟩;refine⟨_,rfl,?_⟩;have n0_:=rO E1 hb t8 z1
           have n1_:=rO E2 hb t8 z1
           have n2_:=rL (rn (rn t8 E1) E2);have n3_:=rL (rn (rn z1 E1) E2);have n4_:=kb e6 hb;have n5_:=kb B0 hb;have n6_:=bB hb;clear E1 E2 e6 B0 HB;have E1:=n0_;have E2:=n1_;have J2:=n2_;have J3:=n3_;have e6:=n4_;have B0:=n5_;have HB:=n6_;clear n0_ n1_ n2_ n3_ n4_ n5_ n6_;(try clear hb)
           (try clear J4)
           (try clear hk)
           (try clear hi)
           (try clear t8)
           (try clear z1)
           refine hK.out _ _ ⟨(blk_cell B0.out 0).trans rfl,(blk_cell B0.out 1).trans rfl,(blk_cell B0.out 2).trans rfl,(hB HB I1),(hB HB I0),(hB HB H9)⟩ (fun hHeld=>?_)
           clear hK K;refine nm 43 ?_;refine pS 6 37 HT_ ?_;refine pS 7 44 HT_ ?_;refine pS 8 45 HT_ ?_;refine oU 9 (some 8) HT_ fun K hK=>?_
           refine box_step ?hg (N:=8) ?hd (cs:=#[.bool false,.slice none 0 0,.slice none 0 0]) (t:=26) ?hr ?_;(case hd=>rfl);(case hg=>rfl);(case hr=>first|(go_simp;done)|(go_simp;rfl))
           intro J5 hg P2 hbox hb;have n0_:=rB E1 hb;have n1_:=rB E2 hb;have n2_:=rB J2 hb;have n3_:=rB J3 hb;have n4_:=kb e6 hb;have n5_:=kb B0 hb;have n6_:=bB hb;have n7_:=aM (hbox);have n8_:=gA w hg;have n9_:=gA w hg;have J7:=nl hg e6;have J8:=ng hg e6;have J9:=nl hg B0;have K0:=ng hg B0;clear E1 E2 J2 J3 e6 B0 HB;have E1:=n0_;have E2:=n1_;have J2:=n2_;have J3:=n3_;have e6:=n4_;have B0:=n5_;have HB:=n6_;have K1:=n7_;have K2:=n8_;have K3:=n9_;have K4:=J7;have K5:=J8;have K6:=J9;have K7:=K0;clear n0_ n1_ n2_ n3_ n4_ n5_ n6_ n7_ n8_ n9_ J7 J8 J9 K0 hb hbox hg;refine hK.out _ _ ⟨(blk_cell B0.out 0).trans rfl,(blk_cell B0.out 1).trans rfl,(blk_cell B0.out 2).trans rfl,(hB HB I1),(hB HB I0),(hB HB H9)⟩ (fun hHeld=>?_)
           clear hK K;refine nm 8 ?_;exact norm_ (by simp only[putAll,Act.put,sA,sZ,sC]) (hCont (J0,J1,J5) _ ⟨hHeld,(rX (Kd.R_mono J2.out (fun _ hk=>⟨hk.1.1,⟨hk.1.2,hk.2⟩⟩))),(rX (Kd.R_mono J3.out (fun _ hk=>⟨hk.1.1,⟨hk.1.2,hk.2⟩⟩))),(rX (Kd.R_mono E1.out (fun _ hk=>⟨hk.1.2,⟨hk.2,hk.1.1⟩⟩))),(rX (Kd.R_mono E2.out (fun _ hk=>⟨hk.1.2,⟨hk.2,hk.1.1⟩⟩))),(kW e6),(kW B0),(kW K1),K2.out,K3.out,K4.out,K5.out,K6.out,K7.out,pB⟩)
          ·skip
           refine box_step ?hg (N:=8) ?hd (cs:=#[.bool false,.slice none 0 0,.slice none 0 0]) (t:=26) ?hr ?_;(case hd=>rfl);(case hg=>rfl);(case hr=>first|(go_simp;done)|(go_simp;rfl))
           intro J5 hg O9 hbox hb;have n0_:=rB E1 hb;have n1_:=rB E2 hb;have n2_:=kb e6 hb;have n3_:=kb B0 hb;have n4_:=bB hb;have n5_:=aM (hbox);have n6_:=gA w hg;have n7_:=gA w hg;have n8_:=nl hg e6;have n9_:=ng hg e6;have J7:=nl hg B0;have J8:=ng hg B0;clear E1 E2 e6 B0 HB;have E1:=n0_;have E2:=n1_;have e6:=n2_;have B0:=n3_;have HB:=n4_;have K1:=n5_;have K2:=n6_;have K3:=n7_;have K4:=n8_;have K5:=n9_;have K6:=J7;have K7:=J8;clear n0_ n1_ n2_ n3_ n4_ n5_ n6_ n7_ n8_ n9_ J7 J8 hb hbox hg;refine hK.out _ _ ⟨(blk_cell B0.out 0).trans rfl,(blk_cell B0.out 1).trans rfl,(blk_cell B0.out 2).trans rfl,(hB HB I1),(hB HB I0),(hB HB H9)⟩ (fun hHeld=>?_)
           clear hK K;refine nm 8 ?_;refine oU 5 (some 43) HT_ fun K hK=>?_
           refine goes_ Tryz.func50 (by kernel_rfl) rfl #[.agg #[.bool D6,.slice O4 D7.length O5,.slice O6 D8.length O7],.agg #[.bool ((rd_T26 l0 D4).f0),.slice F9 ((rd_T26 l0 D4).f1).length G0,.slice G4 ((rd_T26 l0 D4).f2).length G5]] (by rfl) rfl rfl mA ?_
           with_reducible refine(Bzq.calls k2 D6 _ _ D7 _ _ D8 ((rd_T26 l0 D4).f0) _ _ ((rd_T26 l0 D4).f1) _ _ ((rd_T26 l0 D4).f2) E6 E7 E8 E9 _ ?side1 ?side2 ?side3 ?side4 ?side5 ?side6 ?side7 ?side8 F0.out).mono ?_
           (case side1=>exact cR E1)
           (case side2=>exact lR E1)
           (case side3=>exact cR E2)
           (case side4=>exact lR E2)
           (case side5=>exact cB I2)
           (case side6=>exact I3.out)
           (case side7=>exact cB I4)
           (case side8=>exact I5.out)
           rintro e P2 ⟨J0,J1,rfl,t8,z1,hb⟩;refine⟨_,rfl,?_⟩;have n0_:=rO E1 hb t8 z1
           have n1_:=rO E2 hb t8 z1
           have n2_:=rL (rn (rn t8 E1) E2);have n3_:=rL (rn (rn z1 E1) E2);have n4_:=kb e6 hb;have n5_:=kb B0 hb;have n6_:=kb K1 hb;have n7_:=bB hb;clear E1 E2 e6 B0 K1 HB;have E1:=n0_;have E2:=n1_;have J2:=n2_;have J3:=n3_;have e6:=n4_;have B0:=n5_;have K1:=n6_;have HB:=n7_;clear n0_ n1_ n2_ n3_ n4_ n5_ n6_ n7_;(try clear hb)
           (try clear J4)
           (try clear hk)
           (try clear hi)
           (try clear t8)
           (try clear z1)
           refine hK.out _ _ ⟨(blk_cell B0.out 0).trans rfl,(blk_cell B0.out 1).trans rfl,(blk_cell B0.out 2).trans rfl,(hB HB I1),(hB HB I0),(hB HB H9)⟩ (fun hHeld=>?_)
           clear hK K;refine nm 43 ?_;refine pS 6 37 HT_ ?_;refine pS 7 44 HT_ ?_;refine pS 8 45 HT_ ?_;exact norm_ (by simp only[putAll,Act.put,sA,sZ,sC]) (hCont (J0,J1,J5) _ ⟨hHeld,(rX (Kd.R_mono J2.out (fun _ hk=>⟨hk.1.1,⟨hk.1.2,hk.2⟩⟩))),(rX (Kd.R_mono J3.out (fun _ hk=>⟨hk.1.1,⟨hk.1.2,hk.2⟩⟩))),(rX (Kd.R_mono E1.out (fun _ hk=>⟨hk.1.2,⟨hk.2,hk.1.1⟩⟩))),(rX (Kd.R_mono E2.out (fun _ hk=>⟨hk.1.2,⟨hk.2,hk.1.1⟩⟩))),(kW e6),(kW B0),(kW K1),K2.out,K3.out,K4.out,K5.out,K6.out,K7.out,pB⟩)
         rintro ⟨J0,J1,J5⟩ P3 ⟨hS_,h0_,h1_,h2_,h3_,h4_,h5_,h6_,h7_,h8_,h9_,K9,L0,L5,L6⟩;have n0_:Aside0 (Kd.R (Kd.int .i64) 3 P3 w.heap.size (fun k_=>some k_≠(J1:Value).ownBlock∧some k_≠(.slice O4 D7.length O5:Value).ownBlock∧some k_≠(.slice O6 D8.length O7:Value).ownBlock) J0 E7):=⟨h0_⟩
         have n1_:Aside0 (Kd.R (Kd.int .i64) 3 P3 w.heap.size (fun k_=>some k_≠(J0:Value).ownBlock∧some k_≠(.slice O4 D7.length O5:Value).ownBlock∧some k_≠(.slice O6 D8.length O7:Value).ownBlock) J1 E8):=⟨h1_⟩
         have n2_:Aside0 (Kd.R (Kd.int .i64) 3 P3 w.heap.size (fun k_=>some k_≠(J0:Value).ownBlock∧some k_≠(J1:Value).ownBlock∧some k_≠(.slice O6 D8.length O7:Value).ownBlock) (.slice O4 D7.length O5) D7):=⟨h2_⟩
         have n3_:Aside0 (Kd.R (Kd.int .i64) 3 P3 w.heap.size (fun k_=>some k_≠(J0:Value).ownBlock∧some k_≠(J1:Value).ownBlock∧some k_≠(.slice O4 D7.length O5:Value).ownBlock) (.slice O6 D8.length O7) D8):=⟨h3_⟩
         have n4_:Aside0 (P3.heap[d8]?=some (.cells #[.bool D5,.slice none 0 0,.slice none 0 0] 26 (0,0))):=⟨h4_⟩;have n5_:Aside0 (P3.heap[z7]?=some (.cells #[.bool D6,.slice O4 D7.length O5,.slice O6 D8.length O7] 26 (0,0))):=⟨h5_⟩;have n6_:Aside0 (P3.heap[J5]?=some (.cells #[.bool false,.slice none 0 0,.slice none 0 0] 26 (0,0))):=⟨h6_⟩;have n7_:Aside0 (w.heap.size≤J5):=⟨h7_⟩;have n8_:Aside0 (w.heap.size≤J5):=⟨h8_⟩;have n9_:Aside0 (d8≠J5):=⟨h9_⟩;have J7:Aside0 (J5≠d8):=⟨K9⟩;have J8:Aside0 (z7≠J5):=⟨L0⟩;have J9:Aside0 (J5≠z7):=⟨L5⟩;have K0:Aside0 (Below w.heap.size w P3):=⟨L6⟩;clear E1 E2 e6 B0 HB h0_ h1_ h2_ h3_ h4_ h5_ h6_ h7_ h8_ h9_ K9 L0 L5 L6;have J2:=n0_;have J3:=n1_;have E1:=n2_;have E2:=n3_;have e6:=n4_;have B0:=n5_;have K1:=n6_;have K2:=n7_;have K3:=n8_;have K4:=n9_;have K5:=J7;have K6:=J8;have K7:=J9;have HB:=K0;clear n0_ n1_ n2_ n3_ n4_ n5_ n6_ n7_ n8_ n9_ J7 J8 J9 K0;have hHeld:P3.cell? ⟨z7,0,none⟩=some (.bool D6)∧P3.cell? ⟨z7,1,none⟩=some (.slice O4 D7.length O5)∧P3.cell? ⟨z7,2,none⟩=some (.slice O6 D8.length O7)∧P3.cell? (F8.add ((D4).toNat * 3))=some (.bool ((rd_T26 l0 D4).f0))∧P3.cell? ⟨(F8.add ((D4).toNat * 3)).block,(F8.add ((D4).toNat * 3)).off+1,none⟩=some (.slice F9 ((rd_T26 l0 D4).f1).length G0)∧P3.cell? ⟨(F8.add ((D4).toNat * 3)).block,(F8.add ((D4).toNat * 3)).off+2,none⟩=some (.slice G4 ((rd_T26 l0 D4).f2).length G5):=hS_;obtain⟨P4,P5,P6⟩:=Kd.R_slice J2.out;(first|subst P6|(injection P6 with f1_ f2_ f3_;have f4_:=f1_.symm;have f5_:=f3_.symm;clear f1_ f2_ f3_;subst f4_;subst f5_))
         obtain⟨P7,P8,P9⟩:=Kd.R_slice J3.out;(first|subst P9|(injection P9 with f1_ f2_ f3_;have f4_:=f1_.symm;have f5_:=f3_.symm;clear f1_ f2_ f3_;subst f4_;subst f5_))
         refine norm_ (a':=?_) ?_ ?_;rotate_left
         ·simp only[putAll,Act.put,sA,sZ,sC];rfl
         refine oU 10 none HT_ fun K hK=>?_
         have Q0:P3.cell? ⟨J5,0,none⟩=some (.bool false):=(blk_cell K1.out 0).trans rfl;have hfs46:=blk_frozen K1.out 0;have hns46_0:=K4.out;have hns46_1:=K6.out;have hms46_0:=K5.out;have hms46_1:=K7.out;have Q1:P3.cell? ⟨J5,1,none⟩=some (.slice none 0 0):=(blk_cell K1.out 1).trans rfl;have hfs48:=blk_frozen K1.out 1;have hns48_0:=K4.out;have hns48_1:=K6.out;have hms48_0:=K5.out;have hms48_1:=K7.out;have Q2:P3.cell? ⟨J5,2,none⟩=some (.slice none 0 0):=(blk_cell K1.out 2).trans rfl;have hfs50:=blk_frozen K1.out 2;have hns50_0:=K4.out;have hns50_1:=K6.out;have hms50_0:=K5.out;have hms50_1:=K7.out;refine skip_ (w1:=?_) (by rfl) rfl ?_ ?_
         rotate_left
         ·go_simp
          rfl
         refine hK.out _ _ ⟨((cell_far (p:=⟨J5,_,none⟩) K6.out _).trans (((cell_far (p:=⟨J5,_,none⟩) K6.out _).trans (((cell_far (p:=⟨J5,_,none⟩) K6.out _).trans (hHeld.1)))))),((cell_far (p:=⟨J5,_,none⟩) K6.out _).trans (((cell_far (p:=⟨J5,_,none⟩) K6.out _).trans (((cell_far (p:=⟨J5,_,none⟩) K6.out _).trans (hHeld.2.1)))))),((cell_far (p:=⟨J5,_,none⟩) K6.out _).trans (((cell_far (p:=⟨J5,_,none⟩) K6.out _).trans (((cell_far (p:=⟨J5,_,none⟩) K6.out _).trans (hHeld.2.2.1)))))),((cell_far (p:=⟨J5,_,none⟩) (nC I1 K2) _).trans (((cell_far (p:=⟨J5,_,none⟩) (nC I1 K2) _).trans (((cell_far (p:=⟨J5,_,none⟩) (nC I1 K2) _).trans (hHeld.2.2.2.1)))))),((cell_far (p:=⟨J5,_,none⟩) (nC I0 K2) _).trans (((cell_far (p:=⟨J5,_,none⟩) (nC I0 K2) _).trans (((cell_far (p:=⟨J5,_,none⟩) (nC I0 K2) _).trans (hHeld.2.2.2.2.1)))))),((cell_far (p:=⟨J5,_,none⟩) (nC H9 K2) _).trans (((cell_far (p:=⟨J5,_,none⟩) (nC H9 K2) _).trans (((cell_far (p:=⟨J5,_,none⟩) (nC H9 K2) _).trans (hHeld.2.2.2.2.2))))))⟩ (fun hHeld=>?_)
         clear hK K;refine pS 11 9 HT_ ?_;refine done_ (done_of HT_.out (by kernel_rfl)) ?_
         have Q3:=B8.out;have Q4:=B9.out;have Q5:=K4.out;have Q6:=K5.out;obtain⟨Q7,Q8,Q9,R0,R1,R2⟩:=bk3 e6;try go_wp2
         refine bodyPost_ret (results_ct rfl _ _ d8 26 #[.bool false,.slice none 0 0,.slice none 0 0] (0,0) _ rfl (by refine bD ?_;refine blk_put (cs:=#[.bool false,.slice none 0 0,.slice none 0 0]) ?_ 2 _ rfl;refine bD ?_;refine blk_put (cs:=#[.bool false,.slice none 0 0,.slice none 0 0]) ?_ 1 _ rfl;refine bD ?_;refine blk_put (cs:=#[.bool D5,.slice none 0 0,.slice none 0 0]) ?_ 0 _ rfl;refine bD ?_;refine blk_far ?_ K4.out _;refine bD ?_;refine blk_far ?_ K4.out _;refine bD ?_;refine blk_far ?_ K4.out _;(with_reducible repeat(first|refine blk_drewN ?_ _|refine blk_drew ?_|refine blk_alloc ?_ _));exact e6.out) Tryz.underlying26 rfl (by kernel_rfl)) rfl ?_
         exact⟨_,_,eW,nK,nK,pB⟩
       ·rw[if_neg E3] at H;have E4:decide (D4 < (l0.length:Int))=false:=decide_eq_false E3;clear E3;obtain⟨rfl,rfl,rfl,rfl⟩:=q4 H;have R3:=B9.out;have R4:=B8.out;obtain⟨R5,R6,R7,R8,R9,U0⟩:=bk3 B0;obtain⟨U1,U2,U3,U4,U5,U6⟩:=bk3 e6;obtain⟨U7,U8,rfl⟩:=Kd.R_slice E1.out;obtain⟨U9,V0,rfl⟩:=Kd.R_slice E2.out;go_wp2
        refine bodyPost_ret (results_ct rfl _ _ d8 26 #[.bool D6,.slice U7 D7.length U8,.slice U9 D8.length V0] (0,0) _ rfl (kQ e6) Tryz.underlying26 rfl (by kernel_rfl)) rfl ?_
        exact⟨_,_,eW,by exact Kd.R_mono (rT E1 e6) (fun _ hk=>hk),by exact Kd.R_mono (rT E2 e6) (fun _ hk=>hk),pB⟩

end Go.Proofs.YtokkiljkgejnhaaGreat.Print
