import Derived.Test.YtbnpcplckcipfaaPrint0
import Derived.Test.YtbnpcplckcipfaaPrint42
import Derived.Test.YtbnpcplckcipfaaPrint48
import Derived.Test.YtbnpcplckcipfaaPrint10
import Derived.Test.YtbnpcplckcipfaaPrint15
import Derived.Test.YtbnpcplckcipfaaPrint26
import Derived.Test.YtbnpcplckcipfaaPrint47
namespace Go.Proofs.Ytbnpcplckcipfaa.Print
open Go.RowKit Go.Proofs.YtbnpcplckcipfaaW.PrintWords Go.Proofs.YtbnpcplckcipfaaW.PrintLast Go.Proofs.YtbnpcplckcipfaaW.PrintMore
attribute [local go_sem] max2_int min2_int max_two min_two max_three min_three max_four min_four
set_option linter.unusedVariables false
set_option maxRecDepth 100000
set_option maxHeartbeats 8000000
set_option linter.unusedSimpArgs false

mutual
def Azk.l0:Nat→List (S33)→Int→Option (Bool × List Int × List Int × Int)
 | 0,_,_=>none
 | k+1,x0,x4=>if x4 < (x0.length:Int) then(if 0≤x4 then((Azw.f k ((rd_T33 x0 x4).f0) ((rd_T33 x0 x4).f1) ((rd_T33 x0 x4).f2)).bind fun t896=>(if t896=true then(Azk.l0 k x0 (wrap64 (x4+1))) else(some (false,([]:List Int),([]:List Int),3)))) else(none)) else((Czx.f k 0).bind fun bt897=>(Azk.l1 k x0 0 bt897.1 bt897.2.1 bt897.2.2.1))
def Azk.l1:Nat→List (S33)→Int→Bool→List Int→List Int→Option (Bool × List Int × List Int × Int)
 | 0,_,_,_,_,_=>none
 | k+1,x0,x7,x906000,x906001,x906002=>if x7 < (x0.length:Int) then(if 0≤x7 then((Bzv.f k x906000 x906001 x906002 ((rd_T33 x0 x7).f0) ((rd_T33 x0 x7).f1) ((rd_T33 x0 x7).f2)).bind fun bt907=>(if bt907.2.2.2=0 then(Azk.l1 k x0 (wrap64 (x7+1)) bt907.1 bt907.2.1 bt907.2.2.1) else(some (false,([]:List Int),([]:List Int),bt907.2.2.2)))) else(none)) else(some (x906000,x906001,x906002,0))
end
def Azk.f (k:Nat) (l0:List (S33)):Option (Bool × List Int × List Int × Int):=if(l0.length:Int) > 4096 then(some (false,([]:List Int),([]:List Int),8)) else(Azk.l0 k l0 0)
theorem Azk.mono_l:∀ k,(∀ a6 a7,LeO (Azk.l0 k a6 a7) (Azk.l0 (k+1) a6 a7))∧(∀ a6 a7 a8 a9 b4,LeO (Azk.l1 k a6 a7 a8 a9 b4) (Azk.l1 (k+1) a6 a7 a8 a9 b4))
 | 0=>⟨fun _ _ r h=>by simp [Azk.l0] at h,fun _ _ _ _ _ r h=>by simp [Azk.l1] at h⟩
 | k+1=>by
  obtain⟨ih0,ih1⟩:=Azk.mono_l k;have i0:=@Bzv.mono;have i1:=@Czx.mono;have i2:=@Azw.mono;refine⟨?_,?_⟩
  ·intro a6 a7;unfold Azk.l0;exact mM
  ·intro a6 a7 a8 a9 b4;unfold Azk.l1;exact mM
theorem Azk.mono:∀ a6 k,LeO (Azk.f k a6) (Azk.f (k+1) a6):=by
 intro a6 k;obtain⟨ih0,ih1⟩:=Azk.mono_l k;unfold Azk.f;have i0:=@Bzv.mono;have i1:=@Czx.mono;have i2:=@Azw.mono;exact mM
def Azk.T12:Bool × List (List Nat × List Nat):=(true,[([],[]),([],[]),([],[]),([1,2],[1,2]),([3],[3]),([0,4],[0,4]),([5],[5]),([6],[6]),([6],[6]),([],[]),([9,7,5,0,1,2,3,4,5,6,7,9],[7,9]),([8,10,0,1,2,3,4,5,6,7,8,9,10],[8])])
def Azk.B12:List Nat:=[0,0,0,6,14,31,63,127,127,0,767,2047]
theorem Azk.tab12:rtab .any (opsOf Try.f27 12)=Azk.T12:=by kernel_rfl
theorem Azk.bits12:waitsOk Azk.T12.2 Azk.B12=true:=by kernel_rfl
theorem Azk.calls (k:Nat) (a6:Option Addr) (a7:Nat) (l0:List (S33)) (a8:Bool) (a9:List Int) (b4:List Int) (b5:Int) (w:World) (b6:Kd.C k33 w a6 l0.length l0) (b7:l0.length≤a7) (h:Azk.f k l0=some (a8,a9,b4,b5)) :
  Calls Try.prog 27 #[.slice a6 l0.length a7] w fun e w'=>∃ v1_ v2_:Value,e=.returned (.tuple #[.agg #[.bool a8,v1_,v2_],.int .i64 b5])∧rI w' w (oV v2_) v1_ a9∧rI w' w (oV v1_) v2_ b4∧bw w w':=by
 have hu33:=Try.underlying33;have b8:=aM b6;have b9:=aM b7;clear b6 b7;have HB:=aM (Below.refl w.heap.size w);have H:(if(l0.length:Int) > 4096 then(some (false,([]:List Int),([]:List Int),8)) else(Azk.l0 k l0 0))=some (a8,a9,b4,b5):=h
 clear h;have d6:=aM H;clear H;go_enter Try.func27,Try.ntmps27
 go_upto_if 12 with (first|((with_reducible refine gd 2 rfl ?_);refine bz 33 ?_;intro d7 hg d8 d9 hb;have e6:=gA w hg;replace HB:=bB hb;clear hb hg))
 have H:=d6.out;clear d6;by_cases c4:(l0.length:Int) > 4096
 ·rw[if_pos c4] at H;have e8:decide (4096 < (l0.length:Int))=true:=dE c4;have e9:decide (4096 < l0.length)=true:=dE (by omega)
  clear c4;(first|rw[e8]|(simp only[i64_w,i32_w];rw[e8])|skip)
  obtain⟨rfl,rfl,rfl,rfl⟩:=q4 H;obtain⟨f4,f5,f6,f7,f8,f9⟩:=bk3 d9;go_wp2
  refine rC d7 33 #[.bool false,.slice none 0 0,.slice none 0 0] (kQ d9) Try.underlying33 ?_
  exact⟨_,_,eW,nK,nK,pB⟩
 ·rw[if_neg c4] at H;have e8:decide (4096 < (l0.length:Int))=false:=decide_eq_false c4;have e9:decide (4096 < l0.length)=false:=decide_eq_false (by omega)
  clear c4;(first|rw[e8]|(simp only[i64_w,i32_w];rw[e8])|skip)
  have H':=aM H;clear H;go_wp2
  go_loopg [4] k (fun kq g4 w'=>∃ (g5:Int) (g6:Bool),g4=.int .i64 g5∧Aside0 (Azk.l0 kq l0 g5=some (a8,a9,b4,b5))∧Aside0 (kq≤k)∧Aside0 (w'.heap[d7]?=some (.cells #[.bool g6,(.slice none 0 0),(.slice none 0 0)] 33 (0,0)))∧Aside0 (bw w w'))
  case atStart=>exact⟨(0),(false),sD,H',⟨Nat.le_refl _⟩,⟨by exact kW d9⟩,⟨pB⟩⟩
  case round =>
   clear H';try clear c2
   obtain⟨g5,g6,rfl,HA,g7,d9,HB⟩:=hrel;cases gk with
   | zero=>exact absurd HA.out (by simp [Azk.l0])
   | succ k1 =>
    have H:=HA.out;clear HA;simp only[Azk.l0] at H;replace H:=iD H;rcases H with⟨g8,H⟩|⟨g8,H⟩
    ·obtain⟨g9,H⟩:=iN H;obtain⟨j3,j4,H⟩:=bT H;(try dsimp only at H);have j5:=aM H;clear H;obtain⟨j6,j7,j8,j9,l5,l6,l7,l8,l9,m0,m4,m5,m6⟩:=at_T33 b8.out g5 (oE aS) (oE aS);cases l6
     replace l7:=hB HB l7;replace l8:=hB HB l8;replace l9:=hB HB l9;have m7:=aM m4;have m8:=aM m0;clear m4 m0;have m9:=aM m6;have n0:=aM m5;clear m6 m5;have n7:=eT (g5);have n8:=eU (g5) l0.length;go_upto_if 25 with (first|((with_reducible refine gc 39 rfl ?_);refine gC 39 (some 24) Try.func39 #[.agg #[.bool ((rd_T33 l0 g5).f0),.slice j7 ((rd_T33 l0 g5).f1).length j8,.slice j9 ((rd_T33 l0 g5).f2).length l5]] ?_;(with_reducible refine(Azw.calls k1 ((rd_T33 l0 g5).f0) _ _ ((rd_T33 l0 g5).f1) _ _ ((rd_T33 l0 g5).f2) j3 _ ?_ ?_ ?_ ?_ j4.out).mono ?_);exact cB m7;exact m8.out;exact cB m9;exact n0.out;rintro e n9 ⟨rfl,hb⟩;refine⟨_,rfl,?_⟩;replace d9:=kb d9 hb;replace HB:=bB hb;clear hb))
     have H:=j5.out;clear j5;by_cases o0:j3=true
     ·subst o0;rw[if_pos rfl] at H;have H':=aM H;clear H;go_wp2
      go_roundg k1
      case measure=>have:=g7.out;omega
      case rel=>exact⟨(wrap64 (g5+1)),(g6),sD,H',⟨by have:=g7.out;omega⟩,⟨by exact kW d9⟩,⟨pB⟩⟩
     ·obtain rfl:=bN o0;rw[if_neg nF] at H
      obtain⟨rfl,rfl,rfl,rfl⟩:=q4 H;obtain⟨o8,o9,p0,p4,p7,p9⟩:=bk3 d9;go_wp2
      refine rC d7 33 #[.bool false,.slice none 0 0,.slice none 0 0] (kQ d9) Try.underlying33 ?_
      exact⟨_,_,eW,nK,nK,pB⟩
    ·obtain⟨⟨r5,r6,r7,r8⟩,r9,H⟩:=bT H;(try dsimp only at H);have H':=aM H;clear H;go_wp2_with (first|((with_reducible refine gc 40 rfl ?_);refine gC 40 (some 28) Try.func40 #[.int .i64 0] ?_;(with_reducible refine(Czx.calls k1 0 r5 r6 r7 r8 _ r9.out).mono ?_);rintro e t4 ⟨t5,t6,rfl,t7,t8,hb⟩;refine⟨_,rfl,?_⟩;have t9:=rL t7;have z3:=rL t8;replace d9:=kb d9 hb;replace HB:=bB hb;clear hb t7 t8)|((with_reducible refine gd 5 rfl ?_);refine bz 33 ?_;intro z4 hg z5 z6 hb;have z7:=gA w hg;have z9:=nl hg d9;have B0:=ng hg d9;replace t9:=rB t9 hb;replace z3:=rB z3 hb;replace d9:=kb d9 hb;replace HB:=bB hb;clear hb hg;have B5:=B0.out;have B9:=z9.out;obtain⟨C0,C1,C2,C3,C4,C6⟩:=bk3 z6;obtain⟨C7,C8,rfl⟩:=Kd.R_slice t9.out;obtain⟨C9,D2,rfl⟩:=Kd.R_slice z3.out))
     go_loopg [7] k1 (fun kq D3 w'=>∃ (D4:Int) (D5:Bool) (D6:Bool) (D7:List Int) (D8:List Int) (u906001:Value) (u906002:Value),D3=.int .i64 D4∧Aside0 (Azk.l1 kq l0 D4 D6 D7 D8=some (a8,a9,b4,b5))∧Aside0 (kq≤k1)∧Aside0 (rI w' w (oV u906002) u906001 D7)∧Aside0 (rI w' w (oV u906001) u906002 D8)∧Aside0 (w'.heap[d7]?=some (.cells #[.bool D5,(.slice none 0 0),(.slice none 0 0)] 33 (0,0)))∧Aside0 (w'.heap[z4]?=some (.cells #[.bool D6,u906001,u906002] 33 (0,0)))∧Aside0 (bw w w'))
     case atStart=>exact⟨(0),(g6),(r5),(r6),(r7),(.slice C7 r6.length C8),(.slice C9 r7.length D2),sD,H',⟨Nat.le_refl _⟩,⟨by exact Kd.R_mono (rT t9 z6) (fun _ hk=>hk)⟩,⟨by exact Kd.R_mono (rT z3 z6) (fun _ hk=>hk)⟩,⟨by exact kf d9 z9⟩,⟨by exact kQ z6⟩,⟨pB⟩⟩
     case round =>
      clear H';try clear D9
      obtain⟨D4,D5,D6,D7,D8,u906001,u906002,rfl,HA,E0,E1,E2,d9,z6,HB⟩:=hrel;cases gk with
      | zero=>exact absurd HA.out (by simp [Azk.l1])
      | succ k2 =>
       have H:=HA.out;clear HA;simp only[Azk.l1] at H;replace H:=iD H;rcases H with⟨E4,H⟩|⟨E4,H⟩
       ·obtain⟨E5,H⟩:=iN H;obtain⟨⟨E6,E7,E8,E9⟩,F0,H⟩:=bT H;(try dsimp only at H);have F2:=aM H;clear H;obtain⟨F3,F4,rfl⟩:=Kd.R_slice E1.out;obtain⟨F5,F6,rfl⟩:=Kd.R_slice E2.out;try go_wp2
        have n0_:=aM (Kd.R_drew E1.out);have n1_:=aM (Kd.R_drew E2.out);have n2_:=aM (blk_drew d9.out);have n3_:=aM (blk_drew z6.out);have n4_:=aM (below_drew1 HB.out);clear E1 E2 d9 z6 HB;have E1:=n0_;have E2:=n1_;have d9:=n2_;have z6:=n3_;have HB:=n4_;clear n0_ n1_ n2_ n3_ n4_;obtain⟨F7,F8,F9,G5,G9,H5,H6,H7,H8,H9,I0,I3,I4⟩:=at_T33 b8.out D4 (oE aS) (oE aS);have I5:=H8;have I6:=H7;have I7:=H6;cases H5
        replace H6:=hB HB H6;replace H7:=hB HB H7;replace H8:=hB HB H8;have I8:=aM I0;have I9:=aM H9;clear I0 H9;have J0:=aM I4;have J1:=aM I3;clear I4 I3;have J2:=eT (D4);have J3:=eU (D4) l0.length;refine start_ (n:=12) (S:=fun w'=>w'.cell? ⟨z4,0,none⟩=some (.bool D6)∧w'.cell? ⟨z4,1,none⟩=some (.slice F3 D7.length F4)∧w'.cell? ⟨z4,2,none⟩=some (.slice F5 D8.length F6)∧w'.cell? (F7.add ((D4).toNat * 3))=some (.bool ((rd_T33 l0 D4).f0))∧w'.cell? ⟨(F7.add ((D4).toNat * 3)).block,(F7.add ((D4).toNat * 3)).off+1,none⟩=some (.slice F8 ((rd_T33 l0 D4).f1).length F9)∧w'.cell? ⟨(F7.add ((D4).toNat * 3)).block,(F7.add ((D4).toNat * 3)).off+2,none⟩=some (.slice G5 ((rd_T33 l0 D4).f2).length G9)) (ds:=[]) (bA 12 0) (by kernel_rfl) rfl rfl ⟨(blk_cell z6.out 0).trans rfl,(blk_cell z6.out 1).trans rfl,(blk_cell z6.out 2).trans rfl,(hB HB I7),(hB HB I6),(hB HB I5)⟩ (fun hHeld=>?_);refine with_tabW Azk.tab12 Azk.bits12 (fun HT_ HW_=>?_)
        generalize wr.drew=J4 at E1 E2 d9 z6 HB I8 J0 H6 H7 H8 hHeld ⊢;refine pS 1 39 HT_ ?_;refine pS 2 40 HT_ ?_;refine pS 3 41 HT_ ?_;refine tU 0 38 HT_ HW_ hHeld ?_;refine tU 4 42 HT_ HW_ hHeld ?_;refine join_ (σ:=Value × Value × Nat) 2 (bA 12 1023) (fun s_=>[(43,.tuple #[.agg #[.bool E6,s_.1,s_.2.1],.int .i64 E9]),(8,.pointer (some ⟨s_.2.2,0,none⟩)),(37,.tuple #[.agg #[.bool E6,s_.1,s_.2.1],.int .i64 E9]),(44,.agg #[.bool E6,s_.1,s_.2.1]),(45,.int .i64 E9)]) (fun s_ w'=>(w'.cell? ⟨z4,0,none⟩=some (.bool D6)∧w'.cell? ⟨z4,1,none⟩=some (.slice F3 D7.length F4)∧w'.cell? ⟨z4,2,none⟩=some (.slice F5 D8.length F6)∧w'.cell? (F7.add ((D4).toNat * 3))=some (.bool ((rd_T33 l0 D4).f0))∧w'.cell? ⟨(F7.add ((D4).toNat * 3)).block,(F7.add ((D4).toNat * 3)).off+1,none⟩=some (.slice F8 ((rd_T33 l0 D4).f1).length F9)∧w'.cell? ⟨(F7.add ((D4).toNat * 3)).block,(F7.add ((D4).toNat * 3)).off+2,none⟩=some (.slice G5 ((rd_T33 l0 D4).f2).length G9))∧(rI w' w (fun k_=>some k_≠(s_.2.1:Value).ownBlock∧oN F3 D7.length F4 k_∧oN F5 D8.length F6 k_) s_.1 E7)∧(rI w' w (fun k_=>some k_≠(s_.1:Value).ownBlock∧oN F3 D7.length F4 k_∧oN F5 D8.length F6 k_) s_.2.1 E8)∧(rI w' w (fun k_=>some k_≠(s_.1:Value).ownBlock∧some k_≠(s_.2.1:Value).ownBlock∧oN F5 D8.length F6 k_) (.slice F3 D7.length F4) D7)∧(rI w' w (fun k_=>some k_≠(s_.1:Value).ownBlock∧some k_≠(s_.2.1:Value).ownBlock∧oN F3 D7.length F4 k_) (.slice F5 D8.length F6) D8)∧(w'.heap[d7]?=some (.cells #[.bool D5,.slice none 0 0,.slice none 0 0] 33 (0,0)))∧(w'.heap[z4]?=some (.cells #[.bool D6,.slice F3 D7.length F4,.slice F5 D8.length F6] 33 (0,0)))∧(w'.heap[s_.2.2]?=some (.cells #[.bool false,.slice none 0 0,.slice none 0 0] 33 (0,0)))∧(w.heap.size≤s_.2.2)∧(w.heap.size≤s_.2.2)∧(d7≠s_.2.2)∧(s_.2.2≠d7)∧(z4≠s_.2.2)∧(s_.2.2≠z4)∧(bw w w')) ?_ ?_
        rotate_left
        ·intro hCont;refine two_ (i:=5) (j:=9) (Ni:=some 43) (Nj:=some 8) (bA 12 63) (bA 12 543) rfl rfl rfl rfl (two_of HT_.out (by kernel_rfl)) (by decide) (by decide) (fun K hK=>?_) (fun K hK=>?_)
         ·skip
          refine goes_ Try.func29 (by kernel_rfl) rfl #[.agg #[.bool D6,.slice F3 D7.length F4,.slice F5 D8.length F6],.agg #[.bool ((rd_T33 l0 D4).f0),.slice F8 ((rd_T33 l0 D4).f1).length F9,.slice G5 ((rd_T33 l0 D4).f2).length G9]] (by rfl) rfl rfl mA ?_
          with_reducible refine(Bzv.calls k2 D6 _ _ D7 _ _ D8 ((rd_T33 l0 D4).f0) _ _ ((rd_T33 l0 D4).f1) _ _ ((rd_T33 l0 D4).f2) E6 E7 E8 E9 _ ?side1 ?side2 ?side3 ?side4 ?side5 ?side6 ?side7 ?side8 F0.out).mono ?_
          (case side1=>exact cR E1)
          (case side2=>exact lR E1)
          (case side3=>exact cR E2)
          (case side4=>exact lR E2)
          (case side5=>exact cB I8)
          (case side6=>exact I9.out)
          (case side7=>exact cB J0)
          (case side8=>exact J1.out)
          rintro e J5 ⟨J6,J7,rfl,t7,t8,hb⟩;refine⟨_,rfl,?_⟩;have n0_:=rO E1 hb t7 t8
          have n1_:=rO E2 hb t7 t8
          have n2_:=rL (rn (rn t7 E1) E2);have n3_:=rL (rn (rn t8 E1) E2);have n4_:=kb d9 hb;have n5_:=kb z6 hb;have n6_:=bB hb;clear E1 E2 d9 z6 HB;have E1:=n0_;have E2:=n1_;have J8:=n2_;have J9:=n3_;have d9:=n4_;have z6:=n5_;have HB:=n6_;clear n0_ n1_ n2_ n3_ n4_ n5_ n6_;(try clear hb)
          (try clear K0)
          (try clear hk)
          (try clear hi)
          (try clear t7)
          (try clear t8)
          refine hK.out _ _ ⟨(blk_cell z6.out 0).trans rfl,(blk_cell z6.out 1).trans rfl,(blk_cell z6.out 2).trans rfl,(hB HB I7),(hB HB I6),(hB HB I5)⟩ (fun hHeld=>?_)
          clear hK K;refine nm 43 ?_;refine pS 6 37 HT_ ?_;refine pS 7 44 HT_ ?_;refine pS 8 45 HT_ ?_;refine oU 9 (some 8) HT_ fun K hK=>?_
          refine box_step ?hg (N:=8) ?hd (cs:=#[.bool false,.slice none 0 0,.slice none 0 0]) (t:=33) ?hr ?_;(case hd=>rfl);(case hg=>rfl);(case hr=>first|(go_simp;done)|(go_simp;rfl))
          intro K1 hg K2 hbox hb;have n0_:=rB E1 hb;have n1_:=rB E2 hb;have n2_:=rB J8 hb;have n3_:=rB J9 hb;have n4_:=kb d9 hb;have n5_:=kb z6 hb;have n6_:=bB hb;have n7_:=aM (hbox);have n8_:=gA w hg;have n9_:=gA w hg;have K3:=nl hg d9;have K4:=ng hg d9;have K5:=nl hg z6;have K6:=ng hg z6;clear E1 E2 J8 J9 d9 z6 HB;have E1:=n0_;have E2:=n1_;have J8:=n2_;have J9:=n3_;have d9:=n4_;have z6:=n5_;have HB:=n6_;have K7:=n7_;have K8:=n8_;have K9:=n9_;have L0:=K3;have L7:=K4;have L8:=K5;have L9:=K6;clear n0_ n1_ n2_ n3_ n4_ n5_ n6_ n7_ n8_ n9_ K3 K4 K5 K6 hb hbox hg;refine hK.out _ _ ⟨(blk_cell z6.out 0).trans rfl,(blk_cell z6.out 1).trans rfl,(blk_cell z6.out 2).trans rfl,(hB HB I7),(hB HB I6),(hB HB I5)⟩ (fun hHeld=>?_)
          clear hK K;refine nm 8 ?_;exact norm_ (by simp only[putAll,Act.put,sA,sZ,sC]) (hCont (J6,J7,K1) _ ⟨hHeld,(rX (Kd.R_mono J8.out (fun _ hk=>⟨hk.1.1,⟨hk.1.2,hk.2⟩⟩))),(rX (Kd.R_mono J9.out (fun _ hk=>⟨hk.1.1,⟨hk.1.2,hk.2⟩⟩))),(rX (Kd.R_mono E1.out (fun _ hk=>⟨hk.1.2,⟨hk.2,hk.1.1⟩⟩))),(rX (Kd.R_mono E2.out (fun _ hk=>⟨hk.1.2,⟨hk.2,hk.1.1⟩⟩))),(kW d9),(kW z6),(kW K7),K8.out,K9.out,L0.out,L7.out,L8.out,L9.out,pB⟩)
         ·skip
          refine box_step ?hg (N:=8) ?hd (cs:=#[.bool false,.slice none 0 0,.slice none 0 0]) (t:=33) ?hr ?_;(case hd=>rfl);(case hg=>rfl);(case hr=>first|(go_simp;done)|(go_simp;rfl))
          intro K1 hg J5 hbox hb;have n0_:=rB E1 hb;have n1_:=rB E2 hb;have n2_:=kb d9 hb;have n3_:=kb z6 hb;have n4_:=bB hb;have n5_:=aM (hbox);have n6_:=gA w hg;have n7_:=gA w hg;have n8_:=nl hg d9;have n9_:=ng hg d9;have K3:=nl hg z6;have K4:=ng hg z6;clear E1 E2 d9 z6 HB;have E1:=n0_;have E2:=n1_;have d9:=n2_;have z6:=n3_;have HB:=n4_;have K7:=n5_;have K8:=n6_;have K9:=n7_;have L0:=n8_;have L7:=n9_;have L8:=K3;have L9:=K4;clear n0_ n1_ n2_ n3_ n4_ n5_ n6_ n7_ n8_ n9_ K3 K4 hb hbox hg;refine hK.out _ _ ⟨(blk_cell z6.out 0).trans rfl,(blk_cell z6.out 1).trans rfl,(blk_cell z6.out 2).trans rfl,(hB HB I7),(hB HB I6),(hB HB I5)⟩ (fun hHeld=>?_)
          clear hK K;refine nm 8 ?_;refine oU 5 (some 43) HT_ fun K hK=>?_
          refine goes_ Try.func29 (by kernel_rfl) rfl #[.agg #[.bool D6,.slice F3 D7.length F4,.slice F5 D8.length F6],.agg #[.bool ((rd_T33 l0 D4).f0),.slice F8 ((rd_T33 l0 D4).f1).length F9,.slice G5 ((rd_T33 l0 D4).f2).length G9]] (by rfl) rfl rfl mA ?_
          with_reducible refine(Bzv.calls k2 D6 _ _ D7 _ _ D8 ((rd_T33 l0 D4).f0) _ _ ((rd_T33 l0 D4).f1) _ _ ((rd_T33 l0 D4).f2) E6 E7 E8 E9 _ ?side1 ?side2 ?side3 ?side4 ?side5 ?side6 ?side7 ?side8 F0.out).mono ?_
          (case side1=>exact cR E1)
          (case side2=>exact lR E1)
          (case side3=>exact cR E2)
          (case side4=>exact lR E2)
          (case side5=>exact cB I8)
          (case side6=>exact I9.out)
          (case side7=>exact cB J0)
          (case side8=>exact J1.out)
          rintro e K2 ⟨J6,J7,rfl,t7,t8,hb⟩;refine⟨_,rfl,?_⟩;have n0_:=rO E1 hb t7 t8
          have n1_:=rO E2 hb t7 t8
          have n2_:=rL (rn (rn t7 E1) E2);have n3_:=rL (rn (rn t8 E1) E2);have n4_:=kb d9 hb;have n5_:=kb z6 hb;have n6_:=kb K7 hb;have n7_:=bB hb;clear E1 E2 d9 z6 K7 HB;have E1:=n0_;have E2:=n1_;have J8:=n2_;have J9:=n3_;have d9:=n4_;have z6:=n5_;have K7:=n6_;have HB:=n7_;clear n0_ n1_ n2_ n3_ n4_ n5_ n6_ n7_;(try clear hb)
          (try clear K0)
          (try clear hk)
          (try clear hi)
          (try clear t7)
          (try clear t8)
          refine hK.out _ _ ⟨(blk_cell z6.out 0).trans rfl,(blk_cell z6.out 1).trans rfl,(blk_cell z6.out 2).trans rfl,(hB HB I7),(hB HB I6),(hB HB I5)⟩ (fun hHeld=>?_)
          clear hK K;refine nm 43 ?_;refine pS 6 37 HT_ ?_;refine pS 7 44 HT_ ?_;refine pS 8 45 HT_ ?_;exact norm_ (by simp only[putAll,Act.put,sA,sZ,sC]) (hCont (J6,J7,K1) _ ⟨hHeld,(rX (Kd.R_mono J8.out (fun _ hk=>⟨hk.1.1,⟨hk.1.2,hk.2⟩⟩))),(rX (Kd.R_mono J9.out (fun _ hk=>⟨hk.1.1,⟨hk.1.2,hk.2⟩⟩))),(rX (Kd.R_mono E1.out (fun _ hk=>⟨hk.1.2,⟨hk.2,hk.1.1⟩⟩))),(rX (Kd.R_mono E2.out (fun _ hk=>⟨hk.1.2,⟨hk.2,hk.1.1⟩⟩))),(kW d9),(kW z6),(kW K7),K8.out,K9.out,L0.out,L7.out,L8.out,L9.out,pB⟩)
        rintro ⟨J6,J7,K1⟩ M0 ⟨hS_,h0_,h1_,h2_,h3_,h4_,h5_,h6_,h7_,h8_,h9_,M3,M4,M5,M6⟩;have n0_:Aside0 (rI M0 w (fun k_=>oV J7 k_∧oN F3 D7.length F4 k_∧oN F5 D8.length F6 k_) J6 E7):=⟨h0_⟩
        have n1_:Aside0 (rI M0 w (fun k_=>oV J6 k_∧oN F3 D7.length F4 k_∧oN F5 D8.length F6 k_) J7 E8):=⟨h1_⟩
        have n2_:Aside0 (rI M0 w (fun k_=>oV J6 k_∧oV J7 k_∧oN F5 D8.length F6 k_) (.slice F3 D7.length F4) D7):=⟨h2_⟩
        have n3_:Aside0 (rI M0 w (fun k_=>oV J6 k_∧oV J7 k_∧oN F3 D7.length F4 k_) (.slice F5 D8.length F6) D8):=⟨h3_⟩
        have n4_:Aside0 (M0.heap[d7]?=some (.cells #[.bool D5,.slice none 0 0,.slice none 0 0] 33 (0,0))):=⟨h4_⟩;have n5_:Aside0 (M0.heap[z4]?=some (.cells #[.bool D6,.slice F3 D7.length F4,.slice F5 D8.length F6] 33 (0,0))):=⟨h5_⟩;have n6_:Aside0 (M0.heap[K1]?=some (.cells #[.bool false,.slice none 0 0,.slice none 0 0] 33 (0,0))):=⟨h6_⟩;have n7_:Aside0 (w.heap.size≤K1):=⟨h7_⟩;have n8_:Aside0 (w.heap.size≤K1):=⟨h8_⟩;have n9_:Aside0 (d7≠K1):=⟨h9_⟩;have K3:Aside0 (K1≠d7):=⟨M3⟩;have K4:Aside0 (z4≠K1):=⟨M4⟩;have K5:Aside0 (K1≠z4):=⟨M5⟩;have K6:Aside0 (bw w M0):=⟨M6⟩;clear E1 E2 d9 z6 HB h0_ h1_ h2_ h3_ h4_ h5_ h6_ h7_ h8_ h9_ M3 M4 M5 M6;have J8:=n0_;have J9:=n1_;have E1:=n2_;have E2:=n3_;have d9:=n4_;have z6:=n5_;have K7:=n6_;have K8:=n7_;have K9:=n8_;have L0:=n9_;have L7:=K3;have L8:=K4;have L9:=K5;have HB:=K6;clear n0_ n1_ n2_ n3_ n4_ n5_ n6_ n7_ n8_ n9_ K3 K4 K5 K6;have hHeld:M0.cell? ⟨z4,0,none⟩=some (.bool D6)∧M0.cell? ⟨z4,1,none⟩=some (.slice F3 D7.length F4)∧M0.cell? ⟨z4,2,none⟩=some (.slice F5 D8.length F6)∧M0.cell? (F7.add ((D4).toNat * 3))=some (.bool ((rd_T33 l0 D4).f0))∧M0.cell? ⟨(F7.add ((D4).toNat * 3)).block,(F7.add ((D4).toNat * 3)).off+1,none⟩=some (.slice F8 ((rd_T33 l0 D4).f1).length F9)∧M0.cell? ⟨(F7.add ((D4).toNat * 3)).block,(F7.add ((D4).toNat * 3)).off+2,none⟩=some (.slice G5 ((rd_T33 l0 D4).f2).length G9):=hS_;obtain⟨M7,M8,M9⟩:=Kd.R_slice J8.out;(first|subst M9|(injection M9 with f1_ f2_ f3_;have f4_:=f1_.symm;have f5_:=f3_.symm;clear f1_ f2_ f3_;subst f4_;subst f5_))
        obtain⟨N0,N1,N2⟩:=Kd.R_slice J9.out;(first|subst N2|(injection N2 with f1_ f2_ f3_;have f4_:=f1_.symm;have f5_:=f3_.symm;clear f1_ f2_ f3_;subst f4_;subst f5_))
        refine norm_ (a':=?_) ?_ ?_;rotate_left
        ·simp only[putAll,Act.put,sA,sZ,sC];rfl
        refine oU 10 none HT_ fun K hK=>?_
        have N3:M0.cell? ⟨K1,0,none⟩=some (.bool false):=(blk_cell K7.out 0).trans rfl;have hfs30:=blk_frozen K7.out 0;have hns30_0:=L0.out;have hns30_1:=L8.out;have hms30_0:=L7.out;have hms30_1:=L9.out;have N4:M0.cell? ⟨K1,1,none⟩=some (.slice none 0 0):=(blk_cell K7.out 1).trans rfl;have hfs32:=blk_frozen K7.out 1;have hns32_0:=L0.out;have hns32_1:=L8.out;have hms32_0:=L7.out;have hms32_1:=L9.out;have N5:M0.cell? ⟨K1,2,none⟩=some (.slice none 0 0):=(blk_cell K7.out 2).trans rfl;have hfs34:=blk_frozen K7.out 2;have hns34_0:=L0.out;have hns34_1:=L8.out;have hms34_0:=L7.out;have hms34_1:=L9.out;refine skip_ (w1:=?_) (by rfl) rfl ?_ ?_
        rotate_left
        ·go_simp
         rfl
        refine hK.out _ _ ⟨((cell_far (p:=⟨K1,_,none⟩) L8.out _).trans (((cell_far (p:=⟨K1,_,none⟩) L8.out _).trans (((cell_far (p:=⟨K1,_,none⟩) L8.out _).trans (hHeld.1)))))),((cell_far (p:=⟨K1,_,none⟩) L8.out _).trans (((cell_far (p:=⟨K1,_,none⟩) L8.out _).trans (((cell_far (p:=⟨K1,_,none⟩) L8.out _).trans (hHeld.2.1)))))),((cell_far (p:=⟨K1,_,none⟩) L8.out _).trans (((cell_far (p:=⟨K1,_,none⟩) L8.out _).trans (((cell_far (p:=⟨K1,_,none⟩) L8.out _).trans (hHeld.2.2.1)))))),((cell_far (p:=⟨K1,_,none⟩) (nC I7 K8) _).trans (((cell_far (p:=⟨K1,_,none⟩) (nC I7 K8) _).trans (((cell_far (p:=⟨K1,_,none⟩) (nC I7 K8) _).trans (hHeld.2.2.2.1)))))),((cell_far (p:=⟨K1,_,none⟩) (nC I6 K8) _).trans (((cell_far (p:=⟨K1,_,none⟩) (nC I6 K8) _).trans (((cell_far (p:=⟨K1,_,none⟩) (nC I6 K8) _).trans (hHeld.2.2.2.2.1)))))),((cell_far (p:=⟨K1,_,none⟩) (nC I5 K8) _).trans (((cell_far (p:=⟨K1,_,none⟩) (nC I5 K8) _).trans (((cell_far (p:=⟨K1,_,none⟩) (nC I5 K8) _).trans (hHeld.2.2.2.2.2))))))⟩ (fun hHeld=>?_)
        clear hK K;refine pS 11 9 HT_ ?_;refine done_ (done_of HT_.out (by kernel_rfl)) ?_
        go_upto_if 47 with (fail)
        have H:=F2.out;clear F2;replace H:=iE H;rcases H with⟨N7,N8,H⟩|⟨N6,N7,N8,H⟩
        ·(first|rw[N7]|(simp only[i64_w,i32_w];rw[N7])|skip)
         have H':=aM H;clear H;have N9:=L7.out;have O0:=L0.out;have O1:=L9.out;have O2:=L8.out;obtain⟨O3,O4,O5,O6,O7,O8⟩:=bk3 K7;have O9:=B0.out;have P0:=z9.out;obtain⟨P3,P4,P5,P6,P7,P8⟩:=bk3 z6;go_wp2
         go_roundg k2
         case measure=>have:=g7.out;have:=E0.out;omega
         case rel=>exact⟨(wrap64 (D4+1)),(D5),(E6),(E7),(E8),(.slice M7 E7.length M8),(.slice N0 E8.length N1),sD,H',⟨by have:=g7.out;have:=E0.out;omega⟩,⟨by exact rX (Kd.R_mono (Kd.R_far (p:=⟨z4,2,none⟩) (Kd.R_far (p:=⟨z4,1,none⟩) (Kd.R_far (p:=⟨z4,0,none⟩) (Kd.R_far (p:=⟨K1,2,none⟩) (Kd.R_far (p:=⟨K1,1,none⟩) (Kd.R_far (p:=⟨K1,0,none⟩) (Kd.R_types (Kd.R_types J8.out K7.out (by decide)) z6.out (by decide)) (fun _ hk=>hk.1.2) (.bool E6)) (fun _ hk=>hk.1.2) (.slice M7 E7.length M8)) (fun _ hk=>hk.1.2) (.slice N0 E8.length N1)) (fun _ hk=>hk.2) (.bool E6)) (fun _ hk=>hk.2) (.slice M7 E7.length M8)) (fun _ hk=>hk.2) (.slice N0 E8.length N1)) (fun _ hk=>hk.1.1.1))⟩,⟨by exact rX (Kd.R_mono (Kd.R_far (p:=⟨z4,2,none⟩) (Kd.R_far (p:=⟨z4,1,none⟩) (Kd.R_far (p:=⟨z4,0,none⟩) (Kd.R_far (p:=⟨K1,2,none⟩) (Kd.R_far (p:=⟨K1,1,none⟩) (Kd.R_far (p:=⟨K1,0,none⟩) (Kd.R_types (Kd.R_types J9.out K7.out (by decide)) z6.out (by decide)) (fun _ hk=>hk.1.2) (.bool E6)) (fun _ hk=>hk.1.2) (.slice M7 E7.length M8)) (fun _ hk=>hk.1.2) (.slice N0 E8.length N1)) (fun _ hk=>hk.2) (.bool E6)) (fun _ hk=>hk.2) (.slice M7 E7.length M8)) (fun _ hk=>hk.2) (.slice N0 E8.length N1)) (fun _ hk=>hk.1.1.1))⟩,⟨by exact kf2 d9 z9 L0⟩,⟨by refine bD ?_;refine blk_put (cs:=#[.bool E6,.slice M7 E7.length M8,.slice F5 D8.length F6]) ?_ 2 _ rfl;refine bD ?_;refine blk_put (cs:=#[.bool E6,.slice F3 D7.length F4,.slice F5 D8.length F6]) ?_ 1 _ rfl;refine bD ?_;refine blk_put (cs:=#[.bool D6,.slice F3 D7.length F4,.slice F5 D8.length F6]) ?_ 0 _ rfl;refine bD ?_;refine blk_far ?_ L8.out _;refine bD ?_;refine blk_far ?_ L8.out _;refine bD ?_;refine blk_far ?_ L8.out _;(with_reducible repeat(first|refine blk_drewN ?_ _|refine blk_drew ?_|refine blk_alloc ?_ _));exact z6.out⟩,⟨pB⟩⟩
        ·(first|rw[N7]|(simp only[i64_w,i32_w];rw[N7])|skip)
         obtain⟨rfl,rfl,rfl,rfl⟩:=q4 H;have P9:=z9.out;have Q0:=B0.out;have Q1:=L0.out;have Q2:=L7.out;obtain⟨Q3,Q4,Q5,Q6,Q7,Q8⟩:=bk3 d9;go_wp2
         refine rC d7 33 #[.bool false,.slice none 0 0,.slice none 0 0] (by refine bD ?_;refine blk_put (cs:=#[.bool false,.slice none 0 0,.slice none 0 0]) ?_ 2 _ rfl;refine bD ?_;refine blk_put (cs:=#[.bool false,.slice none 0 0,.slice none 0 0]) ?_ 1 _ rfl;refine bD ?_;refine blk_put (cs:=#[.bool D5,.slice none 0 0,.slice none 0 0]) ?_ 0 _ rfl;refine bD ?_;refine blk_far ?_ L0.out _;refine bD ?_;refine blk_far ?_ L0.out _;refine bD ?_;refine blk_far ?_ L0.out _;(with_reducible repeat(first|refine blk_drewN ?_ _|refine blk_drew ?_|refine blk_alloc ?_ _));exact d9.out) Try.underlying33 ?_
         exact⟨_,_,eW,nK,nK,pB⟩
       ·obtain⟨rfl,rfl,rfl,rfl⟩:=q4 H;have Q9:=B0.out;have R0:=z9.out;obtain⟨R1,R2,R3,R4,R5,R6⟩:=bk3 z6;obtain⟨R7,R8,R9,U0,U1,U2⟩:=bk3 d9;obtain⟨U3,U4,rfl⟩:=Kd.R_slice E1.out;obtain⟨U5,U6,rfl⟩:=Kd.R_slice E2.out;go_wp2
        refine rC d7 33 #[.bool D6,.slice U3 D7.length U4,.slice U5 D8.length U6] (kQ d9) Try.underlying33 ?_
        exact⟨_,_,eW,by exact Kd.R_mono (rT E1 d9) (fun _ hk=>hk),by exact Kd.R_mono (rT E2 d9) (fun _ hk=>hk),pB⟩


mutual
def Bzy.j0:Nat→Bool→Bool→List Int→List Int→Bool→List Int→List Int→Option (Int × Int)
 | 0,_,_,_,_,_,_,_=>none
 | k+1,x19,x917000,x917001,x917002,x918000,x918001,x918002=>if x19=true then(some (0,3)) else((Bzk.f k x917001 x918002).bind fun bt920=>((Bzk.f k x918001 x917002).bind fun bt924=>(if bt920.2=0 then(Bzy.j1 k bt920.1 bt924.1 (bt924.2 != 0) x917000 x917001 x917002 x918000 x918001 x918002) else(Bzy.j1 k bt920.1 bt924.1 true x917000 x917001 x917002 x918000 x918001 x918002))))
def Bzy.j1:Nat→List Int→List Int→Bool→Bool→List Int→List Int→Bool→List Int→List Int→Option (Int × Int)
 | 0,_,_,_,_,_,_,_,_,_=>none
 | k+1,x6,x8,x41,x917000,x917001,x917002,x918000,x918001,x918002=>if x41=true then(some (0,2)) else(if(x917000 != x918000)=true then(if x917000=true then(some ((-1),0)) else(some (1,0))) else((Ezw.f k x6 x8).bind fun bt928=>(if x917000=true then(some (wrap64 (-bt928.1),0)) else(some (bt928.1,0)))))
end
def Bzy.f (k:Nat) (a0_0:Bool) (l0_1:List Int) (l0_2:List Int) (a1_0:Bool) (l1_1:List Int) (l1_2:List Int):Option (Int × Int):=(Azw.f k a0_0 l0_1 l0_2).bind fun t918=>(if t918=true then((Azw.f k a1_0 l1_1 l1_2).bind fun t919=>(Bzy.j0 k (!t919) a0_0 l0_1 l0_2 a1_0 l1_1 l1_2)) else(Bzy.j0 k true a0_0 l0_1 l0_2 a1_0 l1_1 l1_2))
theorem Bzy.mono_l:∀ k,(∀ a6 a7 a8 a9 b4 b5 b6,LeO (Bzy.j0 k a6 a7 a8 a9 b4 b5 b6) (Bzy.j0 (k+1) a6 a7 a8 a9 b4 b5 b6))∧(∀ a6 a7 a8 a9 b4 b5 b6 b7 b8,LeO (Bzy.j1 k a6 a7 a8 a9 b4 b5 b6 b7 b8) (Bzy.j1 (k+1) a6 a7 a8 a9 b4 b5 b6 b7 b8))
 | 0=>⟨fun _ _ _ _ _ _ _ r h=>by simp [Bzy.j0] at h,fun _ _ _ _ _ _ _ _ _ r h=>by simp [Bzy.j1] at h⟩
 | k+1=>by
  obtain⟨ih0,ih1⟩:=Bzy.mono_l k;have i0:=@Ezw.mono;have i1:=@Bzk.mono;have i2:=@Azw.mono;refine⟨?_,?_⟩
  ·intro a6 a7 a8 a9 b4 b5 b6;unfold Bzy.j0;exact mM
  ·intro a6 a7 a8 a9 b4 b5 b6 b7 b8;unfold Bzy.j1;exact mM
theorem Bzy.mono:∀ a6 a7 a8 a9 b4 b5 k,LeO (Bzy.f k a6 a7 a8 a9 b4 b5) (Bzy.f (k+1) a6 a7 a8 a9 b4 b5):=by
 intro a6 a7 a8 a9 b4 b5 k;obtain⟨ih0,ih1⟩:=Bzy.mono_l k;unfold Bzy.f;have i0:=@Ezw.mono;have i1:=@Bzk.mono;have i2:=@Azw.mono;exact mM
theorem Bzy.calls (k:Nat) (a6:Bool) (a7:Option Addr) (a8:Nat) (a9:List Int) (b4:Option Addr) (b5:Nat) (b6:List Int) (b7:Bool) (b8:Option Addr) (b9:Nat) (d6:List Int) (d7:Option Addr) (d8:Nat) (d9:List Int) (e6:Int) (e7:Int) (w:World) (e8:cI w a7 a9) (e9:a9.length≤a8) (f4:cI w b4 b6) (f5:b6.length≤b5) (f6:cI w b8 d6) (f7:d6.length≤b9) (f8:cI w d7 d9) (f9:d9.length≤d8) (h:Bzy.f k a6 a9 b6 b7 d6 d9=some (e6,e7)) :
  Calls Try.prog 41 #[.agg #[.bool a6,.slice a7 a9.length a8,.slice b4 b6.length b5],.agg #[.bool b7,.slice b8 d6.length b9,.slice d7 d9.length d8]] w fun e w'=>e=.returned (.tuple #[.int .i64 e6,.int .i64 e7])∧bw w w':=by
 have hu33:=Try.underlying33;have g4:=aM e8;have g5:=aM e9;clear e8 e9;have g6:=aM f4;have g7:=aM f5;clear f4 f5;have g8:=aM f6;have g9:=aM f7;clear f6 f7;have j3:=aM f8;have j4:=aM f9;clear f8 f9;have HB:=aM (Below.refl w.heap.size w);have H:((Azw.f k a6 a9 b6).bind fun j5=>(if j5=true then((Azw.f k b7 d6 d9).bind fun j6=>(Bzy.j0 k (!j6) a6 a9 b6 b7 d6 d9)) else(Bzy.j0 k true a6 a9 b6 b7 d6 d9)))=some (e6,e7):=h
 clear h;have j7:=aM H;clear H;go_enter Try.func41,Try.ntmps41
 go_upto_region 1 with (first|((with_reducible refine gd 2 rfl ?_);refine bx #[.bool a6,.slice a7 a9.length a8,.slice b4 b6.length b5] 33 ?_;intro j8 hg j9 l5 hb;have l6:=gA w hg;replace HB:=bB hb;clear hb hg)|((with_reducible refine gd 3 rfl ?_);refine bx #[.bool b7,.slice b8 d6.length b9,.slice d7 d9.length d8] 33 ?_;intro l8 hg l9 m0 hb;have m4:=gA w hg;have m6:=nl hg l5;have m7:=ng hg l5;replace l5:=kb l5 hb;replace HB:=bB hb;clear hb hg))
 (try simp only[Act.put,sA,sZ,sC])
 go_cut [19] (fun m8 wc=>∃ (kq:Nat) (m9:Bool),m8=.bool m9∧Aside0 (Bzy.j0 kq m9 a6 a9 b6 b7 d6 d9=some (e6,e7))∧Aside0 (kq≤k)∧Aside0 (wc.heap[j8]?=some (.cells #[.bool a6,(.slice a7 a9.length a8),(.slice b4 b6.length b5)] 33 (0,0)))∧Aside0 (wc.heap[l8]?=some (.cells #[.bool b7,(.slice b8 d6.length b9),(.slice d7 d9.length d8)] 33 (0,0)))∧Aside0 (bw w wc))
 case first =>
  have H:=j7.out;clear j7;obtain⟨j5,n0,H⟩:=bT H;(try dsimp only at H);by_cases c7:j5=true
  ·subst c7;rw[if_pos rfl] at H;obtain⟨j6,n7,H⟩:=bT H;(try dsimp only at H);have H':=aM H;clear H;have n8:=m6.out;have n9:=m7.out;obtain⟨o0,o8,o9,p0,p4,p7⟩:=bk3 l5;go_wp2_with (first|((with_reducible refine gc 39 rfl ?_);refine gC 39 (some 13) Try.func39 #[.agg #[.bool a6,.slice a7 a9.length a8,.slice b4 b6.length b5]] ?_;(with_reducible refine(Azw.calls k a6 _ _ a9 _ _ b6 true _ ?_ ?_ ?_ ?_ n0.out).mono ?_);exact cB g4;exact g5.out;exact cB g6;exact g7.out;rintro e p9 ⟨rfl,hb⟩;refine⟨_,rfl,?_⟩;replace l5:=kb l5 hb;replace m0:=kb m0 hb;replace HB:=bB hb;clear hb;obtain⟨r5,r6,r7,r8,r9,t4⟩:=bk3 m0)|(go_at_call 39;(with_reducible refine(Azw.calls k b7 _ _ d6 _ _ d9 j6 _ ?_ ?_ ?_ ?_ n7.out).mono ?_);exact cB g8;exact g9.out;exact cB j3;exact j4.out;rintro e t5 ⟨rfl,hb⟩;replace l5:=kb l5 hb;replace m0:=kb m0 hb;replace HB:=bB hb;clear hb))
   go_meet
   case rel=>exact⟨_,(!j6),sD,H',⟨by first|omega|exact Nat.le_refl _⟩,⟨by exact kW l5⟩,⟨by exact kW m0⟩,⟨pB⟩⟩
  ·obtain rfl:=bN c7;rw[if_neg nF] at H
   have H':=aM H;clear H;have t6:=m6.out;have t7:=m7.out;obtain⟨t8,t9,z3,z4,z5,z6⟩:=bk3 l5;go_wp2_with (first|((with_reducible refine gc 39 rfl ?_);refine gC 39 (some 13) Try.func39 #[.agg #[.bool a6,.slice a7 a9.length a8,.slice b4 b6.length b5]] ?_;(with_reducible refine(Azw.calls k a6 _ _ a9 _ _ b6 false _ ?_ ?_ ?_ ?_ n0.out).mono ?_);exact cB g4;exact g5.out;exact cB g6;exact g7.out;rintro e z7 ⟨rfl,hb⟩;refine⟨_,rfl,?_⟩;replace l5:=kb l5 hb;replace m0:=kb m0 hb;replace HB:=bB hb;clear hb))
   go_meet
   case rel=>exact⟨_,(true),sD,H',⟨by first|omega|exact Nat.le_refl _⟩,⟨by exact kW l5⟩,⟨by exact kW m0⟩,⟨pB⟩⟩
 case rest =>
  clear j7;try clear z8
  obtain⟨kq,m9,rfl,HA,z9,l5,m0,HB⟩:=hcut;cases kq with
  | zero=>exact absurd HA.out (by simp [Bzy.j0])
  | succ B0 =>
   have H:=HA.out;clear HA;simp only[Bzy.j0] at H;by_cases B5:m9=true
   ·subst B5;rw[if_pos rfl] at H;obtain⟨rfl,rfl⟩:=q2 H;go_wp2
    go_ret2
    exact⟨eW,pB⟩
   ·obtain rfl:=bN B5;rw[if_neg nF] at H
    obtain⟨⟨B9,C0⟩,C1,H⟩:=bT H;(try dsimp only at H);obtain⟨⟨C2,C3⟩,C4,H⟩:=bT H;(try dsimp only at H);have C6:=aM H;clear H;have C7:=m6.out;have C8:=m7.out;obtain⟨C9,D2,D3,D4,D5,D6⟩:=bk3 l5;obtain⟨D7,D8,D9,E0,E1,E2⟩:=bk3 m0;go_upto_region 5 with (first|((with_reducible refine gc 56 rfl ?_);refine gC 56 (some 25) Try.func56 #[.slice a7 a9.length a8,.slice d7 d9.length d8] ?_;(with_reducible refine(Bzk.calls B0 _ _ a9 _ _ d9 B9 C0 _ ?_ ?_ ?_ ?_ C1.out).mono ?_);exact cB g4;exact g5.out;exact cB j3;exact j4.out;rintro e E3 ⟨E4,rfl,E5,hb⟩;refine⟨_,rfl,?_⟩;have E6:=rL E5;replace l5:=kb l5 hb;replace m0:=kb m0 hb;replace HB:=bB hb;clear hb E5;obtain⟨E7,E8,E9,F0,F2,F3⟩:=bk3 m0;obtain⟨F4,F5,F6,F7,F8,F9⟩:=bk3 l5)|((with_reducible refine gc 56 rfl ?_);refine gC 56 (some 33) Try.func56 #[.slice b8 d6.length b9,.slice b4 b6.length b5] ?_;(with_reducible refine(Bzk.calls B0 _ _ d6 _ _ b6 C2 C3 _ ?_ ?_ ?_ ?_ C4.out).mono ?_);exact cB g8;exact g9.out;exact cB g6;exact g7.out;rintro e G5 ⟨G9,rfl,E5,hb⟩;refine⟨_,rfl,?_⟩;have H5:=rL (rn E5 E6);replace E6:=rE E6 E5 hb;replace l5:=kb l5 hb;replace m0:=kb m0 hb;replace HB:=bB hb;clear hb E5))
    (try simp only[Act.put,sA,sZ,sC])
    go_cut [41] (fun H6 wc=>∃ (kq:Nat) (H7:Bool),H6=.bool H7∧Aside0 (Bzy.j1 kq B9 C2 H7 a6 a9 b6 b7 d6 d9=some (e6,e7))∧Aside0 (kq≤B0)∧Aside0 (rI wc w (oV G9) E4 B9)∧Aside0 (rI wc w (oV E4) G9 C2)∧Aside0 (wc.heap[j8]?=some (.cells #[.bool a6,(.slice a7 a9.length a8),(.slice b4 b6.length b5)] 33 (0,0)))∧Aside0 (wc.heap[l8]?=some (.cells #[.bool b7,(.slice b8 d6.length b9),(.slice d7 d9.length d8)] 33 (0,0)))∧Aside0 (bw w wc))
    case first =>
     have H:=C6.out;clear C6;by_cases H8:C0=0
     ·rw[if_pos H8] at H;obtain⟨H9,I0⟩:=bE H8;clear H8;(first|rw[H9]|(simp only[i64_w,i32_w];rw[H9])|skip)
      have H':=aM H;clear H;go_wp2
      go_meet
      case rel=>exact⟨_,((C3 != 0)),sD,H',⟨by have:=z9.out;first|omega|exact Nat.le_refl _⟩,⟨by exact rX (Kd.R_mono E6.out (fun _ hk=>hk.2))⟩,⟨by exact rX (Kd.R_mono H5.out (fun _ hk=>hk.2))⟩,⟨by exact kW l5⟩,⟨by exact kW m0⟩,⟨pB⟩⟩
     ·rw[if_neg H8] at H;obtain⟨H9,I0⟩:=bI H8;(first|rw[H9]|(simp only[i64_w,i32_w];rw[H9])|skip)
      have H':=aM H;clear H;go_wp2
      go_meet
      case rel=>exact⟨_,(true),sD,H',⟨by have:=z9.out;first|omega|exact Nat.le_refl _⟩,⟨by exact rX (Kd.R_mono E6.out (fun _ hk=>hk.2))⟩,⟨by exact rX (Kd.R_mono H5.out (fun _ hk=>hk.2))⟩,⟨by exact kW l5⟩,⟨by exact kW m0⟩,⟨pB⟩⟩
    case rest =>
     clear C6;try clear z8
     obtain⟨kq,H7,rfl,HA,I3,I4,I5,l5,m0,HB⟩:=hcut;cases kq with
     | zero=>exact absurd HA.out (by simp [Bzy.j1])
     | succ I6 =>
      have H:=HA.out;clear HA;simp only[Bzy.j1] at H;by_cases I7:H7=true
      ·subst I7;rw[if_pos rfl] at H;obtain⟨rfl,rfl⟩:=q2 H;go_wp2
       go_ret2
       exact⟨eW,pB⟩
      ·obtain rfl:=bN I7;rw[if_neg nF] at H
       by_cases I8:(a6 != b7)=true
       ·rw[if_pos I8] at H;have I9:(a6 != b7)=true:=I8;(try(have J0:decide (a6=b7)=false:=by simpa using I8))
        (try(have J1:(a6 == b7)=false:=by simpa using I8))
        (try(have J2:¬ (a6=b7):=by simpa using I8))
        clear I8;by_cases J3:a6=true
        ·subst J3;rw[if_pos rfl] at H;obtain⟨rfl,rfl⟩:=q2 H;have J4:=m6.out;have J5:=m7.out;obtain⟨J6,J7,J8,J9,K0,K1⟩:=bk3 l5;obtain⟨K2,K3,K4,K5,K6,K7⟩:=bk3 m0;go_wp2
         go_ret2
         exact⟨eW,pB⟩
        ·obtain rfl:=bN J3;rw[if_neg nF] at H
         obtain⟨rfl,rfl⟩:=q2 H;have K8:=m6.out;have K9:=m7.out;obtain⟨L0,L7,L8,L9,M0,M3⟩:=bk3 l5;obtain⟨M4,M5,M6,M7,M8,M9⟩:=bk3 m0;go_wp2
         go_ret2
         exact⟨eW,pB⟩
       ·rw[if_neg I8] at H;have I9:(a6 != b7)=false:=by simpa using I8
        (try(have J0:decide (a6=b7)=true:=by simpa using I8))
        (try(have J1:(a6 == b7)=true:=by simpa using I8))
        clear I8;obtain⟨⟨N0,N1⟩,N2,H⟩:=bT H;(try dsimp only at H);have N3:=aM H;clear H;have N4:=m6.out;have N5:=m7.out;obtain⟨N6,N7,N8,N9,O0,O1⟩:=bk3 l5;obtain⟨O2,O3,O4,O5,O6,O7⟩:=bk3 m0;obtain⟨O8,O9,rfl⟩:=Kd.R_slice I4.out;obtain⟨P0,P3,rfl⟩:=Kd.R_slice I5.out;go_upto_if 56 with (first|((with_reducible refine gc 73 rfl ?_);refine gC 73 (some 52) Try.func73 #[.slice O8 B9.length O9,.slice P0 C2.length P3] ?_;(with_reducible refine(Ezw.calls I6 _ _ B9 _ _ C2 N0 N1 _ ?_ ?_ ?_ ?_ N2.out).mono ?_);exact cR I4;exact lR I4;exact cR I5;exact lR I5;rintro e w' ⟨rfl,⟨nd,rfl⟩⟩;refine⟨_,rfl,?_⟩))
        have H:=N3.out;clear N3;by_cases P4:a6=true
        ·subst P4;rw[if_pos rfl] at H;obtain⟨rfl,rfl⟩:=q2 H;go_wp2
         go_ret2
         exact⟨eW,pB⟩
        ·obtain rfl:=bN P4;rw[if_neg nF] at H
         obtain⟨rfl,rfl⟩:=q2 H;go_wp2
         go_ret2
         exact⟨eW,pB⟩


mutual
def Azv.j0:Nat→Bool→Int→List (S33)→Option (Int)
 | 0,_,_,_=>none
 | k+1,x17,x931000,x931001=>if x17=true then(some 1) else(if(x931001.length:Int) < 1 then(Azv.j1 k true x931000 x931001) else(Azv.j1 k (decide ((x931001.length:Int) > 8)) x931000 x931001))
def Azv.j1:Nat→Bool→Int→List (S33)→Option (Int)
 | 0,_,_,_=>none
 | k+1,x27,x931000,x931001=>if x27=true then(some 17) else(Azv.l0 k 0 x931000 x931001)
def Azv.l0:Nat→Int→Int→List (S33)→Option (Int)
 | 0,_,_,_=>none
 | k+1,x3,x931000,x931001=>if x3 < (x931001.length:Int) then(if 0≤x3 then((Azw.f k ((rd_T33 x931001 x3).f0) ((rd_T33 x931001 x3).f1) ((rd_T33 x931001 x3).f2)).bind fun t932=>(if t932=true then(if(rd_T33 x931001 x3).f0=true then(some 1) else(Azv.l0 k (wrap64 (x3+1)) x931000 x931001)) else(some 3))) else(none)) else((Azk.f k x931001).bind fun bt934=>(if bt934.2.2.2=0 then((Czx.f k x931000).bind fun bt943=>((Bzy.f k bt934.1 bt934.2.1 bt934.2.2.1 bt943.1 bt943.2.1 bt943.2.2.1).bind fun bt952=>(if bt952.2=0 then(if bt952.1 > 0 then(some 8) else(some 0)) else(some bt952.2)))) else(some bt934.2.2.2)))
end
def Azv.f (k:Nat) (a0_0:Int) (l0_1:List (S33)):Option (Int):=if a0_0 < 1 then(Azv.j0 k true a0_0 l0_1) else(Azv.j0 k (decide (a0_0 > 1099511627776)) a0_0 l0_1)
theorem Azv.mono_l:∀ k,(∀ a6 a7 a8,LeO (Azv.j0 k a6 a7 a8) (Azv.j0 (k+1) a6 a7 a8))∧(∀ a6 a7 a8,LeO (Azv.j1 k a6 a7 a8) (Azv.j1 (k+1) a6 a7 a8))∧(∀ a6 a7 a8,LeO (Azv.l0 k a6 a7 a8) (Azv.l0 (k+1) a6 a7 a8))
 | 0=>⟨fun _ _ _ r h=>by simp [Azv.j0] at h,fun _ _ _ r h=>by simp [Azv.j1] at h,fun _ _ _ r h=>by simp [Azv.l0] at h⟩
 | k+1=>by
  obtain⟨ih0,ih1,ih2⟩:=Azv.mono_l k;have i0:=@Bzy.mono;have i1:=@Czx.mono;have i2:=@Azk.mono;have i3:=@Azw.mono;refine⟨?_,?_,?_⟩
  ·intro a6 a7 a8;unfold Azv.j0;exact mM
  ·intro a6 a7 a8;unfold Azv.j1;exact mM
  ·intro a6 a7 a8;unfold Azv.l0;exact mM
theorem Azv.mono:∀ a6 a7 k,LeO (Azv.f k a6 a7) (Azv.f (k+1) a6 a7):=by
 intro a6 a7 k;obtain⟨ih0,ih1,ih2⟩:=Azv.mono_l k;unfold Azv.f;have i0:=@Bzy.mono;have i1:=@Czx.mono;have i2:=@Azk.mono;have i3:=@Azw.mono;exact mM
theorem Azv.calls (k:Nat) (a6:Int) (a7:Option Addr) (a8:Nat) (a9:List (S33)) (r:Int) (w:World) (b4:Kd.C k33 w a7 a9.length a9) (b5:a9.length≤a8) (h:Azv.f k a6 a9=some r) :
  Calls Try.prog 18 #[.agg #[.int .i64 a6,.slice a7 a9.length a8]] w fun e w'=>e=.returned (.int .i64 r)∧bw w w':=by
 have hu24:=Try.underlying24;have hu33:=Try.underlying33;have b6:=aM b4;have b7:=aM b5;clear b4 b5;have HB:=aM (Below.refl w.heap.size w);have H:(if a6 < 1 then(Azv.j0 k true a6 a9) else(Azv.j0 k (decide (a6 > 1099511627776)) a6 a9))=some r:=h
 clear h;have b8:=aM H;clear H;go_enter Try.func18,Try.ntmps18
 go_upto_region 1 with (first|((with_reducible refine gd 1 rfl ?_);refine bxg #[.int .i64 a6,.slice a7 a9.length a8] 24 ?_;intro b9 hg d6 d7 hb;have d8:=gA w hg;replace HB:=bB hb;clear hb hg))
 (try simp only[Act.put,sA,sZ,sC])
 go_cut [17] (fun e6 wc=>∃ (kq:Nat) (e7:Bool),e6=.bool e7∧Aside0 (Azv.j0 kq e7 a6 a9=some r)∧Aside0 (kq≤k)∧Aside0 (wc.heap[b9]?=some (.cells #[.int .i64 a6,(.slice a7 a9.length a8)] 24 (0,0)))∧Aside0 (bw w wc))
 case first =>
  have H:=b8.out;clear b8;replace H:=iD H;rcases H with⟨e8,H⟩|⟨e8,H⟩
  ·(first|rw[e8]|(simp only[i64_w,i32_w];rw[e8])|skip)
   have H':=aM H;clear H;obtain⟨e9,f4,f5,f6⟩:=bk2 d7;go_wp2
   go_meet
   case rel=>exact⟨_,(true),sD,H',⟨by first|omega|exact Nat.le_refl _⟩,⟨by exact kW d7⟩,⟨pB⟩⟩
  ·(first|rw[e8]|(simp only[i64_w,i32_w];rw[e8])|skip)
   have H':=aM H;clear H;obtain⟨f7,f8,f9,g4⟩:=bk2 d7;go_wp2
   go_meet
   case rel=>exact⟨_,(decide (a6 > 1099511627776)),sD,H',⟨by first|omega|exact Nat.le_refl _⟩,⟨by exact kW d7⟩,⟨pB⟩⟩
 case rest =>
  clear b8;try clear g5
  obtain⟨kq,e7,rfl,HA,g6,d7,HB⟩:=hcut;cases kq with
  | zero=>exact absurd HA.out (by simp [Azv.j0])
  | succ g7 =>
   have H:=HA.out;clear HA;simp only[Azv.j0] at H;by_cases c7:e7=true
   ·subst c7;rw[if_pos rfl] at H;obtain rfl:=Option.some.inj H;go_wp2
    go_ret
    exact⟨eW,pB⟩
   ·obtain rfl:=bN c7;rw[if_neg nF] at H
    have g8:=aM H;clear H;go_upto_region 3 with (fail)
    go_cut [27] (fun g9 wc=>∃ (kq:Nat) (j3:Bool),g9=.bool j3∧Aside0 (Azv.j1 kq j3 a6 a9=some r)∧Aside0 (kq≤g7)∧Aside0 (wc.heap[b9]?=some (.cells #[.int .i64 a6,(.slice a7 a9.length a8)] 24 (0,0)))∧Aside0 (bw w wc))
    case first =>
     have H:=g8.out;clear g8;by_cases c9:(a9.length:Int) < 1
     ·rw[if_pos c9] at H;have j4:=dE c9;have j5:decide (a9.length < 1)=true:=dE (by omega)
      clear c9;(first|rw[j4]|(simp only[i64_w,i32_w];rw[j4])|skip)
      have H':=aM H;clear H;obtain⟨j6,j7,j8,j9⟩:=bk2 d7;go_wp2
      go_meet
      case rel=>exact⟨_,(true),sD,H',⟨by have:=g6.out;first|omega|exact Nat.le_refl _⟩,⟨by exact kW d7⟩,⟨pB⟩⟩
     ·rw[if_neg c9] at H;have j4:decide ((a9.length:Int) < 1)=false:=decide_eq_false c9;have j5:decide (a9.length < 1)=false:=decide_eq_false (by omega)
      clear c9;(first|rw[j4]|(simp only[i64_w,i32_w];rw[j4])|skip)
      have H':=aM H;clear H;obtain⟨l5,l6,l7,l8⟩:=bk2 d7;go_wp2
      go_meet
      case rel=>exact⟨_,(decide ((a9.length:Int) > 8)),sD,H',⟨by have:=g6.out;first|omega|exact Nat.le_refl _⟩,⟨by exact kW d7⟩,⟨pB⟩⟩
    case rest =>
     clear g8;try clear g5
     obtain⟨kq,j3,rfl,HA,l9,d7,HB⟩:=hcut;cases kq with
     | zero=>exact absurd HA.out (by simp [Azv.j1])
     | succ m0 =>
      have H:=HA.out;clear HA;simp only[Azv.j1] at H;by_cases m4:j3=true
      ·subst m4;rw[if_pos rfl] at H;obtain rfl:=Option.some.inj H;go_wp2
       go_ret
       exact⟨eW,pB⟩
      ·obtain rfl:=bN m4;rw[if_neg nF] at H
       have H':=aM H;clear H;go_wp2
       go_loopg [3] m0 (fun kq m5 w'=>∃ (m6:Int),m5=.int .i64 m6∧Aside0 (Azv.l0 kq m6 a6 a9=some r)∧Aside0 (kq≤m0)∧Aside0 (w'.heap[b9]?=some (.cells #[.int .i64 a6,(.slice a7 a9.length a8)] 24 (0,0)))∧Aside0 (bw w w'))
       case atStart=>exact⟨(0),sD,H',⟨Nat.le_refl _⟩,⟨by exact kW d7⟩,⟨pB⟩⟩
       case round =>
        clear H';try clear g5
        obtain⟨m6,rfl,HA,m7,d7,HB⟩:=hrel;cases gk with
        | zero=>exact absurd HA.out (by simp [Azv.l0])
        | succ k3 =>
         have H:=HA.out;clear HA;simp only[Azv.l0] at H;replace H:=iD H;rcases H with⟨m9,H⟩|⟨m9,H⟩
         ·obtain⟨n0,H⟩:=iN H;obtain⟨n7,n8,H⟩:=bT H;(try dsimp only at H);have n9:=aM H;clear H;obtain⟨o0,o8,o9,p0⟩:=bk2 d7;obtain⟨p4,p7,p9,r5,r6,r7,r8,r9,t4,t5,t6,t7,t8⟩:=at_T33 b6.out m6 (oE aS) (oE aS);cases r7
          replace r8:=hB HB r8;replace r9:=hB HB r9;replace t4:=hB HB t4;have t9:=aM t6;have z3:=aM t5;clear t6 t5;have z4:=aM t8;have z5:=aM t7;clear t8 t7;have z6:=eT (m6);have z7:=eU (m6) a9.length;go_upto_if 41 with (first|((with_reducible refine gc 39 rfl ?_);refine gC 39 (some 40) Try.func39 #[.agg #[.bool ((rd_T33 a9 m6).f0),.slice p7 ((rd_T33 a9 m6).f1).length p9,.slice r5 ((rd_T33 a9 m6).f2).length r6]] ?_;(with_reducible refine(Azw.calls k3 ((rd_T33 a9 m6).f0) _ _ ((rd_T33 a9 m6).f1) _ _ ((rd_T33 a9 m6).f2) n7 _ ?_ ?_ ?_ ?_ n8.out).mono ?_);exact cB t9;exact z3.out;exact cB z4;exact z5.out;rintro e z8 ⟨rfl,hb⟩;refine⟨_,rfl,?_⟩;replace d7:=kb d7 hb;replace HB:=bB hb;clear hb))
          have H:=n9.out;clear n9;by_cases z9:n7=true
          ·subst z9;rw[if_pos rfl] at H;obtain⟨bq20,hbq20⟩:∃ b_:Bool,b_=((rd_T33 a9 m6).f0):=⟨_,rfl⟩;replace H:(if bq20=true then(some 1) else(Azv.l0 k3 (wrap64 (m6+1)) a6 a9))=some r:=by rw[← hbq20] at H;exact H
           have Nbq20:=aM hbq20;clear hbq20;(try rw[← Nbq20.out])
           by_cases B0:bq20=true
           ·subst B0;rw[if_pos rfl] at H;obtain rfl:=Option.some.inj H;obtain⟨B5,B9,C0,C1⟩:=bk2 d7;obtain⟨C2,C3,C4,C6,C7,C8,C9,D2,D3,D4,D5,D6,D7⟩:=at_T33 b6.out m6 (oE aS) (oE aS);(try rw[← Nbq20.out] at C9)
            obtain rfl:p4=C2:=(by injection C8)
            replace C9:=hB HB C9;replace D2:=hB HB D2;replace D3:=hB HB D3;have D8:=aM D5;have D9:=aM D4;clear D5 D4;have E0:=aM D7;have E1:=aM D6;clear D7 D6;have E2:=eT (m6);have E3:=eU (m6) a9.length;go_wp2
            go_ret
            exact⟨eW,pB⟩
           ·obtain rfl:=bN B0;rw[if_neg nF] at H
            have H':=aM H;clear H;obtain⟨E4,E5,E6,E7⟩:=bk2 d7;obtain⟨C2,C3,C4,C6,C7,C8,C9,D2,D3,D4,D5,D6,D7⟩:=at_T33 b6.out m6 (oE aS) (oE aS);(try rw[← Nbq20.out] at C9)
            obtain rfl:p4=C2:=(by injection C8)
            replace C9:=hB HB C9;replace D2:=hB HB D2;replace D3:=hB HB D3;have D8:=aM D5;have D9:=aM D4;clear D5 D4;have E0:=aM D7;have E1:=aM D6;clear D7 D6;have E2:=eT (m6);have E3:=eU (m6) a9.length;go_wp2
            go_roundg k3
            case measure=>have:=g6.out;have:=l9.out;have:=m7.out;omega
            case rel=>exact⟨(wrap64 (m6+1)),sD,H',⟨by have:=g6.out;have:=l9.out;have:=m7.out;omega⟩,⟨by exact kW d7⟩,⟨pB⟩⟩
          ·obtain rfl:=bN z9;rw[if_neg nF] at H
           obtain rfl:=Option.some.inj H;go_wp2
           go_ret
           exact⟨eW,pB⟩
         ·obtain⟨⟨E8,E9,F0,F2⟩,F3,H⟩:=bT H;(try dsimp only at H);have F4:=aM H;clear H;obtain⟨F5,F6,F7,F8⟩:=bk2 d7;go_upto_if 55 with (first|((with_reducible refine gc 27 rfl ?_);refine gC 27 (some 51) Try.func27 #[.slice a7 a9.length a8] ?_;(with_reducible refine(Azk.calls k3 _ _ a9 E8 E9 F0 F2 _ ?_ ?_ F3.out).mono ?_);exact cB b6;exact b7.out;rintro e F9 ⟨G5,G9,rfl,H5,H6,hb⟩;refine⟨_,rfl,?_⟩;have H7:=rL H5;have H8:=rL H6;replace d7:=kb d7 hb;replace HB:=bB hb;clear hb H5 H6)|((with_reducible refine gd 4 rfl ?_);refine bzg 33 ?_;intro H9 hg I0 I3 hb;have I4:=gA w hg;have I6:=nl hg d7;have I7:=ng hg d7;replace H7:=rB H7 hb;replace H8:=rB H8 hb;replace d7:=kb d7 hb;replace HB:=bB hb;clear hb hg;have I8:=I7.out;have I9:=I6.out;obtain⟨J0,J1,J2,J3,J4,J5⟩:=bk3 I3;obtain⟨J6,J7,rfl⟩:=Kd.R_slice H7.out;obtain⟨J8,J9,rfl⟩:=Kd.R_slice H8.out))
          have H:=F4.out;clear F4;replace H:=iE H;rcases H with⟨K1,K2,H⟩|⟨K0,K1,K2,H⟩
          ·(first|rw[K1]|(simp only[i64_w,i32_w];rw[K1])|skip)
           obtain⟨⟨K3,K4,K5,K6⟩,K7,H⟩:=bT H;(try dsimp only at H);obtain⟨⟨K8,K9⟩,L0,H⟩:=bT H;(try dsimp only at H);have L7:=aM H;clear H;have L8:=I6.out;have L9:=I7.out;obtain⟨M0,M3,M4,M5⟩:=bk2 d7;go_upto_if 70 with (first|((with_reducible refine gc 40 rfl ?_);refine gC 40 (some 60) Try.func40 #[.int .i64 a6] ?_;(with_reducible refine(Czx.calls k3 a6 K3 K4 K5 K6 _ K7.out).mono ?_);rintro e M6 ⟨M7,M8,rfl,H5,H6,hb⟩;refine⟨_,rfl,?_⟩;have M9:=rL (Kd.R_new' (Kd.R_new' H5 (Kd.R_lt (rT H7 I3))) (Kd.R_lt (rT H8 I3)));have N0:=rL (Kd.R_new' (Kd.R_new' H6 (Kd.R_lt (rT H7 I3))) (Kd.R_lt (rT H8 I3)));replace H7:=ro (rT H7 I3) hb H5 H6;replace H8:=ro (rT H8 I3) hb H5 H6;replace d7:=kF d7 I6 hb;replace I3:=kP (o':=.cells #[.bool E8,.slice J6 E9.length J7,.slice J8 F0.length J9] 33 (0,0)) I3 hb;replace HB:=bB hb;clear hb H5 H6)|((with_reducible refine gd 6 rfl ?_);refine bzg 33 ?_;intro N1 hg N2 N3 hb;have N4:=gA w hg;have N6:=nl hg d7;have N7:=ng hg d7;have N8:=nl hg I3;have N9:=ng hg I3;replace H7:=rB H7 hb;replace H8:=rB H8 hb;replace M9:=rB M9 hb;replace N0:=rB N0 hb;replace d7:=kb d7 hb;replace I3:=kb I3 hb;replace HB:=bB hb;clear hb hg;have O0:=N7.out;have O1:=N6.out;have O2:=N9.out;have O3:=N8.out;obtain⟨O4,O5,O6,O7,O8,O9⟩:=bk3 N3;obtain⟨P0,P3,rfl⟩:=Kd.R_slice M9.out;obtain⟨P4,P5,rfl⟩:=Kd.R_slice N0.out;obtain⟨P6,P7,P8,P9,Q0,Q1⟩:=bk3 I3)|((with_reducible refine gc 41 rfl ?_);refine gC 41 (some 66) Try.func41 #[.agg #[.bool E8,.slice J6 E9.length J7,.slice J8 F0.length J9],.agg #[.bool K3,.slice P0 K4.length P3,.slice P4 K5.length P5]] ?_;(with_reducible refine(Bzy.calls k3 E8 _ _ E9 _ _ F0 K3 _ _ K4 _ _ K5 K8 K9 _ ?_ ?_ ?_ ?_ ?_ ?_ ?_ ?_ L0.out).mono ?_);(focus(refine(Kd.R_reads' (e:=3) (base:=w.heap.size) (ok:=fun k_=>((oN J8 F0.length J9 k_∧oN P0 K4.length P3 k_)∧oN P4 K5.length P5 k_)) (n:=E9.length) (c:=J7) ?_).2.2;exact(rT H7 N3)));exact lR H7;(focus(refine(Kd.R_reads' (e:=3) (base:=w.heap.size) (ok:=fun k_=>((oN J6 E9.length J7 k_∧oN P0 K4.length P3 k_)∧oN P4 K5.length P5 k_)) (n:=F0.length) (c:=J9) ?_).2.2;exact(rT H8 N3)));exact lR H8;(focus(refine(Kd.R_reads' (e:=3) (base:=w.heap.size) (ok:=fun k_=>((oN P4 K5.length P5 k_∧oN J6 E9.length J7 k_)∧oN J8 F0.length J9 k_)) (n:=K4.length) (c:=P3) ?_).2.2;exact(rT M9 N3)));exact lR M9;(focus(refine(Kd.R_reads' (e:=3) (base:=w.heap.size) (ok:=fun k_=>((oN P0 K4.length P3 k_∧oN J6 E9.length J7 k_)∧oN J8 F0.length J9 k_)) (n:=K5.length) (c:=P5) ?_).2.2;exact(rT N0 N3)));exact lR N0;rintro e Q2 ⟨rfl,hb⟩;refine⟨_,rfl,?_⟩;replace H7:=rb (rT H7 N3) hb;replace H8:=rb (rT H8 N3) hb;replace M9:=rb (rT M9 N3) hb;replace N0:=rb (rT N0 N3) hb;replace d7:=kF d7 N6 hb;replace I3:=kF I3 N8 hb;replace N3:=kP (o':=.cells #[.bool K3,.slice P0 K4.length P3,.slice P4 K5.length P5] 33 (0,0)) N3 hb;replace HB:=bB hb;clear hb))
           have H:=L7.out;clear L7;replace H:=iE H;rcases H with⟨Q4,Q5,H⟩|⟨Q3,Q4,Q5,H⟩
           ·(first|rw[Q4]|(simp only[i64_w,i32_w];rw[Q4])|skip)
            by_cases Q6:K8 > 0
            ·rw[if_pos Q6] at H;have Q7:decide (0 < K8)=true:=dE Q6;clear Q6;obtain rfl:=Option.some.inj H;go_wp2
             go_ret
             exact⟨eW,pB⟩
            ·rw[if_neg Q6] at H;have Q7:decide (0 < K8)=false:=decide_eq_false Q6;clear Q6;obtain rfl:=Option.some.inj H;go_wp2
             go_ret
             exact⟨eW,pB⟩
           ·(first|rw[Q4]|(simp only[i64_w,i32_w];rw[Q4])|skip)
            obtain rfl:=Option.some.inj H;go_wp2
            go_ret
            exact⟨eW,pB⟩
          ·(first|rw[K1]|(simp only[i64_w,i32_w];rw[K1])|skip)
           obtain rfl:=Option.some.inj H;go_wp2
           go_ret
           exact⟨eW,pB⟩


def Ezf.f (k:Nat) (a0_0:Int) (l0_1:List (S33)):Option (Bool × List Int × List Int × Int):=(Azv.f k a0_0 l0_1).bind fun t956=>(if t956=0 then((Azk.f k l0_1).bind fun bt957=>(some (bt957.1,bt957.2.1,bt957.2.2.1,bt957.2.2.2))) else(some (false,([]:List Int),([]:List Int),t956)))
theorem Ezf.mono:∀ a6 a7 k,LeO (Ezf.f k a6 a7) (Ezf.f (k+1) a6 a7):=by
 intro a6 a7 k;unfold Ezf.f;have i0:=@Azk.mono;have i1:=@Azv.mono;exact mM
theorem Ezf.calls (k:Nat) (a6:Int) (a7:Option Addr) (a8:Nat) (a9:List (S33)) (b4:Bool) (b5:List Int) (b6:List Int) (b7:Int) (w:World) (b8:Kd.C k33 w a7 a9.length a9) (b9:a9.length≤a8) (h:Ezf.f k a6 a9=some (b4,b5,b6,b7)) :
  Calls Try.prog 15 #[.agg #[.int .i64 a6,.slice a7 a9.length a8]] w fun e w'=>∃ v1_ v2_:Value,e=.returned (.tuple #[.agg #[.bool b4,v1_,v2_],.int .i64 b7])∧rI w' w (oV v2_) v1_ b5∧rI w' w (oV v1_) v2_ b6∧bw w w':=by
 have hu24:=Try.underlying24;have hu33:=Try.underlying33;have d6:=aM b8;have d7:=aM b9;clear b8 b9;have HB:=aM (Below.refl w.heap.size w);have H:((Azv.f k a6 a9).bind fun d8=>(if d8=0 then((Azk.f k a9).bind fun d9=>(some (d9.1,d9.2.1,d9.2.2.1,d9.2.2.2))) else(some (false,([]:List Int),([]:List Int),d8))))=some (b4,b5,b6,b7):=h
 clear h;obtain⟨d8,e6,H⟩:=bT H;(try dsimp only at H);have e7:=aM H;clear H;go_enter Try.func15,Try.ntmps15
 go_upto_if 8 with (first|((with_reducible refine gd 1 rfl ?_);refine bx #[.int .i64 a6,.slice a7 a9.length a8] 24 ?_;intro e8 hg e9 f4 hb;have f5:=gA w hg;replace HB:=bB hb;clear hb hg)|((with_reducible refine gd 2 rfl ?_);refine bz 33 ?_;intro f7 hg f8 f9 hb;have g4:=gA w hg;have g6:=nl hg f4;have g7:=ng hg f4;replace f4:=kb f4 hb;replace HB:=bB hb;clear hb hg;have g8:=g6.out;have g9:=g7.out;obtain⟨j3,j4,j5,j6⟩:=bk2 f4)|((with_reducible refine gc 18 rfl ?_);refine gC 18 (some 6) Try.func18 #[.agg #[.int .i64 a6,.slice a7 a9.length a8]] ?_;(with_reducible refine(Azv.calls k a6 _ _ a9 d8 _ ?_ ?_ e6.out).mono ?_);exact cB d6;exact d7.out;rintro e j7 ⟨rfl,hb⟩;refine⟨_,rfl,?_⟩;replace f4:=kb f4 hb;replace f9:=kb f9 hb;replace HB:=bB hb;clear hb))
 have H:=e7.out;clear e7;replace H:=iE H;rcases H with⟨j8,j9,H⟩|⟨c9,j8,j9,H⟩
 ·(first|rw[j8]|(simp only[i64_w,i32_w];rw[j8])|skip)
  replace H:=bS H;obtain⟨⟨l5,l6,l7,l8⟩,l9,H⟩:=H;replace H:(some (l5,l6,l7,l8))=some (b4,b5,b6,b7):=H;have m0:=aM l9;clear l9;obtain⟨rfl,rfl,rfl,rfl⟩:=q4 H;have m4:=g6.out;have m5:=g7.out;obtain⟨m6,m7,m8,m9⟩:=bk2 f4;go_wp2_with (first|((with_reducible refine gc 27 rfl ?_);refine gC 27 (some 13) Try.func27 #[.slice a7 a9.length a8] ?_;(with_reducible refine(Azk.calls k _ _ a9 l5 l6 l7 l8 _ ?_ ?_ m0.out).mono ?_);exact cB d6;exact d7.out;rintro e n0 ⟨n7,n8,rfl,n9,o0,hb⟩;refine⟨_,rfl,?_⟩;have o8:=rL n9;have o9:=rL o0;replace f4:=kb f4 hb;replace f9:=kb f9 hb;replace HB:=bB hb;clear hb n9 o0;obtain⟨p0,p4,p7,p9,r5,r6⟩:=bk3 f9;obtain⟨r7,r8,rfl⟩:=Kd.R_slice o8.out;obtain⟨r9,t4,rfl⟩:=Kd.R_slice o9.out))
  refine rC f7 33 #[.bool l5,.slice r7 l6.length r8,.slice r9 l7.length t4] (kQ f9) Try.underlying33 ?_
  exact⟨_,_,eW,by exact Kd.R_mono (rT o8 f9) (fun _ hk=>hk),by exact Kd.R_mono (rT o9 f9) (fun _ hk=>hk),pB⟩
 ·(first|rw[j8]|(simp only[i64_w,i32_w];rw[j8])|skip)
  obtain⟨rfl,rfl,rfl,rfl⟩:=q4 H;have t5:=g7.out;have t6:=g6.out;obtain⟨t7,t8,t9,z3,z4,z5⟩:=bk3 f9;go_wp2
  refine rC f7 33 #[.bool false,.slice none 0 0,.slice none 0 0] (kQ f9) Try.underlying33 ?_
  exact⟨_,_,eW,nK,nK,pB⟩


def Czk.f (k:Nat) (a0:Int) (a1:Int) (a2_0:Int) (l2_1:List (S33)):Option (Bool):=(Czj.f k a2_0 l2_1).bind fun t966=>(if t966=true then((Czm.f k a0 a1).bind fun bt968=>((Azb.f k a0 a1).bind fun bt974=>((Fzk.f k a2_0 l2_1).bind fun bt980=>((Ezf.f k a2_0 l2_1).bind fun bt989=>((Dzp.f k bt968.1 bt968.2.1 bt974.1 bt974.2.1).bind fun t998=>(if t998=true then(if bt968.2.2=bt974.2.2 then((Bzx.f k a2_0 l2_1).bind fun t999=>((Azv.f k a2_0 l2_1).bind fun t1000=>(if t999=t1000 then((Czb.f k bt980.1 bt980.2.1 bt980.2.2.1 bt989.1 bt989.2.1 bt989.2.2.1).bind fun t1001=>(if t1001=true then(if bt980.2.2.2=bt989.2.2.2 then((Ezy.f k).bind fun t1002=>(some t1002)) else(none)) else(none))) else(none)))) else(none)) else(none))))))) else((Ezy.f k).bind fun t967=>(some t967)))
theorem Czk.mono:∀ a6 a7 a8 a9 k,LeO (Czk.f k a6 a7 a8 a9) (Czk.f (k+1) a6 a7 a8 a9):=by
 intro a6 a7 a8 a9 k;unfold Czk.f;have i0:=@Ezy.mono;have i1:=@Czj.mono;have i2:=@Dzp.mono;have i3:=@Azv.mono;have i4:=@Ezf.mono;have i5:=@Azb.mono;have i6:=@Czb.mono;have i7:=@Bzx.mono;have i8:=@Fzk.mono;have i9:=@Czm.mono;exact mM
def Czk.T7:Bool × List (List Nat × List Nat):=(true,[([],[]),([],[]),([0,1],[0,1]),([2,2],[2]),([3],[3]),([3],[3]),([4,5,3],[3,4,5]),([3,6],[3,6]),([7,3],[7]),([8],[8]),([9,8,8],[8,9]),([8],[8]),([11,10,8],[8,11]),([10,12,8],[8,10,12]),([8,13],[8,13]),([14,12],[14]),([15],[15]),([15],[15]),([16,17,15,15],[15,16,17]),([15,18],[15,18]),([19,18],[19]),([20],[20]),([20],[20]),([21,22,20],[20,21,22]),([20,23],[20,23]),([24,20],[24]),([25,25],[25]),([25,26],[25,26]),([27,26,0,1,2,3,4,5,6,7,8,9,10,11,12,13,14,15,16,17,18,19,20,21,22,23,24,25,26,27],[27])])
def Czk.B7:List Nat:=[0,0,3,7,15,15,63,127,255,511,1023,511,4095,8191,16383,32767,65535,65535,262143,524287,1048575,2097151,2097151,8388607,16777215,33554431,67108863,134217727,268435455]
theorem Czk.tab7:rtab .any (opsOf Try.f3 7)=Czk.T7:=by kernel_rfl
theorem Czk.bits7:waitsOk Czk.T7.2 Czk.B7=true:=by kernel_rfl
theorem Czk.calls (k:Nat) (a6:Int) (a7:Int) (a8:Int) (a9:Option Addr) (b4:Nat) (b5:List (S33)) (r:Bool) (w:World) (b6:Kd.C k33 w a9 b5.length b5) (b7:b5.length≤b4) (h:Czk.f k a6 a7 a8 b5=some r) :
  Calls Try.prog 3 #[.int .i64 a6,.int .i64 a7,.agg #[.int .i64 a8,.slice a9 b5.length b4]] w fun e w'=>e=.returned (.bool r)∧bw w w':=by
 have hu24:=Try.underlying24;have hu33:=Try.underlying33;have b8:=aM b6;have b9:=aM b7;clear b6 b7;have HB:=aM (Below.refl w.heap.size w);have H:((Czj.f k a8 b5).bind fun d6=>(if d6=true then((Czm.f k a6 a7).bind fun d7=>((Azb.f k a6 a7).bind fun d8=>((Fzk.f k a8 b5).bind fun d9=>((Ezf.f k a8 b5).bind fun e6=>((Dzp.f k d7.1 d7.2.1 d8.1 d8.2.1).bind fun e7=>(if e7=true then(if d7.2.2=d8.2.2 then((Bzx.f k a8 b5).bind fun e8=>((Azv.f k a8 b5).bind fun e9=>(if e8=e9 then((Czb.f k d9.1 d9.2.1 d9.2.2.1 e6.1 e6.2.1 e6.2.2.1).bind fun f4=>(if f4=true then(if d9.2.2.2=e6.2.2.2 then((Ezy.f k).bind fun f5=>(some f5)) else(none)) else(none))) else(none)))) else(none)) else(none))))))) else((Ezy.f k).bind fun f6=>(some f6))))=some r:=h
 clear h;obtain⟨d6,f7,H⟩:=bT H;(try dsimp only at H);have f8:=aM H;clear H;go_enter Try.func3,Try.ntmps3
 go_upto_if 17 with (first|((with_reducible refine gd 5 rfl ?_);refine bx #[.int .i64 a8,.slice a9 b5.length b4] 24 ?_;intro f9 hg g4 g5 hb;have g6:=gA w hg;replace HB:=bB hb;clear hb hg;obtain⟨g8,g9,j3,j4⟩:=bk2 g5)|((with_reducible refine gc 10 rfl ?_);refine gC 10 (some 16) Try.func10 #[.agg #[.int .i64 a8,.slice a9 b5.length b4]] ?_;(with_reducible refine(Czj.calls k a8 _ _ b5 d6 _ ?_ ?_ f7.out).mono ?_);exact cB b8;exact b9.out;rintro e j5 ⟨rfl,hb⟩;refine⟨_,rfl,?_⟩;replace g5:=kb g5 hb;replace HB:=bB hb;clear hb))
 have H:=f8.out;clear f8;by_cases c9:d6=true
 ·subst c9;rw[if_pos rfl] at H;obtain⟨⟨j6,j7,j8⟩,j9,H⟩:=bT H;(try dsimp only at H);obtain⟨⟨l5,l6,l7⟩,l8,H⟩:=bT H;(try dsimp only at H);obtain⟨⟨l9,m0,m4,m5⟩,m6,H⟩:=bT H;(try dsimp only at H);obtain⟨⟨m7,m8,m9,n0⟩,n7,H⟩:=bT H;(try dsimp only at H);obtain⟨e7,n8,H⟩:=bT H;(try dsimp only at H);by_cases n9:e7=true
  ·subst n9;rw[if_pos rfl] at H;replace H:=iE H;rcases H with⟨o8,o9,H⟩|⟨o0,o8,o9,H⟩
   ·(first|rw[o8]|(simp only[i64_w,i32_w];rw[o8])|skip)
    obtain⟨e8,p0,H⟩:=bT H;(try dsimp only at H);obtain⟨e9,p4,H⟩:=bT H;(try dsimp only at H);replace H:=iE H;rcases H with⟨p9,r5,H⟩|⟨p7,p9,r5,H⟩
    ·obtain⟨f4,r6,H⟩:=bT H;(try dsimp only at H);by_cases r7:f4=true
     ·subst r7;rw[if_pos rfl] at H;replace H:=iE H;rcases H with⟨r9,t4,H⟩|⟨r8,r9,t4,H⟩
      ·replace H:=bS H;obtain⟨f5,t5,H⟩:=H;replace H:(some f5)=some r:=H;have t6:=aM t5;clear t5;obtain rfl:=Option.some.inj H;try go_wp2_with (first|((with_reducible refine gc 12 rfl ?_);refine gC 12 (some 22) Try.func12 #[.int .i64 a6,.int .i64 a7] ?_;(with_reducible refine(Czm.calls k a6 a7 j6 j7 j8 _ j9.out).mono ?_);rintro e t7 ⟨t8,rfl,t9,hb⟩;refine⟨_,rfl,?_⟩;have z3:=aM (Kd.S_lower t9 (below_size pB));replace g5:=kb g5 hb;replace HB:=bB hb;clear hb t9)|((with_reducible refine gd 7 rfl ?_);refine bx #[.int .i64 0,.slice none 0 0] 24 ?_;intro z4 hg z5 z6 hb;have z7:=gA w hg;have z9:=nl hg g5;have B0:=ng hg g5;replace z3:=sB z3 hb;replace g5:=kb g5 hb;replace HB:=bB hb;clear hb hg;have B5:=B0.out;have B9:=z9.out;obtain⟨C0,C1,C2,C3⟩:=bk2 z6;obtain⟨C4,C6,rfl⟩:=Kd.S_slice z3.out)|((with_reducible refine gc 13 rfl ?_);refine gC 13 (some 28) Try.func13 #[.int .i64 a6,.int .i64 a7] ?_;(with_reducible refine(Azb.calls k a6 a7 l5 l6 l7 _ l8.out).mono ?_);rintro e C7 ⟨C8,rfl,t9,hb⟩;refine⟨_,rfl,?_⟩;have C9:=aM (Kd.S_lower (Kd.S_new' t9 (Kd.S_lt (sX (Kd.S_mono (Kd.S_far (p:=⟨z4,1,none⟩) (Kd.S_far (p:=⟨z4,0,none⟩) (Kd.S_types z3.out z6.out (by decide)) (fun _ hk=>hk.2) (.int .i64 j6)) (fun _ hk=>hk.2) (.slice C4 j7.length C6)) (fun _ h_=>h_.1))))) (below_size pB));replace z3:=aM (Kd.S_elder' (sX (Kd.S_mono (Kd.S_far (p:=⟨z4,1,none⟩) (Kd.S_far (p:=⟨z4,0,none⟩) (Kd.S_types z3.out z6.out (by decide)) (fun _ hk=>hk.2) (.int .i64 j6)) (fun _ hk=>hk.2) (.slice C4 j7.length C6)) (fun _ h_=>h_.1))) (Kd.S_base t9) hb);replace g5:=kF g5 z9 hb;replace z6:=kP (o':=.cells #[.int .i64 j6,.slice C4 j7.length C6] 24 (0,0)) z6 hb;replace HB:=bB hb;clear hb t9)|((with_reducible refine gd 9 rfl ?_);refine bx #[.int .i64 0,.slice none 0 0] 24 ?_;intro D2 hg D3 D4 hb;have D5:=gA w hg;have D7:=nl hg g5;have D8:=ng hg g5;have D9:=nl hg z6;have E0:=ng hg z6;replace z3:=sB z3 hb;replace C9:=sB C9 hb;replace g5:=kb g5 hb;replace z6:=kb z6 hb;replace HB:=bB hb;clear hb hg;have E1:=D8.out;have E2:=D7.out;have E3:=E0.out;have E4:=D9.out;obtain⟨E5,E6,E7,E8⟩:=bk2 D4;obtain⟨E9,F0,rfl⟩:=Kd.S_slice C9.out;obtain⟨F2,F3,F4,F5⟩:=bk2 g5)|((with_reducible refine gc 14 rfl ?_);refine gC 14 (some 33) Try.func14 #[.agg #[.int .i64 a8,.slice a9 b5.length b4]] ?_;(with_reducible refine(Fzk.calls k a8 _ _ b5 l9 m0 m4 m5 _ ?_ ?_ m6.out).mono ?_);exact Kd.C_below b8.out pB;exact b9.out;rintro e F6 ⟨F7,F8,rfl,t9,F9,hb⟩;refine⟨_,rfl,?_⟩;have G5:=rL t9;have G9:=rL F9;replace z3:=aM (Kd.S_mono (Kd.S_told (Kd.S_told (Kd.S_old (sX (Kd.S_mono (Kd.S_far (p:=⟨D2,1,none⟩) (Kd.S_far (p:=⟨D2,0,none⟩) (Kd.S_types z3.out D4.out (by decide)) (fun _ hk=>hk.2) (.int .i64 l5)) (fun _ hk=>hk.2) (.slice E9 l6.length F0)) (fun _ h_=>h_.1))) hb) (Kd.R_base t9)) (Kd.R_base F9)) (fun _ h_=>h_.1));replace C9:=aM (Kd.S_mono (Kd.S_told (Kd.S_told (Kd.S_old (sX (Kd.S_mono (Kd.S_far (p:=⟨D2,1,none⟩) (Kd.S_far (p:=⟨D2,0,none⟩) (Kd.S_types C9.out D4.out (by decide)) (fun _ hk=>hk.2) (.int .i64 l5)) (fun _ hk=>hk.2) (.slice E9 l6.length F0)) (fun _ h_=>h_.1))) hb) (Kd.R_base t9)) (Kd.R_base F9)) (fun _ h_=>h_.1));replace g5:=kF g5 D7 hb;replace z6:=kF z6 D9 hb;replace D4:=kP (o':=.cells #[.int .i64 l5,.slice E9 l6.length F0] 24 (0,0)) D4 hb;replace HB:=bB hb;clear hb t9 F9)|((with_reducible refine gd 11 rfl ?_);refine bz 33 ?_;intro H5 hg H6 H7 hb;have H8:=gA w hg;have I0:=nl hg g5;have I3:=ng hg g5;have I4:=nl hg z6;have I5:=ng hg z6;have I6:=nl hg D4;have I7:=ng hg D4;replace z3:=sG z3 hg hb;replace C9:=sG C9 hg hb;replace G5:=rB G5 hb;replace G9:=rB G9 hb;replace g5:=kb g5 hb;replace z6:=kb z6 hb;replace D4:=kb D4 hb;replace HB:=bB hb;clear hb hg;have I8:=I3.out;have I9:=I0.out;have J0:=I5.out;have J1:=I4.out;have J2:=I7.out;have J3:=I6.out;obtain⟨J4,J5,J6,J7,J8,J9⟩:=bk3 H7;obtain⟨K0,K1,rfl⟩:=Kd.R_slice G5.out;obtain⟨K2,K3,rfl⟩:=Kd.R_slice G9.out;obtain⟨K4,K5,K6,K7⟩:=bk2 g5)|((with_reducible refine gc 15 rfl ?_);refine gC 15 (some 38) Try.func15 #[.agg #[.int .i64 a8,.slice a9 b5.length b4]] ?_;(with_reducible refine(Ezf.calls k a8 _ _ b5 m7 m8 m9 n0 _ ?_ ?_ n7.out).mono ?_);exact Kd.C_below b8.out pB;exact b9.out;rintro e K8 ⟨K9,L0,rfl,t9,F9,hb⟩;refine⟨_,rfl,?_⟩;have L7:=rL (Kd.R_new' (Kd.R_new' t9 (Kd.R_lt (rT G5 H7))) (Kd.R_lt (rT G9 H7)));have L8:=rL (Kd.R_new' (Kd.R_new' F9 (Kd.R_lt (rT G5 H7))) (Kd.R_lt (rT G9 H7)));replace z3:=so (sT z3 fun _ hk=>hk.2) hb t9 F9;replace C9:=so (sT C9 fun _ hk=>hk.2) hb t9 F9;replace G5:=ro (rT G5 H7) hb t9 F9;replace G9:=ro (rT G9 H7) hb t9 F9;replace g5:=kF g5 I0 hb;replace z6:=kF z6 I4 hb;replace D4:=kF D4 I6 hb;replace H7:=kP (o':=.cells #[.bool l9,.slice K0 m0.length K1,.slice K2 m4.length K3] 33 (0,0)) H7 hb;replace HB:=bB hb;clear hb t9 F9)|((with_reducible refine gd 13 rfl ?_);refine bz 33 ?_;intro L9 hg M0 M3 hb;have M4:=gA w hg;have M6:=nl hg g5;have M7:=ng hg g5;have M8:=nl hg z6;have M9:=ng hg z6;have N0:=nl hg D4;have N1:=ng hg D4;have N2:=nl hg H7;have N3:=ng hg H7;replace z3:=sG z3 hg hb;replace C9:=sG C9 hg hb;replace G5:=rB G5 hb;replace G9:=rB G9 hb;replace L7:=rB L7 hb;replace L8:=rB L8 hb;replace g5:=kb g5 hb;replace z6:=kb z6 hb;replace D4:=kb D4 hb;replace H7:=kb H7 hb;replace HB:=bB hb;clear hb hg;have N4:=M7.out;have N5:=M6.out;have N6:=M9.out;have N7:=M8.out;have N8:=N1.out;have N9:=N0.out;have O0:=N3.out;have O1:=N2.out;obtain⟨O2,O3,O4,O5,O6,O7⟩:=bk3 M3;obtain⟨O8,O9,rfl⟩:=Kd.R_slice L7.out;obtain⟨P0,P3,rfl⟩:=Kd.R_slice L8.out))
       have n0_:Aside0 (Kd.S k33 33 (((M0.setCell ⟨L9,0,none⟩ (.bool m7)).setCell ⟨L9,1,none⟩ (.slice O8 m8.length O9)).setCell ⟨L9,2,none⟩ (.slice P0 m9.length P3)) w.heap.size (fun k_=>oN E9 l6.length F0 k_∧oN K0 m0.length K1 k_∧oN K2 m4.length K3 k_∧oN O8 m8.length O9 k_∧oN P0 m9.length P3 k_∧k_≠H5∧k_≠L9) (.slice C4 j7.length C6) j7):=⟨by exact Kd.S_mono (sT z3 fun _ hk=>hk.2) (fun _ hk=>⟨hk.1.1.1.1.1.1.2,⟨hk.1.1.1.1.1.2,⟨hk.1.1.1.1.2,⟨hk.1.1.2,⟨hk.1.2,⟨hk.1.1.1.2,hk.2⟩⟩⟩⟩⟩⟩)⟩
       have n1_:Aside0 (Kd.S k33 33 (((M0.setCell ⟨L9,0,none⟩ (.bool m7)).setCell ⟨L9,1,none⟩ (.slice O8 m8.length O9)).setCell ⟨L9,2,none⟩ (.slice P0 m9.length P3)) w.heap.size (fun k_=>oN C4 j7.length C6 k_∧oN K0 m0.length K1 k_∧oN K2 m4.length K3 k_∧oN O8 m8.length O9 k_∧oN P0 m9.length P3 k_∧k_≠H5∧k_≠L9) (.slice E9 l6.length F0) l6):=⟨by exact Kd.S_mono (sT C9 fun _ hk=>hk.2) (fun _ hk=>⟨hk.1.1.1.1.1.1.2,⟨hk.1.1.1.1.1.2,⟨hk.1.1.1.1.2,⟨hk.1.1.2,⟨hk.1.2,⟨hk.1.1.1.2,hk.2⟩⟩⟩⟩⟩⟩)⟩
       have n2_:Aside0 (Kd.R (Kd.int .i64) 3 (((M0.setCell ⟨L9,0,none⟩ (.bool m7)).setCell ⟨L9,1,none⟩ (.slice O8 m8.length O9)).setCell ⟨L9,2,none⟩ (.slice P0 m9.length P3)) w.heap.size (fun k_=>oN K2 m4.length K3 k_∧oN O8 m8.length O9 k_∧oN P0 m9.length P3 k_) (.slice K0 m0.length K1) m0):=⟨by exact Kd.R_mono (rT G5 M3) (fun _ hk=>⟨hk.1.1,⟨hk.1.2,hk.2⟩⟩)⟩
       have n3_:Aside0 (Kd.R (Kd.int .i64) 3 (((M0.setCell ⟨L9,0,none⟩ (.bool m7)).setCell ⟨L9,1,none⟩ (.slice O8 m8.length O9)).setCell ⟨L9,2,none⟩ (.slice P0 m9.length P3)) w.heap.size (fun k_=>oN K0 m0.length K1 k_∧oN O8 m8.length O9 k_∧oN P0 m9.length P3 k_) (.slice K2 m4.length K3) m4):=⟨by exact Kd.R_mono (rT G9 M3) (fun _ hk=>⟨hk.1.1,⟨hk.1.2,hk.2⟩⟩)⟩
       have n4_:Aside0 (Kd.R (Kd.int .i64) 3 (((M0.setCell ⟨L9,0,none⟩ (.bool m7)).setCell ⟨L9,1,none⟩ (.slice O8 m8.length O9)).setCell ⟨L9,2,none⟩ (.slice P0 m9.length P3)) w.heap.size (fun k_=>oN K0 m0.length K1 k_∧oN K2 m4.length K3 k_∧oN P0 m9.length P3 k_) (.slice O8 m8.length O9) m8):=⟨by exact Kd.R_mono (rT L7 M3) (fun _ hk=>⟨hk.1.2,⟨hk.2,hk.1.1⟩⟩)⟩
       have n5_:Aside0 (Kd.R (Kd.int .i64) 3 (((M0.setCell ⟨L9,0,none⟩ (.bool m7)).setCell ⟨L9,1,none⟩ (.slice O8 m8.length O9)).setCell ⟨L9,2,none⟩ (.slice P0 m9.length P3)) w.heap.size (fun k_=>oN K0 m0.length K1 k_∧oN K2 m4.length K3 k_∧oN O8 m8.length O9 k_) (.slice P0 m9.length P3) m9):=⟨by exact Kd.R_mono (rT L8 M3) (fun _ hk=>⟨hk.1.2,⟨hk.2,hk.1.1⟩⟩)⟩
       have n6_:Aside0 ((((M0.setCell ⟨L9,0,none⟩ (.bool m7)).setCell ⟨L9,1,none⟩ (.slice O8 m8.length O9)).setCell ⟨L9,2,none⟩ (.slice P0 m9.length P3)).heap[f9]?=some (.cells #[.int .i64 a8,.slice a9 b5.length b4] 24 (0,0))):=⟨by exact kf g5 M6⟩
       have n7_:Aside0 ((((M0.setCell ⟨L9,0,none⟩ (.bool m7)).setCell ⟨L9,1,none⟩ (.slice O8 m8.length O9)).setCell ⟨L9,2,none⟩ (.slice P0 m9.length P3)).heap[z4]?=some (.cells #[.int .i64 j6,.slice C4 j7.length C6] 24 (0,0))):=⟨by exact kf z6 M8⟩
       have n8_:Aside0 ((((M0.setCell ⟨L9,0,none⟩ (.bool m7)).setCell ⟨L9,1,none⟩ (.slice O8 m8.length O9)).setCell ⟨L9,2,none⟩ (.slice P0 m9.length P3)).heap[D2]?=some (.cells #[.int .i64 l5,.slice E9 l6.length F0] 24 (0,0))):=⟨by exact kf D4 N0⟩
       have n9_:Aside0 ((((M0.setCell ⟨L9,0,none⟩ (.bool m7)).setCell ⟨L9,1,none⟩ (.slice O8 m8.length O9)).setCell ⟨L9,2,none⟩ (.slice P0 m9.length P3)).heap[H5]?=some (.cells #[.bool l9,.slice K0 m0.length K1,.slice K2 m4.length K3] 33 (0,0))):=⟨by exact kf H7 N2⟩
       have P4:Aside0 ((((M0.setCell ⟨L9,0,none⟩ (.bool m7)).setCell ⟨L9,1,none⟩ (.slice O8 m8.length O9)).setCell ⟨L9,2,none⟩ (.slice P0 m9.length P3)).heap[L9]?=some (.cells #[.bool m7,.slice O8 m8.length O9,.slice P0 m9.length P3] 33 (0,0))):=⟨by exact kQ M3⟩
       have P5:Aside0 (Below w.heap.size w (((M0.setCell ⟨L9,0,none⟩ (.bool m7)).setCell ⟨L9,1,none⟩ (.slice O8 m8.length O9)).setCell ⟨L9,2,none⟩ (.slice P0 m9.length P3))):=⟨pB⟩;(try clear z3)
       (try clear C9)
       (try clear G5)
       (try clear G9)
       (try clear L7)
       (try clear L8)
       (try clear g5)
       (try clear z6)
       (try clear D4)
       (try clear H7)
       (try clear M3)
       (try clear HB)
       generalize (((M0.setCell ⟨L9,0,none⟩ (.bool m7)).setCell ⟨L9,1,none⟩ (.slice O8 m8.length O9)).setCell ⟨L9,2,none⟩ (.slice P0 m9.length P3))=P6 at n0_ n1_ n2_ n3_ n4_ n5_ n6_ n7_ n8_ n9_ P4 P5 ⊢;have z3:=n0_;have C9:=n1_;have G5:=n2_;have G9:=n3_;have L7:=n4_;have L8:=n5_;have g5:=n6_;have z6:=n7_;have D4:=n8_;have H7:=n9_;have M3:=P4;have HB:=P5;clear n0_ n1_ n2_ n3_ n4_ n5_ n6_ n7_ n8_ n9_ P4 P5;have n0_:=aM (Kd.S_drew z3.out);have n1_:=aM (Kd.S_drew C9.out);have n2_:=aM (Kd.R_drew G5.out);have n3_:=aM (Kd.R_drew G9.out);have n4_:=aM (Kd.R_drew L7.out);have n5_:=aM (Kd.R_drew L8.out);have n6_:=aM (blk_drew g5.out);have n7_:=aM (blk_drew z6.out);have n8_:=aM (blk_drew D4.out);have n9_:=aM (blk_drew H7.out);have P4:=aM (blk_drew M3.out);have P5:=aM (below_drew1 HB.out);clear z3 C9 G5 G9 L7 L8 g5 z6 D4 H7 M3 HB;have z3:=n0_;have C9:=n1_;have G5:=n2_;have G9:=n3_;have L7:=n4_;have L8:=n5_;have g5:=n6_;have z6:=n7_;have D4:=n8_;have H7:=n9_;have M3:=P4;have HB:=P5;clear n0_ n1_ n2_ n3_ n4_ n5_ n6_ n7_ n8_ n9_ P4 P5;refine start_ (n:=29) (S:=fun w'=>w'.cell? ⟨z4,0,none⟩=some (.int .i64 j6)∧w'.cell? ⟨z4,1,none⟩=some (.slice C4 j7.length C6)∧w'.cell? ⟨D2,0,none⟩=some (.int .i64 l5)∧w'.cell? ⟨D2,1,none⟩=some (.slice E9 l6.length F0)∧w'.cell? ⟨f9,0,none⟩=some (.int .i64 a8)∧w'.cell? ⟨f9,1,none⟩=some (.slice a9 b5.length b4)∧w'.cell? ⟨H5,0,none⟩=some (.bool l9)∧w'.cell? ⟨H5,1,none⟩=some (.slice K0 m0.length K1)∧w'.cell? ⟨H5,2,none⟩=some (.slice K2 m4.length K3)∧w'.cell? ⟨L9,0,none⟩=some (.bool m7)∧w'.cell? ⟨L9,1,none⟩=some (.slice O8 m8.length O9)∧w'.cell? ⟨L9,2,none⟩=some (.slice P0 m9.length P3)) (ds:=[]) (bA 29 0) (by kernel_rfl) rfl rfl ⟨(blk_cell z6.out 0).trans rfl,(blk_cell z6.out 1).trans rfl,(blk_cell D4.out 0).trans rfl,(blk_cell D4.out 1).trans rfl,(blk_cell g5.out 0).trans rfl,(blk_cell g5.out 1).trans rfl,(blk_cell H7.out 0).trans rfl,(blk_cell H7.out 1).trans rfl,(blk_cell H7.out 2).trans rfl,(blk_cell M3.out 0).trans rfl,(blk_cell M3.out 1).trans rfl,(blk_cell M3.out 2).trans rfl⟩ (fun hHeld=>?_);refine with_tabW Czk.tab7 Czk.bits7 (fun HT_ HW_=>?_)
       generalize P6.drew=P7 at z3 C9 G5 G9 L7 L8 g5 z6 D4 H7 M3 HB hHeld ⊢;refine tU 0 41 HT_ HW_ hHeld ?_;refine tU 1 42 HT_ HW_ hHeld ?_;refine oU 2 (some 43) HT_ fun K hK=>?_
       refine goes_ Try.func16 (by kernel_rfl) rfl #[.agg #[.int .i64 j6,.slice C4 j7.length C6],.agg #[.int .i64 l5,.slice E9 l6.length F0]] (by rfl) rfl rfl mA ?_
       with_reducible refine(Dzp.calls k j6 _ _ j7 l5 _ _ l6 true _ ?side1 ?side2 ?side3 ?side4 n8.out).mono ?_
       (case side1=>repeat(first|exact(Kd.S_reads' z3.out).2.2|(with_reducible refine Kd.C_alloc ?_ _)|(with_reducible refine Kd.C_drewN ?_ _)|(with_reducible refine Kd.C_drew ?_)))
       (case side2=>exact(Kd.S_reads' z3.out).2.1)
       (case side3=>repeat(first|exact(Kd.S_reads' C9.out).2.2|(with_reducible refine Kd.C_alloc ?_ _)|(with_reducible refine Kd.C_drewN ?_ _)|(with_reducible refine Kd.C_drew ?_)))
       (case side4=>exact(Kd.S_reads' C9.out).2.1)
       rintro e P8 ⟨rfl,hb⟩;refine⟨_,rfl,?_⟩;have n0_:=sB z3 hb
       have n1_:=sB C9 hb
       have n2_:=rB G5 hb;have n3_:=rB G9 hb;have n4_:=rB L7 hb;have n5_:=rB L8 hb;have n6_:=kb g5 hb;have n7_:=kb z6 hb;have n8_:=kb D4 hb;have n9_:=kb H7 hb;have P4:=kb M3 hb;have P5:=bB hb;clear z3 C9 G5 G9 L7 L8 g5 z6 D4 H7 M3 HB;have z3:=n0_;have C9:=n1_;have G5:=n2_;have G9:=n3_;have L7:=n4_;have L8:=n5_;have g5:=n6_;have z6:=n7_;have D4:=n8_;have H7:=n9_;have M3:=P4;have HB:=P5;clear n0_ n1_ n2_ n3_ n4_ n5_ n6_ n7_ n8_ n9_ P4 P5;(try clear hb)
       (try clear P9)
       (try clear hk)
       (try clear hi)
       refine hK.out _ _ ⟨(blk_cell z6.out 0).trans rfl,(blk_cell z6.out 1).trans rfl,(blk_cell D4.out 0).trans rfl,(blk_cell D4.out 1).trans rfl,(blk_cell g5.out 0).trans rfl,(blk_cell g5.out 1).trans rfl,(blk_cell H7.out 0).trans rfl,(blk_cell H7.out 1).trans rfl,(blk_cell H7.out 2).trans rfl,(blk_cell M3.out 0).trans rfl,(blk_cell M3.out 1).trans rfl,(blk_cell M3.out 2).trans rfl⟩ (fun hHeld=>?_)
       clear hK K;refine nm 43 ?_;refine pS 3 44 HT_ ?_;refine pS 4 45 HT_ ?_;refine pS 5 46 HT_ ?_;refine pS 6 47 HT_ ?_;refine pS 7 48 HT_ ?_;refine pS 8 49 HT_ ?_;refine tU 9 50 HT_ HW_ hHeld ?_;refine tU 11 52 HT_ HW_ hHeld ?_;refine oU 10 (some 51) HT_ fun K hK=>?_
       refine goes_ Try.func17 (by kernel_rfl) rfl #[.agg #[.int .i64 a8,.slice a9 b5.length b4]] (by rfl) rfl rfl mA ?_
       with_reducible refine(Bzx.calls k a8 _ _ b5 e8 _ ?side1 ?side2 p0.out).mono ?_
       (case side1=>exact cB b8)
       (case side2=>exact b9.out)
       rintro e Q0 ⟨rfl,hb⟩;refine⟨_,rfl,?_⟩;have n0_:=sB z3 hb
       have n1_:=sB C9 hb
       have n2_:=rB G5 hb;have n3_:=rB G9 hb;have n4_:=rB L7 hb;have n5_:=rB L8 hb;have n6_:=kb g5 hb;have n7_:=kb z6 hb;have n8_:=kb D4 hb;have n9_:=kb H7 hb;have P4:=kb M3 hb;have P5:=bB hb;clear z3 C9 G5 G9 L7 L8 g5 z6 D4 H7 M3 HB;have z3:=n0_;have C9:=n1_;have G5:=n2_;have G9:=n3_;have L7:=n4_;have L8:=n5_;have g5:=n6_;have z6:=n7_;have D4:=n8_;have H7:=n9_;have M3:=P4;have HB:=P5;clear n0_ n1_ n2_ n3_ n4_ n5_ n6_ n7_ n8_ n9_ P4 P5;(try clear hb)
       (try clear P9)
       (try clear hk)
       (try clear hi)
       refine hK.out _ _ ⟨(blk_cell z6.out 0).trans rfl,(blk_cell z6.out 1).trans rfl,(blk_cell D4.out 0).trans rfl,(blk_cell D4.out 1).trans rfl,(blk_cell g5.out 0).trans rfl,(blk_cell g5.out 1).trans rfl,(blk_cell H7.out 0).trans rfl,(blk_cell H7.out 1).trans rfl,(blk_cell H7.out 2).trans rfl,(blk_cell M3.out 0).trans rfl,(blk_cell M3.out 1).trans rfl,(blk_cell M3.out 2).trans rfl⟩ (fun hHeld=>?_)
       clear hK K;refine nm 51 ?_;refine oU 12 (some 53) HT_ fun K hK=>?_
       refine goes_ Try.func18 (by kernel_rfl) rfl #[.agg #[.int .i64 a8,.slice a9 b5.length b4]] (by rfl) rfl rfl mA ?_
       with_reducible refine(Azv.calls k a8 _ _ b5 e9 _ ?side1 ?side2 p4.out).mono ?_
       (case side1=>exact cB b8)
       (case side2=>exact b9.out)
       rintro e Q1 ⟨rfl,hb⟩;refine⟨_,rfl,?_⟩;have n0_:=sB z3 hb
       have n1_:=sB C9 hb
       have n2_:=rB G5 hb;have n3_:=rB G9 hb;have n4_:=rB L7 hb;have n5_:=rB L8 hb;have n6_:=kb g5 hb;have n7_:=kb z6 hb;have n8_:=kb D4 hb;have n9_:=kb H7 hb;have P4:=kb M3 hb;have P5:=bB hb;clear z3 C9 G5 G9 L7 L8 g5 z6 D4 H7 M3 HB;have z3:=n0_;have C9:=n1_;have G5:=n2_;have G9:=n3_;have L7:=n4_;have L8:=n5_;have g5:=n6_;have z6:=n7_;have D4:=n8_;have H7:=n9_;have M3:=P4;have HB:=P5;clear n0_ n1_ n2_ n3_ n4_ n5_ n6_ n7_ n8_ n9_ P4 P5;(try clear hb)
       (try clear P9)
       (try clear hk)
       (try clear hi)
       refine hK.out _ _ ⟨(blk_cell z6.out 0).trans rfl,(blk_cell z6.out 1).trans rfl,(blk_cell D4.out 0).trans rfl,(blk_cell D4.out 1).trans rfl,(blk_cell g5.out 0).trans rfl,(blk_cell g5.out 1).trans rfl,(blk_cell H7.out 0).trans rfl,(blk_cell H7.out 1).trans rfl,(blk_cell H7.out 2).trans rfl,(blk_cell M3.out 0).trans rfl,(blk_cell M3.out 1).trans rfl,(blk_cell M3.out 2).trans rfl⟩ (fun hHeld=>?_)
       clear hK K;refine nm 53 ?_;refine pS 13 54 HT_ ?_;refine pS 14 55 HT_ ?_;refine pS 15 56 HT_ ?_;refine tU 16 57 HT_ HW_ hHeld ?_;refine tU 17 58 HT_ HW_ hHeld ?_;refine oU 18 (some 59) HT_ fun K hK=>?_
       refine goes_ Try.func19 (by kernel_rfl) rfl #[.agg #[.bool l9,.slice K0 m0.length K1,.slice K2 m4.length K3],.agg #[.bool m7,.slice O8 m8.length O9,.slice P0 m9.length P3]] (by rfl) rfl rfl mA ?_
       with_reducible refine(Czb.calls k l9 _ _ m0 _ _ m4 m7 _ _ m8 _ _ m9 true _ ?side1 ?side2 ?side3 ?side4 ?side5 ?side6 ?side7 ?side8 r6.out).mono ?_
       (case side1=>exact cR G5)
       (case side2=>exact lR G5)
       (case side3=>exact cR G9)
       (case side4=>exact lR G9)
       (case side5=>exact cR L7)
       (case side6=>exact lR L7)
       (case side7=>exact cR L8)
       (case side8=>exact lR L8)
       rintro e Q2 ⟨rfl,hb⟩;refine⟨_,rfl,?_⟩;have n0_:=sB z3 hb
       have n1_:=sB C9 hb
       have n2_:=rB G5 hb;have n3_:=rB G9 hb;have n4_:=rB L7 hb;have n5_:=rB L8 hb;have n6_:=kb g5 hb;have n7_:=kb z6 hb;have n8_:=kb D4 hb;have n9_:=kb H7 hb;have P4:=kb M3 hb;have P5:=bB hb;clear z3 C9 G5 G9 L7 L8 g5 z6 D4 H7 M3 HB;have z3:=n0_;have C9:=n1_;have G5:=n2_;have G9:=n3_;have L7:=n4_;have L8:=n5_;have g5:=n6_;have z6:=n7_;have D4:=n8_;have H7:=n9_;have M3:=P4;have HB:=P5;clear n0_ n1_ n2_ n3_ n4_ n5_ n6_ n7_ n8_ n9_ P4 P5;(try clear hb)
       (try clear P9)
       (try clear hk)
       (try clear hi)
       refine hK.out _ _ ⟨(blk_cell z6.out 0).trans rfl,(blk_cell z6.out 1).trans rfl,(blk_cell D4.out 0).trans rfl,(blk_cell D4.out 1).trans rfl,(blk_cell g5.out 0).trans rfl,(blk_cell g5.out 1).trans rfl,(blk_cell H7.out 0).trans rfl,(blk_cell H7.out 1).trans rfl,(blk_cell H7.out 2).trans rfl,(blk_cell M3.out 0).trans rfl,(blk_cell M3.out 1).trans rfl,(blk_cell M3.out 2).trans rfl⟩ (fun hHeld=>?_)
       clear hK K;refine nm 59 ?_;refine pS 19 60 HT_ ?_;refine pS 20 61 HT_ ?_;refine pS 21 62 HT_ ?_;refine pS 22 63 HT_ ?_;refine pS 23 64 HT_ ?_;refine pS 24 65 HT_ ?_;refine pS 25 66 HT_ ?_;refine oU 26 (some 67) HT_ fun K hK=>?_
       refine goes_ Try.func11 (by kernel_rfl) rfl #[] (by rfl) rfl rfl mA ?_
       with_reducible refine(Ezy.calls k  f5 _ t6.out).mono ?_
       rintro e Q3 ⟨rfl,hb⟩;refine⟨_,rfl,?_⟩;have n0_:=sB z3 hb
       have n1_:=sB C9 hb
       have n2_:=rB G5 hb;have n3_:=rB G9 hb;have n4_:=rB L7 hb;have n5_:=rB L8 hb;have n6_:=kb g5 hb;have n7_:=kb z6 hb;have n8_:=kb D4 hb;have n9_:=kb H7 hb;have P4:=kb M3 hb;have P5:=bB hb;clear z3 C9 G5 G9 L7 L8 g5 z6 D4 H7 M3 HB;have z3:=n0_;have C9:=n1_;have G5:=n2_;have G9:=n3_;have L7:=n4_;have L8:=n5_;have g5:=n6_;have z6:=n7_;have D4:=n8_;have H7:=n9_;have M3:=P4;have HB:=P5;clear n0_ n1_ n2_ n3_ n4_ n5_ n6_ n7_ n8_ n9_ P4 P5;(try clear hb)
       (try clear P9)
       (try clear hk)
       (try clear hi)
       refine hK.out _ _ ⟨(blk_cell z6.out 0).trans rfl,(blk_cell z6.out 1).trans rfl,(blk_cell D4.out 0).trans rfl,(blk_cell D4.out 1).trans rfl,(blk_cell g5.out 0).trans rfl,(blk_cell g5.out 1).trans rfl,(blk_cell H7.out 0).trans rfl,(blk_cell H7.out 1).trans rfl,(blk_cell H7.out 2).trans rfl,(blk_cell M3.out 0).trans rfl,(blk_cell M3.out 1).trans rfl,(blk_cell M3.out 2).trans rfl⟩ (fun hHeld=>?_)
       clear hK K;refine nm 67 ?_;refine pS 27 68 HT_ ?_;refine pS 28 6 HT_ ?_;refine done_ (done_of HT_.out (by kernel_rfl)) ?_
       try go_wp2
       go_ret
       exact⟨eW,pB⟩
      ·exact absurd H (by simp)
     ·obtain rfl:=bN r7;rw[if_neg nF] at H
      exact absurd H (by simp)
    ·exact absurd H (by simp)
   ·(first|rw[o8]|(simp only[i64_w,i32_w];rw[o8])|skip)
    exact absurd H (by simp)
  ·obtain rfl:=bN n9;rw[if_neg nF] at H
   exact absurd H (by simp)
 ·obtain rfl:=bN c9;rw[if_neg nF] at H
  replace H:=bS H;obtain⟨f6,Q4,H⟩:=H;replace H:(some f6)=some r:=H;have Q5:=aM Q4;clear Q4;obtain rfl:=Option.some.inj H;go_wp2_with (first|((with_reducible refine gc 11 rfl ?_);refine gC 11 (some 18) Try.func11 #[] ?_;(with_reducible refine(Ezy.calls k  f6 _ Q5.out).mono ?_);rintro e Q6 ⟨rfl,hb⟩;refine⟨_,rfl,?_⟩;replace g5:=kb g5 hb;replace HB:=bB hb;clear hb))
  go_ret
  exact⟨eW,pB⟩

/-- THE ONE PURE STATEMENT of Czk: yours. -/
def Czk.Pure:Prop:=∀ (a0:Int) (a1:Int) (a2_0:Int) (l2_1:List (S33)),(Lit.int .i64 a0).wf=true→(Lit.int .i64 a1).wf=true→(Lit.int .i64 a2_0).wf=true→l2_1.length≤maxLen→l2_1.length * 56≤140737488351232→(∀ x_ ∈ l2_1,(True)∧(x_.f1.length≤maxLen∧x_.f1.length * 8≤140737488351232∧∀ y_ ∈ x_.f1,(Lit.int .i64 y_).wf=true)∧(x_.f2.length≤maxLen∧x_.f2.length * 8≤140737488351232∧∀ y_ ∈ x_.f2,(Lit.int .i64 y_).wf=true))→∃ k,Czk.f k a0 a1 a2_0 l2_1=some true

end Go.Proofs.Ytbnpcplckcipfaa.Print
