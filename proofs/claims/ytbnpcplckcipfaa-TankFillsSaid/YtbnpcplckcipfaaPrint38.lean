import Derived.Test.YtbnpcplckcipfaaPrint0
import Derived.Test.YtbnpcplckcipfaaPrint29
import Derived.Test.YtbnpcplckcipfaaPrint34
namespace Go.Proofs.Ytbnpcplckcipfaa.Print
open Go.RowKit Go.Proofs.YtbnpcplckcipfaaW.PrintWords Go.Proofs.YtbnpcplckcipfaaW.PrintLast Go.Proofs.YtbnpcplckcipfaaW.PrintMore
attribute [local go_sem] max2_int min2_int max_two min_two max_three min_three max_four min_four
set_option linter.unusedVariables false
set_option maxRecDepth 100000
set_option maxHeartbeats 8000000
set_option linter.unusedSimpArgs false

def Ezq.j0:Nat→Int→Bool→Int→List (S33)→Bool→List Int→List Int→Option (Bool × List Int × List Int × Int)
 | 0,_,_,_,_,_,_,_=>none
 | k+1,x1,x25,x518000,x518001,x528000,x528001,x528002=>if x25=true then(some (false,([]:List Int),([]:List Int),7)) else(if(x528001.length:Int)=0 then(some (false,([]:List Int),([]:List Int),10)) else(if 0≤x1 then(if x1 < (x518001.length:Int) then((Hzq.f k ((rd_T33 x518001 x1).f0) ((rd_T33 x518001 x1).f1) ((rd_T33 x518001 x1).f2) x528000 x528001 x528002).bind fun bt529=>(some (bt529.1,bt529.2.1,bt529.2.2.1,bt529.2.2.2))) else(none)) else(none)))
def Ezq.f (k:Nat) (a0_0:Int) (l0_1:List (S33)) (a1:Int):Option (Bool × List Int × List Int × Int):=(Gzz.f k a0_0 l0_1).bind fun bt519=>(if bt519.2.2.2=0 then(if a1 < 0 then(Ezq.j0 k a1 true a0_0 l0_1 bt519.1 bt519.2.1 bt519.2.2.1) else(Ezq.j0 k a1 (decide (a1≥(l0_1.length:Int))) a0_0 l0_1 bt519.1 bt519.2.1 bt519.2.2.1)) else(some (false,([]:List Int),([]:List Int),bt519.2.2.2)))
theorem Ezq.mono_l:∀ k,(∀ a6 a7 a8 a9 b4 b5 b6,LeO (Ezq.j0 k a6 a7 a8 a9 b4 b5 b6) (Ezq.j0 (k+1) a6 a7 a8 a9 b4 b5 b6))
 | 0=>fun _ _ _ _ _ _ _ r h=>by simp [Ezq.j0] at h
 | k+1=>by
  have ih0:=Ezq.mono_l k
  ·intro a6 a7 a8 a9 b4 b5 b6;unfold Ezq.j0;have i0:=@Hzq.mono;have i1:=@Gzz.mono;exact mM
theorem Ezq.mono:∀ a6 a7 a8 k,LeO (Ezq.f k a6 a7 a8) (Ezq.f (k+1) a6 a7 a8):=by
 intro a6 a7 a8 k;have ih0:=Ezq.mono_l k;unfold Ezq.f;have i0:=@Hzq.mono;have i1:=@Gzz.mono;exact mM
def Ezq.T8:Bool × List (List Nat × List Nat):=(true,[([],[]),([0],[0]),([],[]),([1,2],[1,2]),([3],[3]),([],[]),([4,5],[4,5]),([6],[6]),([6],[6]),([7,6,0,1,2,3,4,5,6,7,8],[7]),([8,9,0,1,2,3,4,5,6,7,8,9],[8])])
def Ezq.B8:List Nat:=[0,1,0,7,15,0,63,127,127,511,1023]
theorem Ezq.tab8:rtab .any (opsOf Try.f25 8)=Ezq.T8:=by kernel_rfl
theorem Ezq.bits8:waitsOk Ezq.T8.2 Ezq.B8=true:=by kernel_rfl
theorem Ezq.calls (k:Nat) (a6:Int) (a7:Option Addr) (a8:Nat) (a9:List (S33)) (b4:Int) (b5:Bool) (b6:List Int) (b7:List Int) (b8:Int) (w:World) (b9:Kd.C k33 w a7 a9.length a9) (d6:a9.length≤a8) (h:Ezq.f k a6 a9 b4=some (b5,b6,b7,b8)) :
  Calls Try.prog 25 #[.agg #[.int .i64 a6,.slice a7 a9.length a8],.int .i64 b4] w fun e w'=>∃ v1_ v2_:Value,e=.returned (.tuple #[.agg #[.bool b5,v1_,v2_],.int .i64 b8])∧rI w' w (oV v2_) v1_ b6∧rI w' w (oV v1_) v2_ b7∧bw w w':=by
 have hu24:=Try.underlying24;have hu33:=Try.underlying33;have d7:=aM b9;have d8:=aM d6;clear b9 d6;have HB:=aM (Below.refl w.heap.size w);have H:((Gzz.f k a6 a9).bind fun d9=>(if d9.2.2.2=0 then(if b4 < 0 then(Ezq.j0 k b4 true a6 a9 d9.1 d9.2.1 d9.2.2.1) else(Ezq.j0 k b4 (decide (b4≥(a9.length:Int))) a6 a9 d9.1 d9.2.1 d9.2.2.1)) else(some (false,([]:List Int),([]:List Int),d9.2.2.2))))=some (b5,b6,b7,b8):=h
 clear h;obtain⟨⟨e6,e7,e8,e9⟩,f3,H⟩:=bT H;(try dsimp only at H);have f4:=aM H;clear H;go_enter Try.func25,Try.ntmps25
 go_upto_if 14 with (first|((with_reducible refine gd 2 rfl ?_);refine bxg #[.int .i64 a6,.slice a7 a9.length a8] 24 ?_;intro f5 hg f6 f7 hb;have f8:=gA w hg;replace HB:=bB hb;clear hb hg)|((with_reducible refine gd 4 rfl ?_);refine bzg 33 ?_;intro g4 hg g5 g6 hb;have g7:=gA w hg;have g9:=nl hg f7;have j3:=ng hg f7;replace f7:=kb f7 hb;replace HB:=bB hb;clear hb hg;have j4:=g9.out;have j5:=j3.out;obtain⟨j6,j7,j8,j9⟩:=bk2 f7)|((with_reducible refine gc 14 rfl ?_);refine gC 14 (some 10) Try.func14 #[.agg #[.int .i64 a6,.slice a7 a9.length a8]] ?_;(with_reducible refine(Gzz.calls k a6 _ _ a9 e6 e7 e8 e9 _ ?_ ?_ f3.out).mono ?_);exact cB d7;exact d8.out;rintro e l5 ⟨l6,l7,rfl,l8,l9,hb⟩;refine⟨_,rfl,?_⟩;have m0:=rL l8;have m4:=rL l9;replace f7:=kb f7 hb;replace g6:=kb g6 hb;replace HB:=bB hb;clear hb l8 l9)|((with_reducible refine gd 6 rfl ?_);refine bzg 33 ?_;intro m5 hg m6 m7 hb;have m8:=gA w hg;have n0:=nl hg f7;have n7:=ng hg f7;have n8:=nl hg g6;have n9:=ng hg g6;replace m0:=rB m0 hb;replace m4:=rB m4 hb;replace f7:=kb f7 hb;replace g6:=kb g6 hb;replace HB:=bB hb;clear hb hg;have o0:=n7.out;have o8:=n0.out;have o9:=n9.out;have p0:=n8.out;obtain⟨p4,p7,p9,r5,r6,r7⟩:=bk3 m7;obtain⟨r8,r9,rfl⟩:=Kd.R_slice m0.out;obtain⟨t4,t5,rfl⟩:=Kd.R_slice m4.out))
 have H:=f4.out;clear f4;replace H:=iE H;rcases H with⟨t7,t8,H⟩|⟨t6,t7,t8,H⟩
 ·(first|rw[t7]|(simp only[i64_w,i32_w];rw[t7])|skip)
  have t9:=aM H;clear H;go_upto_region 4 with (fail)
  go_cut [25] (fun z3 wc=>∃ (kq:Nat) (z4:Bool),z3=.bool z4∧Aside0 (Ezq.j0 kq b4 z4 a6 a9 e6 e7 e8=some (b5,b6,b7,b8))∧Aside0 (kq≤k)∧Aside0 (rI wc w (fun k_=>oN t4 e8.length t5 k_) (.slice r8 e7.length r9) e7)∧Aside0 (rI wc w (fun k_=>oN r8 e7.length r9 k_) (.slice t4 e8.length t5) e8)∧Aside0 (wc.heap[f5]?=some (.cells #[.int .i64 a6,(.slice a7 a9.length a8)] 24 (0,0)))∧Aside0 (wc.heap[g4]?=some (.cells #[.bool false,(.slice none 0 0),(.slice none 0 0)] 33 (0,0)))∧Aside0 (wc.heap[m5]?=some (.cells #[.bool e6,(.slice r8 e7.length r9),(.slice t4 e8.length t5)] 33 (0,0)))∧Aside0 (bw w wc))
  case first =>
   have H:=t9.out;clear t9;replace H:=iD H;rcases H with⟨z6,H⟩|⟨z6,H⟩
   ·(first|rw[z6]|(simp only[i64_w,i32_w];rw[z6])|skip)
    have H':=aM H;clear H;go_wp2
    go_meet
    case rel=>exact⟨_,(true),sD,H',⟨by first|omega|exact Nat.le_refl _⟩,⟨by exact Kd.R_mono (rT m0 m7) (fun _ hk=>hk)⟩,⟨by exact Kd.R_mono (rT m4 m7) (fun _ hk=>hk)⟩,⟨by exact kf f7 n0⟩,⟨by exact kf g6 n8⟩,⟨by exact kQ m7⟩,⟨pB⟩⟩
   ·(first|rw[z6]|(simp only[i64_w,i32_w];rw[z6])|skip)
    have H':=aM H;clear H;have z7:=g9.out;have z8:=j3.out;have z9:=n0.out;have B0:=n7.out;obtain⟨B5,B9,C0,C1⟩:=bk2 f7;go_wp2
    go_meet
    case rel=>exact⟨_,(decide (b4≥(a9.length:Int))),sD,H',⟨by first|omega|exact Nat.le_refl _⟩,⟨by exact Kd.R_mono (rT m0 m7) (fun _ hk=>hk)⟩,⟨by exact Kd.R_mono (rT m4 m7) (fun _ hk=>hk)⟩,⟨by exact kf f7 n0⟩,⟨by exact kf g6 n8⟩,⟨by exact kQ m7⟩,⟨pB⟩⟩
  case rest =>
   clear t9;try clear C2
   obtain⟨kq,z4,rfl,HA,C3,C4,C6,f7,g6,m7,HB⟩:=hcut;cases kq with
   | zero=>exact absurd HA.out (by simp [Ezq.j0])
   | succ C7 =>
    have H:=HA.out;clear HA;simp only[Ezq.j0] at H;by_cases C8:z4=true
    ·subst C8;rw[if_pos rfl] at H;obtain⟨rfl,rfl,rfl,rfl⟩:=q4 H;have C9:=j3.out;have D2:=g9.out;have D3:=n8.out;have D4:=n9.out;obtain⟨D5,D6,D7,D8,D9,E0⟩:=bk3 g6;go_wp2
     refine rC g4 33 #[.bool false,.slice none 0 0,.slice none 0 0] (kQ g6) Try.underlying33 ?_
     exact⟨_,_,eW,nK,nK,pB⟩
    ·obtain rfl:=bN C8;rw[if_neg nF] at H
     replace H:=iE H;rcases H with⟨E2,E3,H⟩|⟨E1,E2,E3,H⟩
     ·obtain⟨rfl,rfl,rfl,rfl⟩:=q4 H;have E4:=n7.out;have E5:=n0.out;have E6:=n9.out;have E7:=n8.out;obtain⟨E8,E9,F0,F2,F3,F4⟩:=bk3 m7;have F5:=j3.out;have F6:=g9.out;obtain⟨F7,F8,F9,G5,G9,H5⟩:=bk3 g6;go_wp2
      refine rC g4 33 #[.bool false,.slice none 0 0,.slice none 0 0] (kQ g6) Try.underlying33 ?_
      exact⟨_,_,eW,nK,nK,pB⟩
     ·have H6:¬ (e7=[]):=fun h_=>E1 (by rw[h_];rfl)
      obtain⟨H7,H⟩:=iN H;obtain⟨H8,H⟩:=iN H;replace H:=bS H;obtain⟨⟨H9,I0,I3,I4⟩,I5,H⟩:=H;replace H:(some (H9,I0,I3,I4))=some (b5,b6,b7,b8):=H;have I6:=aM I5;clear I5;obtain⟨rfl,rfl,rfl,rfl⟩:=q4 H;have I7:=n7.out;have I8:=n0.out;have I9:=n9.out;have J0:=n8.out;obtain⟨J1,J2,J3,J4,J5,J6⟩:=bk3 m7;try go_wp2
      have n0_:=aM (Kd.R_drew C4.out);have n1_:=aM (Kd.R_drew C6.out);have n2_:=aM (blk_drew f7.out);have n3_:=aM (blk_drew g6.out);have n4_:=aM (blk_drew m7.out);have n5_:=aM (below_drew1 HB.out);clear C4 C6 f7 g6 m7 HB;have C4:=n0_;have C6:=n1_;have f7:=n2_;have g6:=n3_;have m7:=n4_;have HB:=n5_;clear n0_ n1_ n2_ n3_ n4_ n5_;obtain⟨J7,J8,J9,K0,K1,K2,K3,K4,K5,K6,K7,K8,K9⟩:=at_T33 d7.out b4 (oE aS) (oE aS);have L0:=K5;have L7:=K4;have L8:=K3;cases K2
      replace K3:=hB HB K3;replace K4:=hB HB K4;replace K5:=hB HB K5;have L9:=aM K7;have M0:=aM K6;clear K7 K6;have M3:=aM K9;have M4:=aM K8;clear K9 K8;have M5:=eT (b4);have M6:=eU (b4) a9.length;refine start_ (n:=11) (S:=fun w'=>w'.cell? ⟨f5,0,none⟩=some (.int .i64 a6)∧w'.cell? ⟨f5,1,none⟩=some (.slice (some J7) a9.length a8)∧w'.cell? ⟨m5,0,none⟩=some (.bool e6)∧w'.cell? ⟨m5,1,none⟩=some (.slice r8 e7.length r9)∧w'.cell? ⟨m5,2,none⟩=some (.slice t4 e8.length t5)∧w'.cell? (J7.add ((b4).toNat * 3))=some (.bool ((rd_T33 a9 b4).f0))∧w'.cell? ⟨(J7.add ((b4).toNat * 3)).block,(J7.add ((b4).toNat * 3)).off+1,none⟩=some (.slice J8 ((rd_T33 a9 b4).f1).length J9)∧w'.cell? ⟨(J7.add ((b4).toNat * 3)).block,(J7.add ((b4).toNat * 3)).off+2,none⟩=some (.slice K0 ((rd_T33 a9 b4).f2).length K1)) (ds:=[]) (bA 11 0) (by kernel_rfl) rfl rfl ⟨(blk_cell f7.out 0).trans rfl,(blk_cell f7.out 1).trans rfl,(blk_cell m7.out 0).trans rfl,(blk_cell m7.out 1).trans rfl,(blk_cell m7.out 2).trans rfl,(hB HB L8),(hB HB L7),(hB HB L0)⟩ (fun hHeld=>?_);refine with_tabW Ezq.tab8 Ezq.bits8 (fun HT_ HW_=>?_)
      generalize wc.drew=M7 at C4 C6 f7 g6 m7 HB L9 M3 K3 K4 K5 hHeld ⊢;refine pS 0 32 HT_ ?_;refine pS 2 34 HT_ ?_;refine tU 1 33 HT_ HW_ hHeld ?_;refine pS 3 35 HT_ ?_;refine tU 4 36 HT_ HW_ hHeld ?_;refine tU 5 37 HT_ HW_ hHeld ?_;refine oU 6 (some 38) HT_ fun K hK=>?_
      refine goes_ Try.func52 (by kernel_rfl) rfl #[.agg #[.bool ((rd_T33 a9 b4).f0),.slice J8 ((rd_T33 a9 b4).f1).length J9,.slice K0 ((rd_T33 a9 b4).f2).length K1],.agg #[.bool e6,.slice r8 e7.length r9,.slice t4 e8.length t5]] (by rfl) rfl rfl mA ?_
      with_reducible refine(Hzq.calls C7 ((rd_T33 a9 b4).f0) (fun k_=>k_ < w.heap.size) _ _ ((rd_T33 a9 b4).f1) (fun k_=>k_ < w.heap.size) _ _ ((rd_T33 a9 b4).f2) e6 (fun k_=>some k_=(.slice r8 e7.length r9:Value).ownBlock) _ _ e7 (fun k_=>some k_=(.slice t4 e8.length t5:Value).ownBlock) _ _ e8 H9 I0 I3 I4 _ ?side1 ?side2 ?side3 ?side4 I6.out).mono ?_
      (case side1=>exact Kd.V_mk M0.out (Kd.F_below (Kd.C_F (Kd.heap_int .i64) L9.out) pB))
      (case side2=>exact Kd.V_mk M4.out (Kd.F_below (Kd.C_F (Kd.heap_int .i64) M3.out) pB))
      (case side3=>exact Kd.R_V (Kd.R_tight rfl (Kd.R_types (Kd.R_types (Kd.R_types (C4.out) f7.out (by decide)) g6.out (by decide)) m7.out (by decide))))
      (case side4=>exact Kd.R_V (Kd.R_tight rfl (Kd.R_types (Kd.R_types (Kd.R_types (C6.out) f7.out (by decide)) g6.out (by decide)) m7.out (by decide))))
      rintro e M8 ⟨M9,N0,rfl,l8,l9,hb⟩;refine⟨_,rfl,?_⟩;have n0_:=rO C4 hb l8 l9
      have n1_:=rO C6 hb l8 l9
      have n2_:=rL (rn (rn (Kd.R_mono (ok':=fun k_=>oV N0 k_) l8 (fun _ hk_=>hk_.2)) C4) C6)
      have n3_:=rL (rn (rn (Kd.R_mono (ok':=fun k_=>oV M9 k_) l9 (fun _ hk_=>hk_.2)) C4) C6)
      have n4_:=kb f7 hb;have n5_:=kb g6 hb;have n6_:=kb m7 hb;have n7_:=bB hb;clear C4 C6 f7 g6 m7 HB;have C4:=n0_;have C6:=n1_;have N1:=n2_;have N2:=n3_;have f7:=n4_;have g6:=n5_;have m7:=n6_;have HB:=n7_;clear n0_ n1_ n2_ n3_ n4_ n5_ n6_ n7_;(try clear hb)
      (try clear N3)
      (try clear hk)
      (try clear hi)
      (try clear l8)
      (try clear l9)
      obtain⟨N4,N5,N6⟩:=Kd.R_slice N1.out;(first|subst N6|(injection N6 with f1_ f2_ f3_;have f4_:=f1_.symm;have f5_:=f3_.symm;clear f1_ f2_ f3_;subst f4_;subst f5_))
      obtain⟨N7,N8,N9⟩:=Kd.R_slice N2.out;(first|subst N9|(injection N9 with f1_ f2_ f3_;have f4_:=f1_.symm;have f5_:=f3_.symm;clear f1_ f2_ f3_;subst f4_;subst f5_))
      refine hK.out _ _ ⟨(blk_cell f7.out 0).trans rfl,(blk_cell f7.out 1).trans rfl,(blk_cell m7.out 0).trans rfl,(blk_cell m7.out 1).trans rfl,(blk_cell m7.out 2).trans rfl,(hB HB L8),(hB HB L7),(hB HB L0)⟩ (fun hHeld=>?_)
      clear hK K;refine nm 38 ?_;refine pS 7 39 HT_ ?_;refine pS 8 40 HT_ ?_;refine oU 9 none HT_ fun K hK=>?_
      have O0:M8.cell? ⟨g4,0,none⟩=some (.bool false):=(blk_cell g6.out 0).trans rfl;have hfs40:=blk_frozen g6.out 0;have hns40_0:=g9.out;have hns40_2:=n9.out;have hms40_0:=j3.out;have hms40_2:=n8.out;have O1:M8.cell? ⟨g4,1,none⟩=some (.slice none 0 0):=(blk_cell g6.out 1).trans rfl;have hfs42:=blk_frozen g6.out 1;have hns42_0:=g9.out;have hns42_2:=n9.out;have hms42_0:=j3.out;have hms42_2:=n8.out;have O2:M8.cell? ⟨g4,2,none⟩=some (.slice none 0 0):=(blk_cell g6.out 2).trans rfl;have hfs44:=blk_frozen g6.out 2;have hns44_0:=g9.out;have hns44_2:=n9.out;have hms44_0:=j3.out;have hms44_2:=n8.out;refine skip_ (w1:=?_) (by rfl) rfl ?_ ?_
      rotate_left
      ·go_simp
       rfl
      refine hK.out _ _ ⟨((cell_far (p:=⟨g4,_,none⟩) g9.out _).trans (((cell_far (p:=⟨g4,_,none⟩) g9.out _).trans (((cell_far (p:=⟨g4,_,none⟩) g9.out _).trans (hHeld.1)))))),((cell_far (p:=⟨g4,_,none⟩) g9.out _).trans (((cell_far (p:=⟨g4,_,none⟩) g9.out _).trans (((cell_far (p:=⟨g4,_,none⟩) g9.out _).trans (hHeld.2.1)))))),((cell_far (p:=⟨g4,_,none⟩) n9.out _).trans (((cell_far (p:=⟨g4,_,none⟩) n9.out _).trans (((cell_far (p:=⟨g4,_,none⟩) n9.out _).trans (hHeld.2.2.1)))))),((cell_far (p:=⟨g4,_,none⟩) n9.out _).trans (((cell_far (p:=⟨g4,_,none⟩) n9.out _).trans (((cell_far (p:=⟨g4,_,none⟩) n9.out _).trans (hHeld.2.2.2.1)))))),((cell_far (p:=⟨g4,_,none⟩) n9.out _).trans (((cell_far (p:=⟨g4,_,none⟩) n9.out _).trans (((cell_far (p:=⟨g4,_,none⟩) n9.out _).trans (hHeld.2.2.2.2.1)))))),((cell_far (p:=⟨g4,_,none⟩) (nC L8 g7) _).trans (((cell_far (p:=⟨g4,_,none⟩) (nC L8 g7) _).trans (((cell_far (p:=⟨g4,_,none⟩) (nC L8 g7) _).trans (hHeld.2.2.2.2.2.1)))))),((cell_far (p:=⟨g4,_,none⟩) (nC L7 g7) _).trans (((cell_far (p:=⟨g4,_,none⟩) (nC L7 g7) _).trans (((cell_far (p:=⟨g4,_,none⟩) (nC L7 g7) _).trans (hHeld.2.2.2.2.2.2.1)))))),((cell_far (p:=⟨g4,_,none⟩) (nC L0 g7) _).trans (((cell_far (p:=⟨g4,_,none⟩) (nC L0 g7) _).trans (((cell_far (p:=⟨g4,_,none⟩) (nC L0 g7) _).trans (hHeld.2.2.2.2.2.2.2))))))⟩ (fun hHeld=>?_)
      clear hK K;refine pS 10 5 HT_ ?_;refine done_ (done_of HT_.out (by kernel_rfl)) ?_
      try go_wp2
      refine rC g4 33 #[.bool H9,.slice N4 I0.length N5,.slice N7 I3.length N8] (kQ g6) Try.underlying33 ?_
      exact⟨_,_,eW,by exact Kd.R_mono (rT N1 g6) (fun _ hk=>hk.1.1),by exact Kd.R_mono (rT N2 g6) (fun _ hk=>hk.1.1),pB⟩
 ·(first|rw[t7]|(simp only[i64_w,i32_w];rw[t7])|skip)
  obtain⟨rfl,rfl,rfl,rfl⟩:=q4 H;have O3:=j3.out;have O4:=g9.out;have O5:=n8.out;have O6:=n9.out;obtain⟨O7,O8,O9,P0,P3,P4⟩:=bk3 g6;go_wp2
  refine rC g4 33 #[.bool false,.slice none 0 0,.slice none 0 0] (by refine bD ?_;refine blk_put (cs:=#[.bool false,.slice none 0 0,.slice none 0 0]) ?_ 2 _ rfl;refine bD ?_;refine blk_put (cs:=#[.bool false,.slice none 0 0,.slice none 0 0]) ?_ 1 _ rfl;refine bD ?_;refine blk_put (cs:=#[.bool false,.slice none 0 0,.slice none 0 0]) ?_ 0 _ rfl;refine bD ?_;refine blk_far ?_ n8.out _;refine bD ?_;refine blk_far ?_ n8.out _;refine bD ?_;refine blk_far ?_ n8.out _;(with_reducible repeat(first|refine blk_drewN ?_ _|refine blk_drew ?_|refine blk_alloc ?_ _));exact g6.out) Try.underlying33 ?_
  exact⟨_,_,eW,nK,nK,pB⟩

end Go.Proofs.Ytbnpcplckcipfaa.Print
