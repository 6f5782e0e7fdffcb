import Derived.Test.YtbnpcplckcipfaaPrint0
import Derived.Test.YtbnpcplckcipfaaPrint29
import Derived.Test.YtbnpcplckcipfaaPrint34
namespace Go.Proofs.Ytbnpcplckcipfaa.Print
open Go.RowKit Go.Proofs.YtbnpcplckcipfaaW.PrintWords Go.Proofs.YtbnpcplckcipfaaW.PrintLast Go.Proofs.YtbnpcplckcipfaaW.PrintMore
attribute [local go_sem] max2_int min2_int max_two min_two max_three min_three max_four min_four
set_option linter.unusedVariables false
set_option maxRecDepth 100000
set_option maxHeartbeats 8000000
set_option linter.unusedSimpArgs false

def Czq.j0:Nat→Int→Bool→Int→List (S33)→Bool→List Int→List Int→Option (Bool × List Int × List Int × Int)
 | 0,_,_,_,_,_,_,_=>none
 | k+1,x1,x25,x518000,x518001,x528000,x528001,x528002=>if x25=true then(some (false,([]:List Int),([]:List Int),7)) else(if(x528001.length:Int)=0 then(some (false,([]:List Int),([]:List Int),10)) else(if 0≤x1 then(if x1 < (x518001.length:Int) then((Fzf.f k ((rd_T33 x518001 x1).f0) ((rd_T33 x518001 x1).f1) ((rd_T33 x518001 x1).f2) x528000 x528001 x528002).bind fun bt529=>(some (bt529.1,bt529.2.1,bt529.2.2.1,bt529.2.2.2))) else(none)) else(none)))
def Czq.f (k:Nat) (a0_0:Int) (l0_1:List (S33)) (a1:Int):Option (Bool × List Int × List Int × Int):=(Ezw.f k a0_0 l0_1).bind fun bt519=>(if bt519.2.2.2=0 then(if a1 < 0 then(Czq.j0 k a1 true a0_0 l0_1 bt519.1 bt519.2.1 bt519.2.2.1) else(Czq.j0 k a1 (decide (a1≥(l0_1.length:Int))) a0_0 l0_1 bt519.1 bt519.2.1 bt519.2.2.1)) else(some (false,([]:List Int),([]:List Int),bt519.2.2.2)))
theorem Czq.mono_l:∀ k,(∀ a6 a7 a8 a9 b4 b5 b6,LeO (Czq.j0 k a6 a7 a8 a9 b4 b5 b6) (Czq.j0 (k+1) a6 a7 a8 a9 b4 b5 b6))
 | 0=>fun _ _ _ _ _ _ _ r h=>by simp [Czq.j0] at h
 | k+1=>by
  have ih0:=Czq.mono_l k
  ·intro a6 a7 a8 a9 b4 b5 b6;unfold Czq.j0;have i0:=@Fzf.mono;have i1:=@Ezw.mono;exact mM
theorem Czq.mono:∀ a6 a7 a8 k,LeO (Czq.f k a6 a7 a8) (Czq.f (k+1) a6 a7 a8):=by
 intro a6 a7 a8 k;have ih0:=Czq.mono_l k;unfold Czq.f;have i0:=@Fzf.mono;have i1:=@Ezw.mono;exact mM
def Czq.T8:Bool × List (List Nat × List Nat):=(true,[([],[]),([0],[0]),([],[]),([1,2],[1,2]),([3],[3]),([],[]),([4,5],[4,5]),([6],[6]),([6],[6]),([7,6,0,1,2,3,4,5,6,7,8],[7]),([8,9,0,1,2,3,4,5,6,7,8,9],[8])])
def Czq.B8:List Nat:=[0,1,0,7,15,0,63,127,127,511,1023]
theorem Czq.tab8:rtab .any (opsOf Try.f25 8)=Czq.T8:=by kernel_rfl
theorem Czq.bits8:waitsOk Czq.T8.2 Czq.B8=true:=by kernel_rfl
theorem Czq.calls (k:Nat) (a6:Int) (a7:Option Addr) (a8:Nat) (a9:List (S33)) (b4:Int) (b5:Bool) (b6:List Int) (b7:List Int) (b8:Int) (w:World) (b9:Kd.C k33 w a7 a9.length a9) (d6:a9.length≤a8) (h:Czq.f k a6 a9 b4=some (b5,b6,b7,b8)) :
  Calls Try.prog 25 #[.agg #[.int .i64 a6,.slice a7 a9.length a8],.int .i64 b4] w fun e w'=>∃ v1_ v2_:Value,e=.returned (.tuple #[.agg #[.bool b5,v1_,v2_],.int .i64 b8])∧rI w' w (oV v2_) v1_ b6∧rI w' w (oV v1_) v2_ b7∧bw w w':=by
 have hu24:=Try.underlying24;have hu33:=Try.underlying33;have d7:=aM b9;have d8:=aM d6;clear b9 d6;have HB:=aM (Below.refl w.heap.size w);have H:((Ezw.f k a6 a9).bind fun d9=>(if d9.2.2.2=0 then(if b4 < 0 then(Czq.j0 k b4 true a6 a9 d9.1 d9.2.1 d9.2.2.1) else(Czq.j0 k b4 (decide (b4≥(a9.length:Int))) a6 a9 d9.1 d9.2.1 d9.2.2.1)) else(some (false,([]:List Int),([]:List Int),d9.2.2.2))))=some (b5,b6,b7,b8):=h
 clear h;obtain⟨⟨e6,e7,e8,e9⟩,f3,H⟩:=bT H;(try dsimp only at H);have f4:=aM H;clear H;go_enter Try.func25,Try.ntmps25
 go_upto_if 14 with (first|((with_reducible refine gd 2 rfl ?_);refine bxg #[.int .i64 a6,.slice a7 a9.length a8] 24 ?_;intro f5 hg f6 f7 hb;have f8:=gA w hg;replace HB:=bB hb;clear hb hg)|((with_reducible refine gd 4 rfl ?_);refine bzg 33 ?_;intro g4 hg g5 g6 hb;have g7:=gA w hg;have g9:=nl hg f7;have j3:=ng hg f7;replace f7:=kb f7 hb;replace HB:=bB hb;clear hb hg;have j4:=g9.out;have j5:=j3.out;obtain⟨j6,j7,j8,j9⟩:=bk2 f7)|((with_reducible refine gc 14 rfl ?_);refine gC 14 (some 10) Try.func14 #[.agg #[.int .i64 a6,.slice a7 a9.length a8]] ?_;(with_reducible refine(Ezw.calls k a6 _ _ a9 e6 e7 e8 e9 _ ?_ ?_ f3.out).mono ?_);exact cB d7;exact d8.out;rintro e l5 ⟨l6,l7,rfl,l8,l9,hb⟩;refine⟨_,rfl,?_⟩;have m0:=rL l8;have m4:=rL l9;replace f7:=kb f7 hb;replace g6:=kb g6 hb;replace HB:=bB hb;clear hb l8 l9)|((with_reducible refine gd 6 rfl ?_);refine bzg 33 ?_;intro m5 hg m6 m7 hb;have m8:=gA w hg;have n0:=nl hg f7;have n7:=ng hg f7;have n8:=nl hg g6;have n9:=ng hg g6;replace m0:=rB m0 hb;replace m4:=rB m4 hb;replace f7:=kb f7 hb;replace g6:=kb g6 hb;replace HB:=bB hb;clear hb hg;have o0:=n7.out;have o8:=n0.out;have o9:=n9.out;have p0:=n8.out;obtain⟨p4,p7,p9,r5,r6,r7⟩:=bk3 m7;obtain⟨r8,r9,rfl⟩:=Kd.R_slice m0.out;obtain⟨t4,t5,rfl⟩:=Kd.R_slice m4.out))
 have H:=f4.out;clear f4;replace H:=iE H;rcases H with⟨t7,t8,H⟩|⟨t6,t7,t8,H⟩
 ·(first|rw[t7]|(simp only[i64_w,i32_w];rw[t7])|skip)
  have t9:=aM H;clear H;go_upto_region 4 with (fail)
  go_cut [25] (fun y9 wc=>∃ (kq:Nat) (z3:Bool),y9=.bool z3∧Aside0 (Czq.j0 kq b4 z3 a6 a9 e6 e7 e8=some (b5,b6,b7,b8))∧Aside0 (kq≤k)∧Aside0 (rI wc w (fun k_=>oN t4 e8.length t5 k_) (.slice r8 e7.length r9) e7)∧Aside0 (rI wc w (fun k_=>oN r8 e7.length r9 k_) (.slice t4 e8.length t5) e8)∧Aside0 (wc.heap[f5]?=some (.cells #[.int .i64 a6,(.slice a7 a9.length a8)] 24 (0,0)))∧Aside0 (wc.heap[g4]?=some (.cells #[.bool false,(.slice none 0 0),(.slice none 0 0)] 33 (0,0)))∧Aside0 (wc.heap[m5]?=some (.cells #[.bool e6,(.slice r8 e7.length r9),(.slice t4 e8.length t5)] 33 (0,0)))∧Aside0 (bw w wc))
  case first =>
   have H:=t9.out;clear t9;replace H:=iD H;rcases H with⟨z5,H⟩|⟨z5,H⟩
   ·(first|rw[z5]|(simp only[i64_w,i32_w];rw[z5])|skip)
    have H':=aM H;clear H;go_wp2
    go_meet
    case rel=>exact⟨_,(true),sD,H',⟨by first|omega|exact Nat.le_refl _⟩,⟨by exact Kd.R_mono (rT m0 m7) (fun _ hk=>hk)⟩,⟨by exact Kd.R_mono (rT m4 m7) (fun _ hk=>hk)⟩,⟨by exact kf f7 n0⟩,⟨by exact kf g6 n8⟩,⟨by exact kQ m7⟩,⟨pB⟩⟩
   ·(first|rw[z5]|(simp only[i64_w,i32_w];rw[z5])|skip)
    have H':=aM H;clear H;have z6:=g9.out;have z7:=j3.out;have z8:=n0.out;have z9:=n7.out;obtain⟨B0,B5,B9,C0⟩:=bk2 f7;go_wp2
    go_meet
    case rel=>exact⟨_,(decide (b4≥(a9.length:Int))),sD,H',⟨by first|omega|exact Nat.le_refl _⟩,⟨by exact Kd.R_mono (rT m0 m7) (fun _ hk=>hk)⟩,⟨by exact Kd.R_mono (rT m4 m7) (fun _ hk=>hk)⟩,⟨by exact kf f7 n0⟩,⟨by exact kf g6 n8⟩,⟨by exact kQ m7⟩,⟨pB⟩⟩
  case rest =>
   clear t9;try clear C1
   obtain⟨kq,z3,rfl,HA,C2,C3,C4,f7,g6,m7,HB⟩:=hcut;cases kq with
   | zero=>exact absurd HA.out (by simp [Czq.j0])
   | succ C6 =>
    have H:=HA.out;clear HA;simp only[Czq.j0] at H;by_cases C7:z3=true
    ·subst C7;rw[if_pos rfl] at H;obtain⟨rfl,rfl,rfl,rfl⟩:=q4 H;have C8:=j3.out;have C9:=g9.out;have D2:=n8.out;have D3:=n9.out;obtain⟨D4,D5,D6,D7,D8,D9⟩:=bk3 g6;go_wp2
     refine rC g4 33 #[.bool false,.slice none 0 0,.slice none 0 0] (kQ g6) Try.underlying33 ?_
     exact⟨_,_,eW,nK,nK,pB⟩
    ·obtain rfl:=bN C7;rw[if_neg nF] at H
     replace H:=iE H;rcases H with⟨E1,E2,H⟩|⟨E0,E1,E2,H⟩
     ·obtain⟨rfl,rfl,rfl,rfl⟩:=q4 H;have E3:=n7.out;have E4:=n0.out;have E5:=n9.out;have E6:=n8.out;obtain⟨E7,E8,E9,F0,F2,F3⟩:=bk3 m7;have F4:=j3.out;have F5:=g9.out;obtain⟨F6,F7,F8,F9,G5,G9⟩:=bk3 g6;go_wp2
      refine rC g4 33 #[.bool false,.slice none 0 0,.slice none 0 0] (kQ g6) Try.underlying33 ?_
      exact⟨_,_,eW,nK,nK,pB⟩
     ·have H5:¬ (e7=[]):=fun h_=>E0 (by rw[h_];rfl)
      obtain⟨H6,H⟩:=iN H;obtain⟨H7,H⟩:=iN H;replace H:=bS H;obtain⟨⟨H8,H9,I0,I3⟩,I4,H⟩:=H;replace H:(some (H8,H9,I0,I3))=some (b5,b6,b7,b8):=H;have I5:=aM I4;clear I4;obtain⟨rfl,rfl,rfl,rfl⟩:=q4 H;have I6:=n7.out;have I7:=n0.out;have I8:=n9.out;have I9:=n8.out;obtain⟨J0,J1,J2,J3,J4,J5⟩:=bk3 m7;try go_wp2
      have n0_:=aM (Kd.R_drew C3.out);have n1_:=aM (Kd.R_drew C4.out);have n2_:=aM (blk_drew f7.out);have n3_:=aM (blk_drew g6.out);have n4_:=aM (blk_drew m7.out);have n5_:=aM (below_drew1 HB.out);clear C3 C4 f7 g6 m7 HB;have C3:=n0_;have C4:=n1_;have f7:=n2_;have g6:=n3_;have m7:=n4_;have HB:=n5_;clear n0_ n1_ n2_ n3_ n4_ n5_;obtain⟨J6,J7,J8,J9,K0,K1,K2,K3,K4,K5,K6,K7,K8⟩:=at_T33 d7.out b4 (oE aS) (oE aS);have K9:=K4;have L0:=K3;have L7:=K2;cases K1
      replace K2:=hB HB K2;replace K3:=hB HB K3;replace K4:=hB HB K4;have L8:=aM K6;have L9:=aM K5;clear K6 K5;have M0:=aM K8;have M3:=aM K7;clear K8 K7;have M4:=eT (b4);have M5:=eU (b4) a9.length;refine start_ (n:=11) (S:=fun w'=>w'.cell? ⟨f5,0,none⟩=some (.int .i64 a6)∧w'.cell? ⟨f5,1,none⟩=some (.slice (some J6) a9.length a8)∧w'.cell? ⟨m5,0,none⟩=some (.bool e6)∧w'.cell? ⟨m5,1,none⟩=some (.slice r8 e7.length r9)∧w'.cell? ⟨m5,2,none⟩=some (.slice t4 e8.length t5)∧w'.cell? (J6.add ((b4).toNat * 3))=some (.bool ((rd_T33 a9 b4).f0))∧w'.cell? ⟨(J6.add ((b4).toNat * 3)).block,(J6.add ((b4).toNat * 3)).off+1,none⟩=some (.slice J7 ((rd_T33 a9 b4).f1).length J8)∧w'.cell? ⟨(J6.add ((b4).toNat * 3)).block,(J6.add ((b4).toNat * 3)).off+2,none⟩=some (.slice J9 ((rd_T33 a9 b4).f2).length K0)) (ds:=[]) (bA 11 0) (by kernel_rfl) rfl rfl ⟨(blk_cell f7.out 0).trans rfl,(blk_cell f7.out 1).trans rfl,(blk_cell m7.out 0).trans rfl,(blk_cell m7.out 1).trans rfl,(blk_cell m7.out 2).trans rfl,(hB HB L7),(hB HB L0),(hB HB K9)⟩ (fun hHeld=>?_);refine with_tabW Czq.tab8 Czq.bits8 (fun HT_ HW_=>?_)
      generalize wc.drew=M6 at C3 C4 f7 g6 m7 HB L8 M0 K2 K3 K4 hHeld ⊢;refine pS 0 32 HT_ ?_;refine pS 2 34 HT_ ?_;refine tU 1 33 HT_ HW_ hHeld ?_;refine pS 3 35 HT_ ?_;refine tU 4 36 HT_ HW_ hHeld ?_;refine tU 5 37 HT_ HW_ hHeld ?_;refine oU 6 (some 38) HT_ fun K hK=>?_
      refine goes_ Try.func52 (by kernel_rfl) rfl #[.agg #[.bool ((rd_T33 a9 b4).f0),.slice J7 ((rd_T33 a9 b4).f1).length J8,.slice J9 ((rd_T33 a9 b4).f2).length K0],.agg #[.bool e6,.slice r8 e7.length r9,.slice t4 e8.length t5]] (by rfl) rfl rfl mA ?_
      with_reducible refine(Fzf.calls C6 ((rd_T33 a9 b4).f0) (fun k_=>k_ < w.heap.size) _ _ ((rd_T33 a9 b4).f1) (fun k_=>k_ < w.heap.size) _ _ ((rd_T33 a9 b4).f2) e6 (fun k_=>some k_=(.slice r8 e7.length r9:Value).ownBlock) _ _ e7 (fun k_=>some k_=(.slice t4 e8.length t5:Value).ownBlock) _ _ e8 H8 H9 I0 I3 _ ?side1 ?side2 ?side3 ?side4 I5.out).mono ?_
      (case side1=>exact Kd.V_mk L9.out (Kd.F_below (Kd.C_F (Kd.heap_int .i64) L8.out) pB))
      (case side2=>exact Kd.V_mk M3.out (Kd.F_below (Kd.C_F (Kd.heap_int .i64) M0.out) pB))
      (case side3=>exact Kd.R_V (Kd.R_tight rfl (Kd.R_types (Kd.R_types (Kd.R_types (C3.out) f7.out (by decide)) g6.out (by decide)) m7.out (by decide))))
      (case side4=>exact Kd.R_V (Kd.R_tight rfl (Kd.R_types (Kd.R_types (Kd.R_types (C4.out) f7.out (by decide)) g6.out (by decide)) m7.out (by decide))))
      rintro e M7 ⟨M8,M9,rfl,l8,l9,hb⟩;refine⟨_,rfl,?_⟩;have n0_:=rO C3 hb l8 l9
      have n1_:=rO C4 hb l8 l9
      have n2_:=rL (rn (rn (Kd.R_mono (ok':=fun k_=>oV M9 k_) l8 (fun _ hk_=>hk_.2)) C3) C4)
      have n3_:=rL (rn (rn (Kd.R_mono (ok':=fun k_=>oV M8 k_) l9 (fun _ hk_=>hk_.2)) C3) C4)
      have n4_:=kb f7 hb;have n5_:=kb g6 hb;have n6_:=kb m7 hb;have n7_:=bB hb;clear C3 C4 f7 g6 m7 HB;have C3:=n0_;have C4:=n1_;have N0:=n2_;have N1:=n3_;have f7:=n4_;have g6:=n5_;have m7:=n6_;have HB:=n7_;clear n0_ n1_ n2_ n3_ n4_ n5_ n6_ n7_;(try clear hb)
      (try clear N2)
      (try clear hk)
      (try clear hi)
      (try clear l8)
      (try clear l9)
      obtain⟨N3,N4,N5⟩:=Kd.R_slice N0.out;(first|subst N5|(injection N5 with f1_ f2_ f3_;have f4_:=f1_.symm;have f5_:=f3_.symm;clear f1_ f2_ f3_;subst f4_;subst f5_))
      obtain⟨N6,N7,N8⟩:=Kd.R_slice N1.out;(first|subst N8|(injection N8 with f1_ f2_ f3_;have f4_:=f1_.symm;have f5_:=f3_.symm;clear f1_ f2_ f3_;subst f4_;subst f5_))
      refine hK.out _ _ ⟨(blk_cell f7.out 0).trans rfl,(blk_cell f7.out 1).trans rfl,(blk_cell m7.out 0).trans rfl,(blk_cell m7.out 1).trans rfl,(blk_cell m7.out 2).trans rfl,(hB HB L7),(hB HB L0),(hB HB K9)⟩ (fun hHeld=>?_)
      clear hK K;refine nm 38 ?_;refine pS 7 39 HT_ ?_;refine pS 8 40 HT_ ?_;refine oU 9 none HT_ fun K hK=>?_
      have N9:M7.cell? ⟨g4,0,none⟩=some (.bool false):=(blk_cell g6.out 0).trans rfl;have hfs40:=blk_frozen g6.out 0;have hns40_0:=g9.out;have hns40_2:=n9.out;have hms40_0:=j3.out;have hms40_2:=n8.out;have O0:M7.cell? ⟨g4,1,none⟩=some (.slice none 0 0):=(blk_cell g6.out 1).trans rfl;have hfs42:=blk_frozen g6.out 1;have hns42_0:=g9.out;have hns42_2:=n9.out;have hms42_0:=j3.out;have hms42_2:=n8.out;have O1:M7.cell? ⟨g4,2,none⟩=some (.slice none 0 0):=(blk_cell g6.out 2).trans rfl;have hfs44:=blk_frozen g6.out 2;have hns44_0:=g9.out;have hns44_2:=n9.out;have hms44_0:=j3.out;have hms44_2:=n8.out;refine skip_ (w1:=?_) (by rfl) rfl ?_ ?_
      rotate_left
      ·go_simp
       rfl
      refine hK.out _ _ ⟨((cell_far (p:=⟨g4,_,none⟩) g9.out _).trans (((cell_far (p:=⟨g4,_,none⟩) g9.out _).trans (((cell_far (p:=⟨g4,_,none⟩) g9.out _).trans (hHeld.1)))))),((cell_far (p:=⟨g4,_,none⟩) g9.out _).trans (((cell_far (p:=⟨g4,_,none⟩) g9.out _).trans (((cell_far (p:=⟨g4,_,none⟩) g9.out _).trans (hHeld.2.1)))))),((cell_far (p:=⟨g4,_,none⟩) n9.out _).trans (((cell_far (p:=⟨g4,_,none⟩) n9.out _).trans (((cell_far (p:=⟨g4,_,none⟩) n9.out _).trans (hHeld.2.2.1)))))),((cell_far (p:=⟨g4,_,none⟩) n9.out _).trans (((cell_far (p:=⟨g4,_,none⟩) n9.out _).trans (((cell_far (p:=⟨g4,_,none⟩) n9.out _).trans (hHeld.2.2.2.1)))))),((cell_far (p:=⟨g4,_,none⟩) n9.out _).trans (((cell_far (p:=⟨g4,_,none⟩) n9.out _).trans (((cell_far (p:=⟨g4,_,none⟩) n9.out _).trans (hHeld.2.2.2.2.1)))))),((cell_far (p:=⟨g4,_,none⟩) (nC L7 g7) _).trans (((cell_far (p:=⟨g4,_,none⟩) (nC L7 g7) _).trans (((cell_far (p:=⟨g4,_,none⟩) (nC L7 g7) _).trans (hHeld.2.2.2.2.2.1)))))),((cell_far (p:=⟨g4,_,none⟩) (nC L0 g7) _).trans (((cell_far (p:=⟨g4,_,none⟩) (nC L0 g7) _).trans (((cell_far (p:=⟨g4,_,none⟩) (nC L0 g7) _).trans (hHeld.2.2.2.2.2.2.1)))))),((cell_far (p:=⟨g4,_,none⟩) (nC K9 g7) _).trans (((cell_far (p:=⟨g4,_,none⟩) (nC K9 g7) _).trans (((cell_far (p:=⟨g4,_,none⟩) (nC K9 g7) _).trans (hHeld.2.2.2.2.2.2.2))))))⟩ (fun hHeld=>?_)
      clear hK K;refine pS 10 5 HT_ ?_;refine done_ (done_of HT_.out (by kernel_rfl)) ?_
      try go_wp2
      refine rC g4 33 #[.bool H8,.slice N3 H9.length N4,.slice N6 I0.length N7] (kQ g6) Try.underlying33 ?_
      exact⟨_,_,eW,by exact Kd.R_mono (rT N0 g6) (fun _ hk=>hk.1.1),by exact Kd.R_mono (rT N1 g6) (fun _ hk=>hk.1.1),pB⟩
 ·(first|rw[t7]|(simp only[i64_w,i32_w];rw[t7])|skip)
  obtain⟨rfl,rfl,rfl,rfl⟩:=q4 H;have O2:=j3.out;have O3:=g9.out;have O4:=n8.out;have O5:=n9.out;obtain⟨O6,O7,O8,O9,P0,P3⟩:=bk3 g6;go_wp2
  refine rC g4 33 #[.bool false,.slice none 0 0,.slice none 0 0] (by refine bD ?_;refine blk_put (cs:=#[.bool false,.slice none 0 0,.slice none 0 0]) ?_ 2 _ rfl;refine bD ?_;refine blk_put (cs:=#[.bool false,.slice none 0 0,.slice none 0 0]) ?_ 1 _ rfl;refine bD ?_;refine blk_put (cs:=#[.bool false,.slice none 0 0,.slice none 0 0]) ?_ 0 _ rfl;refine bD ?_;refine blk_far ?_ n8.out _;refine bD ?_;refine blk_far ?_ n8.out _;refine bD ?_;refine blk_far ?_ n8.out _;(with_reducible repeat(first|refine blk_drewN ?_ _|refine blk_drew ?_|refine blk_alloc ?_ _));exact g6.out) Try.underlying33 ?_
  exact⟨_,_,eW,nK,nK,pB⟩


mutual
def Azj.j0:Nat→List Int→Bool→Option (Bool)
 | 0,_,_=>none
 | k+1,x0,x20=>if x20=true then(some false) else(Azj.l0 k x0 0)
def Azj.l0:Nat→List Int→Int→Option (Bool)
 | 0,_,_=>none
 | k+1,x0,x3=>if x3 < (x0.length:Int) then(if 0≤x3 then(if(rd x0 x3) < 0 then(some false) else(if(rd x0 x3)≥1000000000 then(some false) else(Azj.l0 k x0 (wrap64 (x3+1))))) else(none)) else(some true)
end
def Azj.f (k:Nat) (l0:List Int):Option (Bool):=if(l0.length:Int) > 48 then(Azj.j0 k l0 true) else(if(l0.length:Int) > 0 then(if 0≤(wrap64 ((l0.length:Int) - 1)) then(if(wrap64 ((l0.length:Int) - 1)) < (l0.length:Int) then(Azj.j0 k l0 ((rd l0 (wrap64 ((l0.length:Int) - 1))) == 0)) else(none)) else(none)) else(Azj.j0 k l0 false))
theorem Azj.mono_l:∀ k,(∀ a6 a7,LeO (Azj.j0 k a6 a7) (Azj.j0 (k+1) a6 a7))∧(∀ a6 a7,LeO (Azj.l0 k a6 a7) (Azj.l0 (k+1) a6 a7))
 | 0=>⟨fun _ _ r h=>by simp [Azj.j0] at h,fun _ _ r h=>by simp [Azj.l0] at h⟩
 | k+1=>by
  obtain⟨ih0,ih1⟩:=Azj.mono_l k;refine⟨?_,?_⟩
  ·intro a6 a7;unfold Azj.j0;exact mM
  ·intro a6 a7;unfold Azj.l0;exact mM
theorem Azj.mono:∀ a6 k,LeO (Azj.f k a6) (Azj.f (k+1) a6):=by
 intro a6 k;obtain⟨ih0,ih1⟩:=Azj.mono_l k;unfold Azj.f;exact mM
theorem Azj.calls (k:Nat) (a6:Option Addr) (a7:Nat) (l0:List Int) (r:Bool) (w:World) (a8:cI w a6 l0) (a9:l0.length≤a7) (h:Azj.f k l0=some r) :
  Calls Try.prog 70 #[.slice a6 l0.length a7] w fun e w'=>e=.returned (.bool r)∧Drawn0 w w':=by
 have b4:=aM a8;have b5:=aM a9;clear a8 a9;have H:(if(l0.length:Int) > 48 then(Azj.j0 k l0 true) else(if(l0.length:Int) > 0 then(if 0≤(wrap64 ((l0.length:Int) - 1)) then(if(wrap64 ((l0.length:Int) - 1)) < (l0.length:Int) then(Azj.j0 k l0 ((rd l0 (wrap64 ((l0.length:Int) - 1))) == 0)) else(none)) else(none)) else(Azj.j0 k l0 false)))=some r:=h
 clear h;have b6:=aM H;clear H;go_enter Try.func70,Try.ntmps70
 go_upto_region 1 with (fail)
 go_cut [20] (fun b7 wc=>∃ (kq:Nat) (b8:Bool),b7=.bool b8∧Aside0 (Azj.j0 kq l0 b8=some r)∧Aside0 (kq≤k)∧Drawn0 w wc)
 case first =>
  have H:=b6.out;clear b6;by_cases c3:(l0.length:Int) > 48
  ·rw[if_pos c3] at H;have b9:decide (48 < (l0.length:Int))=true:=dE c3;have d6:decide (48 < l0.length)=true:=dE (by omega)
   clear c3;(first|rw[b9]|(simp only[i64_w,i32_w];rw[b9])|skip)
   have H':=aM H;clear H;go_wp2
   go_meet
   case rel=>exact⟨_,(true),sD,H',⟨by first|omega|exact Nat.le_refl _⟩,dR⟩
  ·rw[if_neg c3] at H;have b9:decide (48 < (l0.length:Int))=false:=decide_eq_false c3;have d6:decide (48 < l0.length)=false:=decide_eq_false (by omega)
   clear c3;(first|rw[b9]|(simp only[i64_w,i32_w];rw[b9])|skip)
   by_cases c4:(l0.length:Int) > 0
   ·rw[if_pos c4] at H;have d7:decide (0 < (l0.length:Int))=true:=dE c4;have d8:decide (0 < l0.length)=true:=dE (by omega)
    clear c4;obtain⟨d9,e6⟩:∃ j_:Int,(wrap64 ((l0.length:Int) - 1))=j_:=⟨_,rfl⟩;replace H:(if 0≤(d9) then(if(d9) < (l0.length:Int) then(Azj.j0 k l0 ((rd l0 (d9)) == 0)) else(none)) else(none))=some r:=by first|(rw[e6] at H;exact H)|(simp only[e6] at H ⊢;exact H)
    have e7:(IntKind.i64.wrap ((l0.length:Int) - 1))=d9:=(i64_w _).trans e6;obtain⟨e8,H⟩:=iN H;obtain⟨e9,H⟩:=iN H;have H':=aM H;clear H;obtain⟨f3,f4,f5,f6,f7⟩:=aI b4.out (d9);cases f4;go_wp2
    go_meet
    case rel=>exact⟨_,(((rd l0 (d9)) == 0)),(by first|rfl|(simp;done)|(simp only[← e6] <;> (first|rfl|simp))|(simp [*];done)),H',⟨by first|omega|exact Nat.le_refl _⟩,dR⟩
   ·rw[if_neg c4] at H;have d7:decide (0 < (l0.length:Int))=false:=decide_eq_false c4;have d8:decide (0 < l0.length)=false:=decide_eq_false (by omega)
    clear c4;have H':=aM H;clear H;go_wp2
    go_meet
    case rel=>exact⟨_,(false),sD,H',⟨by first|omega|exact Nat.le_refl _⟩,dR⟩
 case rest =>
  clear b6;try clear f8
  obtain⟨kq,b8,rfl,HA,f9,⟨mc1,rfl⟩⟩:=hcut;cases kq with
  | zero=>exact absurd HA.out (by simp [Azj.j0])
  | succ g4 =>
   have H:=HA.out;clear HA;simp only[Azj.j0] at H;by_cases c8:b8=true
   ·subst c8;rw[if_pos rfl] at H;obtain rfl:=Option.some.inj H;go_wp2
    go_ret
    exact⟨sD,dR⟩
   ·obtain rfl:=bN c8;rw[if_neg nF] at H
    have H':=aM H;clear H;go_wp2
    go_loopg [3] g4 (fun kq g5 w'=>∃ (g6:Int),g5=.int .i64 g6∧Aside0 (Azj.l0 kq l0 g6=some r)∧Aside0 (kq≤g4)∧Drawn0 w w')
    case atStart=>exact⟨(0),sD,H',⟨Nat.le_refl _⟩,dR⟩
    case round =>
     clear H';try clear g7
     obtain⟨g6,rfl,HA,g8,⟨g9,rfl⟩⟩:=hrel;cases gk with
     | zero=>exact absurd HA.out (by simp [Azj.l0])
     | succ k2 =>
      have H:=HA.out;clear HA;simp only[Azj.l0] at H;replace H:=iD H;rcases H with⟨j3,H⟩|⟨j3,H⟩
      ·obtain⟨j4,H⟩:=iN H;replace H:=iD H;rcases H with⟨j6,H⟩|⟨j6,H⟩
       ·obtain rfl:=Option.some.inj H;obtain⟨j7,j8,j9,l5,l6⟩:=aI b4.out g6;cases j8;go_wp2
        go_ret
        exact⟨sD,dR⟩
       ·by_cases l7:(rd l0 g6)≥1000000000
        ·rw[if_pos l7] at H;have l8:decide (1000000000≤(rd l0 g6))=true:=dE l7;clear l7;obtain rfl:=Option.some.inj H;obtain⟨j7,j8,j9,l5,l6⟩:=aI b4.out g6;cases j8;obtain⟨l9,m0,m4,m5,m6⟩:=aI b4.out g6;obtain rfl:j7=l9:=(by injection m0);go_wp2
         go_ret
         exact⟨sD,dR⟩
        ·rw[if_neg l7] at H;have l8:decide (1000000000≤(rd l0 g6))=false:=decide_eq_false l7;clear l7;have H':=aM H;clear H;obtain⟨j7,j8,j9,l5,l6⟩:=aI b4.out g6;cases j8;obtain⟨l9,m0,m4,m5,m6⟩:=aI b4.out g6;obtain rfl:j7=l9:=(by injection m0);go_wp2
         go_roundg k2
         case measure=>have:=f9.out;have:=g8.out;omega
         case rel=>exact⟨(wrap64 (g6+1)),sD,H',⟨by have:=f9.out;have:=g8.out;omega⟩,dR⟩
      ·obtain rfl:=Option.some.inj H;go_wp2
       go_ret
       exact⟨sD,dR⟩


def Bzq.l0:Nat→List Int→Int→Option (List Int × Int)
 | 0,_,_=>none
 | k+1,x0,x4=>if x4 > 0 then(if 0≤(wrap64 (x4 - 1)) then(if(wrap64 (x4 - 1)) < (x0.length:Int) then(if(rd x0 (wrap64 (x4 - 1)))=0 then(Bzq.l0 k x0 (wrap64 (x4 - 1))) else(if x4 > 48 then(some (([]:List Int),2)) else((some (([]:List Int):List Int)).bind fun y541=>(if 0≤x4 then(if x4≤(x0.length:Int) then(if y541.length+(x0.take (x4:Int).toNat).length < 17592186044416 then(some ((y541 ++ (x0.take (x4:Int).toNat)),0)) else(none)) else(none)) else(none))))) else(none)) else(none)) else(if x4 > 48 then(some (([]:List Int),2)) else((some (([]:List Int):List Int)).bind fun y548=>(if 0≤x4 then(if x4≤(x0.length:Int) then(if y548.length+(x0.take (x4:Int).toNat).length < 17592186044416 then(some ((y548 ++ (x0.take (x4:Int).toNat)),0)) else(none)) else(none)) else(none))))
def Bzq.f (k:Nat) (l0:List Int):Option (List Int × Int):=Bzq.l0 k l0 (l0.length:Int)
theorem Bzq.mono_l:∀ k,(∀ a6 a7,LeO (Bzq.l0 k a6 a7) (Bzq.l0 (k+1) a6 a7))
 | 0=>fun _ _ r h=>by simp [Bzq.l0] at h
 | k+1=>by
  have ih0:=Bzq.mono_l k
  ·intro a6 a7;unfold Bzq.l0;exact mM
theorem Bzq.mono:∀ a6 k,LeO (Bzq.f k a6) (Bzq.f (k+1) a6):=by
 intro a6 k;have ih0:=Bzq.mono_l k;unfold Bzq.f;exact mM
theorem Bzq.calls (k:Nat) (a6:Option Addr) (a7:Nat) (l0:List Int) (a8:List Int) (a9:Int) (w:World) (b4:cI w a6 l0) (b5:l0.length≤a7) (h:Bzq.f k l0=some (a8,a9)) :
  Calls Try.prog 82 #[.slice a6 l0.length a7] w fun e w'=>∃ v0_:Value,e=.returned (.tuple #[v0_,.int .i64 a9])∧rI w' w (fun _=>True) v0_ a8∧bw w w':=by
 have b6:=aM b4;have b7:=aM b5;clear b4 b5;have HB:=aM (Below.refl w.heap.size w);have H:(Bzq.l0 k l0 (l0.length:Int))=some (a8,a9):=h;clear h;have H':=aM H;clear H;go_enter Try.func82,Try.ntmps82
 go_wp2
 go_loopg [4] k (fun kq b8 w'=>∃ (b9:Int),b8=.int .i64 b9∧Aside0 (Bzq.l0 kq l0 b9=some (a8,a9))∧Aside0 (kq≤k)∧Aside0 (bw w w'))
 case atStart=>exact⟨((l0.length:Int)),sD,H',⟨Nat.le_refl _⟩,⟨pB⟩⟩
 case round =>
  clear H';obtain⟨b9,rfl,HA,d6,HB⟩:=hrel;cases gk with
  | zero=>exact absurd HA.out (by simp [Bzq.l0])
  | succ k1 =>
   have H:=HA.out;clear HA;simp only[Bzq.l0] at H;by_cases c2:b9 > 0
   ·rw[if_pos c2] at H;have d7:decide (0 < b9)=true:=dE c2;clear c2;obtain⟨d8,d9⟩:∃ j_:Int,(wrap64 (b9 - 1))=j_:=⟨_,rfl⟩;replace H:(if 0≤(d8) then(if(d8) < (l0.length:Int) then(if(rd l0 (d8))=0 then(Bzq.l0 k1 l0 d8) else(if b9 > 48 then(some (([]:List Int),2)) else((some (([]:List Int):List Int)).bind fun e6=>(if 0≤b9 then(if b9≤(l0.length:Int) then(if e6.length+(l0.take (b9:Int).toNat).length < 17592186044416 then(some ((e6 ++ (l0.take (b9:Int).toNat)),0)) else(none)) else(none)) else(none))))) else(none)) else(none))=some (a8,a9):=by first|(rw[d9] at H;exact H)|(simp only[d9] at H ⊢;exact H)
    have e7:(IntKind.i64.wrap (b9 - 1))=d8:=(i64_w _).trans d9;obtain⟨e8,H⟩:=iN H;obtain⟨e9,H⟩:=iN H;by_cases c6:(rd l0 (d8))=0
    ·rw[if_pos c6] at H;obtain⟨f3,f4⟩:=bE c6;clear c6;have H':=aM H;clear H;obtain⟨f5,f6,f7,f8,f9⟩:=aI b6.out (d8);cases f6
     replace f7:=hB HB f7;go_wp2
     go_roundg k1
     case measure=>have:=d6.out;omega
     case rel=>exact⟨(d8),(by first|rfl|(simp;done)|(simp only[← d9] <;> (first|rfl|simp))|(simp [*];done)),H',⟨by have:=d6.out;omega⟩,⟨pB⟩⟩
    ·rw[if_neg c6] at H;obtain⟨f3,f4⟩:=bI c6;by_cases c7:b9 > 48
     ·rw[if_pos c7] at H;have g4:decide (48 < b9)=true:=dE c7;clear c7;obtain⟨rfl,rfl⟩:=q2 H;obtain⟨f5,f6,f7,f8,f9⟩:=aI b6.out (d8);cases f6
      replace f7:=hB HB f7;go_wp2
      go_ret2
      exact⟨_,by first|rfl|(simp [errW_none,errW_some] <;> rfl)|(simp only[← d9];first|rfl|(simp [errW_none,errW_some] <;> rfl))|(simp [*,errW_none,errW_some] <;> rfl),nK,pB⟩
     ·rw[if_neg c7] at H;have g4:decide (48 < b9)=false:=decide_eq_false c7;clear c7;obtain⟨e6,g5⟩:∃ y_:List Int,y_=(([]:List Int)):=⟨_,rfl⟩;replace H:(if 0≤b9 then(if b9≤(l0.length:Int) then(if e6.length+(l0.take (b9:Int).toNat).length < 17592186044416 then(some ((e6 ++ (l0.take (b9:Int).toNat)),0)) else(none)) else(none)) else(none))=some (a8,a9):=yE g5 H
      have g6:=aM g5;clear g5;obtain⟨c8,H⟩:=iO H;have g7:=eq_true c8;have g8:decide (0≤b9)=true:=dE c8;clear c8;obtain⟨c9,H⟩:=iO H;have g9:=eq_true c9;have j3:decide (b9≤(l0.length:Int))=true:=dE c9;clear c9;obtain⟨c10,H⟩:=iO H;have LMc10:=aM c10;clear c10;obtain⟨j4,j5⟩:∃ y_:List Int,y_=(e6 ++ (l0.take (b9:Int).toNat)):=⟨_,rfl⟩;replace H:(some (j4,0))=some (a8,a9):=yE j5 H
      have j6:=aM j5;clear j5;obtain⟨rfl,rfl⟩:=q2 H;obtain⟨f5,f6,f7,f8,f9⟩:=aI b6.out (d8);cases f6
      replace f7:=hB HB f7;go_wp2_with (first|((with_reducible refine gd 21 rfl ?_);refine iL 21 [] ?_;intro j7 j8 j9 hb;replace j9:=rY g6 j9;have l5:=rL j9;replace HB:=bB hb;clear hb j9;obtain⟨i013,l6,_,hsz13,_⟩:=info_parts info3;obtain⟨hcut13,l7,hC13⟩:=print_take_of (P:=Try.prog) (Value.int .i64) 0 31 3 .i64 Try.underlying31 l6 hsz13 (some f5) a7 l0 b9 (oE aS) (oE aS) b7.out;have l8:=aM (Kd.C_of_reads (h1:=fun _=>rfl) (l7 _ (Kd.reads_of_C b6.out)));have l9:=aM hC13;clear l7 hC13 l6 hsz13)|((with_reducible refine gate_builtin (b:=.append) (xs:=#[.tmp 21,.tmp 24]) rfl ?_);at_builtin;refine Kd.R_append_rows (Kd.int .i64) (w0:=w) w.heap.size rfl (.tmp 21) (.tmp 24) 31 3 (.int .i64 0) 8 rfl Try.underlying31 info3 rfl (by decide) (by omega) j7 e6 (l0.take (b9:Int).toNat) _ _ _ (fun _=>True) (fun _=>False) rfl rfl ?aO ?aR (fun _ _ h=>h) (fun _ h=>h.elim) ?aF ?aB ?aS ?aL ?_;(case aR=>first|(rw[← show(l0.take (b9:Int).toNat).length=b9.toNat from(by rw[List.length_take];have h_:(b9:Int)≤(l0.length:Int):=oE aS;omega)];(exact cB l8);done)|(have hq_:=l8.out;rw[show(l0.take (b9:Int).toNat).length=b9.toNat from(by rw[List.length_take];have h_:(b9:Int)≤(l0.length:Int):=oE aS;omega)] at hq_;(exact cX (Kd.C_below hq_ HB.out));done)|(exact cB l8));(case aB=>exact pB);(case aF=>exact(fun _ _=>trivial));(case aO=>exact(rX l5.out));(case aS=>exact(below_size pB));(case aL=>have:=LMc10.out;have hlx_:=(show(l0.take (b9:Int).toNat).length=b9.toNat from(by rw[List.length_take];have h_:(b9:Int)≤(l0.length:Int):=oE aS;omega));omega);intro m0 m4 ho hb hg hat;rw[← j6.out] at ho;have m5:=aM (ho);replace HB:=aM (hb);clear l5 ho hb hg hat))
      go_ret2
      exact⟨_,by first|rfl|(simp [errW_none,errW_some] <;> rfl)|(simp only[← d9];first|rfl|(simp [errW_none,errW_some] <;> rfl))|(simp [*,errW_none,errW_some] <;> rfl),rX m5.out,pB⟩
   ·rw[if_neg c2] at H;have d7:decide (0 < b9)=false:=decide_eq_false c2;clear c2;by_cases m6:b9 > 48
    ·rw[if_pos m6] at H;have m7:decide (48 < b9)=true:=dE m6;clear m6;obtain⟨rfl,rfl⟩:=q2 H;go_wp2
     go_ret2
     exact⟨_,eW,nK,pB⟩
    ·rw[if_neg m6] at H;have m7:decide (48 < b9)=false:=decide_eq_false m6;clear m6;obtain⟨m8,m9⟩:∃ y_:List Int,y_=(([]:List Int)):=⟨_,rfl⟩;replace H:(if 0≤b9 then(if b9≤(l0.length:Int) then(if m8.length+(l0.take (b9:Int).toNat).length < 17592186044416 then(some ((m8 ++ (l0.take (b9:Int).toNat)),0)) else(none)) else(none)) else(none))=some (a8,a9):=yE m9 H
     have n0:=aM m9;clear m9;by_cases n7:0≤b9
     ·rw[if_pos n7] at H;have n8:=eq_true n7;have n9:=dE n7;clear n7;obtain⟨o0,H⟩:=iO H;have o8:=eq_true o0;have o9:decide (b9≤(l0.length:Int))=true:=dE o0;clear o0;obtain⟨p0,H⟩:=iO H;have LMc18:=aM p0;clear p0;obtain⟨p4,p7⟩:∃ y_:List Int,y_=(m8 ++ (l0.take (b9:Int).toNat)):=⟨_,rfl⟩;replace H:(some (p4,0))=some (a8,a9):=yE p7 H
      have p9:=aM p7;clear p7;obtain⟨rfl,rfl⟩:=q2 H;go_wp2_with (first|((with_reducible refine gd 21 rfl ?_);refine iL 21 [] ?_;intro r5 r6 r7 hb;replace r7:=rY n0 r7;have r8:=rL r7;replace HB:=bB hb;clear hb r7;obtain⟨i021,r9,_,hsz21,_⟩:=info_parts info3;obtain⟨hcut21,t4,hC21⟩:=print_take_of (P:=Try.prog) (Value.int .i64) 0 31 3 .i64 Try.underlying31 r9 hsz21 a6 a7 l0 b9 (oE aS) (oE aS) b7.out;have t5:=aM (Kd.C_of_reads (h1:=fun _=>rfl) (t4 _ (Kd.reads_of_C b6.out)));have t6:=aM hC21;clear t4 hC21 r9 hsz21)|((with_reducible refine gate_builtin (b:=.append) (xs:=#[.tmp 21,.tmp 24]) rfl ?_);at_builtin;refine Kd.R_append_rows (Kd.int .i64) (w0:=w) w.heap.size rfl (.tmp 21) (.tmp 24) 31 3 (.int .i64 0) 8 rfl Try.underlying31 info3 rfl (by decide) (by omega) r5 m8 (l0.take (b9:Int).toNat) _ _ _ (fun _=>True) (fun _=>False) rfl rfl ?aO ?aR (fun _ _ h=>h) (fun _ h=>h.elim) ?aF ?aB ?aS ?aL ?_;(case aR=>first|(rw[← show(l0.take (b9:Int).toNat).length=b9.toNat from(by rw[List.length_take];have h_:(b9:Int)≤(l0.length:Int):=oE aS;omega)];(exact cB t5);done)|(have hq_:=t5.out;rw[show(l0.take (b9:Int).toNat).length=b9.toNat from(by rw[List.length_take];have h_:(b9:Int)≤(l0.length:Int):=oE aS;omega)] at hq_;(exact cX (Kd.C_below hq_ HB.out));done)|(exact cB t5));(case aB=>exact pB);(case aF=>exact(fun _ _=>trivial));(case aO=>exact(rX r8.out));(case aS=>exact(below_size pB));(case aL=>have:=LMc18.out;have hlx_:=(show(l0.take (b9:Int).toNat).length=b9.toNat from(by rw[List.length_take];have h_:(b9:Int)≤(l0.length:Int):=oE aS;omega));omega);intro t7 t8 ho hb hg hat;rw[← p9.out] at ho;have t9:=aM (ho);replace HB:=aM (hb);clear r8 ho hb hg hat))
      go_ret2
      exact⟨_,eW,rX t9.out,pB⟩
     ·rw[if_neg n7] at H;exact absurd H (by simp)

def Dzx.f (l0:List Int) (a1:Int):Option (Int):=if a1 < (l0.length:Int) then(if 0≤a1 then(some (rd l0 a1)) else(none)) else(some 0)
theorem Dzx.calls (a6:Option Addr) (a7:Nat) (l0:List Int) (a8:Int) (r:Int) (w:World) (a9:cI w a6 l0) (b4:l0.length≤a7) (h:Dzx.f l0 a8=some r) :
  Calls Try.prog 105 #[.slice a6 l0.length a7,.int .i64 a8] w fun e w'=>e=.returned (.int .i64 r)∧Drawn0 w w':=by
 have b5:=aM a9;have b6:=aM b4;clear a9 b4;have H:(if a8 < (l0.length:Int) then(if 0≤a8 then(some (rd l0 a8)) else(none)) else(some 0))=some r:=h
 clear h;replace H:=iD H;rcases H with⟨b7,H⟩|⟨b7,H⟩
 ·obtain⟨b8,H⟩:=iN H;obtain rfl:=Option.some.inj H;obtain⟨b9,d6,d7,d8,d9⟩:=aI b5.out a8;cases d6;go_enter Try.func105,Try.ntmps105
  go_wp2
  go_ret
  exact⟨sD,dR⟩
 ·obtain rfl:=Option.some.inj H;go_enter Try.func105,Try.ntmps105
  go_wp2
  go_ret
  exact⟨sD,dR⟩


mutual
def Azq.l0:Nat→List Int→List Int→List Int→Int→Option (List Int)
 | 0,_,_,_,_=>none
 | k+1,x0,x1,x5,x6=>if x6 < (x0.length:Int) then(Azq.l1 k x0 x1 x5 x6 0 0) else(Azq.l2 k x5 (x5.length:Int))
def Azq.l1:Nat→List Int→List Int→List Int→Int→Int→Int→Option (List Int)
 | 0,_,_,_,_,_,_=>none
 | k+1,x0,x1,x5,x6,x7,x8=>if x8 < (x1.length:Int) then(if 0≤(wrap64 (x6+x8)) then(if(wrap64 (x6+x8)) < (x5.length:Int) then(if 0≤x6 then(if x6 < (x0.length:Int) then((Dzx.f x1 x8).bind fun t561=>(Azq.l1 k x0 x1 (x5.set ((wrap64 (x6+x8)):Int).toNat (Int.tmod (wrap64 ((wrap64 ((rd x5 (wrap64 (x6+x8)))+(wrap64 ((rd x0 x6) * t561))))+x7)) 1000000000)) x6 (wrap64 (Int.tdiv (wrap64 ((wrap64 ((rd x5 (wrap64 (x6+x8)))+(wrap64 ((rd x0 x6) * t561))))+x7)) 1000000000)) (wrap64 (x8+1)))) else(none)) else(none)) else(none)) else(none)) else(if x7 > 0 then(if 0≤(wrap64 (x6+x8)) then(if(wrap64 (x6+x8)) < (x5.length:Int) then(if 0≤x6 then(if x6 < (x0.length:Int) then((Dzx.f x1 x8).bind fun t565=>(Azq.l1 k x0 x1 (x5.set ((wrap64 (x6+x8)):Int).toNat (Int.tmod (wrap64 ((wrap64 ((rd x5 (wrap64 (x6+x8)))+(wrap64 ((rd x0 x6) * t565))))+x7)) 1000000000)) x6 (wrap64 (Int.tdiv (wrap64 ((wrap64 ((rd x5 (wrap64 (x6+x8)))+(wrap64 ((rd x0 x6) * t565))))+x7)) 1000000000)) (wrap64 (x8+1)))) else(none)) else(none)) else(none)) else(none)) else(Azq.l0 k x0 x1 x5 (wrap64 (x6+1))))
def Azq.l2:Nat→List Int→Int→Option (List Int)
 | 0,_,_=>none
 | k+1,x5,x10=>if x10 > 0 then(if 0≤(wrap64 (x10 - 1)) then(if(wrap64 (x10 - 1)) < (x5.length:Int) then(if(rd x5 (wrap64 (x10 - 1)))=0 then(Azq.l2 k x5 (wrap64 (x10 - 1))) else(if 0≤x10 then(if x10≤(x5.length:Int) then(some (x5.take (x10:Int).toNat)) else(none)) else(none))) else(none)) else(none)) else(if 0≤x10 then(if x10≤(x5.length:Int) then(some (x5.take (x10:Int).toNat)) else(none)) else(none))
end
def Azq.f (k:Nat) (l0:List Int) (l1:List Int):Option (List Int):=if 0≤(wrap64 ((l0.length:Int)+(l1.length:Int))) then(if(wrap64 ((l0.length:Int)+(l1.length:Int)):Int).toNat≤35184372088832 then(Azq.l0 k l0 l1 (List.replicate (wrap64 ((l0.length:Int)+(l1.length:Int)):Int).toNat 0) 0) else(none)) else(none)
theorem Azq.mono_l:∀ k,(∀ a6 a7 a8 a9,LeO (Azq.l0 k a6 a7 a8 a9) (Azq.l0 (k+1) a6 a7 a8 a9))∧(∀ a6 a7 a8 a9 b4 b5,LeO (Azq.l1 k a6 a7 a8 a9 b4 b5) (Azq.l1 (k+1) a6 a7 a8 a9 b4 b5))∧(∀ a6 a7,LeO (Azq.l2 k a6 a7) (Azq.l2 (k+1) a6 a7))
 | 0=>⟨fun _ _ _ _ r h=>by simp [Azq.l0] at h,fun _ _ _ _ _ _ r h=>by simp [Azq.l1] at h,fun _ _ r h=>by simp [Azq.l2] at h⟩
 | k+1=>by
  obtain⟨ih0,ih1,ih2⟩:=Azq.mono_l k;refine⟨?_,?_,?_⟩
  ·intro a6 a7 a8 a9;unfold Azq.l0;exact mM
  ·intro a6 a7 a8 a9 b4 b5;unfold Azq.l1;exact mM
  ·intro a6 a7;unfold Azq.l2;exact mM
theorem Azq.mono:∀ a6 a7 k,LeO (Azq.f k a6 a7) (Azq.f (k+1) a6 a7):=by
 intro a6 a7 k;obtain⟨ih0,ih1,ih2⟩:=Azq.mono_l k;unfold Azq.f;exact mM
theorem Azq.calls (k:Nat) (a6:Option Addr) (a7:Nat) (l0:List Int) (a8:Option Addr) (a9:Nat) (l1:List Int) (r:List Int) (w:World) (b4:cI w a6 l0) (b5:l0.length≤a7) (b6:cI w a8 l1) (b7:l1.length≤a9) (h:Azq.f k l0 l1=some r) :
  Calls Try.prog 83 #[.slice a6 l0.length a7,.slice a8 l1.length a9] w fun e w'=>∃ v0_:Value,e=.returned (v0_)∧rI w' w (fun _=>True) v0_ r∧bw w w':=by
 have b8:=aM b4;have b9:=aM b5;clear b4 b5;have d6:=aM b6;have d7:=aM b7;clear b6 b7;have HB:=aM (Below.refl w.heap.size w);have H:(if 0≤(wrap64 ((l0.length:Int)+(l1.length:Int))) then(if(wrap64 ((l0.length:Int)+(l1.length:Int)):Int).toNat≤35184372088832 then(Azq.l0 k l0 l1 (List.replicate (wrap64 ((l0.length:Int)+(l1.length:Int)):Int).toNat 0) 0) else(none)) else(none))=some r:=h
 clear h;obtain⟨d8,d9⟩:∃ j_:Int,(wrap64 ((l0.length:Int)+(l1.length:Int)))=j_:=⟨_,rfl⟩;replace H:(if 0≤(d8) then(if(d8:Int).toNat≤35184372088832 then(Azq.l0 k l0 l1 (List.replicate (d8:Int).toNat 0) 0) else(none)) else(none))=some r:=by first|(rw[d9] at H;exact H)|(simp only[d9] at H ⊢;exact H)
 have e6:(IntKind.i64.wrap ((l0.length:Int)+(l1.length:Int)))=d8:=(i64_w _).trans d9;by_cases c4:0≤(d8)
 ·rw[if_pos c4] at H;have e7:=eq_true c4;have e8:=dE c4;clear c4;obtain⟨c5,H⟩:=iO H;have e9:=eq_true c5;have f3:decide ((d8:Int).toNat≤35184372088832)=true:=dE c5;clear c5;obtain⟨f4,f5⟩:∃ y_:List Int,y_=(List.replicate (d8:Int).toNat 0):=⟨_,rfl⟩;replace H:(Azq.l0 k l0 l1 f4 0)=some r:=yE f5 H
  have f6:=aM f5;clear f5;have H':=aM H;clear H;go_enter Try.func83,Try.ntmps83
  have fl_:True:=trivial;repeat((first|clear fl_|go_quiet (first|((with_reducible refine gate_dst (N:=16) rfl ?_);refine Kd.R_make (Kd.int .i64) _ 3 rfl (N:=16) rfl 31 _ _ rfl d8 rfl rfl Try.underlying31 (.int .i64 0) 8 info3 rfl (by decide) (by omega) 0 (ok:=fun _=>True) (okp:=fun _=>True) rfl (fun _ hk=>hk) trivial (oE aS) (Nat.le_trans (Nat.mul_le_mul_right _ (oE aS:d8.toNat≤35184372088832)) (by omega)) (Below.refl _ _) (Nat.le_refl _) ?_;intro f7 f8 f9 hb hg_ hnew_;clear hg_ hnew_;replace f9:=rY f6 f9;have g4:=rL f9;replace HB:=bB hb;clear hb f9)));go_wp2_with (first|((with_reducible refine gate_dst (N:=16) rfl ?_);refine Kd.R_make (Kd.int .i64) _ 3 rfl (N:=16) rfl 31 _ _ rfl d8 rfl rfl Try.underlying31 (.int .i64 0) 8 info3 rfl (by decide) (by omega) 0 (ok:=fun _=>True) (okp:=fun _=>True) rfl (fun _ hk=>hk) trivial (oE aS) (Nat.le_trans (Nat.mul_le_mul_right _ (oE aS:d8.toNat≤35184372088832)) (by omega)) (Below.refl _ _) (Nat.le_refl _) ?_;intro f7 f8 f9 hb hg_ hnew_;clear hg_ hnew_;replace f9:=rY f6 f9;have g4:=rL f9;replace HB:=bB hb;clear hb f9)))
  go_loopg [6] k (fun kq g5 w'=>∃ (g6:List Int) (g7:Int),g5=.int .i64 g7∧Aside0 (Azq.l0 kq l0 l1 g6 g7=some r)∧Aside0 (kq≤k)∧Aside0 (rI w' w (fun _=>True) f7 g6)∧Aside0 (bw w w'))
  case atStart=>exact⟨(f4),(0),sD,H',⟨Nat.le_refl _⟩,⟨rX g4.out⟩,⟨pB⟩⟩
  case round =>
   clear H';try clear a9
   obtain⟨g6,g7,rfl,HA,g8,g9,HB⟩:=hrel;cases gk with
   | zero=>exact absurd HA.out (by simp [Azq.l0])
   | succ k1 =>
    have H:=HA.out;clear HA;simp only[Azq.l0] at H;by_cases c8:g7 < (l0.length:Int)
    ·rw[if_pos c8] at H;have j3:=dE c8;clear c8;have H':=aM H;clear H;go_wp2
     repeat(go_quiet (fail);try go_wp2)
     go_loopg [7,8] k1 (fun kq j4 j5 w'=>∃ (j6:List Int) (j7:Int) (j8:Int),j4=.int .i64 j7∧j5=.int .i64 j8∧Aside0 (Azq.l1 kq l0 l1 j6 g7 j7 j8=some r)∧Aside0 (kq≤k1)∧Aside0 (rI w' w (fun _=>True) f7 j6)∧Aside0 (bw w w'))
     case atStart=>exact⟨(g6),(0),(0),sD,sD,H',⟨Nat.le_refl _⟩,⟨rX g9.out⟩,⟨pB⟩⟩
     case round =>
      clear H';try clear a9
      obtain⟨j6,j7,j8,rfl,rfl,HA,j9,g9,HB⟩:=hrel;cases gk with
      | zero=>exact absurd HA.out (by simp [Azq.l1])
      | succ k2 =>
       have H:=HA.out;clear HA;simp only[Azq.l1] at H;by_cases c9:j8 < (l1.length:Int)
       ·rw[if_pos c9] at H;have l5:=dE c9;clear c9;obtain⟨l6,l7⟩:∃ j_:Int,(wrap64 (g7+j8))=j_:=⟨_,rfl⟩;replace H:(if 0≤(l6) then(if(l6) < (j6.length:Int) then(if 0≤g7 then(if g7 < (l0.length:Int) then((Dzx.f l1 j8).bind fun l8=>(Azq.l1 k2 l0 l1 (j6.set ((l6):Int).toNat (Int.tmod (wrap64 ((wrap64 ((rd j6 (l6))+(wrap64 ((rd l0 g7) * l8))))+j7)) 1000000000)) g7 (wrap64 (Int.tdiv (wrap64 ((wrap64 ((rd j6 (l6))+(wrap64 ((rd l0 g7) * l8))))+j7)) 1000000000)) (wrap64 (j8+1)))) else(none)) else(none)) else(none)) else(none))=some r:=by first|(rw[l7] at H;exact H)|(simp only[l7] at H ⊢;exact H)
        have l9:(IntKind.i64.wrap (g7+j8))=l6:=(i64_w _).trans l7;obtain⟨m0,H⟩:=iN H;obtain⟨m4,H⟩:=iN H;obtain⟨m5,H⟩:=iN H;obtain⟨m6,H⟩:=iN H;obtain⟨l8,m7,H⟩:=bT H;(try dsimp only at H);obtain⟨m8,m9⟩:∃ y_:List Int,y_=(j6.set ((l6):Int).toNat (Int.tmod (wrap64 ((wrap64 ((rd j6 (l6))+(wrap64 ((rd l0 g7) * l8))))+j7)) 1000000000)):=⟨_,rfl⟩;replace H:(Azq.l1 k2 l0 l1 m8 g7 (wrap64 (Int.tdiv (wrap64 ((wrap64 ((rd j6 (l6))+(wrap64 ((rd l0 g7) * l8))))+j7)) 1000000000)) (wrap64 (j8+1)))=some r:=yE m9 H
        have n0:=aM m9;clear m9;have H':=aM H;clear H;obtain⟨n7,n8,rfl⟩:=Kd.R_slice g9.out;obtain⟨n9,o0,o8,o9,p0⟩:=aI (Kd.R_reads' g9.out).2.2 (l6);cases o0;obtain⟨p4,p7,p9,r5,r6⟩:=aI b8.out g7;cases p7
        replace p9:=hB HB p9;have fl_:True:=trivial;repeat((first|clear fl_|go_quiet (first|(go_at_call 105;(with_reducible refine(Dzx.calls _ _ l1 j8 l8 _ ?_ ?_ m7.out).mono ?_);exact cB d6;exact d7.out;rintro e w' ⟨rfl,⟨nd,rfl⟩⟩;(try exact dD);have r7:0≤((l6):Int):=oE aS;have r8:((l6):Int) < ((j6.length:Int):Int):=oE aS;obtain⟨r9,t4,t5,t6,t7,t8,t9⟩:=Kd.R_form g9.out (by omega);(first|cases t5|(injection t5 with ea_ en_ ec_;(first|subst ea_|(injection ea_ with ea_;subst ea_));subst ec_;clear en_));have y9:=aM t6;have z3:=aM t9;clear t6 t7 t9;(first|simp only[add_plain] at o8|skip);obtain⟨z4,z5⟩:=Kd.R_celln 0 g9.out ((l6):Int) r7 r8;replace r7:=eq_true r7;replace r8:=eq_true r8;obtain⟨z6,hz18_⟩:=Kd.R_celln 0 g9.out ((l6):Int) (oE aS) (oE aS);have z7:=Kd.R_putg g9.out ((l6):Int) (Int.tmod (wrap64 ((wrap64 ((rd j6 (l6))+(wrap64 ((rd l0 g7) * l8))))+j7)) 1000000000))|((with_reducible refine gate_store (t:=3) (p:=56) rfl ?_);(try(rw[drewN_self wr];generalize hq_:World.drewN wr _=wr;have n0_:=aM (Kd.R_at hq_ g9.out);have n1_:=aM (below_at hq_ HB.out);clear hq_ g9 HB;have g9:=n0_;have HB:=n1_;clear n0_ n1_;(try(obtain⟨z6,hz18_⟩:=Kd.R_celln 0 g9.out ((l6):Int) (oE aS) (oE aS)));(try(have z7:=Kd.R_putg g9.out ((l6):Int) (Int.tmod (wrap64 ((wrap64 ((rd j6 (l6))+(wrap64 ((rd l0 g7) * l8))))+j7)) 1000000000)))));refine store_event (t:=3) (p:=56) (v:=?vo_w19) (w1:=(wr.setCell ⟨r9,((l6):Int).toNat,none⟩ (.int .i64 (Int.tmod (wrap64 ((wrap64 ((rd j6 (l6))+(wrap64 ((rd l0 g7) * l8))))+j7)) 1000000000)))) ?hg ?ho ?hn ?hr ?_;(case ho=>rfl);(case hg=>rfl);(case hn=>rfl);(case hr=>first|(go_simp;done)|(go_simp;rfl));intro z8 hw;have hg:wr.grownBy z8 (some r9):=(by rw[hw];exact z7.2);have hp_:rI z8 w (fun _=>True) (.slice (some ⟨r9,0,none⟩) j6.length n8) m8:=(by rw[hw,n0.out];exact z7.1);clear z7;replace g9:=aM (hp_);replace HB:=aM ((by rw[hw];exact below_set (HB.out) y9.out:bw w z8));clear hg hw hp_)));go_wp2_with (first|(go_at_call 105;(with_reducible refine(Dzx.calls _ _ l1 j8 l8 _ ?_ ?_ m7.out).mono ?_);exact cB d6;exact d7.out;rintro e w' ⟨rfl,⟨nd,rfl⟩⟩;(try exact dD);have r7:0≤((l6):Int):=oE aS;have r8:((l6):Int) < ((j6.length:Int):Int):=oE aS;obtain⟨r9,t4,t5,t6,t7,t8,t9⟩:=Kd.R_form g9.out (by omega);(first|cases t5|(injection t5 with ea_ en_ ec_;(first|subst ea_|(injection ea_ with ea_;subst ea_));subst ec_;clear en_));have y9:=aM t6;have z3:=aM t9;clear t6 t7 t9;(first|simp only[add_plain] at o8|skip);obtain⟨z4,z5⟩:=Kd.R_celln 0 g9.out ((l6):Int) r7 r8;replace r7:=eq_true r7;replace r8:=eq_true r8;obtain⟨z6,hz18_⟩:=Kd.R_celln 0 g9.out ((l6):Int) (oE aS) (oE aS);have z7:=Kd.R_putg g9.out ((l6):Int) (Int.tmod (wrap64 ((wrap64 ((rd j6 (l6))+(wrap64 ((rd l0 g7) * l8))))+j7)) 1000000000))|((with_reducible refine gate_store (t:=3) (p:=56) rfl ?_);(try(rw[drewN_self wr];generalize hq_:World.drewN wr _=wr;have n0_:=aM (Kd.R_at hq_ g9.out);have n1_:=aM (below_at hq_ HB.out);clear hq_ g9 HB;have g9:=n0_;have HB:=n1_;clear n0_ n1_;(try(obtain⟨z6,hz18_⟩:=Kd.R_celln 0 g9.out ((l6):Int) (oE aS) (oE aS)));(try(have z7:=Kd.R_putg g9.out ((l6):Int) (Int.tmod (wrap64 ((wrap64 ((rd j6 (l6))+(wrap64 ((rd l0 g7) * l8))))+j7)) 1000000000)))));refine store_event (t:=3) (p:=56) (v:=?vo_w19) (w1:=(wr.setCell ⟨r9,((l6):Int).toNat,none⟩ (.int .i64 (Int.tmod (wrap64 ((wrap64 ((rd j6 (l6))+(wrap64 ((rd l0 g7) * l8))))+j7)) 1000000000)))) ?hg ?ho ?hn ?hr ?_;(case ho=>rfl);(case hg=>rfl);(case hn=>rfl);(case hr=>first|(go_simp;done)|(go_simp;rfl));intro z8 hw;have hg:wr.grownBy z8 (some r9):=(by rw[hw];exact z7.2);have hp_:rI z8 w (fun _=>True) (.slice (some ⟨r9,0,none⟩) j6.length n8) m8:=(by rw[hw,n0.out];exact z7.1);clear z7;replace g9:=aM (hp_);replace HB:=aM ((by rw[hw];exact below_set (HB.out) y9.out:bw w z8));clear hg hw hp_)))
        go_roundg k2
        case measure=>have:=g8.out;have:=j9.out;omega
        case rel=>exact⟨(m8),(wrap64 (Int.tdiv (wrap64 ((wrap64 ((rd j6 (l6))+(wrap64 ((rd l0 g7) * l8))))+j7)) 1000000000)),(wrap64 (j8+1)),(by first|rfl|(simp;done)|(simp only[← l7] <;> (first|rfl|simp))|(simp [*];done)),sD,H',⟨by have:=g8.out;have:=j9.out;omega⟩,⟨rX g9.out⟩,⟨pB⟩⟩
       ·rw[if_neg c9] at H;have l5:decide (j8 < (l1.length:Int))=false:=decide_eq_false c9;clear c9;by_cases z9:j7 > 0
        ·rw[if_pos z9] at H;have B0:decide (0 < j7)=true:=dE z9;clear z9;obtain⟨B5,B9⟩:∃ j_:Int,(wrap64 (g7+j8))=j_:=⟨_,rfl⟩;replace H:(if 0≤(B5) then(if(B5) < (j6.length:Int) then(if 0≤g7 then(if g7 < (l0.length:Int) then((Dzx.f l1 j8).bind fun C0=>(Azq.l1 k2 l0 l1 (j6.set ((B5):Int).toNat (Int.tmod (wrap64 ((wrap64 ((rd j6 (B5))+(wrap64 ((rd l0 g7) * C0))))+j7)) 1000000000)) g7 (wrap64 (Int.tdiv (wrap64 ((wrap64 ((rd j6 (B5))+(wrap64 ((rd l0 g7) * C0))))+j7)) 1000000000)) (wrap64 (j8+1)))) else(none)) else(none)) else(none)) else(none))=some r:=by first|(rw[B9] at H;exact H)|(simp only[B9] at H ⊢;exact H)
         have C1:(IntKind.i64.wrap (g7+j8))=B5:=(i64_w _).trans B9;obtain⟨C2,H⟩:=iN H;obtain⟨C3,H⟩:=iN H;obtain⟨C4,H⟩:=iN H;obtain⟨C6,H⟩:=iN H;obtain⟨C0,C7,H⟩:=bT H;(try dsimp only at H);obtain⟨C8,C9⟩:∃ y_:List Int,y_=(j6.set ((B5):Int).toNat (Int.tmod (wrap64 ((wrap64 ((rd j6 (B5))+(wrap64 ((rd l0 g7) * C0))))+j7)) 1000000000)):=⟨_,rfl⟩;replace H:(Azq.l1 k2 l0 l1 C8 g7 (wrap64 (Int.tdiv (wrap64 ((wrap64 ((rd j6 (B5))+(wrap64 ((rd l0 g7) * C0))))+j7)) 1000000000)) (wrap64 (j8+1)))=some r:=yE C9 H
         have D2:=aM C9;clear C9;have H':=aM H;clear H;obtain⟨D3,D4,rfl⟩:=Kd.R_slice g9.out;obtain⟨D5,D6,D7,D8,D9⟩:=aI (Kd.R_reads' g9.out).2.2 (B5);cases D6;obtain⟨E0,E1,E2,E3,E4⟩:=aI b8.out g7;cases E1
         replace E2:=hB HB E2;have fl_:True:=trivial;repeat((first|clear fl_|go_quiet (first|(go_at_call 105;(with_reducible refine(Dzx.calls _ _ l1 j8 C0 _ ?_ ?_ C7.out).mono ?_);exact cB d6;exact d7.out;rintro e w' ⟨rfl,⟨nd,rfl⟩⟩;(try exact dD);have E5:0≤((B5):Int):=oE aS;have E6:((B5):Int) < ((j6.length:Int):Int):=oE aS;obtain⟨E7,E8,E9,F0,F2,F3,F4⟩:=Kd.R_form g9.out (by omega);(first|cases E9|(injection E9 with ea_ en_ ec_;(first|subst ea_|(injection ea_ with ea_;subst ea_));subst ec_;clear en_));have F5:=aM F0;have F6:=aM F4;clear F0 F2 F4;(first|simp only[add_plain] at D7|skip);obtain⟨F7,F8⟩:=Kd.R_celln 0 g9.out ((B5):Int) E5 E6;replace E5:=eq_true E5;replace E6:=eq_true E6;obtain⟨F9,hz29_⟩:=Kd.R_celln 0 g9.out ((B5):Int) (oE aS) (oE aS);have G5:=Kd.R_putg g9.out ((B5):Int) (Int.tmod (wrap64 ((wrap64 ((rd j6 (B5))+(wrap64 ((rd l0 g7) * C0))))+j7)) 1000000000))|((with_reducible refine gate_store (t:=3) (p:=56) rfl ?_);(try(rw[drewN_self wr];generalize hq_:World.drewN wr _=wr;have n0_:=aM (Kd.R_at hq_ g9.out);have n1_:=aM (below_at hq_ HB.out);clear hq_ g9 HB;have g9:=n0_;have HB:=n1_;clear n0_ n1_;(try(obtain⟨F9,hz29_⟩:=Kd.R_celln 0 g9.out ((B5):Int) (oE aS) (oE aS)));(try(have G5:=Kd.R_putg g9.out ((B5):Int) (Int.tmod (wrap64 ((wrap64 ((rd j6 (B5))+(wrap64 ((rd l0 g7) * C0))))+j7)) 1000000000)))));refine store_event (t:=3) (p:=56) (v:=?vo_w30) (w1:=(wr.setCell ⟨E7,((B5):Int).toNat,none⟩ (.int .i64 (Int.tmod (wrap64 ((wrap64 ((rd j6 (B5))+(wrap64 ((rd l0 g7) * C0))))+j7)) 1000000000)))) ?hg ?ho ?hn ?hr ?_;(case ho=>rfl);(case hg=>rfl);(case hn=>rfl);(case hr=>first|(go_simp;done)|(go_simp;rfl));intro G9 hw;have hg:wr.grownBy G9 (some E7):=(by rw[hw];exact G5.2);have hp_:rI G9 w (fun _=>True) (.slice (some ⟨E7,0,none⟩) j6.length D4) C8:=(by rw[hw,D2.out];exact G5.1);clear G5;replace g9:=aM (hp_);replace HB:=aM ((by rw[hw];exact below_set (HB.out) F5.out:bw w G9));clear hg hw hp_)));go_wp2_with (first|(go_at_call 105;(with_reducible refine(Dzx.calls _ _ l1 j8 C0 _ ?_ ?_ C7.out).mono ?_);exact cB d6;exact d7.out;rintro e w' ⟨rfl,⟨nd,rfl⟩⟩;(try exact dD);have E5:0≤((B5):Int):=oE aS;have E6:((B5):Int) < ((j6.length:Int):Int):=oE aS;obtain⟨E7,E8,E9,F0,F2,F3,F4⟩:=Kd.R_form g9.out (by omega);(first|cases E9|(injection E9 with ea_ en_ ec_;(first|subst ea_|(injection ea_ with ea_;subst ea_));subst ec_;clear en_));have F5:=aM F0;have F6:=aM F4;clear F0 F2 F4;(first|simp only[add_plain] at D7|skip);obtain⟨F7,F8⟩:=Kd.R_celln 0 g9.out ((B5):Int) E5 E6;replace E5:=eq_true E5;replace E6:=eq_true E6;obtain⟨F9,hz29_⟩:=Kd.R_celln 0 g9.out ((B5):Int) (oE aS) (oE aS);have G5:=Kd.R_putg g9.out ((B5):Int) (Int.tmod (wrap64 ((wrap64 ((rd j6 (B5))+(wrap64 ((rd l0 g7) * C0))))+j7)) 1000000000))|((with_reducible refine gate_store (t:=3) (p:=56) rfl ?_);(try(rw[drewN_self wr];generalize hq_:World.drewN wr _=wr;have n0_:=aM (Kd.R_at hq_ g9.out);have n1_:=aM (below_at hq_ HB.out);clear hq_ g9 HB;have g9:=n0_;have HB:=n1_;clear n0_ n1_;(try(obtain⟨F9,hz29_⟩:=Kd.R_celln 0 g9.out ((B5):Int) (oE aS) (oE aS)));(try(have G5:=Kd.R_putg g9.out ((B5):Int) (Int.tmod (wrap64 ((wrap64 ((rd j6 (B5))+(wrap64 ((rd l0 g7) * C0))))+j7)) 1000000000)))));refine store_event (t:=3) (p:=56) (v:=?vo_w30) (w1:=(wr.setCell ⟨E7,((B5):Int).toNat,none⟩ (.int .i64 (Int.tmod (wrap64 ((wrap64 ((rd j6 (B5))+(wrap64 ((rd l0 g7) * C0))))+j7)) 1000000000)))) ?hg ?ho ?hn ?hr ?_;(case ho=>rfl);(case hg=>rfl);(case hn=>rfl);(case hr=>first|(go_simp;done)|(go_simp;rfl));intro G9 hw;have hg:wr.grownBy G9 (some E7):=(by rw[hw];exact G5.2);have hp_:rI G9 w (fun _=>True) (.slice (some ⟨E7,0,none⟩) j6.length D4) C8:=(by rw[hw,D2.out];exact G5.1);clear G5;replace g9:=aM (hp_);replace HB:=aM ((by rw[hw];exact below_set (HB.out) F5.out:bw w G9));clear hg hw hp_)))
         go_roundg k2
         case measure=>have:=g8.out;have:=j9.out;omega
         case rel=>exact⟨(C8),(wrap64 (Int.tdiv (wrap64 ((wrap64 ((rd j6 (B5))+(wrap64 ((rd l0 g7) * C0))))+j7)) 1000000000)),(wrap64 (j8+1)),(by first|rfl|(simp;done)|(simp only[← B9] <;> (first|rfl|simp))|(simp [*];done)),sD,H',⟨by have:=g8.out;have:=j9.out;omega⟩,⟨rX g9.out⟩,⟨pB⟩⟩
        ·rw[if_neg z9] at H;have B0:decide (0 < j7)=false:=decide_eq_false z9;clear z9;have H':=aM H;clear H;go_wp2
         repeat(go_quiet (fail);try go_wp2)
         go_roundg k2
         case measure=>have:=g8.out;have:=j9.out;omega
         case rel=>exact⟨(j6),(wrap64 (g7+1)),sD,H',⟨by have:=g8.out;have:=j9.out;omega⟩,⟨rX g9.out⟩,⟨pB⟩⟩
    ·rw[if_neg c8] at H;have j3:decide (g7 < (l0.length:Int))=false:=decide_eq_false c8;clear c8;have H':=aM H;clear H;obtain⟨H5,H6,rfl⟩:=Kd.R_slice g9.out;go_wp2
     repeat(go_quiet (fail);try go_wp2)
     go_loopg [10] k1 (fun kq H7 w'=>∃ (H8:Int),H7=.int .i64 H8∧Aside0 (Azq.l2 kq g6 H8=some r)∧Aside0 (kq≤k1)∧Aside0 (rI w' w (fun _=>True) (.slice H5 g6.length H6) g6)∧Aside0 (bw w w'))
     case atStart=>exact⟨((g6.length:Int)),sD,H',⟨Nat.le_refl _⟩,⟨rX g9.out⟩,⟨pB⟩⟩
     case round =>
      clear H';try clear a9
      obtain⟨H8,rfl,HA,j9,g9,HB⟩:=hrel;cases gk with
      | zero=>exact absurd HA.out (by simp [Azq.l2])
      | succ k2 =>
       have H:=HA.out;clear HA;simp only[Azq.l2] at H;by_cases H9:H8 > 0
       ·rw[if_pos H9] at H;have I0:decide (0 < H8)=true:=dE H9;clear H9;obtain⟨I3,I4⟩:∃ j_:Int,(wrap64 (H8 - 1))=j_:=⟨_,rfl⟩;replace H:(if 0≤(I3) then(if(I3) < (g6.length:Int) then(if(rd g6 (I3))=0 then(Azq.l2 k2 g6 I3) else(if 0≤H8 then(if H8≤(g6.length:Int) then(some (g6.take (H8:Int).toNat)) else(none)) else(none))) else(none)) else(none))=some r:=by first|(rw[I4] at H;exact H)|(simp only[I4] at H ⊢;exact H)
        have I5:(IntKind.i64.wrap (H8 - 1))=I3:=(i64_w _).trans I4;obtain⟨I6,H⟩:=iN H;obtain⟨I7,H⟩:=iN H;by_cases I8:(rd g6 (I3))=0
        ·rw[if_pos I8] at H;obtain⟨I9,J0⟩:=bE I8;clear I8;have H':=aM H;clear H;obtain⟨J1,J2,J3,J4,J5⟩:=aI (Kd.R_reads' g9.out).2.2 (I3);cases J2;go_wp2
         repeat(go_quiet (fail);try go_wp2)
         go_roundg k2
         case measure=>have:=g8.out;have:=j9.out;omega
         case rel=>exact⟨(I3),(by first|rfl|(simp;done)|(simp only[← I4] <;> (first|rfl|simp))|(simp [*];done)),H',⟨by have:=g8.out;have:=j9.out;omega⟩,⟨rX g9.out⟩,⟨pB⟩⟩
        ·rw[if_neg I8] at H;obtain⟨I9,J0⟩:=bI I8;obtain⟨J6,H⟩:=iO H;have J7:=eq_true J6;have J8:decide (0≤H8)=true:=dE J6;clear J6;obtain⟨J9,H⟩:=iO H;have K0:=eq_true J9;have K1:decide (H8≤(g6.length:Int))=true:=dE J9;clear J9;obtain⟨K2,K3⟩:∃ y_:List Int,y_=(g6.take (H8:Int).toNat):=⟨_,rfl⟩;replace H:(some K2)=some r:=yE K3 H
         have K4:=aM K3;clear K3;obtain rfl:=Option.some.inj H;obtain⟨J1,J2,J3,J4,J5⟩:=aI (Kd.R_reads' g9.out).2.2 (I3);cases J2;have K5:(H8:Int)≤((g6.length:Int):Int):=oE aS
         obtain⟨i039,K6,_,hsz39,_⟩:=info_parts info3;have hcut39:=cut_to (P:=Try.prog) 31 3 .i64 Try.underlying31 K6 (some J1) g6.length H6 H8 (oE aS) K5 (Kd.R_reads' g9.out).2.1
         have K7:=Kd.R_take (m:=(H8:Int).toNat) g9.out (by omega)
         have K8:K2.length=(H8:Int).toNat:=(by rw[K4.out,List.length_take];omega)
         rw[← K4.out] at K7;rw[← K8] at K7 hcut39;clear K8 K6 hsz39 g9;have K9:=aM K7;clear K7;replace K5:=eq_true K5;go_wp2
         repeat(go_quiet (fail);try go_wp2)
         go_ret
         exact⟨_,by first|rfl|(simp [errW_none,errW_some] <;> rfl)|(simp only[← d9,← I4];first|rfl|(simp [errW_none,errW_some] <;> rfl))|(simp [*,errW_none,errW_some] <;> rfl),rX K9.out,pB⟩
       ·rw[if_neg H9] at H;have I0:decide (0 < H8)=false:=decide_eq_false H9;clear H9;obtain⟨L0,H⟩:=iO H;have L7:=eq_true L0;have L8:decide (0≤H8)=true:=dE L0;clear L0;obtain⟨L9,H⟩:=iO H;have M0:=eq_true L9;have M3:decide (H8≤(g6.length:Int))=true:=dE L9;clear L9;obtain⟨M4,M5⟩:∃ y_:List Int,y_=(g6.take (H8:Int).toNat):=⟨_,rfl⟩;replace H:(some M4)=some r:=yE M5 H
        have M6:=aM M5;clear M5;obtain rfl:=Option.some.inj H;have M7:(H8:Int)≤((g6.length:Int):Int):=oE aS
        obtain⟨i042,M8,_,hsz42,_⟩:=info_parts info3;have hcut42:=cut_to (P:=Try.prog) 31 3 .i64 Try.underlying31 M8 H5 g6.length H6 H8 (oE aS) M7 (Kd.R_reads' g9.out).2.1
        have M9:=Kd.R_take (m:=(H8:Int).toNat) g9.out (by omega)
        have N0:M4.length=(H8:Int).toNat:=(by rw[M6.out,List.length_take];omega)
        rw[← M6.out] at M9;rw[← N0] at M9 hcut42;clear N0 M8 hsz42 g9;have N1:=aM M9;clear M9;replace M7:=eq_true M7;go_wp2
        repeat(go_quiet (fail);try go_wp2)
        go_ret
        exact⟨_,by first|rfl|(simp [errW_none,errW_some] <;> rfl)|(simp only[← d9];first|rfl|(simp [errW_none,errW_some] <;> rfl))|(simp [*,errW_none,errW_some] <;> rfl),rX N1.out,pB⟩
 ·rw[if_neg c4] at H;exact absurd H (by simp)

end Go.Proofs.Ytbnpcplckcipfaa.Print
