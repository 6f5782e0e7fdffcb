import Derived.Test.YtbnpcplckcipfaaPrint0
import Derived.Test.YtbnpcplckcipfaaPrint30
import Derived.Test.YtbnpcplckcipfaaPrint34
namespace Go.Proofs.Ytbnpcplckcipfaa.Print
open Go.RowKit Go.Proofs.YtbnpcplckcipfaaW.PrintWords Go.Proofs.YtbnpcplckcipfaaW.PrintLast Go.Proofs.YtbnpcplckcipfaaW.PrintMore
attribute [local go_sem] dF dG eB eD dm dn dH dI
set_option linter.unusedVariables false
set_option maxRecDepth 100000
set_option maxHeartbeats 8000000
set_option linter.unusedSimpArgs false

def Dzx.j0:Nat→Int→Bool→Int→List (S33)→Bool→List Int→List Int→Option (Bool × List Int × List Int × Int)
 | 0,_,_,_,_,_,_,_=>none
 | k+1,x1,x25,x518000,x518001,x528000,x528001,x528002=>if x25=true then(some (false,([]:List Int),([]:List Int),7)) else(if(x528001.length:Int)=0 then(some (false,([]:List Int),([]:List Int),10)) else(if 0≤x1 then(if x1 < (x518001.length:Int) then((Gzb.f k ((ag x518001 x1).f0) ((ag x518001 x1).f1) ((ag x518001 x1).f2) x528000 x528001 x528002).bind fun bt529=>(some (bt529.1,bt529.2.1,bt529.2.2.1,bt529.2.2.2))) else(none)) else(none)))
def Dzx.f (k:Nat) (a0_0:Int) (l0_1:List (S33)) (a1:Int):Option (Bool × List Int × List Int × Int):=(Fzk.f k a0_0 l0_1).bind fun bt519=>(if bt519.2.2.2=0 then(if a1 < 0 then(Dzx.j0 k a1 true a0_0 l0_1 bt519.1 bt519.2.1 bt519.2.2.1) else(Dzx.j0 k a1 (decide (a1≥(l0_1.length:Int))) a0_0 l0_1 bt519.1 bt519.2.1 bt519.2.2.1)) else(some (false,([]:List Int),([]:List Int),bt519.2.2.2)))
theorem Dzx.mono_l:∀ k,(∀ a6 a7 a8 a9 b4 b5 b6,LeO (Dzx.j0 k a6 a7 a8 a9 b4 b5 b6) (Dzx.j0 (k+1) a6 a7 a8 a9 b4 b5 b6))
 | 0=>fun _ _ _ _ _ _ _ r h=>by simp [Dzx.j0] at h
 | k+1=>by
  have ih0:=Dzx.mono_l k
  ·intro a6 a7 a8 a9 b4 b5 b6;unfold Dzx.j0;have i0:=@Gzb.mono;have i1:=@Fzk.mono;exact mM
theorem Dzx.mono:∀ a6 a7 a8 k,LeO (Dzx.f k a6 a7 a8) (Dzx.f (k+1) a6 a7 a8):=by
 intro a6 a7 a8 k;have ih0:=Dzx.mono_l k;unfold Dzx.f;have i0:=@Gzb.mono;have i1:=@Fzk.mono;exact mM
def Dzx.T8:Bool × List (List Nat × List Nat):=(true,[([],[]),([0],[0]),([],[]),([1,2],[1,2]),([3],[3]),([],[]),([4,5],[4,5]),([6],[6]),([6],[6]),([7,6,0,1,2,3,4,5,6,7,8],[7]),([8,9,0,1,2,3,4,5,6,7,8,9],[8])])
def Dzx.B8:List Nat:=[0,1,0,7,15,0,63,127,127,511,1023]
theorem Dzx.EW:ik .any (opsOf Try.f25 8)=Dzx.T8:=by kernel_rfl
theorem Dzx.EM:gM Dzx.T8.2 Dzx.B8=true:=by kernel_rfl
theorem Dzx.calls (k:Nat) (a6:Int) (a7:Option Addr) (a8:Nat) (a9:List (S33)) (b4:Int) (b5:Bool) (b6:List Int) (b7:List Int) (b8:Int) (w:World) (b9:Kd.C k33 w a7 a9.length a9) (d6:a9.length≤a8) (h:Dzx.f k a6 a9 b4=some (b5,b6,b7,b8)) :
  Calls Try.prog 25 #[.agg #[.int .i64 a6,.slice a7 a9.length a8],.int .i64 b4] w fun e w'=>∃ v1_ v2_:Value,e=.returned (.tuple #[.agg #[.bool b5,v1_,v2_],.int .i64 b8])∧rI w' w (oV v2_) v1_ b6∧rI w' w (oV v1_) v2_ b7∧bw w w':=by
 have hu24:=Try.underlying24;have hu33:=Try.underlying33;have d7:=aM b9;have d8:=aM d6;clear b9 d6;have HB:=aM (Below.refl w.heap.size w);have H:((Fzk.f k a6 a9).bind fun d9=>(if d9.2.2.2=0 then(if b4 < 0 then(Dzx.j0 k b4 true a6 a9 d9.1 d9.2.1 d9.2.2.1) else(Dzx.j0 k b4 (decide (b4≥(a9.length:Int))) a6 a9 d9.1 d9.2.1 d9.2.2.1)) else(some (false,([]:List Int),([]:List Int),d9.2.2.2))))=some (b5,b6,b7,b8):=h
 clear h;obtain⟨⟨e6,e7,f6,f7⟩,f8,H⟩:=bT H;(try dsimp only at H);have g5:=aM H;clear H;go_enter Try.func25,Try.ntmps25
 go_upto_if 14 with (first|((with_reducible refine gd 2 rfl ?_);refine bxg #[.int .i64 a6,.slice a7 a9.length a8] 24 ?_;intro g8 hg g9 j3 hb;have j4:=gA w hg;replace HB:=bB hb;clear hb hg)|((with_reducible refine gd 4 rfl ?_);refine bzg 33 ?_;intro j6 hg j7 j8 hb;have j9:=gA w hg;have l6:=nl hg j3;have l7:=ng hg j3;replace j3:=kb j3 hb;replace HB:=bB hb;clear hb hg;have l8:=l6.out;have l9:=l7.out;obtain⟨m0,m4,m5,m6⟩:=bk2 j3)|((with_reducible refine gc 14 rfl ?_);refine gC 14 (some 10) Try.func14 #[.agg #[.int .i64 a6,.slice a7 a9.length a8]] ?_;(with_reducible refine(Fzk.calls k a6 _ _ a9 e6 e7 f6 f7 _ ?_ ?_ f8.out).mono ?_);exact cB d7;exact d8.out;rintro e m7 ⟨m8,m9,rfl,n0,n7,hb⟩;refine⟨_,rfl,?_⟩;have n8:=rL n0;have n9:=rL n7;replace j3:=kb j3 hb;replace j8:=kb j8 hb;replace HB:=bB hb;clear hb n0 n7)|((with_reducible refine gd 6 rfl ?_);refine bzg 33 ?_;intro o0 hg o8 o9 hb;have p9:=gA w hg;have r7:=nl hg j3;have r8:=ng hg j3;have r9:=nl hg j8;have t4:=ng hg j8;replace n8:=rB n8 hb;replace n9:=rB n9 hb;replace j3:=kb j3 hb;replace j8:=kb j8 hb;replace HB:=bB hb;clear hb hg;have t5:=r8.out;have t6:=r7.out;have t7:=t4.out;have t8:=r9.out;obtain⟨t9,z3,z4,z5,z6,z7⟩:=bk3 o9;obtain⟨z8,z9,rfl⟩:=Kd.aj n8.out;obtain⟨B0,B5,rfl⟩:=Kd.aj n9.out))
 have H:=g5.out;clear g5;replace H:=iE H;rcases H with⟨C0,C1,H⟩|⟨B9,C0,C1,H⟩
 ·(first|rw[C0]|(simp only[aH,bg];rw[C0])|skip)
  have C2:=aM H;clear H;go_upto_region 4 with (fail)
  go_cut [25] (fun C3 wc=>∃ (kq:Nat) (C4:Bool),C3=.bool C4∧ae (Dzx.j0 kq b4 C4 a6 a9 e6 e7 f6=some (b5,b6,b7,b8))∧ae (kq≤k)∧ae (rI wc w (fun k_=>oN B0 f6.length B5 k_) (.slice z8 e7.length z9) e7)∧ae (rI wc w (fun k_=>oN z8 e7.length z9 k_) (.slice B0 f6.length B5) f6)∧ae (wc.heap[g8]?=some (.cells #[.int .i64 a6,(.slice a7 a9.length a8)] 24 (0,0)))∧ae (wc.heap[j6]?=some (.cells #[.bool false,(.slice none 0 0),(.slice none 0 0)] 33 (0,0)))∧ae (wc.heap[o0]?=some (.cells #[.bool e6,(.slice z8 e7.length z9),(.slice B0 f6.length B5)] 33 (0,0)))∧ae (bw w wc))
  case first =>
   have H:=C2.out;clear C2;replace H:=iD H;rcases H with⟨C7,H⟩|⟨C7,H⟩
   ·(first|rw[C7]|(simp only[aH,bg];rw[C7])|skip)
    have H':=aM H;clear H;go_wp2
    go_meet
    case rel=>exact⟨_,(true),sD,H',⟨by first|omega|exact Nat.le_refl _⟩,⟨by exact Kd.ah (rT n8 o9) (fun _ hk=>hk)⟩,⟨by exact Kd.ah (rT n9 o9) (fun _ hk=>hk)⟩,⟨by exact kf j3 r7⟩,⟨by exact kf j8 r9⟩,⟨by exact kQ o9⟩,⟨pB⟩⟩
   ·(first|rw[C7]|(simp only[aH,bg];rw[C7])|skip)
    have H':=aM H;clear H;have C8:=l6.out;have C9:=l7.out;have D4:=r7.out;have D5:=r8.out;obtain⟨D6,D7,D8,D9⟩:=bk2 j3;go_wp2
    go_meet
    case rel=>exact⟨_,(decide (b4≥(a9.length:Int))),sD,H',⟨by first|omega|exact Nat.le_refl _⟩,⟨by exact Kd.ah (rT n8 o9) (fun _ hk=>hk)⟩,⟨by exact Kd.ah (rT n9 o9) (fun _ hk=>hk)⟩,⟨by exact kf j3 r7⟩,⟨by exact kf j8 r9⟩,⟨by exact kQ o9⟩,⟨pB⟩⟩
  case rest =>
   clear C2;try clear E0
   obtain⟨kq,C4,rfl,HA,E1,E2,E3,j3,j8,o9,HB⟩:=hcut;cases kq with
   | zero=>exact absurd HA.out (by simp [Dzx.j0])
   | succ E4 =>
    have H:=HA.out;clear HA;simp only[Dzx.j0] at H;by_cases E5:C4=true
    ·subst E5;rw[if_pos rfl] at H;obtain⟨rfl,rfl,rfl,rfl⟩:=q4 H;have E6:=l7.out;have E7:=l6.out;have E8:=r9.out;have E9:=t4.out;obtain⟨F0,F2,F3,F4,F5,F6⟩:=bk3 j8;go_wp2
     refine rC j6 33 #[.bool false,.slice none 0 0,.slice none 0 0] (kQ j8) Try.underlying33 ?_
     exact⟨_,_,eW,nK,nK,pB⟩
    ·obtain rfl:=bN E5;rw[if_neg nF] at H
     replace H:=iE H;rcases H with⟨F8,F9,H⟩|⟨F7,F8,F9,H⟩
     ·obtain⟨rfl,rfl,rfl,rfl⟩:=q4 H;have G5:=r8.out;have G9:=r7.out;have H5:=t4.out;have H6:=r9.out;obtain⟨H7,H8,H9,I0,I3,I4⟩:=bk3 o9;have I5:=l7.out;have I6:=l6.out;obtain⟨I7,I8,I9,J0,J1,J2⟩:=bk3 j8;go_wp2
      refine rC j6 33 #[.bool false,.slice none 0 0,.slice none 0 0] (kQ j8) Try.underlying33 ?_
      exact⟨_,_,eW,nK,nK,pB⟩
     ·have J3:¬ (e7=[]):=fun h_=>F7 (by rw[h_];rfl)
      obtain⟨J4,H⟩:=iN H;obtain⟨J5,H⟩:=iN H;replace H:=bS H;obtain⟨⟨J6,J7,J8,J9⟩,K0,H⟩:=H;replace H:(some (J6,J7,J8,J9))=some (b5,b6,b7,b8):=H;have K1:=aM K0;clear K0;obtain⟨rfl,rfl,rfl,rfl⟩:=q4 H;have K2:=r8.out;have K3:=r7.out;have K4:=t4.out;have K5:=r9.out;obtain⟨K6,K7,K8,K9,L0,L8⟩:=bk3 o9;try go_wp2
      have n0_:=aM (Kd.eZ E2.out);have n1_:=aM (Kd.eZ E3.out);have n2_:=aM (az j3.out);have n3_:=aM (az j8.out);have n4_:=aM (az o9.out);have n5_:=aM (dA HB.out);clear E2 E3 j3 j8 o9 HB;have E2:=n0_;have E3:=n1_;have j3:=n2_;have j8:=n3_;have o9:=n4_;have HB:=n5_;clear n0_ n1_ n2_ n3_ n4_ n5_;obtain⟨L9,M0,M3,M4,M5,M6,M7,M8,M9,N0,N1,N2,N3⟩:=gT d7.out b4 (oE aS) (oE aS);have N4:=M9;have N5:=M8;have N6:=M7;cases M6
      replace M7:=hB HB M7;replace M8:=hB HB M8;replace M9:=hB HB M9;have N7:=aM N1;have N8:=aM N0;clear N1 N0;have N9:=aM N3;have O0:=aM N2;clear N3 N2;have O1:=eT (b4);have O2:=eU (b4) a9.length;refine gz (n:=11) (S:=fun w'=>w'.cell? ⟨g8,0,none⟩=some (.int .i64 a6)∧w'.cell? ⟨g8,1,none⟩=some (.slice (some L9) a9.length a8)∧w'.cell? ⟨o0,0,none⟩=some (.bool e6)∧w'.cell? ⟨o0,1,none⟩=some (.slice z8 e7.length z9)∧w'.cell? ⟨o0,2,none⟩=some (.slice B0 f6.length B5)∧w'.cell? (L9.add ((b4).toNat * 3))=some (.bool ((ag a9 b4).f0))∧w'.cell? ⟨(L9.add ((b4).toNat * 3)).block,(L9.add ((b4).toNat * 3)).off+1,none⟩=some (.slice M0 ((ag a9 b4).f1).length M3)∧w'.cell? ⟨(L9.add ((b4).toNat * 3)).block,(L9.add ((b4).toNat * 3)).off+2,none⟩=some (.slice M4 ((ag a9 b4).f2).length M5)) (ds:=[]) (bA 11 0) (by kernel_rfl) rfl rfl ⟨(af j3.out 0).trans rfl,(af j3.out 1).trans rfl,(af o9.out 0).trans rfl,(af o9.out 1).trans rfl,(af o9.out 2).trans rfl,(hB HB N6),(hB HB N5),(hB HB N4)⟩ (fun hHeld=>?_);refine fF Dzx.EW Dzx.EM (fun HT_ HW_=>?_)
      generalize wc.drew=O3 at E2 E3 j3 j8 o9 HB N7 N9 M7 M8 M9 hHeld ⊢;refine pS 0 32 HT_ ?_;refine pS 2 34 HT_ ?_;refine tU 1 33 HT_ HW_ hHeld ?_;refine pS 3 35 HT_ ?_;refine tU 4 36 HT_ HW_ hHeld ?_;refine tU 5 37 HT_ HW_ hHeld ?_;refine oU 6 (some 38) HT_ fun K hK=>?_
      refine eH Try.func52 (by kernel_rfl) rfl #[.agg #[.bool ((ag a9 b4).f0),.slice M0 ((ag a9 b4).f1).length M3,.slice M4 ((ag a9 b4).f2).length M5],.agg #[.bool e6,.slice z8 e7.length z9,.slice B0 f6.length B5]] (by rfl) rfl rfl mA ?_
      with_reducible refine(Gzb.calls E4 ((ag a9 b4).f0) (fun k_=>k_ < w.heap.size) _ _ ((ag a9 b4).f1) (fun k_=>k_ < w.heap.size) _ _ ((ag a9 b4).f2) e6 (fun k_=>some k_=(.slice z8 e7.length z9:Value).ownBlock) _ _ e7 (fun k_=>some k_=(.slice B0 f6.length B5:Value).ownBlock) _ _ f6 J6 J7 J8 J9 _ ?side1 ?side2 ?side3 ?side4 K1.out).mono ?_
      (case side1=>exact Kd.jI N8.out (Kd.eX (Kd.C_F (Kd.dZ .i64) N7.out) pB))
      (case side2=>exact Kd.jI O0.out (Kd.eX (Kd.C_F (Kd.dZ .i64) N9.out) pB))
      (case side3=>exact Kd.R_V (Kd.dJ rfl (Kd.aA (Kd.aA (Kd.aA (E2.out) j3.out (by decide)) j8.out (by decide)) o9.out (by decide))))
      (case side4=>exact Kd.R_V (Kd.dJ rfl (Kd.aA (Kd.aA (Kd.aA (E3.out) j3.out (by decide)) j8.out (by decide)) o9.out (by decide))))
      rintro e O4 ⟨O5,O6,rfl,n0,n7,hb⟩;refine⟨_,rfl,?_⟩;have n0_:=rO E2 hb n0 n7
      have n1_:=rO E3 hb n0 n7
      have n2_:=rL (rn (rn (Kd.ah (ok':=fun k_=>oV O6 k_) n0 (fun _ hk_=>hk_.2)) E2) E3)
      have n3_:=rL (rn (rn (Kd.ah (ok':=fun k_=>oV O5 k_) n7 (fun _ hk_=>hk_.2)) E2) E3)
      have n4_:=kb j3 hb;have n5_:=kb j8 hb;have n6_:=kb o9 hb;have n7_:=bB hb;clear E2 E3 j3 j8 o9 HB;have E2:=n0_;have E3:=n1_;have O7:=n2_;have O8:=n3_;have j3:=n4_;have j8:=n5_;have o9:=n6_;have HB:=n7_;clear n0_ n1_ n2_ n3_ n4_ n5_ n6_ n7_;(try clear hb)
      (try clear O9)
      (try clear hk)
      (try clear hi)
      (try clear n0)
      (try clear n7)
      obtain⟨P0,P3,P4⟩:=Kd.aj O7.out;(first|subst P4|(injection P4 with f1_ f2_ f3_;have f4_:=f1_.symm;have f5_:=f3_.symm;clear f1_ f2_ f3_;subst f4_;subst f5_))
      obtain⟨P5,P6,P7⟩:=Kd.aj O8.out;(first|subst P7|(injection P7 with f1_ f2_ f3_;have f4_:=f1_.symm;have f5_:=f3_.symm;clear f1_ f2_ f3_;subst f4_;subst f5_))
      refine hK.out _ _ ⟨(af j3.out 0).trans rfl,(af j3.out 1).trans rfl,(af o9.out 0).trans rfl,(af o9.out 1).trans rfl,(af o9.out 2).trans rfl,(hB HB N6),(hB HB N5),(hB HB N4)⟩ (fun hHeld=>?_)
      clear hK K;refine nm 38 ?_;refine pS 7 39 HT_ ?_;refine pS 8 40 HT_ ?_;refine oU 9 none HT_ fun K hK=>?_
      have P8:O4.cell? ⟨j6,0,none⟩=some (.bool false):=(af j8.out 0).trans rfl;have hfs40:=bO j8.out 0;have hns40_0:=l6.out;have hns40_2:=t4.out;have hms40_0:=l7.out;have hms40_2:=r9.out;have P9:O4.cell? ⟨j6,1,none⟩=some (.slice none 0 0):=(af j8.out 1).trans rfl;have hfs42:=bO j8.out 1;have hns42_0:=l6.out;have hns42_2:=t4.out;have hms42_0:=l7.out;have hms42_2:=r9.out;have Q0:O4.cell? ⟨j6,2,none⟩=some (.slice none 0 0):=(af j8.out 2).trans rfl;have hfs44:=bO j8.out 2;have hns44_0:=l6.out;have hns44_2:=t4.out;have hms44_0:=l7.out;have hms44_2:=r9.out;refine iY (w1:=?_) (by rfl) rfl ?_ ?_
      rotate_left
      ·go_simp
       rfl
      refine hK.out _ _ ⟨((cell_far (p:=⟨j6,_,none⟩) l6.out _).trans (((cell_far (p:=⟨j6,_,none⟩) l6.out _).trans (((cell_far (p:=⟨j6,_,none⟩) l6.out _).trans (hHeld.1)))))),((cell_far (p:=⟨j6,_,none⟩) l6.out _).trans (((cell_far (p:=⟨j6,_,none⟩) l6.out _).trans (((cell_far (p:=⟨j6,_,none⟩) l6.out _).trans (hHeld.2.1)))))),((cell_far (p:=⟨j6,_,none⟩) t4.out _).trans (((cell_far (p:=⟨j6,_,none⟩) t4.out _).trans (((cell_far (p:=⟨j6,_,none⟩) t4.out _).trans (hHeld.2.2.1)))))),((cell_far (p:=⟨j6,_,none⟩) t4.out _).trans (((cell_far (p:=⟨j6,_,none⟩) t4.out _).trans (((cell_far (p:=⟨j6,_,none⟩) t4.out _).trans (hHeld.2.2.2.1)))))),((cell_far (p:=⟨j6,_,none⟩) t4.out _).trans (((cell_far (p:=⟨j6,_,none⟩) t4.out _).trans (((cell_far (p:=⟨j6,_,none⟩) t4.out _).trans (hHeld.2.2.2.2.1)))))),((cell_far (p:=⟨j6,_,none⟩) (nC N6 j9) _).trans (((cell_far (p:=⟨j6,_,none⟩) (nC N6 j9) _).trans (((cell_far (p:=⟨j6,_,none⟩) (nC N6 j9) _).trans (hHeld.2.2.2.2.2.1)))))),((cell_far (p:=⟨j6,_,none⟩) (nC N5 j9) _).trans (((cell_far (p:=⟨j6,_,none⟩) (nC N5 j9) _).trans (((cell_far (p:=⟨j6,_,none⟩) (nC N5 j9) _).trans (hHeld.2.2.2.2.2.2.1)))))),((cell_far (p:=⟨j6,_,none⟩) (nC N4 j9) _).trans (((cell_far (p:=⟨j6,_,none⟩) (nC N4 j9) _).trans (((cell_far (p:=⟨j6,_,none⟩) (nC N4 j9) _).trans (hHeld.2.2.2.2.2.2.2))))))⟩ (fun hHeld=>?_)
      clear hK K;refine pS 10 5 HT_ ?_;refine gZ (il HT_.out (by kernel_rfl)) ?_
      try go_wp2
      refine rC j6 33 #[.bool J6,.slice P0 J7.length P3,.slice P5 J8.length P6] (kQ j8) Try.underlying33 ?_
      exact⟨_,_,eW,by exact Kd.ah (rT O7 j8) (fun _ hk=>hk.1.1),by exact Kd.ah (rT O8 j8) (fun _ hk=>hk.1.1),pB⟩
 ·(first|rw[C0]|(simp only[aH,bg];rw[C0])|skip)
  obtain⟨rfl,rfl,rfl,rfl⟩:=q4 H;have Q1:=l7.out;have Q2:=l6.out;have Q3:=r9.out;have Q4:=t4.out;obtain⟨Q5,Q6,Q7,Q8,Q9,R0⟩:=bk3 j8;go_wp2
  refine rC j6 33 #[.bool false,.slice none 0 0,.slice none 0 0] (by refine bD ?_;refine au (cs:=#[.bool false,.slice none 0 0,.slice none 0 0]) ?_ 2 _ rfl;refine bD ?_;refine au (cs:=#[.bool false,.slice none 0 0,.slice none 0 0]) ?_ 1 _ rfl;refine bD ?_;refine au (cs:=#[.bool false,.slice none 0 0,.slice none 0 0]) ?_ 0 _ rfl;refine bD ?_;refine av ?_ r9.out _;refine bD ?_;refine av ?_ r9.out _;refine bD ?_;refine av ?_ r9.out _;(with_reducible repeat(first|refine cK ?_ _|refine az ?_|refine aK ?_ _));exact j8.out) Try.underlying33 ?_
  exact⟨_,_,eW,nK,nK,pB⟩

end Go.Proofs.Ytbnpcplckcipfaa.Print
