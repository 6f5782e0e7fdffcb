import Derived.Test.YtbnpcplckcipfaaPrint0
import Derived.Test.YtbnpcplckcipfaaPrint15
import Derived.Test.YtbnpcplckcipfaaPrint20
import Derived.Test.YtbnpcplckcipfaaPrint10
namespace Go.Proofs.Ytbnpcplckcipfaa.Print
open Go.RowKit Go.Proofs.YtbnpcplckcipfaaW.PrintWords Go.Proofs.YtbnpcplckcipfaaW.PrintLast Go.Proofs.YtbnpcplckcipfaaW.PrintMore
attribute [local go_sem] max2_int min2_int max_two min_two max_three min_three max_four min_four
set_option linter.unusedVariables false
set_option maxRecDepth 100000
set_option maxHeartbeats 8000000
set_option linter.unusedSimpArgs false

def rat_cmpR (a b:Bool) (c:Int):Int:=if(a && !b)=true then -1 else if(b && !a)=true then 1 else if a=true then wrap64 (-c) else c
def Fzp.f (k:Nat) (a0_0:Bool) (l0_1:List Int) (l0_2:List Int) (a1_0:Bool) (l1_1:List Int) (l1_2:List Int):Option (Int × Int):=(Czw.f k (([(⟨a0_0,l0_1,l0_2⟩:S33),(⟨a1_0,l1_1,l1_2⟩:S33)]:List (S33)))).bind fun t406=>(if t406=true then((Ezk.f () l0_1 l1_2).bind fun t409=>((Ezk.f () l1_1 l0_2).bind fun t410=>((Dzv.f k l0_1 l1_2 l1_1 l0_2).bind fun bt414=>(if bt414.1=0 then((Gzx.f k bt414.2.1 bt414.2.2).bind fun bt421=>(some (rat_cmpR a0_0 a1_0 bt421.1,0))) else(some (0,bt414.1)))))) else(some (0,3)))
theorem Fzp.mono:∀ a6 a7 a8 a9 b4 b5 k,LeO (Fzp.f k a6 a7 a8 a9 b4 b5) (Fzp.f (k+1) a6 a7 a8 a9 b4 b5):=by
 intro a6 a7 a8 a9 b4 b5 k;unfold Fzp.f;with_reducible repeat' first|exact Gzx.mono _ _ _|exact Dzv.mono _ _ _ _ _|exact Czw.mono _ _|exact LeO.refl _|refine LeO.ite ?_ ?_|refine LeO.bind ?_ (fun _=>?_)
def Fzp.T4:Bool × List (List Nat × List Nat):=(true,[([],[]),([0],[0]),([],[]),([2],[2]),([1,3],[1,3]),([],[]),([5],[5]),([],[]),([7],[7]),([6,8,4],[6,8]),([4,9],[4,9]),([10,9],[10]),([11,11,0,1,2,3,4,5,6,7,8,9,10,11],[11])])
def Fzp.B4:List Nat:=[0,1,0,4,15,0,32,0,128,511,1023,2047,4095]
theorem Fzp.tab4:rtab .any (opsOf Try.f38 4)=Fzp.T4:=by kernel_rfl
theorem Fzp.bits4:waitsOk Fzp.T4.2 Fzp.B4=true:=by kernel_rfl
theorem Fzp.callsV (k:Nat) (a6:Bool) (a7:Nat→Prop) (a8:Option Addr) (a9:Nat) (b4:List Int) (b5:Nat→Prop) (b6:Option Addr) (b7:Nat) (b8:List Int) (b9:Bool) (d6:Nat→Prop) (d7:Option Addr) (d8:Nat) (d9:List Int) (e6:Nat→Prop) (e7:Option Addr) (e8:Nat) (e9:List Int) (f4:Int) (f5:Int) (w:World) (f6:Kd.V (Kd.int .i64) 3 w w.heap.size (fun k_=>a7 k_) (.slice a8 b4.length a9) b4) (f7:Kd.V (Kd.int .i64) 3 w w.heap.size (fun k_=>b5 k_) (.slice b6 b8.length b7) b8) (f8:Kd.V (Kd.int .i64) 3 w w.heap.size (fun k_=>d6 k_) (.slice d7 d9.length d8) d9) (f9:Kd.V (Kd.int .i64) 3 w w.heap.size (fun k_=>e6 k_) (.slice e7 e9.length e8) e9) (h:Fzp.f k a6 b4 b8 b9 d9 e9=some (f4,f5)) :
  Calls Try.prog 38 #[.agg #[.bool a6,.slice a8 b4.length a9,.slice b6 b8.length b7],.agg #[.bool b9,.slice d7 d9.length d8,.slice e7 e9.length e8]] w fun e w'=>e=.returned (.tuple #[.int .i64 f4,.int .i64 f5])∧bw w w':=by
 have hu33:=Try.underlying33;have g4:=aM (show Kd.V (Kd.int .i64) 3 w w.heap.size (fun k_=>((a7 k_∨b5 k_∨d6 k_∨e6 k_)∨w.heap.size≤k_)) (.slice a8 b4.length a9) b4 from Kd.V_mono f6 (fun k_ hk=>.inl (.inl hk)))
 have g5:=aM (show Kd.V (Kd.int .i64) 3 w w.heap.size (fun k_=>((a7 k_∨b5 k_∨d6 k_∨e6 k_)∨w.heap.size≤k_)) (.slice b6 b8.length b7) b8 from Kd.V_mono f7 (fun k_ hk=>.inl (.inr (.inl hk))))
 have g6:=aM (show Kd.V (Kd.int .i64) 3 w w.heap.size (fun k_=>((a7 k_∨b5 k_∨d6 k_∨e6 k_)∨w.heap.size≤k_)) (.slice d7 d9.length d8) d9 from Kd.V_mono f8 (fun k_ hk=>.inl (.inr (.inr (.inl hk)))))
 have g7:=aM (show Kd.V (Kd.int .i64) 3 w w.heap.size (fun k_=>((a7 k_∨b5 k_∨d6 k_∨e6 k_)∨w.heap.size≤k_)) (.slice e7 e9.length e8) e9 from Kd.V_mono f9 (fun k_ hk=>.inl (.inr (.inr (.inr hk)))))
 have HB:=aM (Below.refl w.heap.size w);have H:((Czw.f k (([(⟨a6,b4,b8⟩:S33),(⟨b9,d9,e9⟩:S33)]:List (S33)))).bind fun g8=>(if g8=true then((Ezk.f () b4 e9).bind fun g9=>((Ezk.f () d9 b8).bind fun j3=>((Dzv.f k b4 e9 d9 b8).bind fun j4=>(if j4.1=0 then((Gzx.f k j4.2.1 j4.2.2).bind fun j5=>(some (rat_cmpR a6 b9 j5.1,0))) else(some (0,j4.1)))))) else(some (0,3))))=some (f4,f5):=h
 clear h;obtain⟨j6,j7⟩:∃ y_:List (S33),y_=(([(⟨a6,b4,b8⟩:S33),(⟨b9,d9,e9⟩:S33)]:List (S33))):=⟨_,rfl⟩;replace H:((Czw.f k j6).bind fun g8=>(if g8=true then((Ezk.f () b4 e9).bind fun g9=>((Ezk.f () d9 b8).bind fun j3=>((Dzv.f k b4 e9 d9 b8).bind fun j4=>(if j4.1=0 then((Gzx.f k j4.2.1 j4.2.2).bind fun j5=>(some (rat_cmpR a6 b9 j5.1,0))) else(some (0,j4.1)))))) else(some (0,3))))=some (f4,f5):=yE j7 H
 have j8:=aM j7;clear j7;obtain⟨g8,j9,H⟩:=bT H;(try dsimp only at H);by_cases c4:g8=true
 ·subst c4;rw[if_pos rfl] at H;obtain⟨g9,l5,H⟩:=bT H;(try dsimp only at H);obtain⟨j3,l6,H⟩:=bT H;(try dsimp only at H);obtain⟨l7,l8⟩:∃ y_:List Int,y_=(([g9,j3]:List Int)):=⟨_,rfl⟩;replace H:((Dzv.f k b4 e9 d9 b8).bind fun j4=>(if j4.1=0 then((Gzx.f k j4.2.1 j4.2.2).bind fun j5=>(some (rat_cmpR a6 b9 j5.1,0))) else(some (0,j4.1))))=some (f4,f5):=yE l8 H
  have l9:=aM l8;clear l8;obtain⟨⟨m0,m4,m5⟩,m6,H⟩:=bT H;(try dsimp only at H);replace H:=iE H;rcases H with⟨m7,m8,H⟩|⟨c8,m7,m8,H⟩
  ·replace H:=bS H;obtain⟨⟨m9,n0⟩,n7,H⟩:=H;replace H:(some (rat_cmpR a6 b9 m9,0))=some (f4,f5):=H;have n8:=aM n7;clear n7;simp only[Option.some.injEq,Prod.mk.injEq] at H;obtain⟨n9,rfl⟩:=H;have HRR:=aM n9;clear n9;go_enter Try.func38,Try.ntmps38
   try go_wp2_with (first|((with_reducible refine gd 2 rfl ?_);refine bx #[.bool a6,.slice a8 b4.length a9,.slice b6 b8.length b7] 33 ?_;intro o0 hg o8 o9 hb;have p0:=gA w hg;replace g4:=vG g4 hg hb;replace g5:=vG g5 hg hb;replace g6:=vG g6 hg hb;replace g7:=vG g7 hg hb;replace HB:=bB hb;clear hb hg)|((with_reducible refine gd 3 rfl ?_);refine bx #[.bool b9,.slice d7 d9.length d8,.slice e7 e9.length e8] 33 ?_;intro p7 hg p9 r5 hb;have r6:=gA w hg;have r8:=nl hg o9;have r9:=ng hg o9;replace g4:=vG g4 hg hb;replace g5:=vG g5 hg hb;replace g6:=vG g6 hg hb;replace g7:=vG g7 hg hb;replace o9:=kb o9 hb;replace HB:=bB hb;clear hb hg;have t4:=r8.out;have t5:=r9.out;obtain⟨t6,t7,t8,t9,z3,z4⟩:=bk3 o9;obtain⟨z5,z6,z7,z8,z9,B0⟩:=bk3 r5)|((with_reducible refine gate_dst (N:=13) rfl ?_);refine Kd.N_lit k33 _ 33 ?hg (N':=13) ?hd (xs:=([(⟨a6,b4,b8⟩:S33),(⟨b9,d9,e9⟩:S33)]:List (S33))) (inner:=[.bool a6,.slice a8 b4.length a9,.slice b6 b8.length b7,.bool b9,.slice d7 d9.length d8,.slice e7 e9.length e8]) (ok:=(fun k_=>((a7 k_∨b5 k_∨d6 k_∨e6 k_)∨w.heap.size≤k_)∧k_≠o0∧k_≠p7)) (okp:=(fun k_=>((a7 k_∨b5 k_∨d6 k_∨e6 k_)∨w.heap.size≤k_)∧k_≠o0∧k_≠p7)) ?hr ?hp (fun _ hk=>hk) ((show ∀ k_,p9.heap.size≤k_→(fun k_=>((a7 k_∨b5 k_∨d6 k_∨e6 k_)∨w.heap.size≤k_)∧k_≠o0∧k_≠p7) k_ from fun k_ hk=>⟨(.inr (Nat.le_trans (below_size pB) hk)),fB o9 hk,fB r5 hk⟩) _ (Nat.le_refl _)) (Below.refl _ _) (Nat.le_refl _) (by simp) ?_;(case hd=>rfl);(case hg=>rfl);(case hr=>first|(go_simp;done)|(go_simp;rfl));(case hp=>exact(Reps.c3 (show Kd.FK k33 _ _ (⟨a6,b4,b8⟩:S33) [.bool a6,.slice a8 b4.length a9,.slice b6 b8.length b7] from(k33_mkF _ _ (⟨a6,b4,b8⟩:S33) (Kd.V_reads' (Kd.V_mono (ok':=(fun k_=>((a7 k_∨b5 k_∨d6 k_∨e6 k_)∨w.heap.size≤k_)∧k_≠o0∧k_≠p7)) (g4.out) (fun k_ hk=>⟨hk.1.1,⟨hk.1.2,hk.2⟩⟩))).2.1 (Kd.V_F (Kd.V_mono (ok':=(fun k_=>((a7 k_∨b5 k_∨d6 k_∨e6 k_)∨w.heap.size≤k_)∧k_≠o0∧k_≠p7)) (g4.out) (fun k_ hk=>⟨hk.1.1,⟨hk.1.2,hk.2⟩⟩))) (Kd.V_reads' (Kd.V_mono (ok':=(fun k_=>((a7 k_∨b5 k_∨d6 k_∨e6 k_)∨w.heap.size≤k_)∧k_≠o0∧k_≠p7)) (g5.out) (fun k_ hk=>⟨hk.1.1,⟨hk.1.2,hk.2⟩⟩))).2.1 (Kd.V_F (Kd.V_mono (ok':=(fun k_=>((a7 k_∨b5 k_∨d6 k_∨e6 k_)∨w.heap.size≤k_)∧k_≠o0∧k_≠p7)) (g5.out) (fun k_ hk=>⟨hk.1.1,⟨hk.1.2,hk.2⟩⟩))))) (Reps.c3 (show Kd.FK k33 _ _ (⟨b9,d9,e9⟩:S33) [.bool b9,.slice d7 d9.length d8,.slice e7 e9.length e8] from(k33_mkF _ _ (⟨b9,d9,e9⟩:S33) (Kd.V_reads' (Kd.V_mono (ok':=(fun k_=>((a7 k_∨b5 k_∨d6 k_∨e6 k_)∨w.heap.size≤k_)∧k_≠o0∧k_≠p7)) (g6.out) (fun k_ hk=>⟨hk.1.1,⟨hk.1.2,hk.2⟩⟩))).2.1 (Kd.V_F (Kd.V_mono (ok':=(fun k_=>((a7 k_∨b5 k_∨d6 k_∨e6 k_)∨w.heap.size≤k_)∧k_≠o0∧k_≠p7)) (g6.out) (fun k_ hk=>⟨hk.1.1,⟨hk.1.2,hk.2⟩⟩))) (Kd.V_reads' (Kd.V_mono (ok':=(fun k_=>((a7 k_∨b5 k_∨d6 k_∨e6 k_)∨w.heap.size≤k_)∧k_≠o0∧k_≠p7)) (g7.out) (fun k_ hk=>⟨hk.1.1,⟨hk.1.2,hk.2⟩⟩))).2.1 (Kd.V_F (Kd.V_mono (ok':=(fun k_=>((a7 k_∨b5 k_∨d6 k_∨e6 k_)∨w.heap.size≤k_)∧k_≠o0∧k_≠p7)) (g7.out) (fun k_ hk=>⟨hk.1.1,⟨hk.1.2,hk.2⟩⟩))))) (Reps.none _ _))));intro B5 B9 C0 hb hg_ hnew_;clear hg_ hnew_;replace C0:=nY j8 C0;have C1:=aM (Kd.N_lower C0 (below_size pB));replace g4:=aM (Kd.V_elder' (vX g4.out) (Kd.N_base C0) hb);replace g5:=aM (Kd.V_elder' (vX g5.out) (Kd.N_base C0) hb);replace g6:=aM (Kd.V_elder' (vX g6.out) (Kd.N_base C0) hb);replace g7:=aM (Kd.V_elder' (vX g7.out) (Kd.N_base C0) hb);replace o9:=kb o9 hb;replace r5:=kb r5 hb;replace HB:=bB hb;clear hb C0;obtain⟨C2,C3,rfl⟩:=Kd.N_slice C1.out)|((with_reducible refine gc 62 rfl ?_);refine gC 62 (some 14) Try.func62 #[.slice C2 j6.length C3] ?_;(with_reducible refine(Czw.calls k _ _ j6 true _ ?_ ?_ j9.out).mono ?_);exact cN C1;exact lN C1;rintro e C4 ⟨rfl,hb⟩;refine⟨_,rfl,?_⟩;replace g4:=vB g4 hb;replace g5:=vB g5 hb;replace g6:=vB g6 hb;replace g7:=vB g7 hb;replace C1:=nB C1 hb;replace o9:=kb o9 hb;replace r5:=kb r5 hb;replace HB:=bB hb;clear hb)|((with_reducible refine gd 6 rfl ?_);refine bx #[.slice none 0 0] 31 ?_;intro C6 hg C7 C8 hb;have C9:=gA w hg;have D3:=nl hg o9;have D4:=ng hg o9;have D5:=nl hg r5;have D6:=ng hg r5;replace g4:=vG g4 hg hb;replace g5:=vG g5 hg hb;replace g6:=vG g6 hg hb;replace g7:=vG g7 hg hb;replace C1:=nG' C1 hg hb;replace o9:=kb o9 hb;replace r5:=kb r5 hb;replace HB:=bB hb;clear hb hg)|((with_reducible refine gd 7 rfl ?_);refine bx #[.slice none 0 0] 31 ?_;intro D7 hg D8 D9 hb;have E0:=gA w hg;have E2:=nl hg o9;have E3:=ng hg o9;have E4:=nl hg r5;have E5:=ng hg r5;have E6:=nl hg C8;have E7:=ng hg C8;replace g4:=vG g4 hg hb;replace g5:=vG g5 hg hb;replace g6:=vG g6 hg hb;replace g7:=vG g7 hg hb;replace C1:=nG' C1 hg hb;replace o9:=kb o9 hb;replace r5:=kb r5 hb;replace C8:=kb C8 hb;replace HB:=bB hb;clear hb hg))
   have n0_:=aM (Kd.V_drew g4.out);have n1_:=aM (Kd.V_drew g5.out);have n2_:=aM (Kd.V_drew g6.out);have n3_:=aM (Kd.V_drew g7.out);have n4_:=aM (Kd.N_drew C1.out);have n5_:=aM (blk_drew o9.out);have n6_:=aM (blk_drew r5.out);have n7_:=aM (blk_drew C8.out);have n8_:=aM (blk_drew D9.out);have n9_:=aM (below_drew1 HB.out);clear g4 g5 g6 g7 C1 o9 r5 C8 D9 HB;have g4:=n0_;have g5:=n1_;have g6:=n2_;have g7:=n3_;have C1:=n4_;have o9:=n5_;have r5:=n6_;have C8:=n7_;have D9:=n8_;have HB:=n9_;clear n0_ n1_ n2_ n3_ n4_ n5_ n6_ n7_ n8_ n9_;refine start_ (n:=13) (S:=fun w'=>w'.cell? ⟨o0,0,none⟩=some (.bool a6)∧w'.cell? ⟨o0,1,none⟩=some (.slice a8 b4.length a9)∧w'.cell? ⟨o0,2,none⟩=some (.slice b6 b8.length b7)∧w'.cell? ⟨p7,0,none⟩=some (.bool b9)∧w'.cell? ⟨p7,1,none⟩=some (.slice d7 d9.length d8)∧w'.cell? ⟨p7,2,none⟩=some (.slice e7 e9.length e8)) (ds:=[]) (bA 13 0) (by kernel_rfl) rfl rfl ⟨(blk_cell o9.out 0).trans rfl,(blk_cell o9.out 1).trans rfl,(blk_cell o9.out 2).trans rfl,(blk_cell r5.out 0).trans rfl,(blk_cell r5.out 1).trans rfl,(blk_cell r5.out 2).trans rfl⟩ (fun hHeld=>?_);refine with_tabW Fzp.tab4 Fzp.bits4 (fun HT_ HW_=>?_)
   generalize D8.drew=E8 at g4 g5 g6 g7 C1 o9 r5 C8 D9 HB hHeld ⊢;refine pS 0 16 HT_ ?_;refine pS 2 18 HT_ ?_;refine pS 5 21 HT_ ?_;refine pS 7 23 HT_ ?_;refine tU 1 17 HT_ HW_ hHeld ?_;refine tU 3 19 HT_ HW_ hHeld ?_;refine tU 6 22 HT_ HW_ hHeld ?_;refine tU 8 24 HT_ HW_ hHeld ?_;refine oU 4 (some 20) HT_ fun K hK=>?_
   refine goes_ Try.func68 (by kernel_rfl) rfl #[.pointer (some ⟨C6,0,none⟩),.slice a8 b4.length a9,.slice e7 e9.length e8] (by rfl) rfl rfl mA ?_
   with_reducible refine(Ezk.calls C6 _ _ _ _ _ _ _ (blk_lt C8.out)).mono ?_
   rintro e E9 ⟨b1_,rfl,F0,F2,hb⟩;have F3:=aM (Nat.lt_of_lt_of_le (blk_lt D9.out) F2);refine⟨_,rfl,?_⟩;have F4:=aM F0;clear F0 F2;have n0_:=vB g4 hb
   have n1_:=vB g5 hb
   have n2_:=vB g6 hb
   have n3_:=vB g7 hb
   have n4_:=nB C1 hb
   have n5_:=kb o9 hb;have n6_:=kb r5 hb;have n7_:=kb C8 hb;have n8_:=kb D9 hb;have n9_:=bB hb;clear g4 g5 g6 g7 C1 o9 r5 C8 D9 HB;have g4:=n0_;have g5:=n1_;have g6:=n2_;have g7:=n3_;have C1:=n4_;have o9:=n5_;have r5:=n6_;have C8:=n7_;have D9:=n8_;have HB:=n9_;clear n0_ n1_ n2_ n3_ n4_ n5_ n6_ n7_ n8_ n9_;(try clear hb)
   (try clear F5)
   (try clear hk)
   (try clear hi)
   refine hK.out _ _ ⟨(blk_cell o9.out 0).trans rfl,(blk_cell o9.out 1).trans rfl,(blk_cell o9.out 2).trans rfl,(blk_cell r5.out 0).trans rfl,(blk_cell r5.out 1).trans rfl,(blk_cell r5.out 2).trans rfl⟩ (fun hHeld=>?_)
   clear hK K;refine nm 20 ?_;refine oU 9 (some 25) HT_ fun K hK=>?_
   refine goes_ Try.func68 (by kernel_rfl) rfl #[.pointer (some ⟨D7,0,none⟩),.slice d7 d9.length d8,.slice b6 b8.length b7] (by rfl) rfl rfl mA ?_
   with_reducible refine(Ezk.calls D7 _ _ _ _ _ _ _ (blk_lt D9.out)).mono ?_
   rintro e F6 ⟨b2_,rfl,F7,F8,hb⟩;have F9:=aM (Nat.lt_of_lt_of_le (blk_lt C8.out) F8);refine⟨_,rfl,?_⟩;replace F4:=aM (F4.out.below hb);have G5:=aM F7;clear F7 F8;have n0_:=vB g4 hb
   have n1_:=vB g5 hb
   have n2_:=vB g6 hb
   have n3_:=vB g7 hb
   have n4_:=nB C1 hb
   have n5_:=kb o9 hb;have n6_:=kb r5 hb;have n7_:=kb C8 hb;have n8_:=kb D9 hb;have n9_:=bB hb;clear g4 g5 g6 g7 C1 o9 r5 C8 D9 HB;have g4:=n0_;have g5:=n1_;have g6:=n2_;have g7:=n3_;have C1:=n4_;have o9:=n5_;have r5:=n6_;have C8:=n7_;have D9:=n8_;have HB:=n9_;clear n0_ n1_ n2_ n3_ n4_ n5_ n6_ n7_ n8_ n9_;(try clear hb)
   (try clear F5)
   (try clear hk)
   (try clear hi)
   refine hK.out _ _ ⟨(blk_cell o9.out 0).trans rfl,(blk_cell o9.out 1).trans rfl,(blk_cell o9.out 2).trans rfl,(blk_cell r5.out 0).trans rfl,(blk_cell r5.out 1).trans rfl,(blk_cell r5.out 2).trans rfl⟩ (fun hHeld=>?_)
   clear hK K;refine nm 25 ?_;refine oU 10 (some 26) HT_ fun K hK=>?_
   refine fun_lit_step ?hg (N:=26) ?hd (cs:=#[.func (.func (thkFn 96 b1_).1) #[] (thkFn 96 b1_).2,.func (.func (thkFn 96 b2_).1) #[] (thkFn 96 b2_).2]) (t:=80) (n:=2) ?hr ?_;(case hd=>rfl);(case hg=>rfl);(case hr=>first|(go_simp;done)|(go_simp;rfl))
   intro gF_ G9 hbox_ hb;have n0_:=vB g4 hb
   have n1_:=vB g5 hb
   have n2_:=vB g6 hb
   have n3_:=vB g7 hb
   have n4_:=nB C1 hb
   have n5_:=kb o9 hb;have n6_:=kb r5 hb;have n7_:=kb C8 hb;have n8_:=kb D9 hb;have n9_:=bB hb;clear g4 g5 g6 g7 C1 o9 r5 C8 D9 HB;have g4:=n0_;have g5:=n1_;have g6:=n2_;have g7:=n3_;have C1:=n4_;have o9:=n5_;have r5:=n6_;have C8:=n7_;have D9:=n8_;have HB:=n9_;clear n0_ n1_ n2_ n3_ n4_ n5_ n6_ n7_ n8_ n9_;replace F4:=aM (F4.out.below hb);replace G5:=aM (G5.out.below hb);have BKF:=aM hbox_;clear hbox_ hb;refine hK.out _ _ ⟨(blk_cell o9.out 0).trans rfl,(blk_cell o9.out 1).trans rfl,(blk_cell o9.out 2).trans rfl,(blk_cell r5.out 0).trans rfl,(blk_cell r5.out 1).trans rfl,(blk_cell r5.out 2).trans rfl⟩ (fun hHeld=>?_)
   clear hK K;refine nm 26 ?_;refine oU 11 (some 27) HT_ fun K hK=>?_
   refine goes_ Try.func67 (by kernel_rfl) rfl #[.slice (some ⟨gF_,0,none⟩) 2 2] (by rfl) rfl rfl mA ?_
   with_reducible refine(Dzv.calls k b1_ b2_ C6 D7 _ _ b4 _ _ e9 _ _ d9 _ _ b8 m0 m4 m5 gF_ _ w _ HB.out BKF.out F4.out G5.out C8.out D9.out E6.out C9.out E0.out F9.out F3.out ?sd1 (Kd.V_reads' g4.out).2.1 ?sd2 (Kd.V_reads' g7.out).2.1 ?sd3 (Kd.V_reads' g6.out).2.1 ?sd4 (Kd.V_reads' g5.out).2.1 m6.out).mono ?_
   (case sd1=>intro W_ hk_;exact V_keptC g4.out hk_ (by intro k_ hk_ hs_;rcases hs_ with rfl|rfl <;> simp at hk_))
   (case sd2=>intro W_ hk_;exact V_keptC g7.out hk_ (by intro k_ hk_ hs_;rcases hs_ with rfl|rfl <;> simp at hk_))
   (case sd3=>intro W_ hk_;exact V_keptC g6.out hk_ (by intro k_ hk_ hs_;rcases hs_ with rfl|rfl <;> simp at hk_))
   (case sd4=>intro W_ hk_;exact V_keptC g5.out hk_ (by intro k_ hk_ hs_;rcases hs_ with rfl|rfl <;> simp at hk_))
   rintro e H5 ⟨rfl,vp_,vq_,hF_⟩;refine⟨_,rfl,?_⟩;have HF:=aM hF_;replace o9:=aM (blk_kept o9.out HF.out.kept (fun e_=>e_.elim D3.out E2.out))
   replace r5:=aM (blk_kept r5.out HF.out.kept (fun e_=>e_.elim D5.out E4.out))
   replace C8:=aM HF.out.p;replace D9:=aM HF.out.q;replace HB:=aM HF.out.below;have HOp:=aM HF.out.rp;have HOq:=aM HF.out.rq;obtain⟨Ap_,cp_,ep_⟩:=Kd.R_slice HOp.out;subst ep_;obtain⟨Aq_,cq_,eq_⟩:=Kd.R_slice HOq.out;subst eq_;clear hF_ HF F4 G5 BKF;refine hK.out _ _ ⟨(blk_cell o9.out 0).trans rfl,(blk_cell o9.out 1).trans rfl,(blk_cell o9.out 2).trans rfl,(blk_cell r5.out 0).trans rfl,(blk_cell r5.out 1).trans rfl,(blk_cell r5.out 2).trans rfl⟩ (fun hHeld=>?_)
   clear hK K;refine nm 27 ?_;refine pS 12 8 HT_ ?_;refine done_ (done_of HT_.out (by kernel_rfl)) ?_
   obtain⟨hczA_0,hczA_1,hczA_2,hfzA_0,hfzA_1,hfzA_2⟩:=bk3 o9;obtain⟨hczB_0,hczB_1,hczB_2,hfzB_0,hfzB_1,hfzB_2⟩:=bk3 r5;obtain⟨H6,H7⟩:=bk1 C8;obtain⟨H8,H9⟩:=bk1 D9;cases a6 <;> cases b9 <;> (go_wp2_with (first|((with_reducible refine gc 69 rfl ?_);refine gC 69 (some 34) Try.func69 #[.slice Ap_ m4.length cp_,.slice Aq_ m5.length cq_] ?_;(with_reducible refine(Gzx.calls k _ _ m4 _ _ m5 m9 n0 _ ?_ ?_ ?_ ?_ n8.out).mono ?_);(focus(exact(Kd.R_reads' HOp.out).2.2));exact lR HOp;(focus(exact(Kd.R_reads' HOq.out).2.2));exact lR HOq;rintro e w' ⟨rfl,⟨nd,rfl⟩⟩;refine⟨_,rfl,?_⟩));go_ret2;exact⟨by rw[← HRR.out];first|rfl|(simp [rat_cmpR];done),pB⟩)
  ·obtain⟨rfl,rfl⟩:=q2 H;go_enter Try.func38,Try.ntmps38
   try go_wp2_with (first|((with_reducible refine gd 2 rfl ?_);refine bx #[.bool a6,.slice a8 b4.length a9,.slice b6 b8.length b7] 33 ?_;intro o0 hg I0 o9 hb;have p0:=gA w hg;replace g4:=vG g4 hg hb;replace g5:=vG g5 hg hb;replace g6:=vG g6 hg hb;replace g7:=vG g7 hg hb;replace HB:=bB hb;clear hb hg)|((with_reducible refine gd 3 rfl ?_);refine bx #[.bool b9,.slice d7 d9.length d8,.slice e7 e9.length e8] 33 ?_;intro p7 hg I3 r5 hb;have r6:=gA w hg;have r8:=nl hg o9;have r9:=ng hg o9;replace g4:=vG g4 hg hb;replace g5:=vG g5 hg hb;replace g6:=vG g6 hg hb;replace g7:=vG g7 hg hb;replace o9:=kb o9 hb;replace HB:=bB hb;clear hb hg;have I4:=r8.out;have I5:=r9.out;obtain⟨I6,I7,I8,I9,J0,J1⟩:=bk3 o9;obtain⟨J2,J3,J4,J5,J6,J7⟩:=bk3 r5)|((with_reducible refine gate_dst (N:=13) rfl ?_);refine Kd.N_lit k33 _ 33 ?hg (N':=13) ?hd (xs:=([(⟨a6,b4,b8⟩:S33),(⟨b9,d9,e9⟩:S33)]:List (S33))) (inner:=[.bool a6,.slice a8 b4.length a9,.slice b6 b8.length b7,.bool b9,.slice d7 d9.length d8,.slice e7 e9.length e8]) (ok:=(fun k_=>((a7 k_∨b5 k_∨d6 k_∨e6 k_)∨w.heap.size≤k_)∧k_≠o0∧k_≠p7)) (okp:=(fun k_=>((a7 k_∨b5 k_∨d6 k_∨e6 k_)∨w.heap.size≤k_)∧k_≠o0∧k_≠p7)) ?hr ?hp (fun _ hk=>hk) ((show ∀ k_,I3.heap.size≤k_→(fun k_=>((a7 k_∨b5 k_∨d6 k_∨e6 k_)∨w.heap.size≤k_)∧k_≠o0∧k_≠p7) k_ from fun k_ hk=>⟨(.inr (Nat.le_trans (below_size pB) hk)),fB o9 hk,fB r5 hk⟩) _ (Nat.le_refl _)) (Below.refl _ _) (Nat.le_refl _) (by simp) ?_;(case hd=>rfl);(case hg=>rfl);(case hr=>first|(go_simp;done)|(go_simp;rfl));(case hp=>exact(Reps.c3 (show Kd.FK k33 _ _ (⟨a6,b4,b8⟩:S33) [.bool a6,.slice a8 b4.length a9,.slice b6 b8.length b7] from(k33_mkF _ _ (⟨a6,b4,b8⟩:S33) (Kd.V_reads' (Kd.V_mono (ok':=(fun k_=>((a7 k_∨b5 k_∨d6 k_∨e6 k_)∨w.heap.size≤k_)∧k_≠o0∧k_≠p7)) (g4.out) (fun k_ hk=>⟨hk.1.1,⟨hk.1.2,hk.2⟩⟩))).2.1 (Kd.V_F (Kd.V_mono (ok':=(fun k_=>((a7 k_∨b5 k_∨d6 k_∨e6 k_)∨w.heap.size≤k_)∧k_≠o0∧k_≠p7)) (g4.out) (fun k_ hk=>⟨hk.1.1,⟨hk.1.2,hk.2⟩⟩))) (Kd.V_reads' (Kd.V_mono (ok':=(fun k_=>((a7 k_∨b5 k_∨d6 k_∨e6 k_)∨w.heap.size≤k_)∧k_≠o0∧k_≠p7)) (g5.out) (fun k_ hk=>⟨hk.1.1,⟨hk.1.2,hk.2⟩⟩))).2.1 (Kd.V_F (Kd.V_mono (ok':=(fun k_=>((a7 k_∨b5 k_∨d6 k_∨e6 k_)∨w.heap.size≤k_)∧k_≠o0∧k_≠p7)) (g5.out) (fun k_ hk=>⟨hk.1.1,⟨hk.1.2,hk.2⟩⟩))))) (Reps.c3 (show Kd.FK k33 _ _ (⟨b9,d9,e9⟩:S33) [.bool b9,.slice d7 d9.length d8,.slice e7 e9.length e8] from(k33_mkF _ _ (⟨b9,d9,e9⟩:S33) (Kd.V_reads' (Kd.V_mono (ok':=(fun k_=>((a7 k_∨b5 k_∨d6 k_∨e6 k_)∨w.heap.size≤k_)∧k_≠o0∧k_≠p7)) (g6.out) (fun k_ hk=>⟨hk.1.1,⟨hk.1.2,hk.2⟩⟩))).2.1 (Kd.V_F (Kd.V_mono (ok':=(fun k_=>((a7 k_∨b5 k_∨d6 k_∨e6 k_)∨w.heap.size≤k_)∧k_≠o0∧k_≠p7)) (g6.out) (fun k_ hk=>⟨hk.1.1,⟨hk.1.2,hk.2⟩⟩))) (Kd.V_reads' (Kd.V_mono (ok':=(fun k_=>((a7 k_∨b5 k_∨d6 k_∨e6 k_)∨w.heap.size≤k_)∧k_≠o0∧k_≠p7)) (g7.out) (fun k_ hk=>⟨hk.1.1,⟨hk.1.2,hk.2⟩⟩))).2.1 (Kd.V_F (Kd.V_mono (ok':=(fun k_=>((a7 k_∨b5 k_∨d6 k_∨e6 k_)∨w.heap.size≤k_)∧k_≠o0∧k_≠p7)) (g7.out) (fun k_ hk=>⟨hk.1.1,⟨hk.1.2,hk.2⟩⟩))))) (Reps.none _ _))));intro B5 J8 J9 hb hg_ hnew_;clear hg_ hnew_;replace J9:=nY j8 J9;have C1:=aM (Kd.N_lower J9 (below_size pB));replace g4:=aM (Kd.V_elder' (vX g4.out) (Kd.N_base J9) hb);replace g5:=aM (Kd.V_elder' (vX g5.out) (Kd.N_base J9) hb);replace g6:=aM (Kd.V_elder' (vX g6.out) (Kd.N_base J9) hb);replace g7:=aM (Kd.V_elder' (vX g7.out) (Kd.N_base J9) hb);replace o9:=kb o9 hb;replace r5:=kb r5 hb;replace HB:=bB hb;clear hb J9;obtain⟨K0,K1,rfl⟩:=Kd.N_slice C1.out)|((with_reducible refine gc 62 rfl ?_);refine gC 62 (some 14) Try.func62 #[.slice K0 j6.length K1] ?_;(with_reducible refine(Czw.calls k _ _ j6 true _ ?_ ?_ j9.out).mono ?_);exact cN C1;exact lN C1;rintro e K2 ⟨rfl,hb⟩;refine⟨_,rfl,?_⟩;replace g4:=vB g4 hb;replace g5:=vB g5 hb;replace g6:=vB g6 hb;replace g7:=vB g7 hb;replace C1:=nB C1 hb;replace o9:=kb o9 hb;replace r5:=kb r5 hb;replace HB:=bB hb;clear hb)|((with_reducible refine gd 6 rfl ?_);refine bx #[.slice none 0 0] 31 ?_;intro C6 hg K3 C8 hb;have C9:=gA w hg;have D3:=nl hg o9;have D4:=ng hg o9;have D5:=nl hg r5;have D6:=ng hg r5;replace g4:=vG g4 hg hb;replace g5:=vG g5 hg hb;replace g6:=vG g6 hg hb;replace g7:=vG g7 hg hb;replace C1:=nG' C1 hg hb;replace o9:=kb o9 hb;replace r5:=kb r5 hb;replace HB:=bB hb;clear hb hg)|((with_reducible refine gd 7 rfl ?_);refine bx #[.slice none 0 0] 31 ?_;intro D7 hg K4 D9 hb;have E0:=gA w hg;have E2:=nl hg o9;have E3:=ng hg o9;have E4:=nl hg r5;have E5:=ng hg r5;have E6:=nl hg C8;have E7:=ng hg C8;replace g4:=vG g4 hg hb;replace g5:=vG g5 hg hb;replace g6:=vG g6 hg hb;replace g7:=vG g7 hg hb;replace C1:=nG' C1 hg hb;replace o9:=kb o9 hb;replace r5:=kb r5 hb;replace C8:=kb C8 hb;replace HB:=bB hb;clear hb hg))
   have n0_:=aM (Kd.V_drew g4.out);have n1_:=aM (Kd.V_drew g5.out);have n2_:=aM (Kd.V_drew g6.out);have n3_:=aM (Kd.V_drew g7.out);have n4_:=aM (Kd.N_drew C1.out);have n5_:=aM (blk_drew o9.out);have n6_:=aM (blk_drew r5.out);have n7_:=aM (blk_drew C8.out);have n8_:=aM (blk_drew D9.out);have n9_:=aM (below_drew1 HB.out);clear g4 g5 g6 g7 C1 o9 r5 C8 D9 HB;have g4:=n0_;have g5:=n1_;have g6:=n2_;have g7:=n3_;have C1:=n4_;have o9:=n5_;have r5:=n6_;have C8:=n7_;have D9:=n8_;have HB:=n9_;clear n0_ n1_ n2_ n3_ n4_ n5_ n6_ n7_ n8_ n9_;refine start_ (n:=13) (S:=fun w'=>w'.cell? ⟨o0,0,none⟩=some (.bool a6)∧w'.cell? ⟨o0,1,none⟩=some (.slice a8 b4.length a9)∧w'.cell? ⟨o0,2,none⟩=some (.slice b6 b8.length b7)∧w'.cell? ⟨p7,0,none⟩=some (.bool b9)∧w'.cell? ⟨p7,1,none⟩=some (.slice d7 d9.length d8)∧w'.cell? ⟨p7,2,none⟩=some (.slice e7 e9.length e8)) (ds:=[]) (bA 13 0) (by kernel_rfl) rfl rfl ⟨(blk_cell o9.out 0).trans rfl,(blk_cell o9.out 1).trans rfl,(blk_cell o9.out 2).trans rfl,(blk_cell r5.out 0).trans rfl,(blk_cell r5.out 1).trans rfl,(blk_cell r5.out 2).trans rfl⟩ (fun hHeld=>?_);refine with_tabW Fzp.tab4 Fzp.bits4 (fun HT_ HW_=>?_)
   generalize K4.drew=K5 at g4 g5 g6 g7 C1 o9 r5 C8 D9 HB hHeld ⊢;refine pS 0 16 HT_ ?_;refine pS 2 18 HT_ ?_;refine pS 5 21 HT_ ?_;refine pS 7 23 HT_ ?_;refine tU 1 17 HT_ HW_ hHeld ?_;refine tU 3 19 HT_ HW_ hHeld ?_;refine tU 6 22 HT_ HW_ hHeld ?_;refine tU 8 24 HT_ HW_ hHeld ?_;refine oU 4 (some 20) HT_ fun K hK=>?_
   refine goes_ Try.func68 (by kernel_rfl) rfl #[.pointer (some ⟨C6,0,none⟩),.slice a8 b4.length a9,.slice e7 e9.length e8] (by rfl) rfl rfl mA ?_
   with_reducible refine(Ezk.calls C6 _ _ _ _ _ _ _ (blk_lt C8.out)).mono ?_
   rintro e K6 ⟨b1_,rfl,F0,F2,hb⟩;have F3:=aM (Nat.lt_of_lt_of_le (blk_lt D9.out) F2);refine⟨_,rfl,?_⟩;have F4:=aM F0;clear F0 F2;have n0_:=vB g4 hb
   have n1_:=vB g5 hb
   have n2_:=vB g6 hb
   have n3_:=vB g7 hb
   have n4_:=nB C1 hb
   have n5_:=kb o9 hb;have n6_:=kb r5 hb;have n7_:=kb C8 hb;have n8_:=kb D9 hb;have n9_:=bB hb;clear g4 g5 g6 g7 C1 o9 r5 C8 D9 HB;have g4:=n0_;have g5:=n1_;have g6:=n2_;have g7:=n3_;have C1:=n4_;have o9:=n5_;have r5:=n6_;have C8:=n7_;have D9:=n8_;have HB:=n9_;clear n0_ n1_ n2_ n3_ n4_ n5_ n6_ n7_ n8_ n9_;(try clear hb)
   (try clear F5)
   (try clear hk)
   (try clear hi)
   refine hK.out _ _ ⟨(blk_cell o9.out 0).trans rfl,(blk_cell o9.out 1).trans rfl,(blk_cell o9.out 2).trans rfl,(blk_cell r5.out 0).trans rfl,(blk_cell r5.out 1).trans rfl,(blk_cell r5.out 2).trans rfl⟩ (fun hHeld=>?_)
   clear hK K;refine nm 20 ?_;refine oU 9 (some 25) HT_ fun K hK=>?_
   refine goes_ Try.func68 (by kernel_rfl) rfl #[.pointer (some ⟨D7,0,none⟩),.slice d7 d9.length d8,.slice b6 b8.length b7] (by rfl) rfl rfl mA ?_
   with_reducible refine(Ezk.calls D7 _ _ _ _ _ _ _ (blk_lt D9.out)).mono ?_
   rintro e K7 ⟨b2_,rfl,F7,F8,hb⟩;have F9:=aM (Nat.lt_of_lt_of_le (blk_lt C8.out) F8);refine⟨_,rfl,?_⟩;replace F4:=aM (F4.out.below hb);have G5:=aM F7;clear F7 F8;have n0_:=vB g4 hb
   have n1_:=vB g5 hb
   have n2_:=vB g6 hb
   have n3_:=vB g7 hb
   have n4_:=nB C1 hb
   have n5_:=kb o9 hb;have n6_:=kb r5 hb;have n7_:=kb C8 hb;have n8_:=kb D9 hb;have n9_:=bB hb;clear g4 g5 g6 g7 C1 o9 r5 C8 D9 HB;have g4:=n0_;have g5:=n1_;have g6:=n2_;have g7:=n3_;have C1:=n4_;have o9:=n5_;have r5:=n6_;have C8:=n7_;have D9:=n8_;have HB:=n9_;clear n0_ n1_ n2_ n3_ n4_ n5_ n6_ n7_ n8_ n9_;(try clear hb)
   (try clear F5)
   (try clear hk)
   (try clear hi)
   refine hK.out _ _ ⟨(blk_cell o9.out 0).trans rfl,(blk_cell o9.out 1).trans rfl,(blk_cell o9.out 2).trans rfl,(blk_cell r5.out 0).trans rfl,(blk_cell r5.out 1).trans rfl,(blk_cell r5.out 2).trans rfl⟩ (fun hHeld=>?_)
   clear hK K;refine nm 25 ?_;refine oU 10 (some 26) HT_ fun K hK=>?_
   refine fun_lit_step ?hg (N:=26) ?hd (cs:=#[.func (.func (thkFn 96 b1_).1) #[] (thkFn 96 b1_).2,.func (.func (thkFn 96 b2_).1) #[] (thkFn 96 b2_).2]) (t:=80) (n:=2) ?hr ?_;(case hd=>rfl);(case hg=>rfl);(case hr=>first|(go_simp;done)|(go_simp;rfl))
   intro gF_ K8 hbox_ hb;have n0_:=vB g4 hb
   have n1_:=vB g5 hb
   have n2_:=vB g6 hb
   have n3_:=vB g7 hb
   have n4_:=nB C1 hb
   have n5_:=kb o9 hb;have n6_:=kb r5 hb;have n7_:=kb C8 hb;have n8_:=kb D9 hb;have n9_:=bB hb;clear g4 g5 g6 g7 C1 o9 r5 C8 D9 HB;have g4:=n0_;have g5:=n1_;have g6:=n2_;have g7:=n3_;have C1:=n4_;have o9:=n5_;have r5:=n6_;have C8:=n7_;have D9:=n8_;have HB:=n9_;clear n0_ n1_ n2_ n3_ n4_ n5_ n6_ n7_ n8_ n9_;replace F4:=aM (F4.out.below hb);replace G5:=aM (G5.out.below hb);have BKF:=aM hbox_;clear hbox_ hb;refine hK.out _ _ ⟨(blk_cell o9.out 0).trans rfl,(blk_cell o9.out 1).trans rfl,(blk_cell o9.out 2).trans rfl,(blk_cell r5.out 0).trans rfl,(blk_cell r5.out 1).trans rfl,(blk_cell r5.out 2).trans rfl⟩ (fun hHeld=>?_)
   clear hK K;refine nm 26 ?_;refine oU 11 (some 27) HT_ fun K hK=>?_
   refine goes_ Try.func67 (by kernel_rfl) rfl #[.slice (some ⟨gF_,0,none⟩) 2 2] (by rfl) rfl rfl mA ?_
   with_reducible refine(Dzv.calls k b1_ b2_ C6 D7 _ _ b4 _ _ e9 _ _ d9 _ _ b8 m0 m4 m5 gF_ _ w _ HB.out BKF.out F4.out G5.out C8.out D9.out E6.out C9.out E0.out F9.out F3.out ?sd1 (Kd.V_reads' g4.out).2.1 ?sd2 (Kd.V_reads' g7.out).2.1 ?sd3 (Kd.V_reads' g6.out).2.1 ?sd4 (Kd.V_reads' g5.out).2.1 m6.out).mono ?_
   (case sd1=>intro W_ hk_;exact V_keptC g4.out hk_ (by intro k_ hk_ hs_;rcases hs_ with rfl|rfl <;> simp at hk_))
   (case sd2=>intro W_ hk_;exact V_keptC g7.out hk_ (by intro k_ hk_ hs_;rcases hs_ with rfl|rfl <;> simp at hk_))
   (case sd3=>intro W_ hk_;exact V_keptC g6.out hk_ (by intro k_ hk_ hs_;rcases hs_ with rfl|rfl <;> simp at hk_))
   (case sd4=>intro W_ hk_;exact V_keptC g5.out hk_ (by intro k_ hk_ hs_;rcases hs_ with rfl|rfl <;> simp at hk_))
   rintro e K9 ⟨rfl,vp_,vq_,hF_⟩;refine⟨_,rfl,?_⟩;have HF:=aM hF_;replace o9:=aM (blk_kept o9.out HF.out.kept (fun e_=>e_.elim D3.out E2.out))
   replace r5:=aM (blk_kept r5.out HF.out.kept (fun e_=>e_.elim D5.out E4.out))
   replace C8:=aM HF.out.p;replace D9:=aM HF.out.q;replace HB:=aM HF.out.below;have HOp:=aM HF.out.rp;have HOq:=aM HF.out.rq;obtain⟨Ap_,cp_,ep_⟩:=Kd.R_slice HOp.out;subst ep_;obtain⟨Aq_,cq_,eq_⟩:=Kd.R_slice HOq.out;subst eq_;clear hF_ HF F4 G5 BKF;refine hK.out _ _ ⟨(blk_cell o9.out 0).trans rfl,(blk_cell o9.out 1).trans rfl,(blk_cell o9.out 2).trans rfl,(blk_cell r5.out 0).trans rfl,(blk_cell r5.out 1).trans rfl,(blk_cell r5.out 2).trans rfl⟩ (fun hHeld=>?_)
   clear hK K;refine nm 27 ?_;refine pS 12 8 HT_ ?_;refine done_ (done_of HT_.out (by kernel_rfl)) ?_
   try go_wp2
   go_ret2
   exact⟨eW,pB⟩
 ·obtain rfl:=bN c4;rw[if_neg nF] at H
  obtain⟨rfl,rfl⟩:=q2 H;go_enter Try.func38,Try.ntmps38
  go_wp2_with (first|((with_reducible refine gd 2 rfl ?_);refine bx #[.bool a6,.slice a8 b4.length a9,.slice b6 b8.length b7] 33 ?_;intro o0 hg L0 o9 hb;have p0:=gA w hg;replace g4:=vG g4 hg hb;replace g5:=vG g5 hg hb;replace g6:=vG g6 hg hb;replace g7:=vG g7 hg hb;replace HB:=bB hb;clear hb hg)|((with_reducible refine gd 3 rfl ?_);refine bx #[.bool b9,.slice d7 d9.length d8,.slice e7 e9.length e8] 33 ?_;intro p7 hg L7 r5 hb;have r6:=gA w hg;have r8:=nl hg o9;have r9:=ng hg o9;replace g4:=vG g4 hg hb;replace g5:=vG g5 hg hb;replace g6:=vG g6 hg hb;replace g7:=vG g7 hg hb;replace o9:=kb o9 hb;replace HB:=bB hb;clear hb hg;have L8:=r8.out;have L9:=r9.out;obtain⟨M0,M3,M4,M5,M6,M7⟩:=bk3 o9;obtain⟨M8,M9,N0,N1,N2,N3⟩:=bk3 r5)|((with_reducible refine gate_dst (N:=13) rfl ?_);refine Kd.N_lit k33 _ 33 ?hg (N':=13) ?hd (xs:=([(⟨a6,b4,b8⟩:S33),(⟨b9,d9,e9⟩:S33)]:List (S33))) (inner:=[.bool a6,.slice a8 b4.length a9,.slice b6 b8.length b7,.bool b9,.slice d7 d9.length d8,.slice e7 e9.length e8]) (ok:=(fun k_=>((a7 k_∨b5 k_∨d6 k_∨e6 k_)∨w.heap.size≤k_)∧k_≠o0∧k_≠p7)) (okp:=(fun k_=>((a7 k_∨b5 k_∨d6 k_∨e6 k_)∨w.heap.size≤k_)∧k_≠o0∧k_≠p7)) ?hr ?hp (fun _ hk=>hk) ((show ∀ k_,L7.heap.size≤k_→(fun k_=>((a7 k_∨b5 k_∨d6 k_∨e6 k_)∨w.heap.size≤k_)∧k_≠o0∧k_≠p7) k_ from fun k_ hk=>⟨(.inr (Nat.le_trans (below_size pB) hk)),fB o9 hk,fB r5 hk⟩) _ (Nat.le_refl _)) (Below.refl _ _) (Nat.le_refl _) (by simp) ?_;(case hd=>rfl);(case hg=>rfl);(case hr=>first|(go_simp;done)|(go_simp;rfl));(case hp=>exact(Reps.c3 (show Kd.FK k33 _ _ (⟨a6,b4,b8⟩:S33) [.bool a6,.slice a8 b4.length a9,.slice b6 b8.length b7] from(k33_mkF _ _ (⟨a6,b4,b8⟩:S33) (Kd.V_reads' (Kd.V_mono (ok':=(fun k_=>((a7 k_∨b5 k_∨d6 k_∨e6 k_)∨w.heap.size≤k_)∧k_≠o0∧k_≠p7)) (g4.out) (fun k_ hk=>⟨hk.1.1,⟨hk.1.2,hk.2⟩⟩))).2.1 (Kd.V_F (Kd.V_mono (ok':=(fun k_=>((a7 k_∨b5 k_∨d6 k_∨e6 k_)∨w.heap.size≤k_)∧k_≠o0∧k_≠p7)) (g4.out) (fun k_ hk=>⟨hk.1.1,⟨hk.1.2,hk.2⟩⟩))) (Kd.V_reads' (Kd.V_mono (ok':=(fun k_=>((a7 k_∨b5 k_∨d6 k_∨e6 k_)∨w.heap.size≤k_)∧k_≠o0∧k_≠p7)) (g5.out) (fun k_ hk=>⟨hk.1.1,⟨hk.1.2,hk.2⟩⟩))).2.1 (Kd.V_F (Kd.V_mono (ok':=(fun k_=>((a7 k_∨b5 k_∨d6 k_∨e6 k_)∨w.heap.size≤k_)∧k_≠o0∧k_≠p7)) (g5.out) (fun k_ hk=>⟨hk.1.1,⟨hk.1.2,hk.2⟩⟩))))) (Reps.c3 (show Kd.FK k33 _ _ (⟨b9,d9,e9⟩:S33) [.bool b9,.slice d7 d9.length d8,.slice e7 e9.length e8] from(k33_mkF _ _ (⟨b9,d9,e9⟩:S33) (Kd.V_reads' (Kd.V_mono (ok':=(fun k_=>((a7 k_∨b5 k_∨d6 k_∨e6 k_)∨w.heap.size≤k_)∧k_≠o0∧k_≠p7)) (g6.out) (fun k_ hk=>⟨hk.1.1,⟨hk.1.2,hk.2⟩⟩))).2.1 (Kd.V_F (Kd.V_mono (ok':=(fun k_=>((a7 k_∨b5 k_∨d6 k_∨e6 k_)∨w.heap.size≤k_)∧k_≠o0∧k_≠p7)) (g6.out) (fun k_ hk=>⟨hk.1.1,⟨hk.1.2,hk.2⟩⟩))) (Kd.V_reads' (Kd.V_mono (ok':=(fun k_=>((a7 k_∨b5 k_∨d6 k_∨e6 k_)∨w.heap.size≤k_)∧k_≠o0∧k_≠p7)) (g7.out) (fun k_ hk=>⟨hk.1.1,⟨hk.1.2,hk.2⟩⟩))).2.1 (Kd.V_F (Kd.V_mono (ok':=(fun k_=>((a7 k_∨b5 k_∨d6 k_∨e6 k_)∨w.heap.size≤k_)∧k_≠o0∧k_≠p7)) (g7.out) (fun k_ hk=>⟨hk.1.1,⟨hk.1.2,hk.2⟩⟩))))) (Reps.none _ _))));intro B5 N4 N5 hb hg_ hnew_;clear hg_ hnew_;replace N5:=nY j8 N5;have C1:=aM (Kd.N_lower N5 (below_size pB));replace g4:=aM (Kd.V_elder' (vX g4.out) (Kd.N_base N5) hb);replace g5:=aM (Kd.V_elder' (vX g5.out) (Kd.N_base N5) hb);replace g6:=aM (Kd.V_elder' (vX g6.out) (Kd.N_base N5) hb);replace g7:=aM (Kd.V_elder' (vX g7.out) (Kd.N_base N5) hb);replace o9:=kb o9 hb;replace r5:=kb r5 hb;replace HB:=bB hb;clear hb N5;obtain⟨N6,N7,rfl⟩:=Kd.N_slice C1.out)|((with_reducible refine gc 62 rfl ?_);refine gC 62 (some 14) Try.func62 #[.slice N6 j6.length N7] ?_;(with_reducible refine(Czw.calls k _ _ j6 false _ ?_ ?_ j9.out).mono ?_);exact cN C1;exact lN C1;rintro e N8 ⟨rfl,hb⟩;refine⟨_,rfl,?_⟩;replace g4:=vB g4 hb;replace g5:=vB g5 hb;replace g6:=vB g6 hb;replace g7:=vB g7 hb;replace C1:=nB C1 hb;replace o9:=kb o9 hb;replace r5:=kb r5 hb;replace HB:=bB hb;clear hb))
  go_ret2
  exact⟨eW,pB⟩
theorem Fzp.calls (k:Nat) (a6:Bool) (a7:Option Addr) (a8:Nat) (a9:List Int) (b4:Option Addr) (b5:Nat) (b6:List Int) (b7:Bool) (b8:Option Addr) (b9:Nat) (d6:List Int) (d7:Option Addr) (d8:Nat) (d9:List Int) (e6:Int) (e7:Int) (w:World) (e8:cI w a7 a9) (e9:a9.length≤a8) (f4:cI w b4 b6) (f5:b6.length≤b5) (f6:cI w b8 d6) (f7:d6.length≤b9) (f8:cI w d7 d9) (f9:d9.length≤d8) (h:Fzp.f k a6 a9 b6 b7 d6 d9=some (e6,e7)) :
 Calls Try.prog 38 #[.agg #[.bool a6,.slice a7 a9.length a8,.slice b4 b6.length b5],.agg #[.bool b7,.slice b8 d6.length b9,.slice d7 d9.length d8]] w fun e w'=>e=.returned (.tuple #[.int .i64 e6,.int .i64 e7])∧bw w w' :=
 Fzp.callsV k a6 (fun _=>True) a7 a8 a9 (fun _=>True) b4 b5 b6 b7 (fun _=>True) b8 b9 d6 (fun _=>True) d7 d8 d9 e6 e7 w (C_V e8 e9) (C_V f4 f5) (C_V f6 f7) (C_V f8 f9) h


mutual
def Bzx.j0:Nat→Bool→Int→List (S33)→Option (Int)
 | 0,_,_,_=>none
 | k+1,x15,x391000,x391001=>if x15=true then(some 1) else(if(x391001.length:Int) < 1 then(Bzx.j1 k true x391000 x391001) else(Bzx.j1 k (decide ((x391001.length:Int) > 8)) x391000 x391001))
def Bzx.j1:Nat→Bool→Int→List (S33)→Option (Int)
 | 0,_,_,_=>none
 | k+1,x25,x391000,x391001=>if x25=true then(some 17) else(Bzx.l0 k x391001 (x391001.length:Int) 0 x391000 x391001)
def Bzx.l0:Nat→List (S33)→Int→Int→Int→List (S33)→Option (Int)
 | 0,_,_,_,_,_=>none
 | k+1,x27,x28,x29,x391000,x391001=>if x29 < x28 then(if 0≤x29 then(if x29 < (x27.length:Int) then((Fzy.f k ((rd_T33 x27 x29).f0) ((rd_T33 x27 x29).f1) ((rd_T33 x27 x29).f2)).bind fun t393=>(if t393=true then(if(rd_T33 x27 x29).f0=true then(some 1) else(Bzx.l0 k x27 x28 (wrap64 (x29+1)) x391000 x391001)) else(some 3))) else(none)) else(none)) else((Fzq.f k x391001).bind fun bt394=>(if bt394.2.2.2=0 then((Dzm.f k x391000).bind fun bt403=>((Fzp.f k bt394.1 bt394.2.1 bt394.2.2.1 bt403.1 bt403.2.1 bt403.2.2).bind fun bt410=>(if bt410.2=0 then(if bt410.1 > 0 then(some 8) else(some 0)) else(some bt410.2)))) else(some bt394.2.2.2)))
end
def Bzx.f (k:Nat) (a0_0:Int) (l0_1:List (S33)):Option (Int):=if a0_0 < 1 then(Bzx.j0 k true a0_0 l0_1) else(Bzx.j0 k (decide (a0_0 > 1099511627776)) a0_0 l0_1)
theorem Bzx.mono_l:∀ k,(∀ a6 a7 a8,LeO (Bzx.j0 k a6 a7 a8) (Bzx.j0 (k+1) a6 a7 a8))∧(∀ a6 a7 a8,LeO (Bzx.j1 k a6 a7 a8) (Bzx.j1 (k+1) a6 a7 a8))∧(∀ a6 a7 a8 a9 b4,LeO (Bzx.l0 k a6 a7 a8 a9 b4) (Bzx.l0 (k+1) a6 a7 a8 a9 b4))
 | 0=>⟨fun _ _ _ r h=>by simp [Bzx.j0] at h,fun _ _ _ r h=>by simp [Bzx.j1] at h,fun _ _ _ _ _ r h=>by simp [Bzx.l0] at h⟩
 | k+1=>by
  obtain⟨ih0,ih1,ih2⟩:=Bzx.mono_l k;have i0:=@Fzp.mono;have i1:=@Fzq.mono;have i2:=@Fzy.mono;have i3:=@Dzm.mono;refine⟨?_,?_,?_⟩
  ·intro a6 a7 a8;unfold Bzx.j0;exact mM
  ·intro a6 a7 a8;unfold Bzx.j1;exact mM
  ·intro a6 a7 a8 a9 b4;unfold Bzx.l0;exact mM
theorem Bzx.mono:∀ a6 a7 k,LeO (Bzx.f k a6 a7) (Bzx.f (k+1) a6 a7):=by
 intro a6 a7 k;obtain⟨ih0,ih1,ih2⟩:=Bzx.mono_l k;unfold Bzx.f;have i0:=@Fzp.mono;have i1:=@Fzq.mono;have i2:=@Fzy.mono;have i3:=@Dzm.mono;exact mM
def Bzx.T16:Bool × List (List Nat × List Nat):=(true,[([],[]),([],[]),([1],[1]),([2],[2]),([0,3,3],[0,3]),([4],[4]),([5],[5]),([5],[5]),([6,4,0,1,2,3,4,5,6],[6]),([7,8,0,1,2,3,4,5,6,7,8],[7])])
def Bzx.B16:List Nat:=[0,0,2,6,15,31,63,63,127,511]
theorem Bzx.tab16:rtab .any (opsOf Try.f17 16)=Bzx.T16:=by kernel_rfl
theorem Bzx.bits16:waitsOk Bzx.T16.2 Bzx.B16=true:=by kernel_rfl
theorem Bzx.calls (k:Nat) (a6:Int) (a7:Option Addr) (a8:Nat) (a9:List (S33)) (r:Int) (w:World) (b4:Kd.C k33 w a7 a9.length a9) (b5:a9.length≤a8) (h:Bzx.f k a6 a9=some r) :
  Calls Try.prog 17 #[.agg #[.int .i64 a6,.slice a7 a9.length a8]] w fun e w'=>e=.returned (.int .i64 r)∧bw w w':=by
 have hu24:=Try.underlying24;have hu33:=Try.underlying33;have b6:=aM b4;have b7:=aM b5;clear b4 b5;have HB:=aM (Below.refl w.heap.size w);have H:(if a6 < 1 then(Bzx.j0 k true a6 a9) else(Bzx.j0 k (decide (a6 > 1099511627776)) a6 a9))=some r:=h
 clear h;have b8:=aM H;clear H;go_enter Try.func17,Try.ntmps17
 go_upto_region 1 with (first|((with_reducible refine gd 1 rfl ?_);refine bxg #[.int .i64 a6,.slice a7 a9.length a8] 24 ?_;intro b9 hg d6 d7 hb;have d8:=gA w hg;replace HB:=bB hb;clear hb hg))
 (try simp only[Act.put,sA,sZ,sC])
 go_cut [15] (fun e6 wc=>∃ (kq:Nat) (e7:Bool),e6=.bool e7∧Aside0 (Bzx.j0 kq e7 a6 a9=some r)∧Aside0 (kq≤k)∧Aside0 (wc.heap[b9]?=some (.cells #[.int .i64 a6,(.slice a7 a9.length a8)] 24 (0,0)))∧Aside0 (bw w wc))
 case first =>
  have H:=b8.out;clear b8;replace H:=iD H;rcases H with⟨e8,H⟩|⟨e8,H⟩
  ·(first|rw[e8]|(simp only[i64_w,i32_w];rw[e8])|skip)
   have H':=aM H;clear H;obtain⟨e9,f4,f5,f6⟩:=bk2 d7;go_wp2
   go_meet
   case rel=>exact⟨_,(true),sD,H',⟨by first|omega|exact Nat.le_refl _⟩,⟨by exact kW d7⟩,⟨pB⟩⟩
  ·(first|rw[e8]|(simp only[i64_w,i32_w];rw[e8])|skip)
   have H':=aM H;clear H;obtain⟨f7,f8,f9,g4⟩:=bk2 d7;go_wp2
   go_meet
   case rel=>exact⟨_,(decide (a6 > 1099511627776)),sD,H',⟨by first|omega|exact Nat.le_refl _⟩,⟨by exact kW d7⟩,⟨pB⟩⟩
 case rest =>
  clear b8;try clear g5
  obtain⟨kq,e7,rfl,HA,g6,d7,HB⟩:=hcut;cases kq with
  | zero=>exact absurd HA.out (by simp [Bzx.j0])
  | succ g7 =>
   have H:=HA.out;clear HA;simp only[Bzx.j0] at H;by_cases c7:e7=true
   ·subst c7;rw[if_pos rfl] at H;obtain rfl:=Option.some.inj H;go_wp2
    go_ret
    exact⟨eW,pB⟩
   ·obtain rfl:=bN c7;rw[if_neg nF] at H
    have g8:=aM H;clear H;go_upto_region 3 with (fail)
    go_cut [25] (fun g9 wc=>∃ (kq:Nat) (j3:Bool),g9=.bool j3∧Aside0 (Bzx.j1 kq j3 a6 a9=some r)∧Aside0 (kq≤g7)∧Aside0 (wc.heap[b9]?=some (.cells #[.int .i64 a6,(.slice a7 a9.length a8)] 24 (0,0)))∧Aside0 (bw w wc))
    case first =>
     have H:=g8.out;clear g8;by_cases c9:(a9.length:Int) < 1
     ·rw[if_pos c9] at H;have j4:=dE c9;have j5:decide (a9.length < 1)=true:=dE (by omega)
      clear c9;(first|rw[j4]|(simp only[i64_w,i32_w];rw[j4])|skip)
      have H':=aM H;clear H;obtain⟨j6,j7,j8,j9⟩:=bk2 d7;go_wp2
      go_meet
      case rel=>exact⟨_,(true),sD,H',⟨by have:=g6.out;first|omega|exact Nat.le_refl _⟩,⟨by exact kW d7⟩,⟨pB⟩⟩
     ·rw[if_neg c9] at H;have j4:decide ((a9.length:Int) < 1)=false:=decide_eq_false c9;have j5:decide (a9.length < 1)=false:=decide_eq_false (by omega)
      clear c9;(first|rw[j4]|(simp only[i64_w,i32_w];rw[j4])|skip)
      have H':=aM H;clear H;obtain⟨l5,l6,l7,l8⟩:=bk2 d7;go_wp2
      go_meet
      case rel=>exact⟨_,(decide ((a9.length:Int) > 8)),sD,H',⟨by have:=g6.out;first|omega|exact Nat.le_refl _⟩,⟨by exact kW d7⟩,⟨pB⟩⟩
    case rest =>
     clear g8;try clear g5
     obtain⟨kq,j3,rfl,HA,l9,d7,HB⟩:=hcut;cases kq with
     | zero=>exact absurd HA.out (by simp [Bzx.j1])
     | succ m0 =>
      have H:=HA.out;clear HA;simp only[Bzx.j1] at H;by_cases m4:j3=true
      ·subst m4;rw[if_pos rfl] at H;obtain rfl:=Option.some.inj H;go_wp2
       go_ret
       exact⟨eW,pB⟩
      ·obtain rfl:=bN m4;rw[if_neg nF] at H
       have H':=aM H;clear H;obtain⟨m5,m6,m7,m8⟩:=bk2 d7;go_wp2
       go_loopg [29] m0 (fun kq m9 w'=>∃ (n0:Int),m9=.int .i64 n0∧Aside0 (Bzx.l0 kq a9 (a9.length:Int) n0 a6 a9=some r)∧Aside0 (kq≤m0)∧Aside0 (w'.heap[b9]?=some (.cells #[.int .i64 a6,(.slice a7 a9.length a8)] 24 (0,0)))∧Aside0 (bw w w'))
       case atStart=>exact⟨(0),sD,H',⟨Nat.le_refl _⟩,⟨by exact kW d7⟩,⟨pB⟩⟩
       case round =>
        clear H';try clear g5
        obtain⟨n0,rfl,HA,n7,d7,HB⟩:=hrel;cases gk with
        | zero=>exact absurd HA.out (by simp [Bzx.l0])
        | succ k3 =>
         have H:=HA.out;clear HA;simp only[Bzx.l0] at H;replace H:=iD H;rcases H with⟨n9,H⟩|⟨n9,H⟩
         ·obtain⟨o0,H⟩:=iN H;obtain⟨o8,H⟩:=iN H;obtain⟨o9,p0,H⟩:=bT H;(try dsimp only at H);have p4:=aM H;clear H;obtain⟨p7,p9,r5,r6,r7,r8,r9,t4,t5,t6,t7,t8,t9⟩:=at_T33 b6.out n0 (oE aS) (oE aS);cases r8
          replace r9:=hB HB r9;replace t4:=hB HB t4;replace t5:=hB HB t5;have z3:=aM t7;have z4:=aM t6;clear t7 t6;have z5:=aM t9;have z6:=aM t8;clear t9 t8;have z7:=eT (n0);have z8:=eU (n0) a9.length;go_upto_if 35 with (first|((with_reducible refine gd 4 rfl ?_);refine bzg 33 ?_;intro z9 hg B0 B5 hb;have B9:=gA w hg;have C1:=nl hg d7;have C2:=ng hg d7;replace d7:=kb d7 hb;replace HB:=bB hb;clear hb hg;have C3:=C2.out;have C4:=C1.out;obtain⟨C6,C7,C8,C9,D2,D3⟩:=bk3 B5)|((with_reducible refine gc 37 rfl ?_);refine gC 37 (some 34) Try.func37 #[.agg #[.bool ((rd_T33 a9 n0).f0),.slice p9 ((rd_T33 a9 n0).f1).length r5,.slice r6 ((rd_T33 a9 n0).f2).length r7]] ?_;(with_reducible refine(Fzy.calls k3 ((rd_T33 a9 n0).f0) _ _ ((rd_T33 a9 n0).f1) _ _ ((rd_T33 a9 n0).f2) o9 _ ?_ ?_ ?_ ?_ p0.out).mono ?_);exact Kd.C_below z3.out pB;exact z4.out;exact Kd.C_below z5.out pB;exact z6.out;rintro e D4 ⟨rfl,hb⟩;refine⟨_,rfl,?_⟩;replace d7:=kF d7 C1 hb;replace B5:=kP (o':=.cells #[.bool ((rd_T33 a9 n0).f0),.slice p9 ((rd_T33 a9 n0).f1).length r5,.slice r6 ((rd_T33 a9 n0).f2).length r7] 33 (0,0)) B5 hb;replace HB:=bB hb;clear hb))
          have H:=p4.out;clear p4;by_cases D5:o9=true
          ·subst D5;rw[if_pos rfl] at H;obtain⟨bq24,hbq24⟩:∃ b_:Bool,b_=((rd_T33 a9 n0).f0):=⟨_,rfl⟩;replace H:(if bq24=true then(some 1) else(Bzx.l0 k3 a9 (a9.length:Int) (wrap64 (n0+1)) a6 a9))=some r:=by rw[← hbq24] at H;exact H
           have Nbq24:=aM hbq24;clear hbq24;(try rw[← Nbq24.out])
           (try rw[← Nbq24.out] at B5)
           by_cases D6:bq24=true
           ·subst D6;rw[if_pos rfl] at H;obtain rfl:=Option.some.inj H;have D7:=C2.out;have D8:=C1.out;obtain⟨D9,E0,E1,E2,E3,E4⟩:=bk3 B5;go_wp2
            go_ret
            exact⟨eW,pB⟩
           ·obtain rfl:=bN D6;rw[if_neg nF] at H
            have H':=aM H;clear H;have E5:=C2.out;have E6:=C1.out;obtain⟨E7,E8,E9,F0,F2,F3⟩:=bk3 B5;go_wp2
            go_roundg k3
            case measure=>have:=g6.out;have:=l9.out;have:=n7.out;omega
            case rel=>exact⟨(wrap64 (n0+1)),sD,H',⟨by have:=g6.out;have:=l9.out;have:=n7.out;omega⟩,⟨by exact kW d7⟩,⟨pB⟩⟩
          ·obtain rfl:=bN D5;rw[if_neg nF] at H
           obtain rfl:=Option.some.inj H;go_wp2
           go_ret
           exact⟨eW,pB⟩
         ·obtain⟨⟨F4,F5,F6,F7⟩,F8,H⟩:=bT H;(try dsimp only at H);have F9:=aM H;clear H;obtain⟨G5,G9,H5,H6⟩:=bk2 d7;go_upto_if 46 with (first|((with_reducible refine gc 36 rfl ?_);refine gC 36 (some 42) Try.func36 #[.slice a7 a9.length a8] ?_;(with_reducible refine(Fzq.calls k3 _ _ a9 F4 F5 F6 F7 _ ?_ ?_ F8.out).mono ?_);exact cB b6;exact b7.out;rintro e H7 ⟨H8,H9,rfl,I0,I3,hb⟩;refine⟨_,rfl,?_⟩;have I4:=rL I0;have I5:=rL I3;replace d7:=kb d7 hb;replace HB:=bB hb;clear hb I0 I3)|((with_reducible refine gd 5 rfl ?_);refine bzg 33 ?_;intro I6 hg I7 I8 hb;have I9:=gA w hg;have J1:=nl hg d7;have J2:=ng hg d7;replace I4:=rB I4 hb;replace I5:=rB I5 hb;replace d7:=kb d7 hb;replace HB:=bB hb;clear hb hg;have J3:=J2.out;have J4:=J1.out;obtain⟨J5,J6,J7,J8,J9,K0⟩:=bk3 I8;obtain⟨K1,K2,rfl⟩:=Kd.R_slice I4.out;obtain⟨K3,K4,rfl⟩:=Kd.R_slice I5.out))
          have H:=F9.out;clear F9;replace H:=iE H;rcases H with⟨K6,K7,H⟩|⟨K5,K6,K7,H⟩
          ·(first|rw[K6]|(simp only[i64_w,i32_w];rw[K6])|skip)
           obtain⟨⟨K8,K9,L0⟩,L7,H⟩:=bT H;(try dsimp only at H);obtain⟨⟨L8,L9⟩,M0,H⟩:=bT H;(try dsimp only at H);have M3:=aM H;clear H;try go_wp2
           have n0_:Aside0 (Kd.R (Kd.int .i64) 3 (((I7.setCell ⟨I6,0,none⟩ (.bool F4)).setCell ⟨I6,1,none⟩ (.slice K1 F5.length K2)).setCell ⟨I6,2,none⟩ (.slice K3 F6.length K4)) w.heap.size (fun k_=>oN K3 F6.length K4 k_) (.slice K1 F5.length K2) F5):=⟨by exact Kd.R_mono (rT I4 I8) (fun _ hk=>hk)⟩
           have n1_:Aside0 (Kd.R (Kd.int .i64) 3 (((I7.setCell ⟨I6,0,none⟩ (.bool F4)).setCell ⟨I6,1,none⟩ (.slice K1 F5.length K2)).setCell ⟨I6,2,none⟩ (.slice K3 F6.length K4)) w.heap.size (fun k_=>oN K1 F5.length K2 k_) (.slice K3 F6.length K4) F6):=⟨by exact Kd.R_mono (rT I5 I8) (fun _ hk=>hk)⟩
           have n2_:Aside0 ((((I7.setCell ⟨I6,0,none⟩ (.bool F4)).setCell ⟨I6,1,none⟩ (.slice K1 F5.length K2)).setCell ⟨I6,2,none⟩ (.slice K3 F6.length K4)).heap[b9]?=some (.cells #[.int .i64 a6,.slice a7 a9.length a8] 24 (0,0))):=⟨by exact kf d7 J1⟩
           have n3_:Aside0 ((((I7.setCell ⟨I6,0,none⟩ (.bool F4)).setCell ⟨I6,1,none⟩ (.slice K1 F5.length K2)).setCell ⟨I6,2,none⟩ (.slice K3 F6.length K4)).heap[I6]?=some (.cells #[.bool F4,.slice K1 F5.length K2,.slice K3 F6.length K4] 33 (0,0))):=⟨by exact kQ I8⟩
           have n4_:Aside0 (Below w.heap.size w (((I7.setCell ⟨I6,0,none⟩ (.bool F4)).setCell ⟨I6,1,none⟩ (.slice K1 F5.length K2)).setCell ⟨I6,2,none⟩ (.slice K3 F6.length K4))):=⟨pB⟩;(try clear I4)
           (try clear I5)
           (try clear d7)
           (try clear I8)
           (try clear HB)
           generalize (((I7.setCell ⟨I6,0,none⟩ (.bool F4)).setCell ⟨I6,1,none⟩ (.slice K1 F5.length K2)).setCell ⟨I6,2,none⟩ (.slice K3 F6.length K4))=M4 at n0_ n1_ n2_ n3_ n4_ ⊢;have I4:=n0_;have I5:=n1_;have d7:=n2_;have I8:=n3_;have HB:=n4_;clear n0_ n1_ n2_ n3_ n4_;have n0_:=aM (Kd.R_drew I4.out);have n1_:=aM (Kd.R_drew I5.out);have n2_:=aM (blk_drew d7.out);have n3_:=aM (blk_drew I8.out);have n4_:=aM (below_drew1 HB.out);clear I4 I5 d7 I8 HB;have I4:=n0_;have I5:=n1_;have d7:=n2_;have I8:=n3_;have HB:=n4_;clear n0_ n1_ n2_ n3_ n4_;refine start_ (n:=10) (S:=fun w'=>w'.cell? ⟨I6,0,none⟩=some (.bool F4)∧w'.cell? ⟨I6,1,none⟩=some (.slice K1 F5.length K2)∧w'.cell? ⟨I6,2,none⟩=some (.slice K3 F6.length K4)∧w'.cell? ⟨b9,0,none⟩=some (.int .i64 a6)∧w'.cell? ⟨b9,1,none⟩=some (.slice a7 a9.length a8)) (ds:=[]) (bA 10 0) (by kernel_rfl) rfl rfl ⟨(blk_cell I8.out 0).trans rfl,(blk_cell I8.out 1).trans rfl,(blk_cell I8.out 2).trans rfl,(blk_cell d7.out 0).trans rfl,(blk_cell d7.out 1).trans rfl⟩ (fun hHeld=>?_);refine with_tabW Bzx.tab16 Bzx.bits16 (fun HT_ HW_=>?_)
           generalize M4.drew=M5 at I4 I5 d7 I8 HB hHeld ⊢;refine pS 1 50 HT_ ?_;refine tU 0 49 HT_ HW_ hHeld ?_;refine tU 2 51 HT_ HW_ hHeld ?_;refine oU 3 (some 52) HT_ fun K hK=>?_
           refine goes_ Try.func34 (by kernel_rfl) rfl #[.int .i64 a6] (by rfl) rfl rfl mA ?_
           with_reducible refine(Dzm.calls k3 a6 K8 K9 L0 _ L7.out).mono ?_
           rintro e M6 ⟨M7,M8,rfl,I0,I3,hb⟩;refine⟨_,rfl,?_⟩;have n0_:=rO I4 hb I0 I3
           have n1_:=rO I5 hb I0 I3
           have n2_:=rL (rn (rn I0 I4) I5);have n3_:=rL (rn (rn I3 I4) I5);have n4_:=kb d7 hb;have n5_:=kb I8 hb;have n6_:=bB hb;clear I4 I5 d7 I8 HB;have I4:=n0_;have I5:=n1_;have M9:=n2_;have N0:=n3_;have d7:=n4_;have I8:=n5_;have HB:=n6_;clear n0_ n1_ n2_ n3_ n4_ n5_ n6_;(try clear hb)
           (try clear N1)
           (try clear hk)
           (try clear hi)
           (try clear I0)
           (try clear I3)
           obtain⟨N2,N3,N4⟩:=Kd.R_slice M9.out;(first|subst N4|(injection N4 with f1_ f2_ f3_;have f4_:=f1_.symm;have f5_:=f3_.symm;clear f1_ f2_ f3_;subst f4_;subst f5_))
           obtain⟨N5,N6,N7⟩:=Kd.R_slice N0.out;(first|subst N7|(injection N7 with f1_ f2_ f3_;have f4_:=f1_.symm;have f5_:=f3_.symm;clear f1_ f2_ f3_;subst f4_;subst f5_))
           refine hK.out _ _ ⟨(blk_cell I8.out 0).trans rfl,(blk_cell I8.out 1).trans rfl,(blk_cell I8.out 2).trans rfl,(blk_cell d7.out 0).trans rfl,(blk_cell d7.out 1).trans rfl⟩ (fun hHeld=>?_)
           clear hK K;refine nm 52 ?_;refine oU 4 (some 53) HT_ fun K hK=>?_
           refine goes_ Try.func38 (by kernel_rfl) rfl #[.agg #[.bool F4,.slice K1 F5.length K2,.slice K3 F6.length K4],.agg #[.bool K8,.slice N2 K9.length N3,.slice N5 L0.length N6]] (by rfl) rfl rfl mA ?_
           with_reducible refine(Fzp.calls k3 F4 _ _ F5 _ _ F6 K8 _ _ K9 _ _ L0 L8 L9 _ ?side1 ?side2 ?side3 ?side4 ?side5 ?side6 ?side7 ?side8 M0.out).mono ?_
           (case side1=>exact cR I4)
           (case side2=>exact lR I4)
           (case side3=>exact cR I5)
           (case side4=>exact lR I5)
           (case side5=>exact cR M9)
           (case side6=>exact lR M9)
           (case side7=>exact cR N0)
           (case side8=>exact lR N0)
           rintro e N8 ⟨rfl,hb⟩;refine⟨_,rfl,?_⟩;have n0_:=rB I4 hb;have n1_:=rB I5 hb;have n2_:=rB M9 hb;have n3_:=rB N0 hb;have n4_:=kb d7 hb;have n5_:=kb I8 hb;have n6_:=bB hb;clear I4 I5 M9 N0 d7 I8 HB;have I4:=n0_;have I5:=n1_;have M9:=n2_;have N0:=n3_;have d7:=n4_;have I8:=n5_;have HB:=n6_;clear n0_ n1_ n2_ n3_ n4_ n5_ n6_ hb
           (try clear N1)
           (try clear hk)
           (try clear hi)
           refine hK.out _ _ ⟨(blk_cell I8.out 0).trans rfl,(blk_cell I8.out 1).trans rfl,(blk_cell I8.out 2).trans rfl,(blk_cell d7.out 0).trans rfl,(blk_cell d7.out 1).trans rfl⟩ (fun hHeld=>?_)
           clear hK K;refine nm 53 ?_;refine pS 5 48 HT_ ?_;refine pS 6 54 HT_ ?_;refine pS 7 55 HT_ ?_;refine pS 8 7 HT_ ?_;refine pS 9 6 HT_ ?_;refine done_ (done_of HT_.out (by kernel_rfl)) ?_
           go_upto_if 57 with (fail)
           have H:=M3.out;clear M3;replace H:=iE H;rcases H with⟨O0,O1,H⟩|⟨N9,O0,O1,H⟩
           ·(first|rw[O0]|(simp only[i64_w,i32_w];rw[O0])|skip)
            by_cases O2:L8 > 0
            ·rw[if_pos O2] at H;have O3:decide (0 < L8)=true:=dE O2;clear O2;obtain rfl:=Option.some.inj H;go_wp2
             go_ret
             exact⟨eW,pB⟩
            ·rw[if_neg O2] at H;have O3:decide (0 < L8)=false:=decide_eq_false O2;clear O2;obtain rfl:=Option.some.inj H;go_wp2
             go_ret
             exact⟨eW,pB⟩
           ·(first|rw[O0]|(simp only[i64_w,i32_w];rw[O0])|skip)
            obtain rfl:=Option.some.inj H;go_wp2
            go_ret
            exact⟨eW,pB⟩
          ·(first|rw[K6]|(simp only[i64_w,i32_w];rw[K6])|skip)
           obtain rfl:=Option.some.inj H;go_wp2
           go_ret
           exact⟨eW,pB⟩


def Hzk.f (l0:List Int) (a1:Int):Option (Bool):=if a1≥1 then(if a1≤8 then(some ((l0.length:Int) == a1)) else(some false)) else(some false)
theorem Hzk.calls (a6:Option Addr) (a7:Nat) (l0:List Int) (a8:Int) (r:Bool) (w:World) (a9:cI w a6 l0) (b4:l0.length≤a7) (h:Hzk.f l0 a8=some r) :
  Calls Try.prog 74 #[.slice a6 l0.length a7,.int .i64 a8] w fun e w'=>e=.returned (.bool r)∧Drawn0 w w':=by
 have b5:=aM a9;have b6:=aM b4;clear a9 b4;have H:(if a8≥1 then(if a8≤8 then(some ((l0.length:Int) == a8)) else(some false)) else(some false))=some r:=h
 clear h;by_cases c3:a8≥1
 ·rw[if_pos c3] at H;have b7:decide (1≤a8)=true:=dE c3;clear c3;replace H:=iD H;rcases H with⟨b8,H⟩|⟨b8,H⟩
  ·obtain rfl:=Option.some.inj H;go_enter Try.func74,Try.ntmps74
   go_wp2
   go_ret
   exact⟨sD,dR⟩
  ·obtain rfl:=Option.some.inj H;go_enter Try.func74,Try.ntmps74
   go_wp2
   go_ret
   exact⟨sD,dR⟩
 ·rw[if_neg c3] at H;have b7:decide (1≤a8)=false:=decide_eq_false c3;clear c3;obtain rfl:=Option.some.inj H;go_enter Try.func74,Try.ntmps74
  go_wp2
  go_ret
  exact⟨sD,dR⟩


def Hzx.f (a0:Int) (l1:List Int):Option (Bool):=if a0≥0 then(if 0 < (l1.length:Int) then(some (decide (a0≤(rd l1 0)))) else(none)) else(some false)
theorem Hzx.calls (a6:Int) (a7:Option Addr) (a8:Nat) (l1:List Int) (r:Bool) (w:World) (a9:cI w a7 l1) (b4:l1.length≤a8) (h:Hzx.f a6 l1=some r) :
  Calls Try.prog 101 #[.int .i64 a6,.pointer a7] w fun e w'=>e=.returned (.bool r)∧Drawn0 w w':=by
 have b5:=aM a9;have b6:=aM b4;clear a9 b4;have H:(if a6≥0 then(if 0 < (l1.length:Int) then(some (decide (a6≤(rd l1 0)))) else(none)) else(some false))=some r:=h
 clear h;by_cases c3:a6≥0
 ·rw[if_pos c3] at H;have b7:decide (0≤a6)=true:=dE c3;clear c3;obtain⟨c4,H⟩:=iO H;have b8:decide (0 < (l1.length:Int))=true:=dE c4;have b9:decide (0 < l1.length)=true:=dE (by omega)
  clear c4;obtain rfl:=Option.some.inj H;have d6:0≤(0:Int):=(by omega)
  have d7:0 < (l1.length:Int):=oE aS
  obtain⟨d8,d9,e6⟩:=Kd.at_int b5.out 0 d6 d7;cases d9
  have e7:(0 < l1.length)=True:=eq_true (by omega)
  (try rw[show((0:Int)).toNat=0 from rfl] at e6)
  (try rw[Addr.add_zero'] at e6)
  replace d6:=eq_true d6;replace d7:=eq_true d7;go_enter Try.func101,Try.ntmps101
  go_wp2
  go_ret
  exact⟨sD,dR⟩
 ·rw[if_neg c3] at H;have b7:decide (0≤a6)=false:=decide_eq_false c3;clear c3;obtain rfl:=Option.some.inj H;go_enter Try.func101,Try.ntmps101
  go_wp2
  go_ret
  exact⟨sD,dR⟩

def Bzj.l0:Nat→List Int→Int→Int→List Int→Option (Bool)
 | 0,_,_,_,_=>none
 | k+1,x7,x8,x9,x910=>if x9 < x8 then(if 0≤x9 then(if x9 < (x7.length:Int) then((Hzx.f (rd x7 x9) x910).bind fun t415=>(if t415=true then(Bzj.l0 k x7 x8 (wrap64 (x9+1)) x910) else(some false))) else(none)) else(none)) else(some true)
def Bzj.f (k:Nat) (l0:List Int) (l1_0:List Int):Option (Bool):=Bzj.l0 k l0 (l0.length:Int) 0 l1_0
theorem Bzj.mono_l:∀ k,(∀ a6 a7 a8 a9,LeO (Bzj.l0 k a6 a7 a8 a9) (Bzj.l0 (k+1) a6 a7 a8 a9))
 | 0=>fun _ _ _ _ r h=>by simp [Bzj.l0] at h
 | k+1=>by
  have ih0:=Bzj.mono_l k
  ·intro a6 a7 a8 a9;unfold Bzj.l0;exact mM
theorem Bzj.mono:∀ a6 a7 k,LeO (Bzj.f k a6 a7) (Bzj.f (k+1) a6 a7):=by
 intro a6 a7 k;have ih0:=Bzj.mono_l k;unfold Bzj.f;exact mM
theorem Bzj.calls (k:Nat) (a6:Option Addr) (a7:Nat) (l0:List Int) (a8:Option Addr) (a9:Nat) (b4:List Int) (r:Bool) (w:World) (b5:cI w a6 l0) (b6:l0.length≤a7) (b7:cI w a8 b4) (b8:b4.length≤a9) (h:Bzj.f k l0 b4=some r) :
  Calls Try.prog 100 #[.slice a6 l0.length a7,.func (.func 101) #[] #[.pointer a8]] w fun e w'=>e=.returned (.bool r)∧Drawn0 w w':=by
 have b9:=aM b5;have d6:=aM b6;clear b5 b6;have d7:=aM b7;have d8:=aM b8;clear b7 b8;have H:(Bzj.l0 k l0 (l0.length:Int) 0 b4)=some r:=h;clear h;have H':=aM H;clear H;go_enter Try.func100,Try.ntmps100
 go_wp2
 go_loopg [9] k (fun kq d9 w'=>∃ (e6:Int),d9=.int .i64 e6∧Aside0 (Bzj.l0 kq l0 (l0.length:Int) e6 b4=some r)∧Aside0 (kq≤k)∧Drawn0 w w')
 case atStart=>exact⟨(0),sD,H',⟨Nat.le_refl _⟩,dR⟩
 case round =>
  clear H';try clear e7
  obtain⟨e6,rfl,HA,e8,⟨e9,rfl⟩⟩:=hrel;cases gk with
  | zero=>exact absurd HA.out (by simp [Bzj.l0])
  | succ k1 =>
   have H:=HA.out;clear HA;simp only[Bzj.l0] at H;replace H:=iD H;rcases H with⟨f4,H⟩|⟨f4,H⟩
   ·obtain⟨f5,H⟩:=iN H;obtain⟨f6,H⟩:=iN H;obtain⟨f7,f8,H⟩:=bT H;(try dsimp only at H);have f9:=aM H;clear H;obtain⟨g4,g5,g6,g7,g8⟩:=aI b9.out e6;cases g5;go_upto_if 16 with (first|(go_at_call 101;(with_reducible refine(Hzx.calls (rd l0 e6) _ a9 b4 f7 _ ?_ ?_ f8.out).mono ?_);exact cX d7.out;exact d8.out;rintro e w' ⟨rfl,⟨nd,rfl⟩⟩))
    have H:=f9.out;clear f9;by_cases c8:f7=true
    ·subst c8;rw[if_pos rfl] at H;have H':=aM H;clear H;go_wp2
     go_roundg k1
     case measure=>have:=e8.out;omega
     case rel=>exact⟨(wrap64 (e6+1)),sD,H',⟨by have:=e8.out;omega⟩,dR⟩
    ·obtain rfl:=bN c8;rw[if_neg nF] at H
     obtain rfl:=Option.some.inj H;go_wp2
     go_ret
     exact⟨sD,dR⟩
   ·obtain rfl:=Option.some.inj H;go_wp2
    go_ret
    exact⟨sD,dR⟩

def Gzq.f (k:Nat) (l0:List Int) (a1:Int):Option (Bool):=(Bzj.f k l0 [a1]).bind fun t417=>(some t417)
theorem Gzq.mono:∀ a6 a7 k,LeO (Gzq.f k a6 a7) (Gzq.f (k+1) a6 a7):=by
 intro a6 a7 k;unfold Gzq.f;have i0:=@Bzj.mono;exact mM
theorem Gzq.calls (k:Nat) (a6:Option Addr) (a7:Nat) (l0:List Int) (a8:Int) (r:Bool) (w:World) (a9:cI w a6 l0) (b4:l0.length≤a7) (h:Gzq.f k l0 a8=some r) :
  Calls Try.prog 75 #[.slice a6 l0.length a7,.int .i64 a8] w fun e w'=>e=.returned (.bool r)∧bw w w':=by
 have b5:=aM a9;have b6:=aM b4;clear a9 b4;have HB:=aM (Below.refl w.heap.size w);have H:((Bzj.f k l0 [a8]).bind fun b7=>(some b7))=some r:=h
 clear h;replace H:=bS H;obtain⟨b7,b8,H⟩:=H;replace H:(some b7)=some r:=H;have b9:=aM b8;clear b8;obtain rfl:=Option.some.inj H;have hmf_:∀ (fn:Fn) (first cap:Array Value) (w:World),(Instr.makeFunc fn first cap).run Try.prog w=.ok (.func fn first cap) w:=fun _ _ _ _=>rfl
 go_enter Try.func75,Try.ntmps75
 go_wp2_with (first|((with_reducible refine gd 3 rfl ?_);refine bx #[.int .i64 a8] 3 ?_;intro d6 hg d7 d8 hb;have d9:=gA w hg;replace HB:=bB hb;clear hb hg)|((with_reducible refine gc 100 rfl ?_);refine gC 100 (some 7) Try.func100 #[.slice a6 l0.length a7,.func (.func 101) #[] #[.pointer (some ⟨d6,0,none⟩)]] ?_;(with_reducible refine(Bzj.calls k _ _ l0 _ 1 [a8] b7 _ ?_ ?_ ?_ ?_ b9.out).mono ?_);exact cB b5;exact b6.out;exact Kd.cap_C (kW d8) rfl;exact Nat.le_refl _;rintro e w' ⟨rfl,⟨nd,rfl⟩⟩;refine⟨_,rfl,?_⟩))
 go_ret
 exact⟨eW,pB⟩

def Gzm.f (k:Nat) (l0:List Int) (a1:Int):Option (Int):=(Hzk.f l0 a1).bind fun t418=>(if t418=true then((Gzq.f k l0 1099511627776).bind fun t419=>(if t419=true then(some 0) else(some 1))) else(some 17))
theorem Gzm.mono:∀ a6 a7 k,LeO (Gzm.f k a6 a7) (Gzm.f (k+1) a6 a7):=by
 intro a6 a7 k;unfold Gzm.f;have i0:=@Gzq.mono;exact mM
theorem Gzm.calls (k:Nat) (a6:Option Addr) (a7:Nat) (l0:List Int) (a8:Int) (r:Int) (w:World) (a9:cI w a6 l0) (b4:l0.length≤a7) (h:Gzm.f k l0 a8=some r) :
  Calls Try.prog 43 #[.slice a6 l0.length a7,.int .i64 a8] w fun e w'=>e=.returned (.int .i64 r)∧bw w w':=by
 have b5:=aM a9;have b6:=aM b4;clear a9 b4;have HB:=aM (Below.refl w.heap.size w);have H:((Hzk.f l0 a8).bind fun b7=>(if b7=true then((Gzq.f k l0 1099511627776).bind fun b8=>(if b8=true then(some 0) else(some 1))) else(some 17)))=some r:=h
 clear h;obtain⟨b7,b9,H⟩:=bT H;(try dsimp only at H);have d6:=aM H;clear H;go_enter Try.func43,Try.ntmps43
 go_upto_if 8 with (first|((with_reducible refine gc 74 rfl ?_);refine gC 74 (some 7) Try.func74 #[.slice a6 l0.length a7,.int .i64 a8] ?_;(with_reducible refine(Hzk.calls _ _ l0 a8 b7 _ ?_ ?_ b9.out).mono ?_);exact cX b5.out;exact b6.out;rintro e w' ⟨rfl,⟨nd,rfl⟩⟩;refine⟨_,rfl,?_⟩))
 have H:=d6.out;clear d6;by_cases c5:b7=true
 ·subst c5;rw[if_pos rfl] at H;obtain⟨b8,d7,H⟩:=bT H;(try dsimp only at H);by_cases c7:b8=true
  ·subst c7;rw[if_pos rfl] at H;obtain rfl:=Option.some.inj H;go_wp2_with (first|((with_reducible refine gc 75 rfl ?_);refine gC 75 (some 10) Try.func75 #[.slice a6 l0.length a7,.int .i64 1099511627776] ?_;(with_reducible refine(Gzq.calls k _ _ l0 1099511627776 true _ ?_ ?_ d7.out).mono ?_);exact cB b5;exact b6.out;rintro e d8 ⟨rfl,hb⟩;refine⟨_,rfl,?_⟩;replace HB:=bB hb;clear hb))
   go_ret
   exact⟨eW,pB⟩
  ·obtain rfl:=bN c7;rw[if_neg nF] at H
   obtain rfl:=Option.some.inj H;go_wp2_with (first|((with_reducible refine gc 75 rfl ?_);refine gC 75 (some 10) Try.func75 #[.slice a6 l0.length a7,.int .i64 1099511627776] ?_;(with_reducible refine(Gzq.calls k _ _ l0 1099511627776 false _ ?_ ?_ d7.out).mono ?_);exact cB b5;exact b6.out;rintro e d9 ⟨rfl,hb⟩;refine⟨_,rfl,?_⟩;replace HB:=bB hb;clear hb))
   go_ret
   exact⟨eW,pB⟩
 ·obtain rfl:=bN c5;rw[if_neg nF] at H
  obtain rfl:=Option.some.inj H;go_wp2
  go_ret
  exact⟨eW,pB⟩




def Gzb.f (k:Nat) (a0:Int) (l1:List (List Int)):Option (Bool × List Int × List Int):=if 0 < (l1.length:Int) then(if 0≤a0 then(if a0 < ((rd_L2 l1 0).length:Int) then((Dzm.f k (rd (rd_L2 l1 0) a0)).bind fun bt423=>(some (bt423.1,bt423.2.1,bt423.2.2))) else(none)) else(none)) else(none)
theorem Gzb.mono:∀ a6 a7 k,LeO (Gzb.f k a6 a7) (Gzb.f (k+1) a6 a7):=by
 intro a6 a7 k;unfold Gzb.f;have i0:=@Dzm.mono;exact mM
theorem Gzb.calls (k:Nat) (a6:Int) (a7:Option Addr) (a8:Nat) (l1:List (List Int)) (a9:Bool) (b4:List Int) (b5:List Int) (w:World) (b6:Kd.C (Kd.slice 3 (Kd.int .i64)) w a7 l1.length l1) (b7:l1.length≤a8) (h:Gzb.f k a6 l1=some (a9,b4,b5)) :
  Calls Try.prog 45 #[.int .i64 a6,.pointer a7] w fun e w'=>∃ v1_ v2_:Value,e=.returned (.agg #[.bool a9,v1_,v2_])∧rI w' w (oV v2_) v1_ b4∧rI w' w (oV v1_) v2_ b5∧bw w w':=by
 have hu33:=Try.underlying33;have b8:=aM b6;have b9:=aM b7;clear b6 b7;have HB:=aM (Below.refl w.heap.size w);have H:(if 0 < (l1.length:Int) then(if 0≤a6 then(if a6 < ((rd_L2 l1 0).length:Int) then((Dzm.f k (rd (rd_L2 l1 0) a6)).bind fun d6=>(some (d6.1,d6.2.1,d6.2.2))) else(none)) else(none)) else(none))=some (a9,b4,b5):=h
 clear h;by_cases c3:0 < (l1.length:Int)
 ·rw[if_pos c3] at H;have d7:=dE c3;have d8:decide (0 < l1.length)=true:=dE (by omega)
  clear c3;obtain⟨d9,H⟩:=iN H;obtain⟨e6,H⟩:=iN H;replace H:=bS H;obtain⟨⟨e7,e8,e9⟩,f4,H⟩:=H;replace H:(some (e7,e8,e9))=some (a9,b4,b5):=H;have f5:=aM f4;clear f4;obtain⟨rfl,rfl,rfl⟩:=q3 H;go_enter Try.func45,Try.ntmps45
  go_wp2_with (first|((with_reducible refine gd 3 rfl ?_);refine bz 33 ?_;intro f6 hg f7 f8 hb;have f9:=gA w hg;replace HB:=bB hb;clear hb hg;have g5:0≤(0:Int):=(by omega);have g6:0 < (l1.length:Int):=oE aS;obtain⟨g7,g8,g9,j3,j4,j5,j6⟩:=at_L2 b8.out 0 g5 g6;cases j3;have j7:(0 < l1.length)=True:=eq_true (by omega);(try rw[show((0:Int)).toNat=0 from rfl] at j4);(try rw[Addr.add_zero'] at j4);replace j4:=hB HB j4;have j8:=aM j6;have j9:=aM j5;clear j6 j5;replace g5:=eq_true g5;replace g6:=eq_true g6;obtain⟨l5,l6,l7,l8,l9⟩:=aI j8.out a6;cases l6;replace l7:=hB HB l7)|((with_reducible refine gc 34 rfl ?_);refine gC 34 (some 8) Try.func34 #[.int .i64 (rd (rd_L2 l1 0) a6)] ?_;(with_reducible refine(Dzm.calls k (rd (rd_L2 l1 0) a6) e7 e8 e9 _ f5.out).mono ?_);rintro e m0 ⟨m4,m5,rfl,m6,m7,hb⟩;refine⟨_,rfl,?_⟩;have m8:=rL m6;have m9:=rL m7;replace f8:=kb f8 hb;replace HB:=bB hb;clear hb m6 m7;obtain⟨n0,n7,n8,n9,o0,o8⟩:=bk3 f8;obtain⟨o9,p0,rfl⟩:=Kd.R_slice m8.out;obtain⟨p4,p7,rfl⟩:=Kd.R_slice m9.out))
  refine bodyPost_ret (results_cell_row rfl _ _ f6 33 #[.bool e7,.slice o9 e8.length p0,.slice p4 e9.length p7] (0,0) _ rfl (kQ f8) Try.underlying33 rfl (by kernel_rfl)) rfl ?_
  exact⟨_,_,eW,by exact Kd.R_mono (rT m8 f8) (fun _ hk=>hk),by exact Kd.R_mono (rT m9 f8) (fun _ hk=>hk),pB⟩
 ·rw[if_neg c3] at H;exact absurd H (by simp)


theorem nBd {α:Type} {d:Kd α} {e base b:Nat} {w:World} {P:Nat→Prop} {v:Value} {xs:List α} (h:Kd.N d e w base (fun k=>b≤k∧P k) v xs):Kd.N d e w base (fun k=>P k∧b≤k∧True) v xs:=Kd.N_mono h (fun _ h=>⟨h.2,h.1,trivial⟩)
theorem nBe {α:Type} {d:Kd α} {e base b:Nat} {w:World} {v:Value} {xs:List α} (h:Kd.N d e w base (fun k=>b≤k) v xs):Kd.N d e w base (fun k=>True∧b≤k∧True) v xs:=Kd.N_mono h (fun _ h=>⟨trivial,h,trivial⟩)
theorem N_make0 {P:Program} {ops:Array Oper} {Q:Exit→Act→World→Prop} {rest:List Oper} {o:Oper} {a:Act} {α:Type} (d:Kd α) {wo W:World} (base e:Nat) (hgd:o.guard=none) {N:Tmp} (hd:o.dst=some N) (t:TypeId) (x y:Operand) (ho:o.op=.makeSlice t x y) (n:Nat) (hx:a.eval x=.int .i64 0) (hy:a.eval y=.int .i64 (n:Int))
  (ht:P.underlying t=some (.slice e)) (z:Value) (bytes:Nat) (hinfo:(P.info? e).map (fun i=>(i.zero,i.size,i.bytes))=some (some z,d.sz,bytes)) (hz:z.cells.size=d.sz) (a6:0 < d.sz) (a7:0 < bytes)
  (z0:α) (hzero:d.M W base (fun _=>False) z0 z.cells.toList) {ok:Nat→Prop} (hfresh:ok W.heap.size) (hl:n * bytes≤281474976710656) (HB:Below base wo W) (hbase:base≤W.heap.size)
  (h:∀ a8 w1,Kd.N d e w1 base ok a8 []→Below base wo w1→W.grownBy w1 none→(∃ b,a8.ownBlock=some b∧W.heap.size≤b)→wpList P ops Q rest (a.put o.dst a8) w1):wpList P ops Q (o :: rest) a W:=by
 obtain⟨i0,hi,hzz⟩:=Option.map_eq_some_iff.1 hinfo;simp only[Prod.mk.injEq] at hzz;obtain⟨hz0,hz1,hz2⟩:=hzz;have hm:n≤281474976710656:=Nat.le_trans (Nat.le_mul_of_pos_right _ a7) hl;have hr:=run_make (P:=P) W t e i0 z ht hi hz0 .i64 .i64 0 (n:Int) (by omega) (by omega)
  (by
   have a9:((i0.bytes * n:Nat):Int)≤281474976710656:=by rw[hz2,Nat.mul_comm];omega
   rwa [Int.natCast_mul] at a9) (by omega)
 simp only[Int.toNat_natCast,Int.toNat_zero] at hr;rw[hz1] at hr;refine Kd.event_run (v:=.slice (some ⟨W.heap.size,0,none⟩) 0 n) (w1:=W.alloc (.cells (madeCells z.cells (n * d.sz)) e)) hgd (by simp [execOp,ho,hx,hy,hr]) (h _ _ ?_ (HB.alloc hbase _) (World.grownBy_alloc W _ none) ⟨W.heap.size,by simp [Value.ownBlock],Nat.le_refl _⟩)
 have hrep:Reps (d.M W base (fun _=>False)) d.sz (List.replicate n z0) (madeCells z.cells (n * d.sz)).toList:=Kd.reps_made hz a6 hzero n
 have hR:d.R e (W.alloc (.cells (madeCells z.cells (n * d.sz)) e)) base ok (.slice (some ⟨W.heap.size,0,none⟩) n n) (List.replicate n z0):=by
  refine⟨fun k hk=>?_,(madeCells z.cells (n * d.sz)).toList,?_,?_⟩
  ·have:W.heap.size=k:=by simpa [Value.ownBlock] using hk
   subst this;exact hfresh
  ·have b4:=World.ownsRow_lit (base:=base) (e:=e) (size:=d.sz) W (madeCells z.cells (n * d.sz)) n hbase (by simp [maxLen];omega) (by simpa using hrep.1)
   simpa using b4
  ·exact hrep.imp_ (fun p c hp=>d.M_mono (fun k hk=>hk.elim) (d.M_below hp (below_alloc (Below.refl _ _) _)))
 have:=Kd.R_take (m:=0) hR (by simp)
 exact Kd.R_N (by simpa using this)
theorem goesw1_ {P:Program} {ops:Array Oper} {Q:Exit→Act→World→Prop} {rest:List Oper} {oi:Oper} {a:Act} {w:World} (N:Option Tmp) (hd:oi.dst=N) (hg:oi.guard=none) {f:FuncId} {caps:Array Value} {fn:Func} {c x:Operand} {ts:Array TypeId} (hf:P.funcs[f]?=some fn) (hname:(fn.name == "runtime.NumGoroutine")=false) (hb:fn.body.isSome=true)
  (hop:oi.op=.call { callee:=.value c,args:=#[x],argTypes:=ts }) (hc:a.eval c=.func (.func f) #[] caps)
  (h:Calls P f (#[a.eval x] ++ caps) w fun e w'=>∃ v,e=.returned v∧wpList P ops Q rest (a.put N v) w'):wpList P ops Q (oi :: rest) a w:=by
 refine wpList_plain hg fun K hK=>?_
 have he:=enters_ hf hname hb (#[a.eval x] ++ caps) w;have hrun:(execOp a.eval oi).run P w=.ok (.enter f (#[a.eval x] ++ caps)) w:=by
  unfold execOp;simp [hop,resolve,hc,Deferred.ofValue,invoke] at he ⊢;simp [he]
 unfold Oper.wp;rw[hrun,Oper.upon_enter];refine h.mono fun e w'' hh=>?_
 obtain⟨v,rfl,hk⟩:=hh;subst hd;exact hK _ _ hk
/-- What 'each' asks of the function that it calls. -/
structure Each_ (ff:Nat) (fc:Array Value) (n:Nat) (w0:World) (I:Nat→List S33→World→(Nat→Prop)→Prop) (Q:Int→World→Prop):Prop where
 fn:∃ fn,Try.prog.funcs[ff]?=some fn∧(fn.name == "runtime.NumGoroutine")=false∧fn.body.isSome=true
 step:∀ (j:Nat) xs W ok,j < n→I j xs W ok→bw w0 W→Calls Try.prog ff (#[.int .i64 (j:Int)] ++ fc) W fun e W'=>∃ (b:Bool) (v1 v2:Value) (p q:List Int) (r:Int),e=.returned (.tuple #[.agg #[.bool b,v1,v2],.int .i64 r])∧bw w0 W'∧(r≠0→Q r W')∧(∃ ok':Nat→Prop,(r=0→I (j+1) (xs ++ [(⟨b,p,q⟩:S33)]) W' ok')∧(∀ k,ok' k→ok k∨W.heap.size≤k)∧(∀ k,ok' k→k < W'.heap.size)∧Kd.FK k33 W' (fun k=>W.heap.size≤k∧¬ ok' k) (⟨b,p,q⟩:S33) [.bool b,v1,v2]∧Kept W W' ok)
 lt:∀ j xs W ok,I j xs W ok→∀ k,ok k→k < W.heap.size
 frame:∀ j xs W W' ok,I j xs W ok→Below 0 W W'→(∀ k,ok k→W'.heap[k]?=W.heap[k]?)→I j xs W' ok
 err:∀ r W W',Q r W→Below W.heap.size W W'→Q r W'
theorem grown_below0 {w a6:World} {row:Option Nat} (h:w.grownBy a6 row):Below 0 w a6:=⟨h.os,h.tape,h.output,h.size,fun k hk=>absurd hk (Nat.not_lt_zero _)⟩
theorem Izv.calls (cp:Int) (A:Option Addr) (n c:Nat) (ff:Nat) (fc:Array Value) (w0 w:World) (I:Nat→List S33→World→(Nat→Prop)→Prop) (Q:Int→World→Prop) (ok0:Nat→Prop) (hS:Each_ ff fc n w0 I Q) (a6:I 0 [] w ok0) (hB:bw w0 w) (hn:n≤1000) :
  Calls Try.prog 48 #[.agg #[.int .i64 cp,.slice A n c],.func (.func ff) #[] fc] w fun e w'=>∃ (v:Value) (r:Int),e=.returned (.tuple #[v,.int .i64 r])∧bw w0 w'∧(r≠0→v=.slice none 0 0∧Q r w')∧(r=0→∃ xs ok,I n xs w' ok∧Kd.N k33 33 w' w0.heap.size (fun k=>w0.heap.size≤k∧¬ ok k) v xs):=by
 have HS:=aM hS;have H0:=aM a6;have HB:=aM hB;have HN:=aM hn;clear hS a6 hB hn;go_enter Try.func48,Try.ntmps48
 go_upto_region 1 with (first|((with_reducible refine gd 2 rfl ?_);refine bx #[.int .i64 cp,.slice A n c] 24 ?_;intro a7 hg w1 a8 hb;have a9:=aM hb;have G0:=aM (show w.heap.size≤a7 by rw[hg];exact Nat.le_refl _);clear hb hg))
 have BW1:=aM (HB.out.trans (a9.out.mono HB.out.size));have hn2_:=HN.out;have I1:=aM (HS.out.frame 0 [] w w1 ok0 H0.out (a9.out.mono (Nat.zero_le _)) (fun k hk=>a9.out.block k (HS.out.lt _ _ _ _ H0.out k hk)))
 have L1:=aM (HS.out.lt _ _ _ _ H0.out);have F1:=aM (show w0.heap.size≤w1.heap.size∧¬ ok0 w1.heap.size from⟨BW1.out.size,fun hk=>absurd (L1.out _ hk) (Nat.not_lt.2 a9.out.size)⟩)
 clear H0;obtain⟨b4,b5,b6,b7⟩:=bk2 a8;go_upto_region 2 with (first|((with_reducible refine gate_dst (N:=13) rfl ?_);refine N_make0 k33 (wo:=w0) w0.heap.size 33 rfl (N:=13) rfl 22 _ _ rfl n rfl rfl Try.underlying22 _ 56 info33 rfl (by decide) (by decide) z33 ?hzero (ok:=fun k=>w0.heap.size≤k∧¬ ok0 k) ?hfresh (by omega) BW1.out BW1.out.size ?_;(case hzero=>exact⟨_,_,rfl,rfl,_,_,rfl,⟨_,rfl,Kd.R_nil _ _ _ _ _⟩,⟨_,rfl,Kd.R_nil _ _ _ _ _⟩⟩);(case hfresh=>exact F1.out);intro b8 b9 hN2 d6 hg2 hat2;have HN2:=aM hN2;have d7:=aM d6;have d8:=aM hg2;clear hN2 d6 hg2 hat2))
 have I2:=aM (HS.out.frame 0 [] w1 b9 ok0 I1.out (grown_below0 d8.out) (fun k hk=>d8.out.block k (Nat.lt_of_lt_of_le (L1.out k hk) a9.out.size) (by simp)))
 obtain⟨d9⟩:Aside0 (b9.heap[a7]?=some (.cells #[.int .i64 cp,.slice A n c] 24 (0,0))):=⟨(d8.out.block a7 (blk_lt a8.out) (by simp)).trans a8.out⟩
 have d9:=aM d9;clear b4 b5 b6 b7 a8 a9 BW1 I1 F1 d8 HB;obtain⟨b4,b5,b6,b7⟩:=bk2 d9;go_wp2
 go_loopg [6,17] (n+1) (fun kq e6 e7 w'=>∃ (j:Nat) (xs:List S33) (okj:Nat→Prop),e7=.int .i64 (j:Int)∧Aside0 (j+kq=n+1∧0 < kq)∧Aside0 (xs.length=j)∧Aside0 (I j xs w' okj)∧Aside0 (Kd.N k33 33 w' w0.heap.size (fun k=>w0.heap.size≤k∧¬ okj k) e6 xs)∧Aside0 (bw w0 w'))
 case atStart=>exact⟨0,[],ok0,rfl,⟨by omega,by omega⟩,⟨rfl⟩,I2,HN2,d7⟩
 case round =>
  clear b4 b5 b6 b7 d9 I2 HN2 d7;obtain⟨j_,xs_,okj,rfl,HJ,HX,HI,HO,HB⟩:=hrel;cases gk with
  | zero=>exact absurd HJ.out.2 (by omega)
  | succ k1 =>
   by_cases c5:(j_:Int) < (n:Int)
   ·have e8:=dE c5;have e9:decide (j_ < n)=true:=dE (by omega)
    have f4:=aM c5;clear c5;obtain⟨fn_,hf_,hn_,hb_⟩:=HS.out.fn;have HF:=aM hf_;have HNM:=aM hn_;have HBD:=aM hb_;have HC:=aM (HS.out.step j_ xs_ wr okj (by have:=f4.out;omega) HI.out HB.out)
    have HLJ:=aM (HS.out.lt _ _ _ _ HI.out);clear hf_ hn_ hb_ HI;go_upto_region 6 with (first|(refine goesw1_ (some 23) rfl rfl (f:=ff) (caps:=fc) HF.out HNM.out HBD.out rfl (by first|rfl|(simp [Act.eval];done)) ?_;refine HC.out.mono ?_;rintro e f5 ⟨b_,v1_,v2_,p_,q_,r_,rfl,f6,f7,ok9,f8,f9,g4,g5,hk9⟩;refine⟨_,rfl,?_⟩;have g6:=aM f6;have g7:=aM f7;have g8:=aM f8;have HS9:=aM f9;have g9:=aM g4;have j3:=aM hk9;obtain⟨j4,c1_,j5,c2_,he_,_,_,_,_⟩:=k33_open (Kd.FK_now g5);injection he_ with he_ he2_;injection he2_ with he2_ he3_;injection he3_ with he3_ _;subst he2_ he3_;have j6:=aM g5;clear f6 f7 f8 f9 g4 g5 hk9 he_ HC HF HNM HBD)|((with_reducible refine gd 8 rfl ?_);refine bz 33 ?_;intro j7 hg wb j8 hb;have j9:=aM hb;have G8:=aM (show f5.heap.size≤j7 by rw[hg];exact Nat.le_refl _);clear hb hg;obtain⟨l5,l6,l7,l8,l9,m0⟩:=bk3 j8))
    have BK:=aM (blk_put (blk_put (blk_put j8.out 0 (.bool b_) rfl) 1 (.slice j4 p_.length c1_) rfl) 2 (.slice j5 q_.length c2_) rfl);have HWW:=aM (((j9.out.setCell (p:=⟨j7,0,none⟩) G8.out (.bool b_)).setCell (p:=⟨j7,1,none⟩) G8.out (.slice j4 p_.length c1_)).setCell (p:=⟨j7,2,none⟩) G8.out (.slice j5 q_.length c2_));clear l5 l6 l7 l8 l9 m0 j9 j8;generalize (((wb.setCell { block:=j7,off:=0 } (Value.bool b_)).setCell { block:=j7,off:=1 } (Value.slice j4 p_.length c1_)).setCell { block:=j7,off:=2 } (Value.slice j5 q_.length c2_))=m4 at BK HWW ⊢;have m5:=aM (g6.out.trans (HWW.out.mono g6.out.size));by_cases hr:r_=0
    ·subst hr;have m6:=aM (HS.out.frame _ _ _ m4 _ (g8.out rfl) (HWW.out.mono (Nat.zero_le _)) (fun k hk=>HWW.out.block k (g9.out k hk)))
     have m7:=aM (Kd.N_below (Kd.N_mono (ok':=fun k=>w0.heap.size≤k∧¬ ok9 k) (Kd.N_step (w1:=f5) (Kd.N_bound HO.out) (fun k hk hlt=>j3.out.2 k hlt hk.1.2)) (fun k hk=>⟨hk.1.1,fun m8=>(HS9.out k m8).elim hk.1.2 (fun h=>absurd hk.2 (Nat.not_lt.2 h))⟩)) HWW.out)
     have HLT:=aM (fun k=>Kd.N_lt HO.out k)
     have HOK:=aM (fun k (hk:u6.ownBlock=some k)=>m7.out.1 k hk)
     have HP:=aM (Kd.FK_mono (ok':=fun k=>(w0.heap.size≤k∧¬ ok9 k)∧some k≠u6.ownBlock) (Kd.FK_step (W1:=m4) (Kd.FK_bound j6.out) (fun k hk hlt=>HWW.out.block k hk.2)) (fun k hk=>⟨⟨Nat.le_trans HB.out.size hk.1.1,hk.1.2⟩,fun he=>absurd (HLT.out k he.symm) (Nat.not_lt.2 hk.1.1)⟩))
     have HFR:=aM (show ∀ k,m4.heap.size≤k→w0.heap.size≤k∧¬ ok9 k from fun k hk=>⟨Nat.le_trans m5.out.size hk,fun m8=>absurd (g9.out k m8) (Nat.not_lt.2 (Nat.le_trans HWW.out.size hk))⟩)
     have HLN:=aM (show(xs_.length+1) * 56≤140737488355328 by have:=HX.out;have:=f4.out;have:=HN.out;omega)
     have m9:=aM (show ∀ k,ok9 k→k < m4.heap.size from fun k m8=>Nat.lt_of_lt_of_le (g9.out k m8) HWW.out.size)
     clear j3 j6 HLT g7 g8 HS9 g9 HO g6 HLJ;obtain⟨n0,n7,n8,n9,o0,o8⟩:=bk3 BK;clear HWW BK;go_wp2_with (first|((with_reducible refine gate_builtin (b:=.append) (xs:=#[.tmp 29,.tmp 31]) rfl ?_);at_builtin;refine Kd.N_append k33 (w0:=w0) w0.heap.size rfl (.tmp 29) (.tmp 31) 22 33 (.agg #[(.bool false),(.slice none 0 0),(.slice none 0 0)]) 56 rfl Try.underlying22 info33 rfl (by decide) (by omega) u6 xs_ (⟨b_,p_,q_⟩:S33) [.bool b_,.slice j4 p_.length c1_,.slice j5 q_.length c2_] (fun k=>w0.heap.size≤k∧¬ ok9 k) (fun k=>(w0.heap.size≤k∧¬ ok9 k)∧some k≠u6.ownBlock) rfl rfl ?aP (fun _ hk=>hk) ?aF ?aO ?aB ?aS ?aL ?_;(case aP=>exact HP.out);(case aF=>exact HFR.out);(case aO=>exact m7.out);(case aB=>exact m5.out);(case aS=>exact m5.out.size);(case aL=>exact HLN.out);intro o9 p0 ho hb hg hat;have p4:=aM ho;have p7:=aM hb;have p9:=aM (HS.out.frame _ _ _ p0 _ m6.out (grown_below0 hg) (fun k hk=>hg.block k (m9.out k hk) (fun he=>(HOK.out k he.symm).2 hk)));clear ho hb hg hat m6 m7 m5))
     go_roundg k1
     case measure=>omega
     case rel =>
      have e_:wrap64 ((j_:Int)+1)=((j_+1:Nat):Int):=by have:=HN.out;have:=f4.out;unfold wrap64;omega
      exact⟨j_+1,_,ok9,by rw[e_],⟨by have:=HJ.out;omega,by have:=HJ.out;have:=f4.out;omega⟩,⟨by have:=HX.out;simp;omega⟩,p9,p4,p7⟩
    ·have r5:(r_ != 0)=true:=bne_iff_ne.mpr hr;have HQ:=aM (HS.out.err _ _ m4 (g7.out hr) HWW.out);go_wp2
     go_ret2
     exact⟨_,r_,rfl,m5.out,fun _=>⟨rfl,HQ.out⟩,fun h=>absurd h hr⟩
   ·have e8:decide ((j_:Int) < (n:Int))=false:=decide_eq_false c5;have e9:decide (j_ < n)=false:=decide_eq_false (by omega)
    have f4:=aM c5;clear c5;go_wp2
    go_ret2
    obtain rfl:j_=n:=by have:=f4.out;have:=HJ.out;omega
    exact⟨_,0,rfl,HB.out,fun h=>absurd rfl h,fun _=>⟨xs_,okj,HI.out,HO.out⟩⟩
/-- What 'each' tells: one number after the other,with a state of the function's own. -/
def eachL {σ:Type} (g:Nat→σ→Option (σ × S33 × Int)):Nat→Nat→σ→List S33→Option (σ × List S33 × Int)
 | 0,_,s,acc=>some (s,acc,0)
 | c+1,j,s,acc=>(g j s).bind fun x=>if x.2.2=0 then eachL g c (j+1) x.1 (acc ++ [x.2.1]) else some (x.1,[],x.2.2)
theorem eachL_mono {σ:Type} {g g':Nat→σ→Option (σ × S33 × Int)} (h:∀ j s,LeO (g j s) (g' j s)):∀ c j s acc,LeO (eachL g c j s acc) (eachL g' c j s acc):=by
 intro c;induction c with
 | zero=>intro j s acc;exact LeO.refl _
 | succ c ih =>
  intro j s acc;rw[eachL,eachL];exact LeO.bind (h j s) (fun x=>LeO.ite (ih _ _ _) (LeO.refl _))
structure Each2_ {σ:Type} (g:Nat→σ→Option (σ × S33 × Int)) (ff:Nat) (fc:Array Value) (n:Nat) (w0:World) (J:World→Prop) (St:Nat→σ→World→(Nat→Prop)→Prop):Prop where
 fn:∃ fn,Try.prog.funcs[ff]?=some fn∧(fn.name == "runtime.NumGoroutine")=false∧fn.body.isSome=true
 step:∀ (j:Nat) s W ok s' b p q r,j < n→St j s W ok→bw w0 W→g j s=some (s',(⟨b,p,q⟩:S33),r)→Calls Try.prog ff (#[.int .i64 (j:Int)] ++ fc) W fun e W'=>∃ (v1 v2:Value),e=.returned (.tuple #[.agg #[.bool b,v1,v2],.int .i64 r])∧bw w0 W'∧J W'∧(∃ ok':Nat→Prop,(r=0→St (j+1) s' W' ok')∧(∀ k,ok' k→ok k∨W.heap.size≤k)∧(∀ k,ok' k→k < W'.heap.size)∧Kd.FK k33 W' (fun k=>W.heap.size≤k∧¬ ok' k) (⟨b,p,q⟩:S33) [.bool b,v1,v2]∧Kept W W' ok)
 lt:∀ j s W ok,St j s W ok→∀ k,ok k→k < W.heap.size
 frame:∀ j s W W' ok,St j s W ok→Below 0 W W'→(∀ k,ok k→W'.heap[k]?=W.heap[k]?)→St j s W' ok
 stay:∀ W W',J W→Below W.heap.size W W'→J W'
theorem Izq.calls {σ:Type} (g:Nat→σ→Option (σ × S33 × Int)) (cp:Int) (A:Option Addr) (n c:Nat) (ff:Nat) (fc:Array Value) (a6 w:World) (J:World→Prop) (St:Nat→σ→World→(Nat→Prop)→Prop) (a7 a8:σ) (ys:List S33) (r:Int) (ok0:Nat→Prop) (hS:Each2_ g ff fc n a6 J St) (a9:St 0 a7 w ok0) (hB:Below a6.heap.size a6 w) (hn:n≤1000) (h:eachL g n 0 a7 []=some (a8,ys,r)) :
  Calls Try.prog 48 #[.agg #[.int .i64 cp,.slice A n c],.func (.func ff) #[] fc] w fun e w'=>∃ (v:Value),e=.returned (.tuple #[v,.int .i64 r])∧Below a6.heap.size a6 w'∧(r≠0→v=.slice none 0 0∧J w')∧(r=0→∃ ok,St n a8 w' ok∧Kd.N k33 33 w' a6.heap.size (fun k=>a6.heap.size≤k∧¬ ok k) v ys):=by
 refine(Izv.calls cp A n c ff fc a6 w (fun j xs W ok=>∃ s,St j s W ok∧j≤n∧eachL g (n - j) j s xs=some (a8,ys,r)) (fun q W=>q=r∧J W) ok0 ⟨hS.fn,?_,?_,?_,fun _ W W' h hb=>⟨h.1,hS.stay W W' h.2 hb⟩⟩ ⟨a7,a9,Nat.zero_le _,by simpa using h⟩ hB hn).mono ?_
 ·rintro j xs W ok hj ⟨s,hs,_,he⟩ hb;obtain⟨m,hm⟩:∃ m,n - j=m+1:=⟨n - j - 1,by omega⟩
  rw[hm,eachL,Option.bind_eq_some_iff] at he;obtain⟨⟨s',⟨b,p,q⟩,e⟩,hg,he⟩:=he;refine(hS.step j s W ok s' b p q e hj hs hb hg).mono ?_;rintro e' W' ⟨b4,b5,rfl,hb',hj',ok',hst,b6,b7,b8,b9⟩;refine⟨b,b4,b5,p,q,e,rfl,hb',fun hr=>?_,ok',fun hr=>?_,b6,b7,b8,b9⟩
  ·simp only[if_neg hr] at he;injection he with he
   exact⟨(congrArg (fun z=>z.2.2) he),hj'⟩
  ·simp only[if_pos hr] at he;exact⟨s',hst hr,hj,by rw[show n - (j+1)=m by omega];exact he⟩
 ·rintro j xs W ok ⟨s,hs,_⟩;exact hS.lt j s W ok hs
 ·rintro j xs W W' ok ⟨s,hs,hj,he⟩ hb hk;exact⟨s,hS.frame j s W W' ok hs hb hk,hj,he⟩
 ·rintro e w' ⟨v,q,rfl,hb,b6,b7⟩;by_cases hq:q=0
  ·obtain⟨xs,ok,⟨s,hs,_,he⟩,hN⟩:=b7 hq;rw[Nat.sub_self,eachL] at he;injection he with he
   injection he with he1 he
   injection he with he2 he3
   subst he1 he2;subst hq;subst he3;exact⟨v,rfl,hb,fun h=>absurd rfl h,fun _=>⟨ok,hs,hN⟩⟩
  ·obtain⟨hv,hr,hj⟩:=b6 hq;subst hr;exact⟨v,rfl,hb,fun _=>⟨hv,hj⟩,fun h=>absurd h hq⟩
theorem Izj.calls (k:Nat) (cp:Int) (gt gm:Nat) (A:Option Addr) (c:Nat) (l:List S33) (mf:Nat) (mc:Array Value) (j:Int) (y:S33) (a6:Bool) (a7 a8:List Int) (a9:Int) (w:World)
  (ht:w.heap[gt]?=some (.cells #[.int .i64 cp,.slice A l.length c] 24 (0,0))) (hm:w.heap[gm]?=some (.cells #[.func (.func mf) #[] mc] 50 (0,0))) (hC:Kd.C k33 w A l.length l) (b4:0≤j) (b5:j < (l.length:Int))
  (hfn:∃ fn,Try.prog.funcs[mf]?=some fn∧(fn.name == "runtime.NumGoroutine")=false∧fn.body.isSome=true)
  (hy:∀ W,bw w W→Calls Try.prog mf (#[.int .i64 j] ++ mc) W fun e W'=>∃ b6 b7 b8 c2,e=.returned (.agg #[.bool y.f0,.slice b6 y.f1.length b7,.slice b8 y.f2.length c2])∧Below W.heap.size W W'∧y.f1.length≤b7∧(Kd.int .i64).C W' b6 y.f1.length y.f1∧y.f2.length≤c2∧(Kd.int .i64).C W' b8 y.f2.length y.f2)
  (h:Gzz.f k (rd_T33 l j).f0 (rd_T33 l j).f1 (rd_T33 l j).f2 y.f0 y.f1 y.f2=some (a6,a7,a8,a9)) :
  Calls Try.prog 76 #[.int .i64 j,.pointer (some ⟨gt,0,none⟩),.pointer (some ⟨gm,0,none⟩)] w fun e w'=>∃ v1_ v2_:Value,e=.returned (.tuple #[.agg #[.bool a6,v1_,v2_],.int .i64 a9])∧rI w' w (oV v2_) v1_ a7∧rI w' w (oV v1_) v2_ a8∧bw w w':=by
 obtain⟨fn_,hf_,hn_,hb_⟩:=hfn;have HF:=aM hf_;have HNM:=aM hn_;have HBD:=aM hb_;have HQ:=aM hy;have HH:=aM h;have HB:=aM (Below.refl w.heap.size w);obtain⟨ad,b6,b7,b8,c2,ead,b9,d6,d7,d8,hC1,d9,hC2⟩:=at_T33 hC j b4 b5;subst ead;have HX:=aM (And.intro b9 (And.intro d6 d7));have HE:=aM (And.intro d8 (And.intro hC1 (And.intro d9 hC2)));have T1:=aM ((blk_cell ht 1).trans rfl);have M1:=aM ((blk_cell hm 0).trans rfl);have pT:=eq_true b4;have qT:=eq_true b5;clear hf_ hn_ hb_ hy h b9 d6 d7 d8 hC1 d9 hC2 ht hm hC b4 b5;go_enter Try.func76,Try.ntmps76
 go_upto_region 1 with (first|((with_reducible refine gd 4 rfl ?_);refine bz 33 ?_;intro e6 hg wb e7 hb;have G4:=aM (show w.heap.size≤e6 by rw[hg];exact Nat.le_refl _);replace HB:=bB hb;clear hb hg))
 have hS:∀ W,bw w W→W.cell? ⟨gt,1,none⟩=some (.slice (some ad) l.length c)∧W.cell? ⟨gm,0,none⟩=some (.func (.func mf) #[] mc)∧W.cell? (ad.add (j.toNat * 3))=some (.bool (rd_T33 l j).f0)∧W.cell? ⟨(ad.add (j.toNat * 3)).block,(ad.add (j.toNat * 3)).off+1,none⟩=some (.slice b6 (rd_T33 l j).f1.length b7)∧W.cell? ⟨(ad.add (j.toNat * 3)).block,(ad.add (j.toNat * 3)).off+2,none⟩=some (.slice b8 (rd_T33 l j).f2.length c2):=fun W hW=>⟨pw_cell_below hW T1.out,pw_cell_below hW M1.out,pw_cell_below hW HX.out.1,pw_cell_below hW HX.out.2.1,pw_cell_below hW HX.out.2.2⟩
 have HBd:=aM HB.out.drew;have e8:=aM (blk_drew e7.out);have HS:=aM hS;clear hS;refine start_ (n:=13) (S:=fun W=>W.cell? ⟨gt,1,none⟩=some (.slice (some ad) l.length c)∧W.cell? ⟨gm,0,none⟩=some (.func (.func mf) #[] mc)∧W.cell? (ad.add (j.toNat * 3))=some (.bool (rd_T33 l j).f0)∧W.cell? ⟨(ad.add (j.toNat * 3)).block,(ad.add (j.toNat * 3)).off+1,none⟩=some (.slice b6 (rd_T33 l j).f1.length b7)∧W.cell? ⟨(ad.add (j.toNat * 3)).block,(ad.add (j.toNat * 3)).off+2,none⟩=some (.slice b8 (rd_T33 l j).f2.length c2)) (ds:=[]) (bA 13 0) (by kernel_rfl) rfl rfl (HS.out _ HBd.out) (fun hHeld=>?_)
 generalize wb.drew=w1 at HBd e8 hHeld ⊢;refine pV 0 6 (bA 13 1) ?_;refine tV 1 7 (bA 13 3) hHeld ?_;refine pV 2 8 (bA 13 7) ?_;refine pV 3 9 (bA 13 15) ?_;refine tV 4 10 (bA 13 31) hHeld ?_;refine tV 5 11 (bA 13 63) hHeld ?_;refine pV 6 12 (bA 13 127) ?_;have hQ1:=HQ.out w1 HBd.out;refine one_ (i:=7) (N:=some 13) (bA 13 255) rfl rfl (by kernel_rfl) (by decide) (fun K hK=>?_)
 refine goesv_ (f:=mf) (fn:=fn_) HF.out HNM.out HBD.out (#[.int .i64 j] ++ mc) (by rfl) rfl rfl (by simp [Act.eval,capsOf]) ?_
 refine hQ1.mono ?_;rintro e f8 ⟨B1,d1,B2,d2,rfl,f9,g4,hC3,g5,hC4⟩;refine⟨_,rfl,?_⟩;have g6:=aM (below_then HBd.out HBd.out.size f9);have g7:=aM (blk_below e8.out f9);have HE2:=aM (And.intro g4 (And.intro hC3 (And.intro g5 hC4)));clear f9 g4 hC3 g5 hC4 e8 HBd hQ1;refine hK.out _ _ (HS.out _ g6.out) (fun hHeld=>?_)
 clear hK K;refine nm 13 ?_;refine one_ (i:=8) (N:=some 14) (bA 13 511) rfl rfl (by kernel_rfl) (by decide) (fun K hK=>?_)
 refine goes_ Try.func64 (by kernel_rfl) rfl #[.agg #[.bool (rd_T33 l j).f0,.slice b6 (rd_T33 l j).f1.length b7,.slice b8 (rd_T33 l j).f2.length c2],.agg #[.bool y.f0,.slice B1 y.f1.length d1,.slice B2 y.f2.length d2]] (by rfl) rfl rfl mA ?_
 refine(Gzz.calls k _ _ _ (rd_T33 l j).f1 _ _ (rd_T33 l j).f2 _ _ _ y.f1 _ _ y.f2 a6 a7 a8 a9 f8 (Kd.C_below HE.out.2.1 g6.out) HE.out.1 (Kd.C_below HE.out.2.2.2 g6.out) HE.out.2.2.1 HE2.out.2.1 HE2.out.1 HE2.out.2.2.2 HE2.out.2.2.1 HH.out).mono ?_;rintro e g8 ⟨g9,j3,rfl,j4,j5,hb⟩;refine⟨_,rfl,?_⟩;have j6:=aM (below_then g6.out g6.out.size hb);have j7:=aM (blk_below g7.out hb);have j8:=aM (Kd.R_lower j4 g6.out.size);have j9:=aM (Kd.R_lower j5 g6.out.size);clear j4 j5 hb g6 g7;obtain⟨l5,l6,rfl⟩:=Kd.R_slice j8.out;obtain⟨l7,l8,rfl⟩:=Kd.R_slice j9.out;refine hK.out _ _ (HS.out _ j6.out) (fun hHeld=>?_)
 clear hK K;refine nm 14 ?_;refine pV 9 15 (bA 13 1023) ?_;refine pV 10 16 (bA 13 2047) ?_;refine one_ (i:=11) (N:=none) (bA 13 4095) rfl rfl (by kernel_rfl) (by decide) (fun K hK=>?_)
 obtain⟨l9,m0,m4,m5,m6,m7⟩:=bk3 j7;refine skip_ (w1:=?_) (by rfl) rfl ?_ ?_
 rotate_left
 ·go_simp
  rfl
 have m8:=aM (((j6.out.setCell (p:=⟨e6,0,none⟩) G4.out (.bool a6)).setCell (p:=⟨e6,1,none⟩) G4.out (.slice l5 a7.length l6)).setCell (p:=⟨e6,2,none⟩) G4.out (.slice l7 a8.length l8));refine hK.out _ _ (HS.out _ m8.out) (fun hHeld=>?_)
 clear hK K;refine pV 12 5 (bA 13 8191) ?_;refine done_ (by kernel_rfl) ?_
 go_wp2
 refine rC e6 33 #[.bool a6,.slice l5 a7.length l6,.slice l7 a8.length l8] (blk_put (blk_put (blk_put j7.out 0 (.bool a6) rfl) 1 (.slice l5 a7.length l6) rfl) 2 (.slice l7 a8.length l8) rfl) Try.underlying33 ?_
 have fr:∀ (v u:Value) (xs:List Int) (b m9 n0:Value),rI g8 w (fun k_=>some k_≠u.ownBlock) v xs→Kd.R (Kd.int .i64) 3 (((g8.setCell ⟨e6,0,none⟩ b).setCell ⟨e6,1,none⟩ m9).setCell ⟨e6,2,none⟩ n0) w.heap.size (fun k_=>some k_≠u.ownBlock) v xs:=fun v u xs b m9 n0 hv=>Kd.R_mono (Kd.R_far (p:=⟨e6,2,none⟩) (Kd.R_far (p:=⟨e6,1,none⟩) (Kd.R_far (p:=⟨e6,0,none⟩) (Kd.R_types hv j7.out (by decide)) (fun _ hk=>hk.2) b) (fun _ hk=>hk.2) m9) (fun _ hk=>hk.2) n0) (fun _ hk=>hk.1)
 exact⟨_,_,rfl,fr _ _ _ _ _ _ j8.out,fr _ _ _ _ _ _ j9.out,m8.out⟩
theorem FK_of_R {w:World} {base:Nat} {b:Bool} {a6 a7:Option Addr} {a8 c2:Nat} {p q:List Int} {okp okq ok:Nat→Prop} (a9:Kd.R (Kd.int .i64) 3 w base okp (.slice a6 p.length a8) p) (b4:Kd.R (Kd.int .i64) 3 w base okq (.slice a7 q.length c2) q) (hok:∀ k,base≤k→k < w.heap.size→ok k):Kd.FK k33 w ok (⟨b,p,q⟩:S33) [.bool b,.slice a6 p.length a8,.slice a7 q.length c2] :=
 k33_mkF _ _ (⟨b,p,q⟩:S33) (Kd.R_reads' a9).2.1 (Kd.V_F (base:=base) (Kd.R_V (Kd.R_mono (ok':=ok) (Kd.R_tight rfl a9) (fun k hk=>hok k (Kd.R_base a9 k hk.symm) (Kd.R_lt a9 k hk.symm))))) (Kd.R_reads' b4).2.1 (Kd.V_F (base:=base) (Kd.R_V (Kd.R_mono (ok':=ok) (Kd.R_tight rfl b4) (fun k hk=>hok k (Kd.R_base b4 k hk.symm) (Kd.R_lt b4 k hk.symm)))))
/-- One number of a filled tank. -/
def filled_g (k:Nat) (g:Nat→Option S33) (l:List S33) (j:Nat) (_:Unit):Option (Unit × S33 × Int):=(g j).bind fun y=>(Gzz.f k (rd_T33 l (j:Int)).f0 (rd_T33 l (j:Int)).f1 (rd_T33 l (j:Int)).f2 y.f0 y.f1 y.f2).bind fun r=>some ((),(⟨r.1,r.2.1,r.2.2.1⟩:S33),r.2.2.2)
def Gzf.f (k:Nat) (g:Nat→Option S33) (cp:Int) (l:List S33):Option (Int × List S33 × Int):=if l.length≤1000 then(eachL (filled_g k g l) l.length 0 () []).bind fun x=>if x.2.2=0 then(Bzx.f k cp x.2.1).bind fun e=>if e=0 then some (cp,x.2.1,0) else some (0,[],e) else some (0,[],x.2.2) else none
theorem filled_each (k:Nat) (g:Nat→Option S33) (cp:Int) (A:Option Addr) (c:Nat) (l:List S33) (mf:Nat) (mc:Array Value) (gt gm:Nat) (ys:List S33) (r:Int) (a6 w:World) (hB:Below a6.heap.size a6 w)
  (ht:w.heap[gt]?=some (.cells #[.int .i64 cp,.slice A l.length c] 24 (0,0))) (hm:w.heap[gm]?=some (.cells #[.func (.func mf) #[] mc] 50 (0,0))) (hC:Kd.C k33 w A l.length l) (hn:l.length≤1000)
  (hfn:∃ fn,Try.prog.funcs[mf]?=some fn∧(fn.name == "runtime.NumGoroutine")=false∧fn.body.isSome=true)
  (hy:∀ (j:Nat) y W,j < l.length→g j=some y→bw w W→Calls Try.prog mf (#[.int .i64 (j:Int)] ++ mc) W fun e W'=>∃ a7 a8 a9 c2,e=.returned (.agg #[.bool y.f0,.slice a7 y.f1.length a8,.slice a9 y.f2.length c2])∧Below W.heap.size W W'∧y.f1.length≤a8∧(Kd.int .i64).C W' a7 y.f1.length y.f1∧y.f2.length≤c2∧(Kd.int .i64).C W' a9 y.f2.length y.f2)
  (h:eachL (filled_g k g l) l.length 0 () []=some ((),ys,r)) :
  Calls Try.prog 48 #[.agg #[.int .i64 cp,.slice A l.length c],.func (.func 76) #[] #[.pointer (some ⟨gt,0,none⟩),.pointer (some ⟨gm,0,none⟩)]] w fun e w'=>∃ (v:Value),e=.returned (.tuple #[v,.int .i64 r])∧Below a6.heap.size a6 w'∧bw w w'∧(r≠0→v=.slice none 0 0)∧(r=0→Kd.N k33 33 w' a6.heap.size (fun k=>a6.heap.size≤k∧w.heap.size≤k) v ys):=by
 refine(Izq.calls (filled_g k g l) cp A l.length c 76 #[.pointer (some ⟨gt,0,none⟩),.pointer (some ⟨gm,0,none⟩)] w w (fun _=>True) (fun _ _ W ok=>bw w W∧ok=fun k=>k < w.heap.size) () () ys r _ ⟨⟨_,Try.func76,by kernel_rfl,rfl⟩,?_,?_,?_,fun _ _ _ _=>trivial⟩ ⟨Below.refl _ _,rfl⟩ (Below.refl _ _) hn h).mono ?_
 ·rintro j s W ok s' b p q e hj ⟨hb,rfl⟩ _ hg;unfold filled_g at hg;rw[Option.bind_eq_some_iff] at hg;obtain⟨y,hgy,hg⟩:=hg;rw[Option.bind_eq_some_iff] at hg;obtain⟨⟨b4,b5,b6,b7⟩,ha,hg⟩:=hg;injection hg with hg
  injection hg with _ hg
  injection hg with hg he
  injection hg with b8 b9 d6
  simp only at b8 b9 d6 he;subst b8 b9 d6 he;refine(Izj.calls k cp gt gm A c l mf mc (j:Int) y b4 b5 b6 b7 W (blk_below ht hb) (blk_below hm hb) (Kd.C_below hC hb) (by omega) (by omega) hfn (fun W1 d7=>hy j y W1 hj hgy (below_then hb hb.size d7)) ha).mono ?_
  rintro e W' ⟨d8,d9,rfl,d7,e6,hb'⟩;obtain⟨a7,a8,rfl⟩:=Kd.R_slice d7;obtain⟨a9,c2,rfl⟩:=Kd.R_slice e6;refine⟨_,_,rfl,below_then hb hb.size hb',trivial,_,fun _=>⟨below_then hb hb.size hb',rfl⟩,fun k hk=>.inl hk,fun k hk=>Nat.lt_of_lt_of_le hk (Nat.le_trans hb.size hb'.size),FK_of_R d7 e6 (fun k hk _=>⟨hk,Nat.not_lt.2 (Nat.le_trans hb.size hk)⟩),Kept.of_below hb' _⟩
 ·rintro j s W ok ⟨hb,rfl⟩ k hk;exact Nat.lt_of_lt_of_le hk hb.size
 ·rintro j s W W' ok ⟨hb,rfl⟩ e7 hk;exact⟨⟨e7.os.trans hb.os,e7.tape.trans hb.tape,e7.output.trans hb.output,Nat.le_trans hb.size e7.size,fun k hk'=>(hk k hk').trans (hb.block k hk')⟩,rfl⟩
 ·rintro e w' ⟨v,rfl,hb,d7,e6⟩;refine⟨v,rfl,below_then hB hB.size hb,hb,fun hr=>(d7 hr).1,fun hr=>?_⟩
  obtain⟨ok,⟨_,rfl⟩,hN⟩:=e6 hr;exact Kd.N_mono (Kd.N_lower hN hB.size) (fun k hk=>⟨Nat.le_trans hB.size hk.1,hk.1⟩)
theorem Gzf.calls (k:Nat) (g:Nat→Option S33) (cp:Int) (A:Option Addr) (c:Nat) (l:List S33) (mf:Nat) (mc:Array Value) (a6:Int) (a7:List S33) (a8:Int) (w:World) (hC:Kd.C k33 w A l.length l) (hc:l.length≤c)
  (hfn:∃ fn,Try.prog.funcs[mf]?=some fn∧(fn.name == "runtime.NumGoroutine")=false∧fn.body.isSome=true)
  (hy:∀ (j:Nat) y W,j < l.length→g j=some y→bw w W→Calls Try.prog mf (#[.int .i64 (j:Int)] ++ mc) W fun e W'=>∃ a9 b4 b5 c2,e=.returned (.agg #[.bool y.f0,.slice a9 y.f1.length b4,.slice b5 y.f2.length c2])∧Below W.heap.size W W'∧y.f1.length≤b4∧(Kd.int .i64).C W' a9 y.f1.length y.f1∧y.f2.length≤c2∧(Kd.int .i64).C W' b5 y.f2.length y.f2)
  (h:Gzf.f k g cp l=some (a6,a7,a8)) :
  Calls Try.prog 44 #[.agg #[.int .i64 cp,.slice A l.length c],.func (.func mf) #[] mc] w fun e w'=>∃ v1_:Value,e=.returned (.tuple #[.agg #[.int .i64 a6,v1_],.int .i64 a8])∧Kd.N k33 33 w' w.heap.size (fun k_=>w.heap.size≤k_) v1_ a7∧bw w w':=by
 have hmf_:∀ (fn:Fn) (first cap:Array Value) (w:World),(Instr.makeFunc fn first cap).run Try.prog w=.ok (.func fn first cap) w:=fun _ _ _ _=>rfl
 unfold Gzf.f at h;by_cases hn:l.length≤1000
 ·rw[if_pos hn,Option.bind_eq_some_iff] at h;obtain⟨⟨u_,ys,b6⟩,hE,h⟩:=h;have HC:=aM hC;have HY:=aM hy;have HFN:=aM hfn;have HN:=aM hn;have HE:=aM hE;have H:=aM h;have HB:=aM (Below.refl w.heap.size w);clear hC hy hfn hn hE h;go_enter Try.func44,Try.ntmps44
  go_upto_region 2 with (first|((with_reducible refine gd 2 rfl ?_);refine bx #[.int .i64 cp,.slice A l.length c] 24 ?_;intro b7 hg b8 b9 hb;have G2:=gA w hg;replace HB:=bB hb;clear hb hg)|((with_reducible refine gd 3 rfl ?_);refine bx #[.func (.func mf) #[] mc] 50 ?_;intro d6 hg d7 d8 hb;have G3:=gA w hg;replace b9:=kb b9 hb;replace HB:=bB hb;clear hb hg)|((with_reducible refine gd 4 rfl ?_);refine bx #[.int .i64 0,.slice none 0 0] 24 ?_;intro d9 hg e6 e7 hb;have G4:=gA w hg;have N24:=nl hg b9;have N42:=ng hg b9;replace b9:=kb b9 hb;replace d8:=kb d8 hb;replace HB:=bB hb;clear hb hg;obtain⟨e8,e9,f4,f5⟩:=bk2 b9)|((with_reducible refine gate_callee (f:=48) rfl ?_);refine goesL_ (some 13) rfl rfl Try.func48 (by kernel_rfl) rfl #[.agg #[.int .i64 cp,.slice A l.length c],.func (.func 76) #[] #[.pointer (some ⟨b7,0,none⟩),.pointer (some ⟨d6,0,none⟩)]] rfl (by first|exact mA|(simp [Act.eval];done)) ?_;refine(filled_each k g cp A c l mf mc b7 d6 ys b6 w e6 HB.out b9.out d8.out (Kd.C_below HC.out HB.out) HN.out HFN.out (fun j y W hj hg hb=>HY.out j y W hj hg (below_then HB.out HB.out.size hb)) HE.out).mono ?_;rintro e f6 ⟨f7,rfl,hb,f8,hv1,hv2⟩;refine⟨_,rfl,?_⟩;have f9:=aM hb;have HV1:=aM hv1;have HV2:=aM hv2;have L4:=aM (show ∀ k,e6.heap.size≤k→k≠d9 from fun k hk he=>absurd (blk_lt e7.out) (by rw[← he];exact Nat.not_lt.2 hk));replace b9:=aM (blk_below b9.out f8);replace e7:=aM (blk_below e7.out f8);clear hb f8 hv1 hv2 e8 e9 f4 f5))
  by_cases hr:b6=0
  ·subst hr;have h:=H.out;simp only[if_true] at h;rw[Option.bind_eq_some_iff] at h;obtain⟨g4,hck,h⟩:=h;have HV:=aM (Kd.N_mono (ok':=fun k=>w.heap.size≤k∧k≠d9) (HV2.out rfl) (fun k hk=>⟨hk.1,L4.out k hk.2⟩))
   clear H HV1 HV2 L4 HE HY HC HB d8;obtain⟨g5,c5,ev5⟩:=Kd.N_slice HV.out;subst ev5;have CK:=aM hck;have H:=aM h;clear hck h;obtain⟨e8,e9,f4,f5⟩:=bk2 b9;go_upto_region 5 with (first|((with_reducible refine gd 8 rfl ?_);refine bx #[.int .i64 0,.slice none 0 0] 24 ?_;intro g6 hg g7 g8 hb;have G8:=aM (show w.heap.size≤g6 by rw[hg];exact f9.out.size);have N84:=ng hg e7;have N48:=nl hg e7;replace HV:=aM (Kd.N_mono (ok':=fun k=>(w.heap.size≤k∧k≠d9)∧k≠g6) (Kd.N_below (Kd.N_bound HV.out) hb) (fun k hk=>⟨hk.1,fun he=>absurd hk.2 (by rw[he,hg];exact Nat.lt_irrefl _)⟩));replace e7:=aM (blk_below e7.out hb);have g9:=aM (below_then f9.out f9.out.size hb);clear hb hg e8 e9 f4 f5;obtain⟨e8,e9,f4,f5⟩:=bk2 g8))
   have j3:=aM (blk_put (blk_put g8.out 0 (.int .i64 cp) rfl) 1 (.slice g5 ys.length c5) rfl);have j4:=aM ((g9.out.setCell (p:=⟨g6,0,none⟩) G8.out (.int .i64 cp)).setCell (p:=⟨g6,1,none⟩) G8.out (.slice g5 ys.length c5));have HV':=aM (Kd.N_far (p:=⟨g6,1,none⟩) (Kd.N_far (p:=⟨g6,0,none⟩) HV.out (fun _ hk=>hk.2) (.int .i64 cp)) (fun _ hk=>hk.2) (.slice g5 ys.length c5))
   have j5:=aM (blk_far (p:=⟨g6,1,none⟩) (blk_far (p:=⟨g6,0,none⟩) e7.out N48.out (.int .i64 cp)) N48.out (.slice g5 ys.length c5));clear g8 g9 HV e7 e8 e9 f4 f5 f9;generalize ((g7.setCell { block:=g6,off:=0 } (Value.int IntKind.i64 cp)).setCell { block:=g6,off:=1 } (Value.slice g5 ys.length c5))=j6 at j3 j4 HV' j5 ⊢;obtain⟨e8,e9,f4,f5⟩:=bk2 j3;go_upto_region 6 with (first|((with_reducible refine gc 17 rfl ?_);refine gC 17 (some 25) Try.func17 #[.agg #[.int .i64 cp,.slice g5 ys.length c5]] ?_;refine(Bzx.calls k cp g5 c5 ys g4 j6 (Kd.N_reads' HV'.out).2.2 (Kd.N_reads' HV'.out).2.1 CK.out).mono ?_;rintro e j7 ⟨rfl,hb⟩;refine⟨_,rfl,?_⟩;have j8:=aM (below_then j4.out j4.out.size hb);have HV10:=aM (Kd.N_below HV'.out hb);have j9:=aM (blk_below j3.out hb);have l5:=aM (blk_below j5.out hb);clear hb j3 j4 HV' j5 e8 e9 f4 f5))
   by_cases hr:g4=0
   ·subst hr;have h:=H.out;simp only[if_true] at h;injection h with h
    injection h with l6 h
    injection h with l7 l8
    subst l6 l7 l8;obtain⟨e8,e9,f4,f5⟩:=bk2 j9;obtain⟨hdz0,hdz1,hgz0,hgz1⟩:=bk2 l5;go_wp2
    refine rC d9 24 #[.int .i64 cp,.slice g5 ys.length c5] (blk_put (blk_put l5.out 0 (.int .i64 cp) rfl) 1 (.slice g5 ys.length c5) rfl) Try.underlying24 ?_
    exact⟨_,rfl,Kd.N_mono (Kd.N_far (p:=⟨d9,1,none⟩) (Kd.N_far (p:=⟨d9,0,none⟩) HV10.out (fun _ hk=>hk.1.2) (.int .i64 cp)) (fun _ hk=>hk.1.2) (.slice g5 ys.length c5)) (fun _ hk=>hk.1.1),(j8.out.setCell (p:=⟨d9,0,none⟩) G4.out _).setCell (p:=⟨d9,1,none⟩) G4.out _⟩
   ·have h:=H.out;simp only[if_neg hr] at h;injection h with h
    injection h with l6 h
    injection h with l7 l8
    subst l6 l7 l8;have l9:(g4 != 0)=true:=bne_iff_ne.mpr hr;obtain⟨e8,e9,f4,f5⟩:=bk2 j9;obtain⟨hdz0,hdz1,hgz0,hgz1⟩:=bk2 l5;go_wp2
    refine rC d9 24 #[.int .i64 0,.slice none 0 0] (blk_put (blk_put l5.out 0 (.int .i64 0) rfl) 1 (.slice none 0 0) rfl) Try.underlying24 ?_
    exact⟨_,rfl,Kd.N_nil _ _ _ _ _,(j8.out.setCell (p:=⟨d9,0,none⟩) G4.out _).setCell (p:=⟨d9,1,none⟩) G4.out _⟩
  ·have h:=H.out;simp only[if_neg hr] at h;injection h with h
   injection h with l6 h
   injection h with l7 l8
   subst l6 l7 l8;have l9:(b6 != 0)=true:=bne_iff_ne.mpr hr;obtain⟨e8,e9,f4,f5⟩:=bk2 e7;go_wp2
   refine rC d9 24 #[.int .i64 0,.slice none 0 0] (blk_put (blk_put e7.out 0 (.int .i64 0) rfl) 1 (.slice none 0 0) rfl) Try.underlying24 ?_
   exact⟨_,rfl,Kd.N_nil _ _ _ _ _,(f9.out.setCell (p:=⟨d9,0,none⟩) G4.out _).setCell (p:=⟨d9,1,none⟩) G4.out _⟩
 ·rw[if_neg hn] at h;cases h
def fill_g (k:Nat) (m:List Int) (j:Nat):Option S33:=(Gzb.f k (j:Int) [m]).bind fun b=>some (⟨b.1,b.2.1,b.2.2⟩:S33)
def Gzk.f (k:Nat) (cp:Int) (l:List S33) (m:List Int):Option (Int × List S33 × Int):=(Bzx.f k cp l).bind fun e=>if e=0 then(Gzm.f k m (l.length:Int)).bind fun e2=>if e2=0 then Gzf.f k (fill_g k m) cp l else some (0,[],e2) else some (0,[],e)
theorem Gzk.calls (k:Nat) (cp:Int) (A:Option Addr) (c:Nat) (l:List S33) (a6:Option Addr) (a7:Nat) (m:List Int) (a8:Int) (a9:List S33) (b4:Int) (w:World) (hC:Kd.C k33 w A l.length l) (hc:l.length≤c) (hC1:cI w a6 m) (b5:m.length≤a7) (h:Gzk.f k cp l m=some (a8,a9,b4)) :
  Calls Try.prog 20 #[.agg #[.int .i64 cp,.slice A l.length c],.slice a6 m.length a7] w fun e w'=>∃ v1_:Value,e=.returned (.tuple #[.agg #[.int .i64 a8,v1_],.int .i64 b4])∧Kd.N k33 33 w' w.heap.size (fun k_=>w.heap.size≤k_) v1_ a9∧bw w w':=by
 have hmf_:∀ (fn:Fn) (first cap:Array Value) (w:World),(Instr.makeFunc fn first cap).run Try.prog w=.ok (.func fn first cap) w:=fun _ _ _ _=>rfl
 have zer:∀ (wz:World) (g:Nat) (tm:Array Value) (q:Int),w.heap.size≤g→bw w wz→wz.heap[g]?=some (.cells #[.int .i64 0,.slice none 0 0] 24 (0,0))→Below w.heap.size w ((wz.setCell ⟨g,0,none⟩ (.int .i64 0)).setCell ⟨g,1,none⟩ (.slice none 0 0))∧((wz.setCell ⟨g,0,none⟩ (.int .i64 0)).setCell ⟨g,1,none⟩ (.slice none 0 0)).heap[g]?=some (.cells #[.int .i64 0,.slice none 0 0] 24 (0,0)):=fun wz g tm q hg hb hk=>⟨(hb.setCell (p:=⟨g,0,none⟩) hg _).setCell (p:=⟨g,1,none⟩) hg _,blk_put (blk_put hk 0 (.int .i64 0) rfl) 1 (.slice none 0 0) rfl⟩
 unfold Gzk.f at h;rw[Option.bind_eq_some_iff] at h;obtain⟨b6,hck,h⟩:=h;have HC:=aM hC;have HL:=aM hc;have b7:=aM hC1;have b8:=aM b5;have CK:=aM hck;have H:=aM h;have HB:=aM (Below.refl w.heap.size w);clear hC hc hC1 b5 hck h;go_enter Try.func20,Try.ntmps20
 go_upto_region 2 with (first|((with_reducible refine gd 2 rfl ?_);refine bx #[.int .i64 cp,.slice A l.length c] 24 ?_;intro b9 hg d6 d7 hb;have G2:=gA w hg;replace HB:=bB hb;clear hb hg)|((with_reducible refine gd 3 rfl ?_);refine bx #[.slice a6 m.length a7] 30 ?_;intro d8 hg d9 e6 hb;have G3:=gA w hg;replace d7:=kb d7 hb;replace HB:=bB hb;clear hb hg)|((with_reducible refine gd 4 rfl ?_);refine bx #[.int .i64 0,.slice none 0 0] 24 ?_;intro e7 hg e8 e9 hb;have G4:=gA w hg;have N2_4:=nl hg d7;have N4_2:=ng hg d7;have N3_4:=nl hg e6;have N4_3:=ng hg e6;replace d7:=kb d7 hb;replace e6:=kb e6 hb;replace HB:=bB hb;clear hb hg;obtain⟨f4,f5,f6,f7⟩:=bk2 d7)|((with_reducible refine gate_callee (f:=17) rfl ?_);refine goesL_ (some 9) rfl rfl Try.func17 (by kernel_rfl) rfl #[.agg #[.int .i64 cp,.slice A l.length c]] rfl (by first|exact mA|(simp [Act.eval];done)) ?_;refine(Bzx.calls k cp A c l b6 _ (Kd.C_below HC.out HB.out) HL.out CK.out).mono ?_;rintro e f8 ⟨rfl,hb⟩;refine⟨_,rfl,?_⟩;replace d7:=kb d7 hb;replace e6:=kb e6 hb;replace e9:=kb e9 hb;replace HB:=bB hb;clear hb f4 f5 f6 f7 CK))
 by_cases hr:b6=0
 ·subst hr;have h:=H.out;simp only[if_true] at h;rw[Option.bind_eq_some_iff] at h;obtain⟨f9,hfp,h⟩:=h;have FP:=aM hfp;replace H:=aM h;clear hfp h;obtain⟨f4,f5,f6,f7⟩:=bk2 d7;obtain⟨hdz0,hgz0⟩:=bk1 e6;go_upto_region 5 with (first|((with_reducible refine gate_callee (f:=43) rfl ?_);refine goesL_ (some 18) rfl rfl Try.func43 (by kernel_rfl) rfl #[.slice a6 m.length a7,.int .i64 (l.length:Int)] rfl (by first|exact mA|(simp [Act.eval];done)) ?_;refine(Gzm.calls k a6 a7 m (l.length:Int) f9 _ (Kd.C_below b7.out HB.out) b8.out FP.out).mono ?_;rintro e g4 ⟨rfl,hb⟩;refine⟨_,rfl,?_⟩;replace d7:=kb d7 hb;replace e6:=kb e6 hb;replace e9:=kb e9 hb;replace HB:=bB hb;clear hb f4 f5 f6 f7 hdz0 hgz0 FP))
  by_cases hr:f9=0
  ·subst hr;have h:=H.out;simp only[if_true] at h;replace H:=aM h;clear h;obtain⟨f4,f5,f6,f7⟩:=bk2 d7;obtain⟨hdz0,hgz0⟩:=bk1 e6;have hfn:∃ fn,Try.prog.funcs[45]?=some fn∧(fn.name == "runtime.NumGoroutine")=false∧fn.body.isSome=true:=⟨_,Try.func45,by kernel_rfl,rfl⟩
   have HFN:=aM hfn;clear hfn;have hy:∀ (W0:World),bw w W0→W0.heap[d8]?=some (.cells #[.slice a6 m.length a7] 30 (0,0))→∀ (j:Nat) y W,j < l.length→fill_g k m j=some y→Below W0.heap.size W0 W→Calls Try.prog 45 (#[.int .i64 (j:Int)] ++ #[.pointer (some ⟨d8,0,none⟩)]) W fun e W'=>∃ a6 a7 g5 c2,e=.returned (.agg #[.bool y.f0,.slice a6 y.f1.length a7,.slice g5 y.f2.length c2])∧Below W.heap.size W W'∧y.f1.length≤a7∧(Kd.int .i64).C W' a6 y.f1.length y.f1∧y.f2.length≤c2∧(Kd.int .i64).C W' g5 y.f2.length y.f2:=by
    intro W0 g6 hk0 j y W hj hg hb;unfold fill_g at hg;rw[Option.bind_eq_some_iff] at hg;obtain⟨⟨g7,g8,g9⟩,ha,hg⟩:=hg;injection hg with hg
    subst hg;refine(Gzb.calls k (j:Int) (some ⟨d8,0,none⟩) 1 [m] g7 g8 g9 W (Kd.cap_C (blk_below hk0 hb) ⟨a6,a7,rfl,b8.out,Kd.C_below b7.out (below_then g6 g6.size hb)⟩) (Nat.le_refl _) ha).mono ?_;rintro e W' ⟨j3,j4,rfl,j5,j6,hb'⟩;obtain⟨B1,d1,rfl⟩:=Kd.R_slice j5;obtain⟨B2,d2,rfl⟩:=Kd.R_slice j6;exact⟨B1,d1,B2,d2,rfl,hb',(Kd.R_reads' j5).2.1,(Kd.R_reads' j5).2.2,(Kd.R_reads' j6).2.1,(Kd.R_reads' j6).2.2⟩
   have HY:=aM hy;clear hy;go_wp2_with (first|((with_reducible refine gate_callee (f:=44) rfl ?_);refine goesL_ (some 25) rfl rfl Try.func44 (by kernel_rfl) rfl #[.agg #[.int .i64 cp,.slice A l.length c],.func (.func 45) #[] #[.pointer (some ⟨d8,0,none⟩)]] rfl (by first|exact mA|(simp [Act.eval];done)) ?_;have L4:=aM (Kd.freshB e9.out);refine(Gzf.calls k (fill_g k m) cp A c l 45 #[.pointer (some ⟨d8,0,none⟩)] a8 a9 b4 _ (Kd.C_below HC.out HB.out) HL.out HFN.out (HY.out _ HB.out e6.out) H.out).mono ?_;rintro e j7 ⟨j8,rfl,hv,hb⟩;refine⟨_,rfl,?_⟩;replace e9:=kb e9 hb;have HV:=aM (Kd.N_mono (ok':=fun k_=>w.heap.size≤k_∧k_≠e7) (Kd.N_lower hv HB.out.size) (fun k_ hk_=>⟨Nat.le_trans HB.out.size hk_,L4.out k_ hk_⟩));replace HB:=bB hb;clear hb hv f4 f5 f6 f7 hdz0 hgz0;obtain⟨j9,c5,ev⟩:=Kd.N_slice HV.out;subst ev;obtain⟨hdz0,hdz1,hgz0,hgz1⟩:=bk2 e9))
   refine rC e7 24 #[.int .i64 a8,.slice j9 a9.length c5] (blk_put (blk_put e9.out 0 (.int .i64 a8) rfl) 1 (.slice j9 a9.length c5) rfl) Try.underlying24 ?_
   exact⟨_,rfl,Kd.N_mono (Kd.N_far (p:=⟨e7,1,none⟩) (Kd.N_far (p:=⟨e7,0,none⟩) HV.out (fun _ hk=>hk.2) (.int .i64 a8)) (fun _ hk=>hk.2) (.slice j9 a9.length c5)) (fun _ hk=>hk.1),(HB.out.setCell (p:=⟨e7,0,none⟩) G4.out _).setCell (p:=⟨e7,1,none⟩) G4.out _⟩
  ·have h:=H.out;simp only[if_neg hr] at h;injection h with h
   injection h with j5 h
   injection h with j6 l5
   subst j5 j6 l5;have l6:(f9 != 0)=true:=bne_iff_ne.mpr hr;obtain⟨hdz0,hdz1,hgz0,hgz1⟩:=bk2 e9;go_wp2
   obtain⟨zb,zk⟩:=zer _ e7 #[] 0 G4.out HB.out e9.out;refine rC e7 24 #[.int .i64 0,.slice none 0 0] zk Try.underlying24 ?_
   exact⟨_,rfl,Kd.N_nil _ _ _ _ _,zb⟩
 ·have h:=H.out;simp only[if_neg hr] at h;injection h with h
  injection h with j5 h
  injection h with j6 l5
  subst j5 j6 l5;have l6:(b6 != 0)=true:=bne_iff_ne.mpr hr;obtain⟨hdz0,hdz1,hgz0,hgz1⟩:=bk2 e9;go_wp2
  obtain⟨zb,zk⟩:=zer _ e7 #[] 0 G4.out HB.out e9.out;refine rC e7 24 #[.int .i64 0,.slice none 0 0] zk Try.underlying24 ?_
  exact⟨_,rfl,Kd.N_nil _ _ _ _ _,zb⟩
theorem filled_g_mono (k:Nat) (g g':Nat→Option S33) (hg:∀ j,LeO (g j) (g' j)) (l:List S33) (j:Nat) (s:Unit):LeO (filled_g k g l j s) (filled_g (k+1) g' l j s):=LeO.bind (hg j) (fun y=>LeO.bind (Gzz.mono _ _ _ _ _ _ k) (fun _=>LeO.refl _))
theorem tank_filled_mono (k:Nat) (g g':Nat→Option S33) (hg:∀ j,LeO (g j) (g' j)) (cp:Int) (l:List S33):LeO (Gzf.f k g cp l) (Gzf.f (k+1) g' cp l):=by
 unfold Gzf.f;exact LeO.ite (LeO.bind (eachL_mono (fun j s=>filled_g_mono k g g' hg l j s) _ _ _ _) (fun x=>LeO.ite (LeO.bind (Bzx.mono _ _ k) (fun _=>LeO.refl _)) (LeO.refl _))) (LeO.refl _)
theorem Gzk.mono:∀ a6 a7 a8 k,LeO (Gzk.f k a6 a7 a8) (Gzk.f (k+1) a6 a7 a8):=by
 intro a6 a7 a8 k;unfold Gzk.f;exact LeO.bind (Bzx.mono _ _ k) (fun _=>LeO.ite (LeO.bind (Gzm.mono _ _ k) (fun _=>LeO.ite (tank_filled_mono k _ _ (fun j=>LeO.bind (Gzb.mono _ _ k) (fun _=>LeO.refl _)) _ _) (LeO.refl _))) (LeO.refl _))


def Fzk.f (k:Nat) (a0_0:Int) (l0_1:List (S33)):Option (Bool × List Int × List Int × Int):=(Bzx.f k a0_0 l0_1).bind fun t432=>(if t432=0 then((Fzq.f k l0_1).bind fun bt433=>(some (bt433.1,bt433.2.1,bt433.2.2.1,bt433.2.2.2))) else(some (false,([]:List Int),([]:List Int),t432)))
theorem Fzk.mono:∀ a6 a7 k,LeO (Fzk.f k a6 a7) (Fzk.f (k+1) a6 a7):=by
 intro a6 a7 k;unfold Fzk.f;have i0:=@Fzq.mono;have i1:=@Bzx.mono;exact mM
theorem Fzk.calls (k:Nat) (a6:Int) (a7:Option Addr) (a8:Nat) (a9:List (S33)) (b4:Bool) (b5:List Int) (b6:List Int) (b7:Int) (w:World) (b8:Kd.C k33 w a7 a9.length a9) (b9:a9.length≤a8) (h:Fzk.f k a6 a9=some (b4,b5,b6,b7)) :
  Calls Try.prog 14 #[.agg #[.int .i64 a6,.slice a7 a9.length a8]] w fun e w'=>∃ v1_ v2_:Value,e=.returned (.tuple #[.agg #[.bool b4,v1_,v2_],.int .i64 b7])∧rI w' w (oV v2_) v1_ b5∧rI w' w (oV v1_) v2_ b6∧bw w w':=by
 have hu24:=Try.underlying24;have hu33:=Try.underlying33;have d6:=aM b8;have d7:=aM b9;clear b8 b9;have HB:=aM (Below.refl w.heap.size w);have H:((Bzx.f k a6 a9).bind fun d8=>(if d8=0 then((Fzq.f k a9).bind fun d9=>(some (d9.1,d9.2.1,d9.2.2.1,d9.2.2.2))) else(some (false,([]:List Int),([]:List Int),d8))))=some (b4,b5,b6,b7):=h
 clear h;obtain⟨d8,e6,H⟩:=bT H;(try dsimp only at H);have e7:=aM H;clear H;go_enter Try.func14,Try.ntmps14
 go_upto_if 8 with (first|((with_reducible refine gd 1 rfl ?_);refine bx #[.int .i64 a6,.slice a7 a9.length a8] 24 ?_;intro e8 hg e9 f4 hb;have f5:=gA w hg;replace HB:=bB hb;clear hb hg)|((with_reducible refine gd 2 rfl ?_);refine bz 33 ?_;intro f7 hg f8 f9 hb;have g4:=gA w hg;have g6:=nl hg f4;have g7:=ng hg f4;replace f4:=kb f4 hb;replace HB:=bB hb;clear hb hg;have g8:=g6.out;have g9:=g7.out;obtain⟨j3,j4,j5,j6⟩:=bk2 f4)|((with_reducible refine gc 17 rfl ?_);refine gC 17 (some 6) Try.func17 #[.agg #[.int .i64 a6,.slice a7 a9.length a8]] ?_;(with_reducible refine(Bzx.calls k a6 _ _ a9 d8 _ ?_ ?_ e6.out).mono ?_);exact cB d6;exact d7.out;rintro e j7 ⟨rfl,hb⟩;refine⟨_,rfl,?_⟩;replace f4:=kb f4 hb;replace f9:=kb f9 hb;replace HB:=bB hb;clear hb))
 have H:=e7.out;clear e7;replace H:=iE H;rcases H with⟨j8,j9,H⟩|⟨c9,j8,j9,H⟩
 ·(first|rw[j8]|(simp only[i64_w,i32_w];rw[j8])|skip)
  replace H:=bS H;obtain⟨⟨l5,l6,l7,l8⟩,l9,H⟩:=H;replace H:(some (l5,l6,l7,l8))=some (b4,b5,b6,b7):=H;have m0:=aM l9;clear l9;obtain⟨rfl,rfl,rfl,rfl⟩:=q4 H;have m4:=g6.out;have m5:=g7.out;obtain⟨m6,m7,m8,m9⟩:=bk2 f4;go_wp2_with (first|((with_reducible refine gc 36 rfl ?_);refine gC 36 (some 13) Try.func36 #[.slice a7 a9.length a8] ?_;(with_reducible refine(Fzq.calls k _ _ a9 l5 l6 l7 l8 _ ?_ ?_ m0.out).mono ?_);exact cB d6;exact d7.out;rintro e n0 ⟨n7,n8,rfl,n9,o0,hb⟩;refine⟨_,rfl,?_⟩;have o8:=rL n9;have o9:=rL o0;replace f4:=kb f4 hb;replace f9:=kb f9 hb;replace HB:=bB hb;clear hb n9 o0;obtain⟨p0,p4,p7,p9,r5,r6⟩:=bk3 f9;obtain⟨r7,r8,rfl⟩:=Kd.R_slice o8.out;obtain⟨r9,t4,rfl⟩:=Kd.R_slice o9.out))
  refine rC f7 33 #[.bool l5,.slice r7 l6.length r8,.slice r9 l7.length t4] (kQ f9) Try.underlying33 ?_
  exact⟨_,_,eW,by exact Kd.R_mono (rT o8 f9) (fun _ hk=>hk),by exact Kd.R_mono (rT o9 f9) (fun _ hk=>hk),pB⟩
 ·(first|rw[j8]|(simp only[i64_w,i32_w];rw[j8])|skip)
  obtain⟨rfl,rfl,rfl,rfl⟩:=q4 H;have t5:=g7.out;have t6:=g6.out;obtain⟨t7,t8,t9,z3,z4,z5⟩:=bk3 f9;go_wp2
  refine rC f7 33 #[.bool false,.slice none 0 0,.slice none 0 0] (kQ f9) Try.underlying33 ?_
  exact⟨_,_,eW,nK,nK,pB⟩

def Hzw.f (k:Nat) (l0:List Int):Option (Int × Int):=(Azy.f k l0).bind fun t441=>(if t441=true then(if(l0.length:Int) > 2 then(some (0,2)) else((Dzx.f k l0).bind fun t442=>(if t442 > 1125899906842624 then(some (0,2)) else((Dzx.f k l0).bind fun t443=>(some (t443,0)))))) else(some (0,3)))
theorem Hzw.mono:∀ a6 k,LeO (Hzw.f k a6) (Hzw.f (k+1) a6):=by
 intro a6 k;unfold Hzw.f;have i0:=@Azy.mono;have i1:=@Dzx.mono;exact mM
theorem Hzw.calls (k:Nat) (a6:Option Addr) (a7:Nat) (l0:List Int) (a8:Int) (a9:Int) (w:World) (b4:cI w a6 l0) (b5:l0.length≤a7) (h:Hzw.f k l0=some (a8,a9)) :
  Calls Try.prog 103 #[.slice a6 l0.length a7] w fun e w'=>e=.returned (.tuple #[.int .i64 a8,.int .i64 a9])∧Drawn0 w w':=by
 have b6:=aM b4;have b7:=aM b5;clear b4 b5;have H:((Azy.f k l0).bind fun b8=>(if b8=true then(if(l0.length:Int) > 2 then(some (0,2)) else((Dzx.f k l0).bind fun b9=>(if b9 > 1125899906842624 then(some (0,2)) else((Dzx.f k l0).bind fun d6=>(some (d6,0)))))) else(some (0,3))))=some (a8,a9):=h
 clear h;obtain⟨b8,d7,H⟩:=bT H;(try dsimp only at H);have d8:=aM H;clear H;go_enter Try.func103,Try.ntmps103
 go_upto_if 6 with (first|((with_reducible refine gc 65 rfl ?_);refine gC 65 (some 5) Try.func65 #[.slice a6 l0.length a7] ?_;(with_reducible refine(Azy.calls k _ _ l0 b8 _ ?_ ?_ d7.out).mono ?_);exact cX b6.out;exact b7.out;rintro e w' ⟨rfl,⟨nd,rfl⟩⟩;refine⟨_,rfl,?_⟩))
 have H:=d8.out;clear d8;by_cases c4:b8=true
 ·subst c4;rw[if_pos rfl] at H;by_cases c5:(l0.length:Int) > 2
  ·rw[if_pos c5] at H;have d9:decide (2 < (l0.length:Int))=true:=dE c5;have e6:decide (2 < l0.length)=true:=dE (by omega)
   clear c5;(first|rw[d9]|(simp only[i64_w,i32_w];rw[d9])|skip)
   obtain⟨rfl,rfl⟩:=q2 H;go_wp2
   go_ret2
   exact⟨sD,dR⟩
  ·rw[if_neg c5] at H;have d9:decide (2 < (l0.length:Int))=false:=decide_eq_false c5;have e6:decide (2 < l0.length)=false:=decide_eq_false (by omega)
   clear c5;(first|rw[d9]|(simp only[i64_w,i32_w];rw[d9])|skip)
   obtain⟨b9,e7,H⟩:=bT H;(try dsimp only at H);have e8:=aM H;clear H;go_upto_if 14 with (first|(go_at_call 94;(with_reducible refine(Dzx.calls k _ _ l0 b9 _ ?_ ?_ e7.out).mono ?_);exact cX b6.out;exact b7.out;rintro e w' ⟨rfl,⟨nd,rfl⟩⟩))
   have H:=e8.out;clear e8;by_cases c8:b9 > 1125899906842624
   ·rw[if_pos c8] at H;have e9:decide (1125899906842624 < b9)=true:=dE c8;clear c8;(first|rw[e9]|(simp only[i64_w,i32_w];rw[e9])|skip)
    obtain⟨rfl,rfl⟩:=q2 H;go_wp2
    go_ret2
    exact⟨sD,dR⟩
   ·rw[if_neg c8] at H;have e9:decide (1125899906842624 < b9)=false:=decide_eq_false c8;clear c8;(first|rw[e9]|(simp only[i64_w,i32_w];rw[e9])|skip)
    replace H:=bS H;obtain⟨d6,f4,H⟩:=H;replace H:(some (d6,0))=some (a8,a9):=H;have f5:=aM f4;clear f4;obtain⟨rfl,rfl⟩:=q2 H;go_wp2_with (first|((with_reducible refine gc 94 rfl ?_);refine gC 94 (some 16) Try.func94 #[.slice a6 l0.length a7] ?_;(with_reducible refine(Dzx.calls k _ _ l0 d6 _ ?_ ?_ f5.out).mono ?_);exact cX b6.out;exact b7.out;rintro e w' ⟨rfl,⟨nd,rfl⟩⟩;refine⟨_,rfl,?_⟩))
    go_ret2
    exact⟨sD,dR⟩
 ·obtain rfl:=bN c4;rw[if_neg nF] at H
  obtain⟨rfl,rfl⟩:=q2 H;go_wp2
  go_ret2
  exact⟨sD,dR⟩


mutual
def Dzf.j0:Nat→Int→Bool→Bool→List Int→List Int→Option (Int × Int)
 | 0,_,_,_,_,_=>none
 | k+1,x9,x37,x445000,x445001,x445002=>if x37=true then(Dzf.j1 k (wrap64 (x9+1)) x445000 x445001 x445002) else(Dzf.j1 k x9 x445000 x445001 x445002)
def Dzf.j1:Nat→Int→Bool→List Int→List Int→Option (Int × Int)
 | 0,_,_,_,_=>none
 | k+1,x9,x445000,x445001,x445002=>if x9 > 1125899906842624 then(some (0,2)) else(if x445000=true then(some (wrap64 (-x9),0)) else(some (x9,0)))
end
def Dzf.f (k:Nat) (a0_0:Bool) (l0_1:List Int) (l0_2:List Int) (a1:Bool):Option (Int × Int):=(Fzy.f k a0_0 l0_1 l0_2).bind fun t445=>(if t445=true then((Dzk.f k l0_1 l0_2).bind fun bt446=>(if bt446.2.2=0 then((Hzw.f k bt446.1).bind fun bt453=>(if bt453.2=0 then(if(bt446.2.1.length:Int) > 0 then(Dzf.j0 k bt453.1 a1 a0_0 l0_1 l0_2) else(Dzf.j0 k bt453.1 false a0_0 l0_1 l0_2)) else(some (0,2)))) else(some (0,bt446.2.2)))) else(some (0,3)))
theorem Dzf.mono_l:∀ k,(∀ a6 a7 a8 a9 b4,LeO (Dzf.j0 k a6 a7 a8 a9 b4) (Dzf.j0 (k+1) a6 a7 a8 a9 b4))∧(∀ a6 a7 a8 a9,LeO (Dzf.j1 k a6 a7 a8 a9) (Dzf.j1 (k+1) a6 a7 a8 a9))
 | 0=>⟨fun _ _ _ _ _ r h=>by simp [Dzf.j0] at h,fun _ _ _ _ r h=>by simp [Dzf.j1] at h⟩
 | k+1=>by
  obtain⟨ih0,ih1⟩:=Dzf.mono_l k;have i0:=@Dzk.mono;have i1:=@Hzw.mono;have i2:=@Fzy.mono;refine⟨?_,?_⟩
  ·intro a6 a7 a8 a9 b4;unfold Dzf.j0;exact mM
  ·intro a6 a7 a8 a9;unfold Dzf.j1;exact mM
theorem Dzf.mono:∀ a6 a7 a8 a9 k,LeO (Dzf.f k a6 a7 a8 a9) (Dzf.f (k+1) a6 a7 a8 a9):=by
 intro a6 a7 a8 a9 k;obtain⟨ih0,ih1⟩:=Dzf.mono_l k;unfold Dzf.f;have i0:=@Dzk.mono;have i1:=@Hzw.mono;have i2:=@Fzy.mono;exact mM
theorem Dzf.calls (k:Nat) (a6:Bool) (a7:Option Addr) (a8:Nat) (a9:List Int) (b4:Option Addr) (b5:Nat) (b6:List Int) (b7:Bool) (b8:Int) (b9:Int) (w:World) (d6:cI w a7 a9) (d7:a9.length≤a8) (d8:cI w b4 b6) (d9:b6.length≤b5) (h:Dzf.f k a6 a9 b6 b7=some (b8,b9)) :
  Calls Try.prog 78 #[.agg #[.bool a6,.slice a7 a9.length a8,.slice b4 b6.length b5],.bool b7] w fun e w'=>e=.returned (.tuple #[.int .i64 b8,.int .i64 b9])∧bw w w':=by
 have hu33:=Try.underlying33;have e6:=aM d6;have e7:=aM d7;clear d6 d7;have e8:=aM d8;have e9:=aM d9;clear d8 d9;have HB:=aM (Below.refl w.heap.size w);have H:((Fzy.f k a6 a9 b6).bind fun f4=>(if f4=true then((Dzk.f k a9 b6).bind fun f5=>(if f5.2.2=0 then((Hzw.f k f5.1).bind fun f6=>(if f6.2=0 then(if(f5.2.1.length:Int) > 0 then(Dzf.j0 k f6.1 b7 a6 a9 b6) else(Dzf.j0 k f6.1 false a6 a9 b6)) else(some (0,2)))) else(some (0,f5.2.2)))) else(some (0,3))))=some (b8,b9):=h
 clear h;obtain⟨f4,f7,H⟩:=bT H;(try dsimp only at H);have f8:=aM H;clear H;go_enter Try.func78,Try.ntmps78
 go_upto_if 12 with (first|((with_reducible refine gd 2 rfl ?_);refine bx #[.bool a6,.slice a7 a9.length a8,.slice b4 b6.length b5] 33 ?_;intro f9 hg g4 g5 hb;have g6:=gA w hg;replace HB:=bB hb;clear hb hg;obtain⟨g8,g9,j3,j4,j5,j6⟩:=bk3 g5)|((with_reducible refine gc 37 rfl ?_);refine gC 37 (some 11) Try.func37 #[.agg #[.bool a6,.slice a7 a9.length a8,.slice b4 b6.length b5]] ?_;(with_reducible refine(Fzy.calls k a6 _ _ a9 _ _ b6 f4 _ ?_ ?_ ?_ ?_ f7.out).mono ?_);exact cB e6;exact e7.out;exact cB e8;exact e9.out;rintro e j7 ⟨rfl,hb⟩;refine⟨_,rfl,?_⟩;replace g5:=kb g5 hb;replace HB:=bB hb;clear hb))
 have H:=f8.out;clear f8;by_cases c8:f4=true
 ·subst c8;rw[if_pos rfl] at H;obtain⟨⟨j8,j9,l5⟩,l6,H⟩:=bT H;(try dsimp only at H);replace H:=iE H;rcases H with⟨l7,l8,H⟩|⟨c10,l7,l8,H⟩
  ·(first|rw[l7]|(simp only[i64_w,i32_w];rw[l7])|skip)
   obtain⟨⟨l9,m0⟩,m4,H⟩:=bT H;(try dsimp only at H);have m5:=aM H;clear H;obtain⟨m6,m7,m8,m9,n0,n7⟩:=bk3 g5;go_upto_if 31 with (first|((with_reducible refine gc 102 rfl ?_);refine gC 102 (some 18) Try.func102 #[.slice a7 a9.length a8,.slice b4 b6.length b5] ?_;(with_reducible refine(Dzk.calls k _ _ a9 _ _ b6 j8 j9 l5 _ ?_ ?_ ?_ ?_ l6.out).mono ?_);exact cB e6;exact e7.out;exact cB e8;exact e9.out;rintro e n8 ⟨n9,o0,rfl,o8,o9,hb⟩;refine⟨_,rfl,?_⟩;have p0:=rL o8;have p4:=rL o9;replace g5:=kb g5 hb;replace HB:=bB hb;clear hb o8 o9;obtain⟨p7,p9,rfl⟩:=Kd.R_slice p0.out)|((with_reducible refine gc 103 rfl ?_);refine gC 103 (some 27) Try.func103 #[.slice p7 j8.length p9] ?_;(with_reducible refine(Hzw.calls k _ _ j8 l9 m0 _ ?_ ?_ m4.out).mono ?_);exact cR p0;exact lR p0;rintro e w' ⟨rfl,⟨nd,rfl⟩⟩;refine⟨_,rfl,?_⟩))
   have H:=m5.out;clear m5;replace H:=iE H;rcases H with⟨r6,r7,H⟩|⟨r5,r6,r7,H⟩
   ·(first|rw[r6]|(simp only[i64_w,i32_w];rw[r6])|skip)
    have r8:=aM H;clear H;go_upto_region 9 with (fail)
    go_cut [37] (fun r9 wc=>∃ (kq:Nat) (t4:Bool),r9=.bool t4∧Aside0 (Dzf.j0 kq l9 t4 a6 a9 b6=some (b8,b9))∧Aside0 (kq≤k)∧Aside0 (wc.heap[f9]?=some (.cells #[.bool a6,(.slice a7 a9.length a8),(.slice b4 b6.length b5)] 33 (0,0)))∧Aside0 (bw w wc))
    case first =>
     have H:=r8.out;clear r8;by_cases t5:(j9.length:Int) > 0
     ·rw[if_pos t5] at H;have t6:decide (0 < (j9.length:Int))=true:=dE t5;have t7:decide (0 < j9.length)=true:=dE (by omega)
      clear t5;(first|rw[t6]|(simp only[i64_w,i32_w];rw[t6])|skip)
      have H':=aM H;clear H;obtain⟨t8,t9,rfl⟩:=Kd.R_slice p4.out;go_wp2
      go_meet
      case rel=>exact⟨_,(b7),sD,H',⟨by first|omega|exact Nat.le_refl _⟩,⟨by exact kW g5⟩,⟨pB⟩⟩
     ·rw[if_neg t5] at H;have t6:decide (0 < (j9.length:Int))=false:=decide_eq_false t5;have t7:decide (0 < j9.length)=false:=decide_eq_false (by omega)
      clear t5;(first|rw[t6]|(simp only[i64_w,i32_w];rw[t6])|skip)
      have H':=aM H;clear H;obtain⟨z3,z4,rfl⟩:=Kd.R_slice p4.out;go_wp2
      go_meet
      case rel=>exact⟨_,(false),sD,H',⟨by first|omega|exact Nat.le_refl _⟩,⟨by exact kW g5⟩,⟨pB⟩⟩
    case rest =>
     clear r8;try clear z5
     obtain⟨kq,t4,rfl,HA,z6,g5,HB⟩:=hcut;cases kq with
     | zero=>exact absurd HA.out (by simp [Dzf.j0])
     | succ z7 =>
      have H:=HA.out;clear HA;simp only[Dzf.j0] at H;have z8:=aM H;clear H;go_upto_if 37 with (fail)
      go_cut [9] (fun z9 wc=>∃ (kq:Nat) (B0:Int),z9=.int .i64 B0∧Aside0 (Dzf.j1 kq B0 a6 a9 b6=some (b8,b9))∧Aside0 (kq≤z7)∧Aside0 (wc.heap[f9]?=some (.cells #[.bool a6,(.slice a7 a9.length a8),(.slice b4 b6.length b5)] 33 (0,0)))∧Aside0 (bw w wc))
      case first =>
       have H:=z8.out;clear z8;by_cases B5:t4=true
       ·subst B5;rw[if_pos rfl] at H;have H':=aM H;clear H;go_wp2
        go_meet
        case rel=>exact⟨_,(wrap64 (l9+1)),sD,H',⟨by have:=z6.out;first|omega|exact Nat.le_refl _⟩,⟨by exact kW g5⟩,⟨pB⟩⟩
       ·obtain rfl:=bN B5;rw[if_neg nF] at H
        have H':=aM H;clear H;go_wp2
        go_meet
        case rel=>exact⟨_,(l9),sD,H',⟨by have:=z6.out;first|omega|exact Nat.le_refl _⟩,⟨by exact kW g5⟩,⟨pB⟩⟩
      case rest =>
       clear z8;try clear z5
       obtain⟨kq,B0,rfl,HA,B9,g5,HB⟩:=hcut;cases kq with
       | zero=>exact absurd HA.out (by simp [Dzf.j1])
       | succ C0 =>
        have H:=HA.out;clear HA;simp only[Dzf.j1] at H;by_cases C1:B0 > 1125899906842624
        ·rw[if_pos C1] at H;have C2:decide (1125899906842624 < B0)=true:=dE C1;clear C1;obtain⟨rfl,rfl⟩:=q2 H;go_wp2
         go_ret2
         exact⟨eW,pB⟩
        ·rw[if_neg C1] at H;have C2:decide (1125899906842624 < B0)=false:=decide_eq_false C1;clear C1;by_cases C3:a6=true
         ·subst C3;rw[if_pos rfl] at H;obtain⟨rfl,rfl⟩:=q2 H;obtain⟨C4,C6,C7,C8,C9,D2⟩:=bk3 g5;go_wp2
          go_ret2
          exact⟨eW,pB⟩
         ·obtain rfl:=bN C3;rw[if_neg nF] at H
          obtain⟨rfl,rfl⟩:=q2 H;obtain⟨D3,D4,D5,D6,D7,D8⟩:=bk3 g5;go_wp2
          go_ret2
          exact⟨eW,pB⟩
   ·(first|rw[r6]|(simp only[i64_w,i32_w];rw[r6])|skip)
    obtain⟨rfl,rfl⟩:=q2 H;go_wp2
    go_ret2
    exact⟨eW,pB⟩
  ·(first|rw[l7]|(simp only[i64_w,i32_w];rw[l7])|skip)
   obtain⟨rfl,rfl⟩:=q2 H;obtain⟨D9,E0,E1,E2,E3,E4⟩:=bk3 g5;go_wp2_with (first|((with_reducible refine gc 102 rfl ?_);refine gC 102 (some 18) Try.func102 #[.slice a7 a9.length a8,.slice b4 b6.length b5] ?_;(with_reducible refine(Dzk.calls k _ _ a9 _ _ b6 j8 j9 l5 _ ?_ ?_ ?_ ?_ l6.out).mono ?_);exact cB e6;exact e7.out;exact cB e8;exact e9.out;rintro e E5 ⟨n9,o0,rfl,o8,o9,hb⟩;refine⟨_,rfl,?_⟩;have p0:=rL o8;have p4:=rL o9;replace g5:=kb g5 hb;replace HB:=bB hb;clear hb o8 o9))
   go_ret2
   exact⟨eW,pB⟩
 ·obtain rfl:=bN c8;rw[if_neg nF] at H
  obtain⟨rfl,rfl⟩:=q2 H;go_wp2
  go_ret2
  exact⟨eW,pB⟩

def Hzv.f (k:Nat) (a0_0:Bool) (l0_1:List Int) (l0_2:List Int):Option (Int × Int):=(Dzf.f k a0_0 l0_1 l0_2 a0_0).bind fun bt456=>(some (bt456.1,bt456.2))
theorem Hzv.mono:∀ a6 a7 a8 k,LeO (Hzv.f k a6 a7 a8) (Hzv.f (k+1) a6 a7 a8):=by
 intro a6 a7 a8 k;unfold Hzv.f;have i0:=@Dzf.mono;exact mM
theorem Hzv.calls (k:Nat) (a6:Bool) (a7:Option Addr) (a8:Nat) (a9:List Int) (b4:Option Addr) (b5:Nat) (b6:List Int) (b7:Int) (b8:Int) (w:World) (b9:cI w a7 a9) (d6:a9.length≤a8) (d7:cI w b4 b6) (d8:b6.length≤b5) (h:Hzv.f k a6 a9 b6=some (b7,b8)) :
  Calls Try.prog 47 #[.agg #[.bool a6,.slice a7 a9.length a8,.slice b4 b6.length b5]] w fun e w'=>e=.returned (.tuple #[.int .i64 b7,.int .i64 b8])∧bw w w':=by
 have hu33:=Try.underlying33;have d9:=aM b9;have e6:=aM d6;clear b9 d6;have e7:=aM d7;have e8:=aM d8;clear d7 d8;have HB:=aM (Below.refl w.heap.size w);have H:((Dzf.f k a6 a9 b6 a6).bind fun e9=>(some (e9.1,e9.2)))=some (b7,b8):=h
 clear h;replace H:=bS H;obtain⟨⟨f4,f5⟩,f6,H⟩:=H;replace H:(some (f4,f5))=some (b7,b8):=H;have f7:=aM f6;clear f6;obtain⟨rfl,rfl⟩:=q2 H;go_enter Try.func47,Try.ntmps47
 go_wp2_with (first|((with_reducible refine gd 1 rfl ?_);refine bx #[.bool a6,.slice a7 a9.length a8,.slice b4 b6.length b5] 33 ?_;intro f8 hg f9 g4 hb;have g5:=gA w hg;replace HB:=bB hb;clear hb hg;obtain⟨g7,g8,g9,j3,j4,j5⟩:=bk3 g4)|((with_reducible refine gc 78 rfl ?_);refine gC 78 (some 7) Try.func78 #[.agg #[.bool a6,.slice a7 a9.length a8,.slice b4 b6.length b5],.bool a6] ?_;(with_reducible refine(Dzf.calls k a6 _ _ a9 _ _ b6 a6 f4 f5 _ ?_ ?_ ?_ ?_ f7.out).mono ?_);exact cB d9;exact e6.out;exact cB e7;exact e8.out;rintro e j6 ⟨rfl,hb⟩;refine⟨_,rfl,?_⟩;replace g4:=kb g4 hb;replace HB:=bB hb;clear hb))
 go_ret2
 exact⟨eW,pB⟩


def Hzm.f (a0_0:Bool) (l0_1:List Int) (l0_2:List Int):Option (Bool × List Int × List Int):=if([]:List Int).length+l0_1.length < 17592186044416 then(if([]:List Int).length+l0_2.length < 17592186044416 then(some (a0_0,(([]:List Int) ++ l0_1),(([]:List Int) ++ l0_2))) else(none)) else(none)
theorem Hzm.calls (a6:Bool) (a7:Option Addr) (a8:Nat) (a9:List Int) (b4:Option Addr) (b5:Nat) (b6:List Int) (b7:Bool) (b8:List Int) (b9:List Int) (w:World) (d6:cI w a7 a9) (d7:a9.length≤a8) (d8:cI w b4 b6) (d9:b6.length≤b5) (h:Hzm.f a6 a9 b6=some (b7,b8,b9)) :
  Calls Try.prog 50 #[.agg #[.bool a6,.slice a7 a9.length a8,.slice b4 b6.length b5]] w fun e w'=>∃ v1_ v2_:Value,e=.returned (.agg #[.bool b7,v1_,v2_])∧rI w' w (oV v2_) v1_ b8∧rI w' w (oV v1_) v2_ b9∧bw w w':=by
 have hu33:=Try.underlying33;have e6:=aM d6;have e7:=aM d7;clear d6 d7;have e8:=aM d8;have e9:=aM d9;clear d8 d9;have HB:=aM (Below.refl w.heap.size w);have H:(if([]:List Int).length+a9.length < 17592186044416 then(if([]:List Int).length+b6.length < 17592186044416 then(some (a6,(([]:List Int) ++ a9),(([]:List Int) ++ b6))) else(none)) else(none))=some (b7,b8,b9):=h
 clear h;by_cases c2:([]:List Int).length+a9.length < 17592186044416
 ·rw[if_pos c2] at H;have LMc2:=aM c2;clear c2;obtain⟨f4,f5⟩:∃ y_:List Int,y_=(([]:List Int) ++ a9):=⟨_,rfl⟩;replace H:(if([]:List Int).length+b6.length < 17592186044416 then(some (a6,f4,(([]:List Int) ++ b6))) else(none))=some (b7,b8,b9):=yE f5 H
  have f6:=aM f5;clear f5;obtain⟨c3,H⟩:=iO H;have LMc3:=aM c3;clear c3;obtain⟨f7,f8⟩:∃ y_:List Int,y_=(([]:List Int) ++ b6):=⟨_,rfl⟩;replace H:(some (a6,f4,f7))=some (b7,b8,b9):=yE f8 H
  have f9:=aM f8;clear f8;obtain⟨rfl,rfl,rfl⟩:=q3 H;go_enter Try.func50,Try.ntmps50
  go_wp2_with (first|((with_reducible refine gd 1 rfl ?_);refine bx #[.bool a6,.slice a7 a9.length a8,.slice b4 b6.length b5] 33 ?_;intro g4 hg g5 g6 hb;have g7:=gA w hg;replace HB:=bB hb;clear hb hg)|((with_reducible refine gd 2 rfl ?_);refine bz 33 ?_;intro g9 hg j3 j4 hb;have j5:=gA w hg;have j7:=nl hg g6;have j8:=ng hg g6;replace g6:=kb g6 hb;replace HB:=bB hb;clear hb hg;have j9:=j7.out;have l5:=j8.out;obtain⟨l6,l7,l8,l9,m0,m4⟩:=bk3 g6)|((with_reducible refine gate_builtin (b:=.append) (xs:=#[.const (.slice none 0 0),.tmp 4]) rfl ?_);at_builtin;refine Kd.R_append_rows (Kd.int .i64) (w0:=w) w.heap.size rfl (.const (.slice none 0 0)) (.tmp 4) 31 3 (.int .i64 0) 8 rfl Try.underlying31 info3 rfl (by decide) (by omega) (.slice none 0 0) ([]:List Int) a9 _ _ _ (fun _=>True) (fun _=>False) rfl rfl ?aO ?aR (fun _ _ h=>h) (fun _ h=>h.elim) ?aF ?aB ?aS ?aL ?_;(case aR=>exact cB e6);(case aB=>exact pB);(case aF=>exact(fun _ _=>trivial));(case aO=>exact((Kd.R_nil _ _ _ _ (fun _=>True))));(case aS=>exact(below_size pB));(case aL=>have:=LMc2.out;omega);intro m5 m6 ho hb hg hat;rw[← f6.out] at ho;have m7:=aM (ho);replace g6:=aM (blk_grown (g:=g4) (o:=.cells #[.bool a6,.slice a7 a9.length a8,.slice b4 b6.length b5] 33 (0,0)) (kW g6) hg (by simp [Value.ownBlock]));replace j4:=aM (blk_grown (g:=g9) (o:=.cells #[.bool false,.slice none 0 0,.slice none 0 0] 33 (0,0)) (kW j4) hg (by simp [Value.ownBlock]));replace HB:=aM (hb);clear ho hb hg hat;obtain⟨m8,m9,rfl⟩:=Kd.R_slice m7.out;obtain⟨n0,n7,n8,n9,o0,o8⟩:=bk3 g6)|((with_reducible refine gate_builtin (b:=.append) (xs:=#[.const (.slice none 0 0),.tmp 8]) rfl ?_);at_builtin;refine Kd.R_append_rows (Kd.int .i64) (w0:=w) w.heap.size rfl (.const (.slice none 0 0)) (.tmp 8) 31 3 (.int .i64 0) 8 rfl Try.underlying31 info3 rfl (by decide) (by omega) (.slice none 0 0) ([]:List Int) b6 _ _ _ (fun k_=>oN m8 f4.length m9 k_) (fun _=>False) rfl rfl ?aO ?aR (fun _ _ h=>h) (fun _ h=>h.elim) ?aF ?aB ?aS ?aL ?_;(case aR=>exact Kd.C_below e8.out pB);(case aB=>exact pB);(case aF=>exact(fun k_ hk=>Kd.fresh' (Kd.R_lt (rT m7 g6)) k_ hk));(case aO=>exact((Kd.R_nil _ _ _ _ (fun k_=>oN m8 f4.length m9 k_))));(case aS=>exact(below_size pB));(case aL=>have:=LMc3.out;omega);intro o9 p0 ho hb hg hat;rw[← f9.out] at ho;have p4:=aM (ho);replace j4:=aM (blk_grown (g:=g9) (o:=.cells #[.bool false,.slice none 0 0,.slice none 0 0] 33 (0,0)) (kf j4 j8) hg (by simp [Value.ownBlock]));replace m7:=aM (Kd.R_after (Kd.R_apart_nil (rT m7 g6)) hg hat);replace g6:=aM (blk_grown (g:=g4) (o:=.cells #[.bool a6,.slice m8 f4.length m9,.slice b4 b6.length b5] 33 (0,0)) (kQ g6) hg (by simp [Value.ownBlock]));replace HB:=aM (hb);clear ho hb hg hat;obtain⟨p7,p9,rfl⟩:=Kd.R_slice p4.out;obtain⟨r5,r6,r7,r8,r9,t4⟩:=bk3 g6;obtain⟨t5,t6,t7,t8,t9,z3⟩:=bk3 j4))
  refine bodyPost_ret (results_cell_row rfl _ _ g9 33 #[.bool a6,.slice m8 f4.length m9,.slice p7 f7.length p9] (0,0) _ rfl (by refine bD ?_;refine blk_put (cs:=#[.bool a6,.slice m8 f4.length m9,.slice none 0 0]) ?_ 2 _ rfl;refine bD ?_;refine blk_put (cs:=#[.bool a6,.slice none 0 0,.slice none 0 0]) ?_ 1 _ rfl;refine bD ?_;refine blk_put (cs:=#[.bool false,.slice none 0 0,.slice none 0 0]) ?_ 0 _ rfl;refine bD ?_;refine blk_far ?_ j8.out _;(with_reducible repeat(first|refine blk_drewN ?_ _|refine blk_drew ?_|refine blk_alloc ?_ _));exact j4.out) Try.underlying33 rfl (by kernel_rfl)) rfl ?_
  exact⟨_,_,eW,by exact rX (Kd.R_mono (Kd.R_far (p:=⟨g9,2,none⟩) (Kd.R_far (p:=⟨g9,1,none⟩) (Kd.R_far (p:=⟨g9,0,none⟩) (Kd.R_far (p:=⟨g4,2,none⟩) (Kd.R_types (Kd.R_types m7.out g6.out (by decide)) j4.out (by decide)) (fun _ hk=>hk.1.2) (.slice p7 f7.length p9)) (fun _ hk=>hk.2) (.bool a6)) (fun _ hk=>hk.2) (.slice m8 f4.length m9)) (fun _ hk=>hk.2) (.slice p7 f7.length p9)) (fun _ hk=>hk.1.1.2)),by exact rX (Kd.R_mono (Kd.R_far (p:=⟨g9,2,none⟩) (Kd.R_far (p:=⟨g9,1,none⟩) (Kd.R_far (p:=⟨g9,0,none⟩) (Kd.R_far (p:=⟨g4,2,none⟩) (Kd.R_types (Kd.R_types p4.out g6.out (by decide)) j4.out (by decide)) (fun _ hk=>hk.1.2) (.slice p7 f7.length p9)) (fun _ hk=>hk.2) (.bool a6)) (fun _ hk=>hk.2) (.slice m8 f4.length m9)) (fun _ hk=>hk.2) (.slice p7 f7.length p9)) (fun _ hk=>hk.1.1)),pB⟩
 ·rw[if_neg c2] at H;exact absurd H (by simp)

end Go.Proofs.Ytbnpcplckcipfaa.Print
