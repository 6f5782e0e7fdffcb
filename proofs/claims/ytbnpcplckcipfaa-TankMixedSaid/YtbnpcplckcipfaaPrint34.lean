import Derived.Test.YtbnpcplckcipfaaPrint0
import Derived.Test.YtbnpcplckcipfaaPrint15
import Derived.Test.YtbnpcplckcipfaaPrint33
import Derived.Test.YtbnpcplckcipfaaPrint24
namespace Go.Proofs.Ytbnpcplckcipfaa.Print
open Go.RowKit Go.Proofs.YtbnpcplckcipfaaW.PrintWords Go.Proofs.YtbnpcplckcipfaaW.PrintLast Go.Proofs.YtbnpcplckcipfaaW.PrintMore
attribute [local go_sem] max2_int min2_int max_two min_two max_three min_three max_four min_four
set_option linter.unusedVariables false
set_option maxRecDepth 100000
set_option maxHeartbeats 8000000
set_option linter.unusedSimpArgs false

def Fzf.f (k:Nat) (a0_0:Bool) (l0_1:List Int) (l0_2:List Int) (a1_0:Bool) (l1_1:List Int) (l1_2:List Int):Option (Bool × List Int × List Int × Int):=(Bzk.f k (([(⟨a0_0,l0_1,l0_2⟩:S33),(⟨a1_0,l1_1,l1_2⟩:S33)]:List (S33)))).bind fun t472=>(if t472=true then(if(l1_1.length:Int)=0 then(some (false,([]:List Int),([]:List Int),16)) else((Dzm.f k a0_0 l0_1 l0_2 a1_0 l1_2 l1_1).bind fun bt473=>(some (bt473.1,bt473.2.1,bt473.2.2.1,bt473.2.2.2)))) else(some (false,([]:List Int),([]:List Int),3)))
theorem Fzf.mono:∀ a6 a7 a8 a9 b4 b5 k,LeO (Fzf.f k a6 a7 a8 a9 b4 b5) (Fzf.f (k+1) a6 a7 a8 a9 b4 b5):=by
 intro a6 a7 a8 a9 b4 b5 k;unfold Fzf.f;have i0:=@Dzm.mono;have i1:=@Bzk.mono;exact mM
theorem Fzf.calls (k:Nat) (a6:Bool) (a7:Nat→Prop) (a8:Option Addr) (a9:Nat) (b4:List Int) (b5:Nat→Prop) (b6:Option Addr) (b7:Nat) (b8:List Int) (b9:Bool) (d6:Nat→Prop) (d7:Option Addr) (d8:Nat) (d9:List Int) (e6:Nat→Prop) (e7:Option Addr) (e8:Nat) (e9:List Int) (f3:Bool) (f4:List Int) (f5:List Int) (f6:Int) (w:World) (f7:Kd.V (Kd.int .i64) 3 w w.heap.size (fun k_=>a7 k_) (.slice a8 b4.length a9) b4) (f8:Kd.V (Kd.int .i64) 3 w w.heap.size (fun k_=>b5 k_) (.slice b6 b8.length b7) b8) (f9:Kd.V (Kd.int .i64) 3 w w.heap.size (fun k_=>d6 k_) (.slice d7 d9.length d8) d9) (g4:Kd.V (Kd.int .i64) 3 w w.heap.size (fun k_=>e6 k_) (.slice e7 e9.length e8) e9) (h:Fzf.f k a6 b4 b8 b9 d9 e9=some (f3,f4,f5,f6)) :
  Calls Try.prog 52 #[.agg #[.bool a6,.slice a8 b4.length a9,.slice b6 b8.length b7],.agg #[.bool b9,.slice d7 d9.length d8,.slice e7 e9.length e8]] w fun e w'=>∃ v1_ v2_:Value,e=.returned (.tuple #[.agg #[.bool f3,v1_,v2_],.int .i64 f6])∧rI w' w (fun k_=>(w.heap.size≤k_)∧oV v2_ k_) v1_ f4∧rI w' w (fun k_=>(w.heap.size≤k_)∧oV v1_ k_) v2_ f5∧bw w w':=by
 have hu33:=Try.underlying33;have g5:=aM (show Kd.V (Kd.int .i64) 3 w w.heap.size (fun k_=>((a7 k_∨b5 k_∨d6 k_∨e6 k_)∨w.heap.size≤k_)) (.slice a8 b4.length a9) b4 from Kd.V_mono f7 (fun k_ hk=>.inl (.inl hk)))
 have g6:=aM (show Kd.V (Kd.int .i64) 3 w w.heap.size (fun k_=>((a7 k_∨b5 k_∨d6 k_∨e6 k_)∨w.heap.size≤k_)) (.slice b6 b8.length b7) b8 from Kd.V_mono f8 (fun k_ hk=>.inl (.inr (.inl hk))))
 have g7:=aM (show Kd.V (Kd.int .i64) 3 w w.heap.size (fun k_=>((a7 k_∨b5 k_∨d6 k_∨e6 k_)∨w.heap.size≤k_)) (.slice d7 d9.length d8) d9 from Kd.V_mono f9 (fun k_ hk=>.inl (.inr (.inr (.inl hk)))))
 have g8:=aM (show Kd.V (Kd.int .i64) 3 w w.heap.size (fun k_=>((a7 k_∨b5 k_∨d6 k_∨e6 k_)∨w.heap.size≤k_)) (.slice e7 e9.length e8) e9 from Kd.V_mono g4 (fun k_ hk=>.inl (.inr (.inr (.inr hk)))))
 have HB:=aM (Below.refl w.heap.size w);have H:((Bzk.f k (([(⟨a6,b4,b8⟩:S33),(⟨b9,d9,e9⟩:S33)]:List (S33)))).bind fun g9=>(if g9=true then(if(d9.length:Int)=0 then(some (false,([]:List Int),([]:List Int),16)) else((Dzm.f k a6 b4 b8 b9 e9 d9).bind fun j3=>(some (j3.1,j3.2.1,j3.2.2.1,j3.2.2.2)))) else(some (false,([]:List Int),([]:List Int),3))))=some (f3,f4,f5,f6):=h
 clear h;obtain⟨j4,j5⟩:∃ y_:List (S33),y_=(([(⟨a6,b4,b8⟩:S33),(⟨b9,d9,e9⟩:S33)]:List (S33))):=⟨_,rfl⟩;replace H:((Bzk.f k j4).bind fun g9=>(if g9=true then(if(d9.length:Int)=0 then(some (false,([]:List Int),([]:List Int),16)) else((Dzm.f k a6 b4 b8 b9 e9 d9).bind fun j3=>(some (j3.1,j3.2.1,j3.2.2.1,j3.2.2.2)))) else(some (false,([]:List Int),([]:List Int),3))))=some (f3,f4,f5,f6):=yE j5 H
 have j6:=aM j5;clear j5;obtain⟨g9,j7,H⟩:=bT H;(try dsimp only at H);have j8:=aM H;clear H;go_enter Try.func52,Try.ntmps52
 go_upto_if 6 with (first|((with_reducible refine gd 2 rfl ?_);refine bx #[.bool a6,.slice a8 b4.length a9,.slice b6 b8.length b7] 33 ?_;intro j9 hg l5 l6 hb;have l7:=gA w hg;replace g5:=vG g5 hg hb;replace g6:=vG g6 hg hb;replace g7:=vG g7 hg hb;replace g8:=vG g8 hg hb;replace HB:=bB hb;clear hb hg)|((with_reducible refine gd 3 rfl ?_);refine bx #[.bool b9,.slice d7 d9.length d8,.slice e7 e9.length e8] 33 ?_;intro l9 hg m0 m4 hb;have m5:=gA w hg;have m7:=nl hg l6;have m8:=ng hg l6;replace g5:=vG g5 hg hb;replace g6:=vG g6 hg hb;replace g7:=vG g7 hg hb;replace g8:=vG g8 hg hb;replace l6:=kb l6 hb;replace HB:=bB hb;clear hb hg)|((with_reducible refine gd 4 rfl ?_);refine bz 33 ?_;intro m9 hg n0 n7 hb;have n8:=gA w hg;have o0:=nl hg l6;have o8:=ng hg l6;have o9:=nl hg m4;have p0:=ng hg m4;replace g5:=vG g5 hg hb;replace g6:=vG g6 hg hb;replace g7:=vG g7 hg hb;replace g8:=vG g8 hg hb;replace l6:=kb l6 hb;replace m4:=kb m4 hb;replace HB:=bB hb;clear hb hg;have p4:=m7.out;have p7:=m8.out;have p9:=o0.out;have r5:=o8.out;obtain⟨r6,r7,r8,r9,t4,t5⟩:=bk3 l6;have t6:=o9.out;have t7:=p0.out;obtain⟨t8,t9,y9,z3,z4,z5⟩:=bk3 m4)|((with_reducible refine gate_dst (N:=9) rfl ?_);refine Kd.N_lit k33 _ 33 ?hg (N':=9) ?hd (xs:=([(⟨a6,b4,b8⟩:S33),(⟨b9,d9,e9⟩:S33)]:List (S33))) (inner:=[.bool a6,.slice a8 b4.length a9,.slice b6 b8.length b7,.bool b9,.slice d7 d9.length d8,.slice e7 e9.length e8]) (ok:=(fun k_=>((a7 k_∨b5 k_∨d6 k_∨e6 k_)∨w.heap.size≤k_)∧k_≠j9∧k_≠l9∧k_≠m9)) (okp:=(fun k_=>((a7 k_∨b5 k_∨d6 k_∨e6 k_)∨w.heap.size≤k_)∧k_≠j9∧k_≠l9∧k_≠m9)) ?hr ?hp (fun _ hk=>hk) ((show ∀ k_,n0.heap.size≤k_→(fun k_=>((a7 k_∨b5 k_∨d6 k_∨e6 k_)∨w.heap.size≤k_)∧k_≠j9∧k_≠l9∧k_≠m9) k_ from fun k_ hk=>⟨(.inr (Nat.le_trans (below_size pB) hk)),fB l6 hk,fB m4 hk,fB n7 hk⟩) _ (Nat.le_refl _)) (Below.refl _ _) (Nat.le_refl _) (by simp) ?_;(case hd=>rfl);(case hg=>rfl);(case hr=>first|(go_simp;done)|(go_simp;rfl));(case hp=>exact(Reps.c3 (show Kd.FK k33 _ _ (⟨a6,b4,b8⟩:S33) [.bool a6,.slice a8 b4.length a9,.slice b6 b8.length b7] from(k33_mkF _ _ (⟨a6,b4,b8⟩:S33) (Kd.V_reads' (Kd.V_mono (ok':=(fun k_=>((a7 k_∨b5 k_∨d6 k_∨e6 k_)∨w.heap.size≤k_)∧k_≠j9∧k_≠l9∧k_≠m9)) (g5.out) (fun k_ hk=>⟨hk.1.1.1,⟨hk.1.1.2,⟨hk.1.2,hk.2⟩⟩⟩))).2.1 (Kd.V_F (Kd.V_mono (ok':=(fun k_=>((a7 k_∨b5 k_∨d6 k_∨e6 k_)∨w.heap.size≤k_)∧k_≠j9∧k_≠l9∧k_≠m9)) (g5.out) (fun k_ hk=>⟨hk.1.1.1,⟨hk.1.1.2,⟨hk.1.2,hk.2⟩⟩⟩))) (Kd.V_reads' (Kd.V_mono (ok':=(fun k_=>((a7 k_∨b5 k_∨d6 k_∨e6 k_)∨w.heap.size≤k_)∧k_≠j9∧k_≠l9∧k_≠m9)) (g6.out) (fun k_ hk=>⟨hk.1.1.1,⟨hk.1.1.2,⟨hk.1.2,hk.2⟩⟩⟩))).2.1 (Kd.V_F (Kd.V_mono (ok':=(fun k_=>((a7 k_∨b5 k_∨d6 k_∨e6 k_)∨w.heap.size≤k_)∧k_≠j9∧k_≠l9∧k_≠m9)) (g6.out) (fun k_ hk=>⟨hk.1.1.1,⟨hk.1.1.2,⟨hk.1.2,hk.2⟩⟩⟩))))) (Reps.c3 (show Kd.FK k33 _ _ (⟨b9,d9,e9⟩:S33) [.bool b9,.slice d7 d9.length d8,.slice e7 e9.length e8] from(k33_mkF _ _ (⟨b9,d9,e9⟩:S33) (Kd.V_reads' (Kd.V_mono (ok':=(fun k_=>((a7 k_∨b5 k_∨d6 k_∨e6 k_)∨w.heap.size≤k_)∧k_≠j9∧k_≠l9∧k_≠m9)) (g7.out) (fun k_ hk=>⟨hk.1.1.1,⟨hk.1.1.2,⟨hk.1.2,hk.2⟩⟩⟩))).2.1 (Kd.V_F (Kd.V_mono (ok':=(fun k_=>((a7 k_∨b5 k_∨d6 k_∨e6 k_)∨w.heap.size≤k_)∧k_≠j9∧k_≠l9∧k_≠m9)) (g7.out) (fun k_ hk=>⟨hk.1.1.1,⟨hk.1.1.2,⟨hk.1.2,hk.2⟩⟩⟩))) (Kd.V_reads' (Kd.V_mono (ok':=(fun k_=>((a7 k_∨b5 k_∨d6 k_∨e6 k_)∨w.heap.size≤k_)∧k_≠j9∧k_≠l9∧k_≠m9)) (g8.out) (fun k_ hk=>⟨hk.1.1.1,⟨hk.1.1.2,⟨hk.1.2,hk.2⟩⟩⟩))).2.1 (Kd.V_F (Kd.V_mono (ok':=(fun k_=>((a7 k_∨b5 k_∨d6 k_∨e6 k_)∨w.heap.size≤k_)∧k_≠j9∧k_≠l9∧k_≠m9)) (g8.out) (fun k_ hk=>⟨hk.1.1.1,⟨hk.1.1.2,⟨hk.1.2,hk.2⟩⟩⟩))))) (Reps.none _ _))));intro z6 z7 z8 hb hg_ hnew_;clear hg_ hnew_;replace z8:=nY j6 z8;have z9:=aM (Kd.N_lower z8 (below_size pB));replace g5:=aM (Kd.V_elder' (vX g5.out) (Kd.N_base z8) hb);replace g6:=aM (Kd.V_elder' (vX g6.out) (Kd.N_base z8) hb);replace g7:=aM (Kd.V_elder' (vX g7.out) (Kd.N_base z8) hb);replace g8:=aM (Kd.V_elder' (vX g8.out) (Kd.N_base z8) hb);replace l6:=kb l6 hb;replace m4:=kb m4 hb;replace n7:=kb n7 hb;replace HB:=bB hb;clear hb z8;obtain⟨B0,B5,rfl⟩:=Kd.N_slice z9.out)|((with_reducible refine gc 62 rfl ?_);refine gC 62 (some 10) Try.func62 #[.slice B0 j4.length B5] ?_;(with_reducible refine(Bzk.calls k _ _ j4 g9 _ ?_ ?_ j7.out).mono ?_);exact cN z9;exact lN z9;rintro e B9 ⟨rfl,hb⟩;refine⟨_,rfl,?_⟩;replace g5:=vB g5 hb;replace g6:=vB g6 hb;replace g7:=vB g7 hb;replace g8:=vB g8 hb;replace z9:=nB z9 hb;replace l6:=kb l6 hb;replace m4:=kb m4 hb;replace n7:=kb n7 hb;replace HB:=bB hb;clear hb))
 have H:=j8.out;clear j8;by_cases C0:g9=true
 ·subst C0;rw[if_pos rfl] at H;replace H:=iE H;rcases H with⟨C2,C3,H⟩|⟨C1,C2,C3,H⟩
  ·(first|rw[C2]|(simp only[i64_w,i32_w];rw[C2])|skip)
   obtain⟨rfl,rfl,rfl,rfl⟩:=q4 H;have C4:=m8.out;have C6:=m7.out;have C7:=o9.out;have C8:=p0.out;obtain⟨C9,D2,D3,D4,D5,D6⟩:=bk3 m4;have D7:=o8.out;have D8:=o0.out;obtain⟨D9,E0,E1,E2,E3,E4⟩:=bk3 n7;go_wp2
   refine rC m9 33 #[.bool false,.slice none 0 0,.slice none 0 0] (kQ n7) Try.underlying33 ?_
   exact⟨_,_,eW,nK,nK,pB⟩
  ·have E5:¬ (d9=[]):=fun h_=>C1 (by rw[h_];rfl)
   (first|rw[C2]|(simp only[i64_w,i32_w];rw[C2])|skip)
   replace H:=bS H;obtain⟨⟨E6,E7,E8,E9⟩,F0,H⟩:=H;replace H:(some (E6,E7,E8,E9))=some (f3,f4,f5,f6):=H;have F2:=aM F0;clear F0;obtain⟨rfl,rfl,rfl,rfl⟩:=q4 H;have F3:=m8.out;have F4:=m7.out;have F5:=o9.out;have F6:=p0.out;obtain⟨F7,F8,F9,G5,G9,H5⟩:=bk3 m4;have H6:=o0.out;have H7:=o8.out;obtain⟨H8,H9,I0,I3,I4,I5⟩:=bk3 l6;go_wp2_with (first|((with_reducible refine gc 51 rfl ?_);refine gC 51 (some 27) Try.func51 #[.agg #[.bool a6,.slice a8 b4.length a9,.slice b6 b8.length b7],.agg #[.bool b9,.slice e7 e9.length e8,.slice d7 d9.length d8]] ?_;(with_reducible refine(Dzm.calls k a6 _ _ b4 _ _ b8 b9 _ _ e9 _ _ d9 E6 E7 E8 E9 _ ?_ ?_ ?_ ?_ ?_ ?_ ?_ ?_ F2.out).mono ?_);exact cV g5;exact lV g5;exact cV g6;exact lV g6;exact cV g8;exact lV g8;exact cV g7;exact lV g7;rintro e I6 ⟨I7,I8,rfl,I9,J0,hb⟩;refine⟨_,rfl,?_⟩;have J1:=rL (Kd.R_newM (M:=fun k_=>(w.heap.size≤k_)) I9 (below_size pB) (fun k_ h_=>h_));have J2:=rL (Kd.R_newM (M:=fun k_=>(w.heap.size≤k_)) J0 (below_size pB) (fun k_ h_=>h_));replace g5:=vO g5 hb I9 J0;replace g6:=vO g6 hb I9 J0;replace g7:=vO g7 hb I9 J0;replace g8:=vO g8 hb I9 J0;replace z9:=nO z9 hb I9 J0;replace l6:=kb l6 hb;replace m4:=kb m4 hb;replace n7:=kb n7 hb;replace HB:=bB hb;clear hb I9 J0;obtain⟨J3,J4,J5,J6,J7,J8⟩:=bk3 n7;obtain⟨J9,K0,rfl⟩:=Kd.R_slice J1.out;obtain⟨K1,K2,rfl⟩:=Kd.R_slice J2.out))
   refine rC m9 33 #[.bool E6,.slice J9 E7.length K0,.slice K1 E8.length K2] (kQ n7) Try.underlying33 ?_
   exact⟨_,_,eW,by exact Kd.R_mono (rT J1 n7) (fun _ hk=>⟨hk.1,hk.2⟩),by exact Kd.R_mono (rT J2 n7) (fun _ hk=>⟨hk.1,hk.2⟩),pB⟩
 ·obtain rfl:=bN C0;rw[if_neg nF] at H
  obtain⟨rfl,rfl,rfl,rfl⟩:=q4 H;have K3:=o8.out;have K4:=o0.out;have K5:=p0.out;have K6:=o9.out;obtain⟨K7,K8,K9,L0,L7,L8⟩:=bk3 n7;go_wp2
  refine rC m9 33 #[.bool false,.slice none 0 0,.slice none 0 0] (kQ n7) Try.underlying33 ?_
  exact⟨_,_,eW,nK,nK,pB⟩


def Ezb.f (a0_0:Bool) (l0_1:List Int) (l0_2:List Int):Option (Bool × List Int × List Int):=if a0_0=true then(if([]:List Int).length+l0_1.length < 17592186044416 then(if([]:List Int).length+l0_2.length < 17592186044416 then(some (false,(([]:List Int) ++ l0_1),(([]:List Int) ++ l0_2))) else(none)) else(none)) else(if([]:List Int).length+l0_1.length < 17592186044416 then(if([]:List Int).length+l0_2.length < 17592186044416 then(some (decide (0 < l0_1.length),(([]:List Int) ++ l0_1),(([]:List Int) ++ l0_2))) else(none)) else(none))
def Ezb.T1:Bool × List (List Nat × List Nat):=(true,[([],[]),([0],[0]),([1],[1]),([2],[2]),([3],[3]),([4,3],[3,4]),([5,3],[3,5]),([6,3],[3,6]),([3,7],[3,7]),([],[]),([9],[9]),([10,3],[10]),([],[]),([12],[12]),([13,11],[13]),([8,11,14],[8,11,14]),([15,14,0,1,2,3,4,5,6,7,8,9,10,11,12,13,14,15],[15])])
def Ezb.B1:List Nat:=[0,1,3,7,15,31,63,127,255,0,512,1551,0,4096,15887,32767,65535]
theorem Ezb.tab1:rtab .any (opsOf Try.f80 1)=Ezb.T1:=by kernel_rfl
theorem Ezb.bits1:waitsOk Ezb.T1.2 Ezb.B1=true:=by kernel_rfl
theorem Ezb.calls (a6:Bool) (a7:Option Addr) (a8:Nat) (a9:List Int) (b4:Option Addr) (b5:Nat) (b6:List Int) (b7:Bool) (b8:List Int) (b9:List Int) (w:World) (d6:cI w a7 a9) (d7:a9.length≤a8) (d8:cI w b4 b6) (d9:b6.length≤b5) (h:Ezb.f a6 a9 b6=some (b7,b8,b9)) :
  Calls Try.prog 80 #[.agg #[.bool a6,.slice a7 a9.length a8,.slice b4 b6.length b5]] w fun e w'=>∃ v1_ v2_:Value,e=.returned (.agg #[.bool b7,v1_,v2_])∧rI w' w (oV v2_) v1_ b8∧rI w' w (oV v1_) v2_ b9∧bw w w':=by
 have hu33:=Try.underlying33;have e6:=aM d6;have e7:=aM d7;clear d6 d7;have e8:=aM d8;have e9:=aM d9;clear d8 d9;have HB:=aM (Below.refl w.heap.size w);have H:(if a6=true then(if([]:List Int).length+a9.length < 17592186044416 then(if([]:List Int).length+b6.length < 17592186044416 then(some (false,(([]:List Int) ++ a9),(([]:List Int) ++ b6))) else(none)) else(none)) else(if([]:List Int).length+a9.length < 17592186044416 then(if([]:List Int).length+b6.length < 17592186044416 then(some (decide (0 < a9.length),(([]:List Int) ++ a9),(([]:List Int) ++ b6))) else(none)) else(none)))=some (b7,b8,b9):=h
 clear h;by_cases c2:a6=true
 ·subst c2;rw[if_pos rfl] at H;obtain⟨c3,H⟩:=iO H;have LMc3:=aM c3;clear c3;obtain⟨f3,f4⟩:∃ y_:List Int,y_=(([]:List Int) ++ a9):=⟨_,rfl⟩;replace H:(if([]:List Int).length+b6.length < 17592186044416 then(some (false,f3,(([]:List Int) ++ b6))) else(none))=some (b7,b8,b9):=yE f4 H
  have f5:=aM f4;clear f4;obtain⟨c4,H⟩:=iO H;have LMc4:=aM c4;clear c4;obtain⟨f6,f7⟩:∃ y_:List Int,y_=(([]:List Int) ++ b6):=⟨_,rfl⟩;replace H:(some (false,f3,f6))=some (b7,b8,b9):=yE f7 H
  have f8:=aM f7;clear f7;obtain⟨rfl,rfl,rfl⟩:=q3 H;go_enter Try.func80,Try.ntmps80
  try go_wp2_with (first|((with_reducible refine gd 1 rfl ?_);refine bxg #[.bool true,.slice a7 a9.length a8,.slice b4 b6.length b5] 33 ?_;intro f9 hg g4 g5 hb;have g6:=gA w hg;replace HB:=bB hb;clear hb hg)|((with_reducible refine gd 2 rfl ?_);refine bzg 33 ?_;intro g8 hg g9 j3 hb;have j4:=gA w hg;have j6:=nl hg g5;have j7:=ng hg g5;replace g5:=kb g5 hb;replace HB:=bB hb;clear hb hg))
  have n0_:=aM (blk_drew g5.out);have n1_:=aM (blk_drew j3.out);have n2_:=aM (below_drew1 HB.out);clear g5 j3 HB;have g5:=n0_;have j3:=n1_;have HB:=n2_;clear n0_ n1_ n2_;refine start_ (n:=17) (S:=fun w'=>w'.cell? ⟨f9,0,none⟩=some (.bool true)∧w'.cell? ⟨f9,1,none⟩=some (.slice a7 a9.length a8)∧w'.cell? ⟨f9,2,none⟩=some (.slice b4 b6.length b5)) (ds:=[]) (bA 17 0) (by kernel_rfl) rfl rfl ⟨(blk_cell g5.out 0).trans rfl,(blk_cell g5.out 1).trans rfl,(blk_cell g5.out 2).trans rfl⟩ (fun hHeld=>?_);refine with_tabW Ezb.tab1 Ezb.bits1 (fun HT_ HW_=>?_)
  generalize g9.drew=j8 at g5 j3 HB hHeld ⊢;refine pS 0 3 HT_ ?_;refine pS 9 12 HT_ ?_;refine pS 12 15 HT_ ?_;refine tU 1 4 HT_ HW_ hHeld ?_;refine pS 2 5 HT_ ?_;refine pS 3 6 HT_ ?_;refine pN 4 7 HT_ ?_;refine pN 5 8 HT_ ?_;refine pN 6 9 HT_ ?_;refine pN 7 10 HT_ ?_;refine pS 8 11 HT_ ?_;refine tU 10 13 HT_ HW_ hHeld ?_;refine tU 13 16 HT_ HW_ hHeld ?_;refine oU 11 (some 14) HT_ fun K hK=>?_
  refine Kd.R_append_rows_step (Kd.int .i64) (w0:=w) w.heap.size (by rfl) (.const (.slice none 0 0)) (.tmp 13) 31 3 (.int .i64 0) 8 rfl Try.underlying31 info3 rfl (by decide) (by omega) (.slice none 0 0) ([]:List Int) a9 _ _ _ (fun _=>True) (fun _=>False) rfl rfl ?aO ?aR (fun _ _ h=>h) (fun _ h=>h.elim) ?aF ?aB ?aS ?aL ?_
  (case aR=>exact cB e6)
  (case aB=>exact pB)
  (case aF=>exact(fun _ _=>trivial))
  (case aO=>exact((Kd.R_nil _ _ _ _ (fun _=>True))))
  (case aS=>exact(below_size pB))
  (case aL=>have:=LMc3.out;omega)
  intro j9 l5 ho hb hg hat;rw[← f5.out] at ho;have n0_:=aM (blk_grown (g:=f9) (o:=.cells #[.bool true,.slice a7 a9.length a8,.slice b4 b6.length b5] 33 (0,0)) (kW g5) hg (by simp [Value.ownBlock]))
  have n1_:=aM (blk_grown (g:=g8) (o:=.cells #[.bool false,.slice none 0 0,.slice none 0 0] 33 (0,0)) (kW j3) hg (by simp [Value.ownBlock]))
  have n2_:=aM (hb);have n3_:=aM (ho);clear g5 j3 HB;have g5:=n0_;have j3:=n1_;have HB:=n2_;have l6:=n3_;clear n0_ n1_ n2_ n3_ ho hb hg hat;refine hK.out _ _ ⟨(blk_cell g5.out 0).trans rfl,(blk_cell g5.out 1).trans rfl,(blk_cell g5.out 2).trans rfl⟩ (fun hHeld=>?_)
  clear hK K;refine nm 14 ?_;refine oU 14 (some 17) HT_ fun K hK=>?_
  refine Kd.R_append_rows_step (Kd.int .i64) (w0:=w) w.heap.size (by rfl) (.const (.slice none 0 0)) (.tmp 16) 31 3 (.int .i64 0) 8 rfl Try.underlying31 info3 rfl (by decide) (by omega) (.slice none 0 0) ([]:List Int) b6 _ _ _ (oV j9) (fun _=>False) rfl rfl ?aO ?aR (fun _ _ h=>h) (fun _ h=>h.elim) ?aF ?aB ?aS ?aL ?_
  (case aR=>exact cB e8)
  (case aB=>exact pB)
  (case aF=>exact(fun k_ hk=>Kd.fresh' (Kd.R_lt (rX l6.out)) k_ hk))
  (case aO=>exact((Kd.R_nil _ _ _ _ (oV j9))))
  (case aS=>exact(below_size pB))
  (case aL=>have:=LMc4.out;omega)
  intro l7 l8 ho hb hg hat;rw[← f8.out] at ho;have n0_:=aM (blk_grown (g:=f9) (o:=.cells #[.bool true,.slice a7 a9.length a8,.slice b4 b6.length b5] 33 (0,0)) (kW g5) hg (by simp [Value.ownBlock]))
  have n1_:=aM (blk_grown (g:=g8) (o:=.cells #[.bool false,.slice none 0 0,.slice none 0 0] 33 (0,0)) (kW j3) hg (by simp [Value.ownBlock]))
  have n2_:=aM (Kd.R_after (Kd.R_apart_nil (rX l6.out)) hg hat);have n3_:=aM (hb);have n4_:=aM (ho);clear g5 j3 l6 HB;have g5:=n0_;have j3:=n1_;have l6:=n2_;have HB:=n3_;have l9:=n4_;clear n0_ n1_ n2_ n3_ n4_ ho hb hg hat;obtain⟨m0,m4,m5⟩:=Kd.R_slice l9.out;(first|subst m5|(injection m5 with f1_ f2_ f3_;have f4_:=f1_.symm;have f5_:=f3_.symm;clear f1_ f2_ f3_;subst f4_;subst f5_))
  obtain⟨m6,m7,m8⟩:=Kd.R_slice l6.out;(first|subst m8|(injection m8 with f1_ f2_ f3_;have f4_:=f1_.symm;have f5_:=f3_.symm;clear f1_ f2_ f3_;subst f4_;subst f5_))
  refine hK.out _ _ ⟨(blk_cell g5.out 0).trans rfl,(blk_cell g5.out 1).trans rfl,(blk_cell g5.out 2).trans rfl⟩ (fun hHeld=>?_)
  clear hK K;refine nm 17 ?_;refine pS 15 18 HT_ ?_;refine oU 16 none HT_ fun K hK=>?_
  have m9:l8.cell? ⟨g8,0,none⟩=some (.bool false):=(blk_cell j3.out 0).trans rfl;have hfs12:=blk_frozen j3.out 0;have hns12_0:=j6.out;have hms12_0:=j7.out;have n0:l8.cell? ⟨g8,1,none⟩=some (.slice none 0 0):=(blk_cell j3.out 1).trans rfl;have hfs13:=blk_frozen j3.out 1;have hns13_0:=j6.out;have hms13_0:=j7.out;have n7:l8.cell? ⟨g8,2,none⟩=some (.slice none 0 0):=(blk_cell j3.out 2).trans rfl;have hfs14:=blk_frozen j3.out 2;have hns14_0:=j6.out;have hms14_0:=j7.out;refine skip_ (w1:=?_) (by rfl) rfl ?_ ?_
  rotate_left
  ·go_simp
   rfl
  refine hK.out _ _ ⟨((cell_far (p:=⟨g8,_,none⟩) j6.out _).trans (((cell_far (p:=⟨g8,_,none⟩) j6.out _).trans (((cell_far (p:=⟨g8,_,none⟩) j6.out _).trans (hHeld.1)))))),((cell_far (p:=⟨g8,_,none⟩) j6.out _).trans (((cell_far (p:=⟨g8,_,none⟩) j6.out _).trans (((cell_far (p:=⟨g8,_,none⟩) j6.out _).trans (hHeld.2.1)))))),((cell_far (p:=⟨g8,_,none⟩) j6.out _).trans (((cell_far (p:=⟨g8,_,none⟩) j6.out _).trans (((cell_far (p:=⟨g8,_,none⟩) j6.out _).trans (hHeld.2.2))))))⟩ (fun hHeld=>?_)
  clear hK K;refine done_ (done_of HT_.out (by kernel_rfl)) ?_
  try go_wp2
  refine bodyPost_ret (results_cell_row rfl _ _ g8 33 #[.bool false,.slice m6 f3.length m7,.slice m0 f6.length m4] (0,0) _ rfl (kQ j3) Try.underlying33 rfl (by kernel_rfl)) rfl ?_
  exact⟨_,_,eW,by exact Kd.R_mono (rT l6 j3) (fun _ hk=>hk.2),by exact Kd.R_mono (rT l9 j3) (fun _ hk=>hk),pB⟩
 ·obtain rfl:=bN c2;rw[if_neg nF] at H
  by_cases n8:([]:List Int).length+a9.length < 17592186044416
  ·rw[if_pos n8] at H;have LMc15:=aM n8;clear n8;obtain⟨n9,o0⟩:∃ y_:List Int,y_=(([]:List Int) ++ a9):=⟨_,rfl⟩;replace H:(if([]:List Int).length+b6.length < 17592186044416 then(some (decide (0 < a9.length),n9,(([]:List Int) ++ b6))) else(none))=some (b7,b8,b9):=yE o0 H
   have o8:=aM o0;clear o0;obtain⟨o9,H⟩:=iO H;have LMc16:=aM o9;clear o9;obtain⟨p0,p4⟩:∃ y_:List Int,y_=(([]:List Int) ++ b6):=⟨_,rfl⟩;replace H:(some (decide (0 < a9.length),n9,p0))=some (b7,b8,b9):=yE p4 H
   have p7:=aM p4;clear p4;obtain⟨rfl,rfl,rfl⟩:=q3 H;go_enter Try.func80,Try.ntmps80
   try go_wp2_with (first|((with_reducible refine gd 1 rfl ?_);refine bxg #[.bool false,.slice a7 a9.length a8,.slice b4 b6.length b5] 33 ?_;intro f9 hg p9 g5 hb;have g6:=gA w hg;replace HB:=bB hb;clear hb hg)|((with_reducible refine gd 2 rfl ?_);refine bzg 33 ?_;intro g8 hg r5 j3 hb;have j4:=gA w hg;have j6:=nl hg g5;have j7:=ng hg g5;replace g5:=kb g5 hb;replace HB:=bB hb;clear hb hg))
   have n0_:=aM (blk_drew g5.out);have n1_:=aM (blk_drew j3.out);have n2_:=aM (below_drew1 HB.out);clear g5 j3 HB;have g5:=n0_;have j3:=n1_;have HB:=n2_;clear n0_ n1_ n2_;refine start_ (n:=17) (S:=fun w'=>w'.cell? ⟨f9,0,none⟩=some (.bool false)∧w'.cell? ⟨f9,1,none⟩=some (.slice a7 a9.length a8)∧w'.cell? ⟨f9,2,none⟩=some (.slice b4 b6.length b5)) (ds:=[]) (bA 17 0) (by kernel_rfl) rfl rfl ⟨(blk_cell g5.out 0).trans rfl,(blk_cell g5.out 1).trans rfl,(blk_cell g5.out 2).trans rfl⟩ (fun hHeld=>?_);refine with_tabW Ezb.tab1 Ezb.bits1 (fun HT_ HW_=>?_)
   generalize r5.drew=r6 at g5 j3 HB hHeld ⊢;refine pS 0 3 HT_ ?_;refine pS 9 12 HT_ ?_;refine pS 12 15 HT_ ?_;refine tU 1 4 HT_ HW_ hHeld ?_;refine pS 2 5 HT_ ?_;refine pS 3 6 HT_ ?_;refine pS 4 7 HT_ ?_;refine tU 5 8 HT_ HW_ hHeld ?_;refine pS 6 9 HT_ ?_;refine pS 7 10 HT_ ?_;refine pS 8 11 HT_ ?_;refine tU 10 13 HT_ HW_ hHeld ?_;refine tU 13 16 HT_ HW_ hHeld ?_;refine oU 11 (some 14) HT_ fun K hK=>?_
   refine Kd.R_append_rows_step (Kd.int .i64) (w0:=w) w.heap.size (by rfl) (.const (.slice none 0 0)) (.tmp 13) 31 3 (.int .i64 0) 8 rfl Try.underlying31 info3 rfl (by decide) (by omega) (.slice none 0 0) ([]:List Int) a9 _ _ _ (fun _=>True) (fun _=>False) rfl rfl ?aO ?aR (fun _ _ h=>h) (fun _ h=>h.elim) ?aF ?aB ?aS ?aL ?_
   (case aR=>exact cB e6)
   (case aB=>exact pB)
   (case aF=>exact(fun _ _=>trivial))
   (case aO=>exact((Kd.R_nil _ _ _ _ (fun _=>True))))
   (case aS=>exact(below_size pB))
   (case aL=>have:=LMc15.out;omega)
   intro r7 r8 ho hb hg hat;rw[← o8.out] at ho;have n0_:=aM (blk_grown (g:=f9) (o:=.cells #[.bool false,.slice a7 a9.length a8,.slice b4 b6.length b5] 33 (0,0)) (kW g5) hg (by simp [Value.ownBlock]))
   have n1_:=aM (blk_grown (g:=g8) (o:=.cells #[.bool false,.slice none 0 0,.slice none 0 0] 33 (0,0)) (kW j3) hg (by simp [Value.ownBlock]))
   have n2_:=aM (hb);have n3_:=aM (ho);clear g5 j3 HB;have g5:=n0_;have j3:=n1_;have HB:=n2_;have r9:=n3_;clear n0_ n1_ n2_ n3_ ho hb hg hat;refine hK.out _ _ ⟨(blk_cell g5.out 0).trans rfl,(blk_cell g5.out 1).trans rfl,(blk_cell g5.out 2).trans rfl⟩ (fun hHeld=>?_)
   clear hK K;refine nm 14 ?_;refine oU 14 (some 17) HT_ fun K hK=>?_
   refine Kd.R_append_rows_step (Kd.int .i64) (w0:=w) w.heap.size (by rfl) (.const (.slice none 0 0)) (.tmp 16) 31 3 (.int .i64 0) 8 rfl Try.underlying31 info3 rfl (by decide) (by omega) (.slice none 0 0) ([]:List Int) b6 _ _ _ (oV r7) (fun _=>False) rfl rfl ?aO ?aR (fun _ _ h=>h) (fun _ h=>h.elim) ?aF ?aB ?aS ?aL ?_
   (case aR=>exact cB e8)
   (case aB=>exact pB)
   (case aF=>exact(fun k_ hk=>Kd.fresh' (Kd.R_lt (rX r9.out)) k_ hk))
   (case aO=>exact((Kd.R_nil _ _ _ _ (oV r7))))
   (case aS=>exact(below_size pB))
   (case aL=>have:=LMc16.out;omega)
   intro t4 t5 ho hb hg hat;rw[← p7.out] at ho;have n0_:=aM (blk_grown (g:=f9) (o:=.cells #[.bool false,.slice a7 a9.length a8,.slice b4 b6.length b5] 33 (0,0)) (kW g5) hg (by simp [Value.ownBlock]))
   have n1_:=aM (blk_grown (g:=g8) (o:=.cells #[.bool false,.slice none 0 0,.slice none 0 0] 33 (0,0)) (kW j3) hg (by simp [Value.ownBlock]))
   have n2_:=aM (Kd.R_after (Kd.R_apart_nil (rX r9.out)) hg hat);have n3_:=aM (hb);have n4_:=aM (ho);clear g5 j3 r9 HB;have g5:=n0_;have j3:=n1_;have r9:=n2_;have HB:=n3_;have t6:=n4_;clear n0_ n1_ n2_ n3_ n4_ ho hb hg hat;obtain⟨t7,t8,t9⟩:=Kd.R_slice t6.out;(first|subst t9|(injection t9 with f1_ f2_ f3_;have f4_:=f1_.symm;have f5_:=f3_.symm;clear f1_ f2_ f3_;subst f4_;subst f5_))
   obtain⟨y9,z3,z4⟩:=Kd.R_slice r9.out;(first|subst z4|(injection z4 with f1_ f2_ f3_;have f4_:=f1_.symm;have f5_:=f3_.symm;clear f1_ f2_ f3_;subst f4_;subst f5_))
   refine hK.out _ _ ⟨(blk_cell g5.out 0).trans rfl,(blk_cell g5.out 1).trans rfl,(blk_cell g5.out 2).trans rfl⟩ (fun hHeld=>?_)
   clear hK K;refine nm 17 ?_;refine pS 15 18 HT_ ?_;refine oU 16 none HT_ fun K hK=>?_
   have z5:t5.cell? ⟨g8,0,none⟩=some (.bool false):=(blk_cell j3.out 0).trans rfl;have hfs24:=blk_frozen j3.out 0;have hns24_0:=j6.out;have hms24_0:=j7.out;have z6:t5.cell? ⟨g8,1,none⟩=some (.slice none 0 0):=(blk_cell j3.out 1).trans rfl;have hfs25:=blk_frozen j3.out 1;have hns25_0:=j6.out;have hms25_0:=j7.out;have z7:t5.cell? ⟨g8,2,none⟩=some (.slice none 0 0):=(blk_cell j3.out 2).trans rfl;have hfs26:=blk_frozen j3.out 2;have hns26_0:=j6.out;have hms26_0:=j7.out;refine skip_ (w1:=?_) (by rfl) rfl ?_ ?_
   rotate_left
   ·go_simp
    rfl
   refine hK.out _ _ ⟨((cell_far (p:=⟨g8,_,none⟩) j6.out _).trans (((cell_far (p:=⟨g8,_,none⟩) j6.out _).trans (((cell_far (p:=⟨g8,_,none⟩) j6.out _).trans (hHeld.1)))))),((cell_far (p:=⟨g8,_,none⟩) j6.out _).trans (((cell_far (p:=⟨g8,_,none⟩) j6.out _).trans (((cell_far (p:=⟨g8,_,none⟩) j6.out _).trans (hHeld.2.1)))))),((cell_far (p:=⟨g8,_,none⟩) j6.out _).trans (((cell_far (p:=⟨g8,_,none⟩) j6.out _).trans (((cell_far (p:=⟨g8,_,none⟩) j6.out _).trans (hHeld.2.2))))))⟩ (fun hHeld=>?_)
   clear hK K;refine done_ (done_of HT_.out (by kernel_rfl)) ?_
   try go_wp2
   refine bodyPost_ret (results_cell_row rfl _ _ g8 33 #[.bool (decide (0 < a9.length)),.slice y9 n9.length z3,.slice t7 p0.length t8] (0,0) _ rfl (kQ j3) Try.underlying33 rfl (by kernel_rfl)) rfl ?_
   exact⟨_,_,eW,by exact Kd.R_mono (rT r9 j3) (fun _ hk=>hk.2),by exact Kd.R_mono (rT t6 j3) (fun _ hk=>hk),pB⟩
  ·rw[if_neg n8] at H;exact absurd H (by simp)


def Fzv.f (k:Nat) (a0_0:Bool) (l0_1:List Int) (l0_2:List Int) (a1_0:Bool) (l1_1:List Int) (l1_2:List Int):Option (Bool × List Int × List Int × Int):=(Bzk.f k (([(⟨a0_0,l0_1,l0_2⟩:S33),(⟨a1_0,l1_1,l1_2⟩:S33)]:List (S33)))).bind fun t501=>(if t501=true then((Ezb.f a1_0 l1_1 l1_2).bind fun bt502=>((Ezf.f k a0_0 l0_1 l0_2 bt502.1 bt502.2.1 bt502.2.2).bind fun bt509=>(some (bt509.1,bt509.2.1,bt509.2.2.1,bt509.2.2.2)))) else(some (false,([]:List Int),([]:List Int),3)))
theorem Fzv.mono:∀ a6 a7 a8 a9 b4 b5 k,LeO (Fzv.f k a6 a7 a8 a9 b4 b5) (Fzv.f (k+1) a6 a7 a8 a9 b4 b5):=by
 intro a6 a7 a8 a9 b4 b5 k;unfold Fzv.f;have i0:=@Ezf.mono;have i1:=@Bzk.mono;exact mM
def Fzv.T3:Bool × List (List Nat × List Nat):=(true,[([],[]),([],[]),([1],[1]),([0,2,2],[0,2]),([3],[3]),([3],[3]),([4,3,0,1,2,3,4,5],[4]),([5,6,0,1,2,3,4,5,6],[5])])
def Fzv.B3:List Nat:=[0,0,2,7,15,15,63,127]
theorem Fzv.tab3:rtab .any (opsOf Try.f53 3)=Fzv.T3:=by kernel_rfl
theorem Fzv.bits3:waitsOk Fzv.T3.2 Fzv.B3=true:=by kernel_rfl
theorem Fzv.calls (k:Nat) (a6:Bool) (a7:Nat→Prop) (a8:Option Addr) (a9:Nat) (b4:List Int) (b5:Nat→Prop) (b6:Option Addr) (b7:Nat) (b8:List Int) (b9:Bool) (d6:Nat→Prop) (d7:Option Addr) (d8:Nat) (d9:List Int) (e6:Nat→Prop) (e7:Option Addr) (e8:Nat) (e9:List Int) (f3:Bool) (f4:List Int) (f5:List Int) (f6:Int) (w:World) (f7:Kd.V (Kd.int .i64) 3 w w.heap.size (fun k_=>a7 k_) (.slice a8 b4.length a9) b4) (f8:Kd.V (Kd.int .i64) 3 w w.heap.size (fun k_=>b5 k_) (.slice b6 b8.length b7) b8) (f9:Kd.V (Kd.int .i64) 3 w w.heap.size (fun k_=>d6 k_) (.slice d7 d9.length d8) d9) (g4:Kd.V (Kd.int .i64) 3 w w.heap.size (fun k_=>e6 k_) (.slice e7 e9.length e8) e9) (h:Fzv.f k a6 b4 b8 b9 d9 e9=some (f3,f4,f5,f6)) :
  Calls Try.prog 53 #[.agg #[.bool a6,.slice a8 b4.length a9,.slice b6 b8.length b7],.agg #[.bool b9,.slice d7 d9.length d8,.slice e7 e9.length e8]] w fun e w'=>∃ v1_ v2_:Value,e=.returned (.tuple #[.agg #[.bool f3,v1_,v2_],.int .i64 f6])∧rI w' w (fun k_=>(w.heap.size≤k_)∧oV v2_ k_) v1_ f4∧rI w' w (fun k_=>(w.heap.size≤k_)∧oV v1_ k_) v2_ f5∧bw w w':=by
 have hu33:=Try.underlying33;have g5:=aM (show Kd.V (Kd.int .i64) 3 w w.heap.size (fun k_=>((a7 k_∨b5 k_∨d6 k_∨e6 k_)∨w.heap.size≤k_)) (.slice a8 b4.length a9) b4 from Kd.V_mono f7 (fun k_ hk=>.inl (.inl hk)))
 have g6:=aM (show Kd.V (Kd.int .i64) 3 w w.heap.size (fun k_=>((a7 k_∨b5 k_∨d6 k_∨e6 k_)∨w.heap.size≤k_)) (.slice b6 b8.length b7) b8 from Kd.V_mono f8 (fun k_ hk=>.inl (.inr (.inl hk))))
 have g7:=aM (show Kd.V (Kd.int .i64) 3 w w.heap.size (fun k_=>((a7 k_∨b5 k_∨d6 k_∨e6 k_)∨w.heap.size≤k_)) (.slice d7 d9.length d8) d9 from Kd.V_mono f9 (fun k_ hk=>.inl (.inr (.inr (.inl hk)))))
 have g8:=aM (show Kd.V (Kd.int .i64) 3 w w.heap.size (fun k_=>((a7 k_∨b5 k_∨d6 k_∨e6 k_)∨w.heap.size≤k_)) (.slice e7 e9.length e8) e9 from Kd.V_mono g4 (fun k_ hk=>.inl (.inr (.inr (.inr hk)))))
 have HB:=aM (Below.refl w.heap.size w);have H:((Bzk.f k (([(⟨a6,b4,b8⟩:S33),(⟨b9,d9,e9⟩:S33)]:List (S33)))).bind fun g9=>(if g9=true then((Ezb.f b9 d9 e9).bind fun j3=>((Ezf.f k a6 b4 b8 j3.1 j3.2.1 j3.2.2).bind fun j4=>(some (j4.1,j4.2.1,j4.2.2.1,j4.2.2.2)))) else(some (false,([]:List Int),([]:List Int),3))))=some (f3,f4,f5,f6):=h
 clear h;obtain⟨j5,j6⟩:∃ y_:List (S33),y_=(([(⟨a6,b4,b8⟩:S33),(⟨b9,d9,e9⟩:S33)]:List (S33))):=⟨_,rfl⟩;replace H:((Bzk.f k j5).bind fun g9=>(if g9=true then((Ezb.f b9 d9 e9).bind fun j3=>((Ezf.f k a6 b4 b8 j3.1 j3.2.1 j3.2.2).bind fun j4=>(some (j4.1,j4.2.1,j4.2.2.1,j4.2.2.2)))) else(some (false,([]:List Int),([]:List Int),3))))=some (f3,f4,f5,f6):=yE j6 H
 have j7:=aM j6;clear j6;obtain⟨g9,j8,H⟩:=bT H;(try dsimp only at H);have j9:=aM H;clear H;go_enter Try.func53,Try.ntmps53
 go_upto_if 10 with (first|((with_reducible refine gd 2 rfl ?_);refine bx #[.bool a6,.slice a8 b4.length a9,.slice b6 b8.length b7] 33 ?_;intro l5 hg l6 l7 hb;have l8:=gA w hg;replace g5:=vG g5 hg hb;replace g6:=vG g6 hg hb;replace g7:=vG g7 hg hb;replace g8:=vG g8 hg hb;replace HB:=bB hb;clear hb hg)|((with_reducible refine gd 3 rfl ?_);refine bx #[.bool b9,.slice d7 d9.length d8,.slice e7 e9.length e8] 33 ?_;intro m0 hg m4 m5 hb;have m6:=gA w hg;have m8:=nl hg l7;have m9:=ng hg l7;replace g5:=vG g5 hg hb;replace g6:=vG g6 hg hb;replace g7:=vG g7 hg hb;replace g8:=vG g8 hg hb;replace l7:=kb l7 hb;replace HB:=bB hb;clear hb hg)|((with_reducible refine gd 4 rfl ?_);refine bz 33 ?_;intro n0 hg n7 n8 hb;have n9:=gA w hg;have o8:=nl hg l7;have o9:=ng hg l7;have p0:=nl hg m5;have p4:=ng hg m5;replace g5:=vG g5 hg hb;replace g6:=vG g6 hg hb;replace g7:=vG g7 hg hb;replace g8:=vG g8 hg hb;replace l7:=kb l7 hb;replace m5:=kb m5 hb;replace HB:=bB hb;clear hb hg;have p7:=m8.out;have p9:=m9.out;have r5:=o8.out;have r6:=o9.out;obtain⟨r7,r8,r9,t4,t5,t6⟩:=bk3 l7;have t7:=p0.out;have t8:=p4.out;obtain⟨t9,y9,z3,z4,z5,z6⟩:=bk3 m5)|((with_reducible refine gate_dst (N:=8) rfl ?_);refine Kd.N_lit k33 _ 33 ?hg (N':=8) ?hd (xs:=([(⟨a6,b4,b8⟩:S33),(⟨b9,d9,e9⟩:S33)]:List (S33))) (inner:=[.bool a6,.slice a8 b4.length a9,.slice b6 b8.length b7,.bool b9,.slice d7 d9.length d8,.slice e7 e9.length e8]) (ok:=(fun k_=>((a7 k_∨b5 k_∨d6 k_∨e6 k_)∨w.heap.size≤k_)∧k_≠l5∧k_≠m0∧k_≠n0)) (okp:=(fun k_=>((a7 k_∨b5 k_∨d6 k_∨e6 k_)∨w.heap.size≤k_)∧k_≠l5∧k_≠m0∧k_≠n0)) ?hr ?hp (fun _ hk=>hk) ((show ∀ k_,n7.heap.size≤k_→(fun k_=>((a7 k_∨b5 k_∨d6 k_∨e6 k_)∨w.heap.size≤k_)∧k_≠l5∧k_≠m0∧k_≠n0) k_ from fun k_ hk=>⟨(.inr (Nat.le_trans (below_size pB) hk)),fB l7 hk,fB m5 hk,fB n8 hk⟩) _ (Nat.le_refl _)) (Below.refl _ _) (Nat.le_refl _) (by simp) ?_;(case hd=>rfl);(case hg=>rfl);(case hr=>first|(go_simp;done)|(go_simp;rfl));(case hp=>exact(Reps.c3 (show Kd.FK k33 _ _ (⟨a6,b4,b8⟩:S33) [.bool a6,.slice a8 b4.length a9,.slice b6 b8.length b7] from(k33_mkF _ _ (⟨a6,b4,b8⟩:S33) (Kd.V_reads' (Kd.V_mono (ok':=(fun k_=>((a7 k_∨b5 k_∨d6 k_∨e6 k_)∨w.heap.size≤k_)∧k_≠l5∧k_≠m0∧k_≠n0)) (g5.out) (fun k_ hk=>⟨hk.1.1.1,⟨hk.1.1.2,⟨hk.1.2,hk.2⟩⟩⟩))).2.1 (Kd.V_F (Kd.V_mono (ok':=(fun k_=>((a7 k_∨b5 k_∨d6 k_∨e6 k_)∨w.heap.size≤k_)∧k_≠l5∧k_≠m0∧k_≠n0)) (g5.out) (fun k_ hk=>⟨hk.1.1.1,⟨hk.1.1.2,⟨hk.1.2,hk.2⟩⟩⟩))) (Kd.V_reads' (Kd.V_mono (ok':=(fun k_=>((a7 k_∨b5 k_∨d6 k_∨e6 k_)∨w.heap.size≤k_)∧k_≠l5∧k_≠m0∧k_≠n0)) (g6.out) (fun k_ hk=>⟨hk.1.1.1,⟨hk.1.1.2,⟨hk.1.2,hk.2⟩⟩⟩))).2.1 (Kd.V_F (Kd.V_mono (ok':=(fun k_=>((a7 k_∨b5 k_∨d6 k_∨e6 k_)∨w.heap.size≤k_)∧k_≠l5∧k_≠m0∧k_≠n0)) (g6.out) (fun k_ hk=>⟨hk.1.1.1,⟨hk.1.1.2,⟨hk.1.2,hk.2⟩⟩⟩))))) (Reps.c3 (show Kd.FK k33 _ _ (⟨b9,d9,e9⟩:S33) [.bool b9,.slice d7 d9.length d8,.slice e7 e9.length e8] from(k33_mkF _ _ (⟨b9,d9,e9⟩:S33) (Kd.V_reads' (Kd.V_mono (ok':=(fun k_=>((a7 k_∨b5 k_∨d6 k_∨e6 k_)∨w.heap.size≤k_)∧k_≠l5∧k_≠m0∧k_≠n0)) (g7.out) (fun k_ hk=>⟨hk.1.1.1,⟨hk.1.1.2,⟨hk.1.2,hk.2⟩⟩⟩))).2.1 (Kd.V_F (Kd.V_mono (ok':=(fun k_=>((a7 k_∨b5 k_∨d6 k_∨e6 k_)∨w.heap.size≤k_)∧k_≠l5∧k_≠m0∧k_≠n0)) (g7.out) (fun k_ hk=>⟨hk.1.1.1,⟨hk.1.1.2,⟨hk.1.2,hk.2⟩⟩⟩))) (Kd.V_reads' (Kd.V_mono (ok':=(fun k_=>((a7 k_∨b5 k_∨d6 k_∨e6 k_)∨w.heap.size≤k_)∧k_≠l5∧k_≠m0∧k_≠n0)) (g8.out) (fun k_ hk=>⟨hk.1.1.1,⟨hk.1.1.2,⟨hk.1.2,hk.2⟩⟩⟩))).2.1 (Kd.V_F (Kd.V_mono (ok':=(fun k_=>((a7 k_∨b5 k_∨d6 k_∨e6 k_)∨w.heap.size≤k_)∧k_≠l5∧k_≠m0∧k_≠n0)) (g8.out) (fun k_ hk=>⟨hk.1.1.1,⟨hk.1.1.2,⟨hk.1.2,hk.2⟩⟩⟩))))) (Reps.none _ _))));intro z7 z8 z9 hb hg_ hnew_;clear hg_ hnew_;replace z9:=nY j7 z9;have B0:=aM (Kd.N_lower z9 (below_size pB));replace g5:=aM (Kd.V_elder' (vX g5.out) (Kd.N_base z9) hb);replace g6:=aM (Kd.V_elder' (vX g6.out) (Kd.N_base z9) hb);replace g7:=aM (Kd.V_elder' (vX g7.out) (Kd.N_base z9) hb);replace g8:=aM (Kd.V_elder' (vX g8.out) (Kd.N_base z9) hb);replace l7:=kb l7 hb;replace m5:=kb m5 hb;replace n8:=kb n8 hb;replace HB:=bB hb;clear hb z9;obtain⟨B5,B9,rfl⟩:=Kd.N_slice B0.out)|((with_reducible refine gc 62 rfl ?_);refine gC 62 (some 9) Try.func62 #[.slice B5 j5.length B9] ?_;(with_reducible refine(Bzk.calls k _ _ j5 g9 _ ?_ ?_ j8.out).mono ?_);exact cN B0;exact lN B0;rintro e C0 ⟨rfl,hb⟩;refine⟨_,rfl,?_⟩;replace g5:=vB g5 hb;replace g6:=vB g6 hb;replace g7:=vB g7 hb;replace g8:=vB g8 hb;replace B0:=nB B0 hb;replace l7:=kb l7 hb;replace m5:=kb m5 hb;replace n8:=kb n8 hb;replace HB:=bB hb;clear hb))
 have H:=j9.out;clear j9;by_cases C1:g9=true
 ·subst C1;rw[if_pos rfl] at H;obtain⟨⟨C2,C3,C4⟩,C6,H⟩:=bT H;(try dsimp only at H);replace H:=bS H;obtain⟨⟨C7,C8,C9,D2⟩,D3,H⟩:=H;replace H:(some (C7,C8,C9,D2))=some (f3,f4,f5,f6):=H;have D4:=aM D3;clear D3;obtain⟨rfl,rfl,rfl,rfl⟩:=q4 H;try go_wp2
  have n0_:=aM (Kd.V_drew g5.out);have n1_:=aM (Kd.V_drew g6.out);have n2_:=aM (Kd.V_drew g7.out);have n3_:=aM (Kd.V_drew g8.out);have n4_:=aM (Kd.N_drew B0.out);have n5_:=aM (blk_drew l7.out);have n6_:=aM (blk_drew m5.out);have n7_:=aM (blk_drew n8.out);have n8_:=aM (below_drew1 HB.out);clear g5 g6 g7 g8 B0 l7 m5 n8 HB;have g5:=n0_;have g6:=n1_;have g7:=n2_;have g8:=n3_;have B0:=n4_;have l7:=n5_;have m5:=n6_;have n8:=n7_;have HB:=n8_;clear n0_ n1_ n2_ n3_ n4_ n5_ n6_ n7_ n8_;refine start_ (n:=8) (S:=fun w'=>w'.cell? ⟨l5,0,none⟩=some (.bool a6)∧w'.cell? ⟨l5,1,none⟩=some (.slice a8 b4.length a9)∧w'.cell? ⟨l5,2,none⟩=some (.slice b6 b8.length b7)∧w'.cell? ⟨m0,0,none⟩=some (.bool b9)∧w'.cell? ⟨m0,1,none⟩=some (.slice d7 d9.length d8)∧w'.cell? ⟨m0,2,none⟩=some (.slice e7 e9.length e8)) (ds:=[]) (bA 8 0) (by kernel_rfl) rfl rfl ⟨(blk_cell l7.out 0).trans rfl,(blk_cell l7.out 1).trans rfl,(blk_cell l7.out 2).trans rfl,(blk_cell m5.out 0).trans rfl,(blk_cell m5.out 1).trans rfl,(blk_cell m5.out 2).trans rfl⟩ (fun hHeld=>?_);refine with_tabW Fzv.tab3 Fzv.bits3 (fun HT_ HW_=>?_)
  generalize C0.drew=D5 at g5 g6 g7 g8 B0 l7 m5 n8 HB hHeld ⊢;refine tU 0 12 HT_ HW_ hHeld ?_;refine tU 1 13 HT_ HW_ hHeld ?_;refine oU 2 (some 14) HT_ fun K hK=>?_
  refine goes_ Try.func80 (by kernel_rfl) rfl #[.agg #[.bool b9,.slice d7 d9.length d8,.slice e7 e9.length e8]] (by rfl) rfl rfl mA ?_
  with_reducible refine(Ezb.calls b9 _ _ d9 _ _ e9 C2 C3 C4 _ ?side1 ?side2 ?side3 ?side4 C6.out).mono ?_
  (case side1=>exact cV g7)
  (case side2=>exact lV g7)
  (case side3=>exact cV g8)
  (case side4=>exact lV g8)
  rintro e D6 ⟨D7,D8,rfl,D9,E0,hb⟩;refine⟨_,rfl,?_⟩;have n0_:=vO g5 hb D9 E0
  have n1_:=vO g6 hb D9 E0
  have n2_:=vO g7 hb D9 E0
  have n3_:=vO g8 hb D9 E0
  have n4_:=nO B0 hb D9 E0
  have n5_:=rL (Kd.R_newM (M:=fun k_=>(w.heap.size≤k_)) D9 (below_size pB) (fun k_ h_=>h_))
  have n6_:=rL (Kd.R_newM (M:=fun k_=>(w.heap.size≤k_)) E0 (below_size pB) (fun k_ h_=>h_))
  have n7_:=kb l7 hb;have n8_:=kb m5 hb;have n9_:=kb n8 hb;have E1:=bB hb;clear g5 g6 g7 g8 B0 l7 m5 n8 HB;have g5:=n0_;have g6:=n1_;have g7:=n2_;have g8:=n3_;have B0:=n4_;have E2:=n5_;have E3:=n6_;have l7:=n7_;have m5:=n8_;have n8:=n9_;have HB:=E1;clear n0_ n1_ n2_ n3_ n4_ n5_ n6_ n7_ n8_ n9_ E1;(try clear hb)
  (try clear E4)
  (try clear hk)
  (try clear hi)
  (try clear D9)
  (try clear E0)
  obtain⟨E5,E6,E7⟩:=Kd.R_slice E2.out;(first|subst E7|(injection E7 with f1_ f2_ f3_;have f4_:=f1_.symm;have f5_:=f3_.symm;clear f1_ f2_ f3_;subst f4_;subst f5_))
  obtain⟨E8,E9,F0⟩:=Kd.R_slice E3.out;(first|subst F0|(injection F0 with f1_ f2_ f3_;have f4_:=f1_.symm;have f5_:=f3_.symm;clear f1_ f2_ f3_;subst f4_;subst f5_))
  refine hK.out _ _ ⟨(blk_cell l7.out 0).trans rfl,(blk_cell l7.out 1).trans rfl,(blk_cell l7.out 2).trans rfl,(blk_cell m5.out 0).trans rfl,(blk_cell m5.out 1).trans rfl,(blk_cell m5.out 2).trans rfl⟩ (fun hHeld=>?_)
  clear hK K;refine nm 14 ?_;refine oU 3 (some 15) HT_ fun K hK=>?_
  refine goes_ Try.func64 (by kernel_rfl) rfl #[.agg #[.bool a6,.slice a8 b4.length a9,.slice b6 b8.length b7],.agg #[.bool C2,.slice E5 C3.length E6,.slice E8 C4.length E9]] (by rfl) rfl rfl mA ?_
  with_reducible refine(Ezf.calls k a6 _ _ b4 _ _ b8 C2 _ _ C3 _ _ C4 C7 C8 C9 D2 _ ?side1 ?side2 ?side3 ?side4 ?side5 ?side6 ?side7 ?side8 D4.out).mono ?_
  (case side1=>exact cV g5)
  (case side2=>exact lV g5)
  (case side3=>exact cV g6)
  (case side4=>exact lV g6)
  (case side5=>exact cR E2)
  (case side6=>exact lR E2)
  (case side7=>exact cR E3)
  (case side8=>exact lR E3)
  rintro e F2 ⟨F3,F4,rfl,D9,E0,hb⟩;refine⟨_,rfl,?_⟩;have n0_:=vO g5 hb D9 E0
  have n1_:=vO g6 hb D9 E0
  have n2_:=vO g7 hb D9 E0
  have n3_:=vO g8 hb D9 E0
  have n4_:=nO B0 hb D9 E0
  have n5_:=rO E2 hb D9 E0
  have n6_:=rO E3 hb D9 E0
  have n7_:=rL (rn (rn (Kd.R_newM (M:=fun k_=>(w.heap.size≤k_)) D9 (below_size pB) (fun k_ h_=>h_)) E2) E3)
  have n8_:=rL (rn (rn (Kd.R_newM (M:=fun k_=>(w.heap.size≤k_)) E0 (below_size pB) (fun k_ h_=>h_)) E2) E3)
  have n9_:=kb l7 hb;have E1:=kb m5 hb;have F5:=kb n8 hb;have F6:=bB hb;clear g5 g6 g7 g8 B0 E2 E3 l7 m5 n8 HB;have g5:=n0_;have g6:=n1_;have g7:=n2_;have g8:=n3_;have B0:=n4_;have E2:=n5_;have E3:=n6_;have F7:=n7_;have F8:=n8_;have l7:=n9_;have m5:=E1;have n8:=F5;have HB:=F6;clear n0_ n1_ n2_ n3_ n4_ n5_ n6_ n7_ n8_ n9_ E1 F5 F6;(try clear hb)
  (try clear E4)
  (try clear hk)
  (try clear hi)
  (try clear D9)
  (try clear E0)
  obtain⟨F9,G5,G9⟩:=Kd.R_slice F7.out;(first|subst G9|(injection G9 with f1_ f2_ f3_;have f4_:=f1_.symm;have f5_:=f3_.symm;clear f1_ f2_ f3_;subst f4_;subst f5_))
  obtain⟨H5,H6,H7⟩:=Kd.R_slice F8.out;(first|subst H7|(injection H7 with f1_ f2_ f3_;have f4_:=f1_.symm;have f5_:=f3_.symm;clear f1_ f2_ f3_;subst f4_;subst f5_))
  refine hK.out _ _ ⟨(blk_cell l7.out 0).trans rfl,(blk_cell l7.out 1).trans rfl,(blk_cell l7.out 2).trans rfl,(blk_cell m5.out 0).trans rfl,(blk_cell m5.out 1).trans rfl,(blk_cell m5.out 2).trans rfl⟩ (fun hHeld=>?_)
  clear hK K;refine nm 15 ?_;refine pS 4 16 HT_ ?_;refine pS 5 17 HT_ ?_;refine oU 6 none HT_ fun K hK=>?_
  have H8:F2.cell? ⟨n0,0,none⟩=some (.bool false):=(blk_cell n8.out 0).trans rfl;have hfs25:=blk_frozen n8.out 0;have hns25_0:=o8.out;have hns25_1:=p0.out;have hms25_0:=o9.out;have hms25_1:=p4.out;have H9:F2.cell? ⟨n0,1,none⟩=some (.slice none 0 0):=(blk_cell n8.out 1).trans rfl;have hfs27:=blk_frozen n8.out 1;have hns27_0:=o8.out;have hns27_1:=p0.out;have hms27_0:=o9.out;have hms27_1:=p4.out;have I0:F2.cell? ⟨n0,2,none⟩=some (.slice none 0 0):=(blk_cell n8.out 2).trans rfl;have hfs29:=blk_frozen n8.out 2;have hns29_0:=o8.out;have hns29_1:=p0.out;have hms29_0:=o9.out;have hms29_1:=p4.out;refine skip_ (w1:=?_) (by rfl) rfl ?_ ?_
  rotate_left
  ·go_simp
   rfl
  refine hK.out _ _ ⟨((cell_far (p:=⟨n0,_,none⟩) o8.out _).trans (((cell_far (p:=⟨n0,_,none⟩) o8.out _).trans (((cell_far (p:=⟨n0,_,none⟩) o8.out _).trans (hHeld.1)))))),((cell_far (p:=⟨n0,_,none⟩) o8.out _).trans (((cell_far (p:=⟨n0,_,none⟩) o8.out _).trans (((cell_far (p:=⟨n0,_,none⟩) o8.out _).trans (hHeld.2.1)))))),((cell_far (p:=⟨n0,_,none⟩) o8.out _).trans (((cell_far (p:=⟨n0,_,none⟩) o8.out _).trans (((cell_far (p:=⟨n0,_,none⟩) o8.out _).trans (hHeld.2.2.1)))))),((cell_far (p:=⟨n0,_,none⟩) p0.out _).trans (((cell_far (p:=⟨n0,_,none⟩) p0.out _).trans (((cell_far (p:=⟨n0,_,none⟩) p0.out _).trans (hHeld.2.2.2.1)))))),((cell_far (p:=⟨n0,_,none⟩) p0.out _).trans (((cell_far (p:=⟨n0,_,none⟩) p0.out _).trans (((cell_far (p:=⟨n0,_,none⟩) p0.out _).trans (hHeld.2.2.2.2.1)))))),((cell_far (p:=⟨n0,_,none⟩) p0.out _).trans (((cell_far (p:=⟨n0,_,none⟩) p0.out _).trans (((cell_far (p:=⟨n0,_,none⟩) p0.out _).trans (hHeld.2.2.2.2.2))))))⟩ (fun hHeld=>?_)
  clear hK K;refine pS 7 5 HT_ ?_;refine done_ (done_of HT_.out (by kernel_rfl)) ?_
  try go_wp2
  refine rC n0 33 #[.bool C7,.slice F9 C8.length G5,.slice H5 C9.length H6] (kQ n8) Try.underlying33 ?_
  exact⟨_,_,eW,by exact Kd.R_mono (rT F7 n8) (fun _ hk=>⟨hk.1.1.1,hk.1.1.2⟩),by exact Kd.R_mono (rT F8 n8) (fun _ hk=>⟨hk.1.1.1,hk.1.1.2⟩),pB⟩
 ·obtain rfl:=bN C1;rw[if_neg nF] at H
  obtain⟨rfl,rfl,rfl,rfl⟩:=q4 H;have I3:=o9.out;have I4:=o8.out;have I5:=p4.out;have I6:=p0.out;obtain⟨I7,I8,I9,J0,J1,J2⟩:=bk3 n8;go_wp2
  refine rC n0 33 #[.bool false,.slice none 0 0,.slice none 0 0] (kQ n8) Try.underlying33 ?_
  exact⟨_,_,eW,nK,nK,pB⟩


end Go.Proofs.Ytbnpcplckcipfaa.Print
