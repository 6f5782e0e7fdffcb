import Derived.Test.YtbnpcplckcipfaaPrint0
import Derived.Test.YtbnpcplckcipfaaPrint17
import Derived.Test.YtbnpcplckcipfaaPrint33
import Derived.Test.YtbnpcplckcipfaaPrint24
namespace Go.Proofs.Ytbnpcplckcipfaa.Print
open Go.RowKit Go.Proofs.YtbnpcplckcipfaaW.PrintWords Go.Proofs.YtbnpcplckcipfaaW.PrintLast Go.Proofs.YtbnpcplckcipfaaW.PrintMore
attribute [local go_sem] dF dG eB eD dm dn dH dI
set_option linter.unusedVariables false
set_option maxRecDepth 100000
set_option maxHeartbeats 8000000
set_option linter.unusedSimpArgs false

def Gzb.f (k:Nat) (a0_0:Bool) (l0_1:List Int) (l0_2:List Int) (a1_0:Bool) (l1_1:List Int) (l1_2:List Int):Option (Bool × List Int × List Int × Int):=(Czq.f k (([(⟨a0_0,l0_1,l0_2⟩:S33),(⟨a1_0,l1_1,l1_2⟩:S33)]:List (S33)))).bind fun t472=>(if t472=true then(if(l1_1.length:Int)=0 then(some (false,([]:List Int),([]:List Int),16)) else((Ezk.f k a0_0 l0_1 l0_2 a1_0 l1_2 l1_1).bind fun bt473=>(some (bt473.1,bt473.2.1,bt473.2.2.1,bt473.2.2.2)))) else(some (false,([]:List Int),([]:List Int),3)))
theorem Gzb.mono:∀ a6 a7 a8 a9 b4 b5 k,LeO (Gzb.f k a6 a7 a8 a9 b4 b5) (Gzb.f (k+1) a6 a7 a8 a9 b4 b5):=by
 intro a6 a7 a8 a9 b4 b5 k;unfold Gzb.f;have i0:=@Ezk.mono;have i1:=@Czq.mono;exact mM
theorem Gzb.calls (k:Nat) (a6:Bool) (a7:Nat→Prop) (a8:Option Addr) (a9:Nat) (b4:List Int) (b5:Nat→Prop) (b6:Option Addr) (b7:Nat) (b8:List Int) (b9:Bool) (d6:Nat→Prop) (d7:Option Addr) (d8:Nat) (d9:List Int) (e6:Nat→Prop) (e7:Option Addr) (f6:Nat) (f7:List Int) (f8:Bool) (g5:List Int) (g8:List Int) (g9:Int) (w:World) (j3:Kd.V (Kd.int .i64) 3 w w.heap.size (fun k_=>a7 k_) (.slice a8 b4.length a9) b4) (j4:Kd.V (Kd.int .i64) 3 w w.heap.size (fun k_=>b5 k_) (.slice b6 b8.length b7) b8) (j5:Kd.V (Kd.int .i64) 3 w w.heap.size (fun k_=>d6 k_) (.slice d7 d9.length d8) d9) (j6:Kd.V (Kd.int .i64) 3 w w.heap.size (fun k_=>e6 k_) (.slice e7 f7.length f6) f7) (h:Gzb.f k a6 b4 b8 b9 d9 f7=some (f8,g5,g8,g9)) :
  Calls Try.prog 52 #[.agg #[.bool a6,.slice a8 b4.length a9,.slice b6 b8.length b7],.agg #[.bool b9,.slice d7 d9.length d8,.slice e7 f7.length f6]] w fun e w'=>∃ v1_ v2_:Value,e=.returned (.tuple #[.agg #[.bool f8,v1_,v2_],.int .i64 g9])∧rI w' w (fun k_=>(w.heap.size≤k_)∧oV v2_ k_) v1_ g5∧rI w' w (fun k_=>(w.heap.size≤k_)∧oV v1_ k_) v2_ g8∧bw w w':=by
 have hu33:=Try.underlying33;have j7:=aM (show Kd.V (Kd.int .i64) 3 w w.heap.size (fun k_=>((a7 k_∨b5 k_∨d6 k_∨e6 k_)∨w.heap.size≤k_)) (.slice a8 b4.length a9) b4 from Kd.aC j3 (fun k_ hk=>.inl (.inl hk)))
 have j8:=aM (show Kd.V (Kd.int .i64) 3 w w.heap.size (fun k_=>((a7 k_∨b5 k_∨d6 k_∨e6 k_)∨w.heap.size≤k_)) (.slice b6 b8.length b7) b8 from Kd.aC j4 (fun k_ hk=>.inl (.inr (.inl hk))))
 have j9:=aM (show Kd.V (Kd.int .i64) 3 w w.heap.size (fun k_=>((a7 k_∨b5 k_∨d6 k_∨e6 k_)∨w.heap.size≤k_)) (.slice d7 d9.length d8) d9 from Kd.aC j5 (fun k_ hk=>.inl (.inr (.inr (.inl hk)))))
 have l5:=aM (show Kd.V (Kd.int .i64) 3 w w.heap.size (fun k_=>((a7 k_∨b5 k_∨d6 k_∨e6 k_)∨w.heap.size≤k_)) (.slice e7 f7.length f6) f7 from Kd.aC j6 (fun k_ hk=>.inl (.inr (.inr (.inr hk)))))
 have HB:=aM (Below.refl w.heap.size w);have H:((Czq.f k (([(⟨a6,b4,b8⟩:S33),(⟨b9,d9,f7⟩:S33)]:List (S33)))).bind fun l6=>(if l6=true then(if(d9.length:Int)=0 then(some (false,([]:List Int),([]:List Int),16)) else((Ezk.f k a6 b4 b8 b9 f7 d9).bind fun l7=>(some (l7.1,l7.2.1,l7.2.2.1,l7.2.2.2)))) else(some (false,([]:List Int),([]:List Int),3))))=some (f8,g5,g8,g9):=h
 clear h;obtain⟨l8,l9⟩:∃ y_:List (S33),y_=(([(⟨a6,b4,b8⟩:S33),(⟨b9,d9,f7⟩:S33)]:List (S33))):=⟨_,rfl⟩;replace H:((Czq.f k l8).bind fun l6=>(if l6=true then(if(d9.length:Int)=0 then(some (false,([]:List Int),([]:List Int),16)) else((Ezk.f k a6 b4 b8 b9 f7 d9).bind fun l7=>(some (l7.1,l7.2.1,l7.2.2.1,l7.2.2.2)))) else(some (false,([]:List Int),([]:List Int),3))))=some (f8,g5,g8,g9):=yE l9 H
 have m0:=aM l9;clear l9;obtain⟨l6,m4,H⟩:=bT H;(try dsimp only at H);have m5:=aM H;clear H;go_enter Try.func52,Try.ntmps52
 go_upto_if 6 with (first|((with_reducible refine gd 2 rfl ?_);refine bx #[.bool a6,.slice a8 b4.length a9,.slice b6 b8.length b7] 33 ?_;intro m6 hg m7 m8 hb;have m9:=gA w hg;replace j7:=vG j7 hg hb;replace j8:=vG j8 hg hb;replace j9:=vG j9 hg hb;replace l5:=vG l5 hg hb;replace HB:=bB hb;clear hb hg)|((with_reducible refine gd 3 rfl ?_);refine bx #[.bool b9,.slice d7 d9.length d8,.slice e7 f7.length f6] 33 ?_;intro n7 hg n8 n9 hb;have o0:=gA w hg;have o9:=nl hg m8;have p9:=ng hg m8;replace j7:=vG j7 hg hb;replace j8:=vG j8 hg hb;replace j9:=vG j9 hg hb;replace l5:=vG l5 hg hb;replace m8:=kb m8 hb;replace HB:=bB hb;clear hb hg)|((with_reducible refine gd 4 rfl ?_);refine bz 33 ?_;intro r6 hg r7 r8 hb;have r9:=gA w hg;have t5:=nl hg m8;have t6:=ng hg m8;have t7:=nl hg n9;have t8:=ng hg n9;replace j7:=vG j7 hg hb;replace j8:=vG j8 hg hb;replace j9:=vG j9 hg hb;replace l5:=vG l5 hg hb;replace m8:=kb m8 hb;replace n9:=kb n9 hb;replace HB:=bB hb;clear hb hg;have t9:=o9.out;have z3:=p9.out;have z4:=t5.out;have z5:=t6.out;obtain⟨z6,z7,z8,z9,B0,B5⟩:=bk3 m8;have B9:=t7.out;have C0:=t8.out;obtain⟨C1,C2,C3,C4,C6,C7⟩:=bk3 n9)|((with_reducible refine dY (N:=9) rfl ?_);refine Kd.mh k33 _ 33 ?hg (N':=9) ?hd (xs:=([(⟨a6,b4,b8⟩:S33),(⟨b9,d9,f7⟩:S33)]:List (S33))) (inner:=[.bool a6,.slice a8 b4.length a9,.slice b6 b8.length b7,.bool b9,.slice d7 d9.length d8,.slice e7 f7.length f6]) (ok:=(fun k_=>((a7 k_∨b5 k_∨d6 k_∨e6 k_)∨w.heap.size≤k_)∧k_≠m6∧k_≠n7∧k_≠r6)) (okp:=(fun k_=>((a7 k_∨b5 k_∨d6 k_∨e6 k_)∨w.heap.size≤k_)∧k_≠m6∧k_≠n7∧k_≠r6)) ?hr ?hp (fun _ hk=>hk) ((show ∀ k_,r7.heap.size≤k_→(fun k_=>((a7 k_∨b5 k_∨d6 k_∨e6 k_)∨w.heap.size≤k_)∧k_≠m6∧k_≠n7∧k_≠r6) k_ from fun k_ hk=>⟨(.inr (Nat.le_trans (ay pB) hk)),fB m8 hk,fB n9 hk,fB r8 hk⟩) _ (Nat.le_refl _)) (Below.refl _ _) (Nat.le_refl _) (by simp) ?_;(case hd=>rfl);(case hg=>rfl);(case hr=>first|(go_simp;done)|(go_simp;rfl));(case hp=>exact(bR.c3 (show Kd.FK k33 _ _ (⟨a6,b4,b8⟩:S33) [.bool a6,.slice a8 b4.length a9,.slice b6 b8.length b7] from(eG _ _ (⟨a6,b4,b8⟩:S33) (Kd.aW (Kd.aC (ok':=(fun k_=>((a7 k_∨b5 k_∨d6 k_∨e6 k_)∨w.heap.size≤k_)∧k_≠m6∧k_≠n7∧k_≠r6)) (j7.out) (fun k_ hk=>⟨hk.1.1.1,⟨hk.1.1.2,⟨hk.1.2,hk.2⟩⟩⟩))).2.1 (Kd.V_F (Kd.aC (ok':=(fun k_=>((a7 k_∨b5 k_∨d6 k_∨e6 k_)∨w.heap.size≤k_)∧k_≠m6∧k_≠n7∧k_≠r6)) (j7.out) (fun k_ hk=>⟨hk.1.1.1,⟨hk.1.1.2,⟨hk.1.2,hk.2⟩⟩⟩))) (Kd.aW (Kd.aC (ok':=(fun k_=>((a7 k_∨b5 k_∨d6 k_∨e6 k_)∨w.heap.size≤k_)∧k_≠m6∧k_≠n7∧k_≠r6)) (j8.out) (fun k_ hk=>⟨hk.1.1.1,⟨hk.1.1.2,⟨hk.1.2,hk.2⟩⟩⟩))).2.1 (Kd.V_F (Kd.aC (ok':=(fun k_=>((a7 k_∨b5 k_∨d6 k_∨e6 k_)∨w.heap.size≤k_)∧k_≠m6∧k_≠n7∧k_≠r6)) (j8.out) (fun k_ hk=>⟨hk.1.1.1,⟨hk.1.1.2,⟨hk.1.2,hk.2⟩⟩⟩))))) (bR.c3 (show Kd.FK k33 _ _ (⟨b9,d9,f7⟩:S33) [.bool b9,.slice d7 d9.length d8,.slice e7 f7.length f6] from(eG _ _ (⟨b9,d9,f7⟩:S33) (Kd.aW (Kd.aC (ok':=(fun k_=>((a7 k_∨b5 k_∨d6 k_∨e6 k_)∨w.heap.size≤k_)∧k_≠m6∧k_≠n7∧k_≠r6)) (j9.out) (fun k_ hk=>⟨hk.1.1.1,⟨hk.1.1.2,⟨hk.1.2,hk.2⟩⟩⟩))).2.1 (Kd.V_F (Kd.aC (ok':=(fun k_=>((a7 k_∨b5 k_∨d6 k_∨e6 k_)∨w.heap.size≤k_)∧k_≠m6∧k_≠n7∧k_≠r6)) (j9.out) (fun k_ hk=>⟨hk.1.1.1,⟨hk.1.1.2,⟨hk.1.2,hk.2⟩⟩⟩))) (Kd.aW (Kd.aC (ok':=(fun k_=>((a7 k_∨b5 k_∨d6 k_∨e6 k_)∨w.heap.size≤k_)∧k_≠m6∧k_≠n7∧k_≠r6)) (l5.out) (fun k_ hk=>⟨hk.1.1.1,⟨hk.1.1.2,⟨hk.1.2,hk.2⟩⟩⟩))).2.1 (Kd.V_F (Kd.aC (ok':=(fun k_=>((a7 k_∨b5 k_∨d6 k_∨e6 k_)∨w.heap.size≤k_)∧k_≠m6∧k_≠n7∧k_≠r6)) (l5.out) (fun k_ hk=>⟨hk.1.1.1,⟨hk.1.1.2,⟨hk.1.2,hk.2⟩⟩⟩))))) (bR.none _ _))));intro C8 C9 D4 hb hg_ hnew_;clear hg_ hnew_;replace D4:=nY m0 D4;have D5:=aM (Kd.fq D4 (ay pB));replace j7:=aM (Kd.bW (vX j7.out) (Kd.cO D4) hb);replace j8:=aM (Kd.bW (vX j8.out) (Kd.cO D4) hb);replace j9:=aM (Kd.bW (vX j9.out) (Kd.cO D4) hb);replace l5:=aM (Kd.bW (vX l5.out) (Kd.cO D4) hb);replace m8:=kb m8 hb;replace n9:=kb n9 hb;replace r8:=kb r8 hb;replace HB:=bB hb;clear hb D4;obtain⟨D6,D7,rfl⟩:=Kd.ek D5.out)|((with_reducible refine gc 62 rfl ?_);refine gC 62 (some 10) Try.func62 #[.slice D6 l8.length D7] ?_;(with_reducible refine(Czq.calls k _ _ l8 l6 _ ?_ ?_ m4.out).mono ?_);exact cN D5;exact lN D5;rintro e D8 ⟨rfl,hb⟩;refine⟨_,rfl,?_⟩;replace j7:=vB j7 hb;replace j8:=vB j8 hb;replace j9:=vB j9 hb;replace l5:=vB l5 hb;replace D5:=nB D5 hb;replace m8:=kb m8 hb;replace n9:=kb n9 hb;replace r8:=kb r8 hb;replace HB:=bB hb;clear hb))
 have H:=m5.out;clear m5;by_cases D9:l6=true
 ·subst D9;rw[if_pos rfl] at H;replace H:=iE H;rcases H with⟨E1,E2,H⟩|⟨E0,E1,E2,H⟩
  ·(first|rw[E1]|(simp only[aH,bg];rw[E1])|skip)
   obtain⟨rfl,rfl,rfl,rfl⟩:=q4 H;have E3:=p9.out;have E4:=o9.out;have E5:=t7.out;have E6:=t8.out;obtain⟨E7,E8,E9,F0,F2,F3⟩:=bk3 n9;have F4:=t6.out;have F5:=t5.out;obtain⟨F6,F7,F8,F9,G5,G9⟩:=bk3 r8;go_wp2
   refine rC r6 33 #[.bool false,.slice none 0 0,.slice none 0 0] (kQ r8) Try.underlying33 ?_
   exact⟨_,_,eW,nK,nK,pB⟩
  ·have H5:¬ (d9=[]):=fun h_=>E0 (by rw[h_];rfl)
   (first|rw[E1]|(simp only[aH,bg];rw[E1])|skip)
   replace H:=bS H;obtain⟨⟨H6,H7,H8,H9⟩,I0,H⟩:=H;replace H:(some (H6,H7,H8,H9))=some (f8,g5,g8,g9):=H;have I3:=aM I0;clear I0;obtain⟨rfl,rfl,rfl,rfl⟩:=q4 H;have I4:=p9.out;have I5:=o9.out;have I6:=t7.out;have I7:=t8.out;obtain⟨I8,I9,J0,J1,J2,J3⟩:=bk3 n9;have J4:=t5.out;have J5:=t6.out;obtain⟨J6,J7,J8,J9,K0,K1⟩:=bk3 m8;go_wp2_with (first|((with_reducible refine gc 51 rfl ?_);refine gC 51 (some 27) Try.func51 #[.agg #[.bool a6,.slice a8 b4.length a9,.slice b6 b8.length b7],.agg #[.bool b9,.slice e7 f7.length f6,.slice d7 d9.length d8]] ?_;(with_reducible refine(Ezk.calls k a6 _ _ b4 _ _ b8 b9 _ _ f7 _ _ d9 H6 H7 H8 H9 _ ?_ ?_ ?_ ?_ ?_ ?_ ?_ ?_ I3.out).mono ?_);exact cV j7;exact lV j7;exact cV j8;exact lV j8;exact cV l5;exact lV l5;exact cV j9;exact lV j9;rintro e K2 ⟨K3,K4,rfl,K5,K6,hb⟩;refine⟨_,rfl,?_⟩;have K7:=rL (Kd.gB (M:=fun k_=>(w.heap.size≤k_)) K5 (ay pB) (fun k_ h_=>h_));have K8:=rL (Kd.gB (M:=fun k_=>(w.heap.size≤k_)) K6 (ay pB) (fun k_ h_=>h_));replace j7:=vO j7 hb K5 K6;replace j8:=vO j8 hb K5 K6;replace j9:=vO j9 hb K5 K6;replace l5:=vO l5 hb K5 K6;replace D5:=nO D5 hb K5 K6;replace m8:=kb m8 hb;replace n9:=kb n9 hb;replace r8:=kb r8 hb;replace HB:=bB hb;clear hb K5 K6;obtain⟨K9,L0,L8,L9,M0,M3⟩:=bk3 r8;obtain⟨M4,M5,rfl⟩:=Kd.aj K7.out;obtain⟨M6,M7,rfl⟩:=Kd.aj K8.out))
   refine rC r6 33 #[.bool H6,.slice M4 H7.length M5,.slice M6 H8.length M7] (kQ r8) Try.underlying33 ?_
   exact⟨_,_,eW,by exact Kd.ah (rT K7 r8) (fun _ hk=>⟨hk.1,hk.2⟩),by exact Kd.ah (rT K8 r8) (fun _ hk=>⟨hk.1,hk.2⟩),pB⟩
 ·obtain rfl:=bN D9;rw[if_neg nF] at H
  obtain⟨rfl,rfl,rfl,rfl⟩:=q4 H;have M8:=t6.out;have M9:=t5.out;have N0:=t8.out;have N1:=t7.out;obtain⟨N2,N3,N4,N5,N6,N7⟩:=bk3 r8;go_wp2
  refine rC r6 33 #[.bool false,.slice none 0 0,.slice none 0 0] (kQ r8) Try.underlying33 ?_
  exact⟨_,_,eW,nK,nK,pB⟩


def Fzy.f (a0_0:Bool) (l0_1:List Int) (l0_2:List Int):Option (Bool × List Int × List Int):=if a0_0=true then(if([]:List Int).length+l0_1.length < 17592186044416 then(if([]:List Int).length+l0_2.length < 17592186044416 then(some (false,(([]:List Int) ++ l0_1),(([]:List Int) ++ l0_2))) else(none)) else(none)) else(if([]:List Int).length+l0_1.length < 17592186044416 then(if([]:List Int).length+l0_2.length < 17592186044416 then(some (decide (0 < l0_1.length),(([]:List Int) ++ l0_1),(([]:List Int) ++ l0_2))) else(none)) else(none))
def Fzy.T1:Bool × List (List Nat × List Nat):=(true,[([],[]),([0],[0]),([1],[1]),([2],[2]),([3],[3]),([4,3],[3,4]),([5,3],[3,5]),([6,3],[3,6]),([3,7],[3,7]),([],[]),([9],[9]),([10,3],[10]),([],[]),([12],[12]),([13,11],[13]),([8,11,14],[8,11,14]),([15,14,0,1,2,3,4,5,6,7,8,9,10,11,12,13,14,15],[15])])
def Fzy.B1:List Nat:=[0,1,3,7,15,31,63,127,255,0,512,1551,0,4096,15887,32767,65535]
theorem Fzy.EK:ik .any (opsOf Try.f80 1)=Fzy.T1:=by kernel_rfl
theorem Fzy.AV:gM Fzy.T1.2 Fzy.B1=true:=by kernel_rfl
theorem Fzy.calls (a6:Bool) (a7:Option Addr) (a8:Nat) (a9:List Int) (b4:Option Addr) (b5:Nat) (b6:List Int) (b7:Bool) (b8:List Int) (b9:List Int) (w:World) (d6:cI w a7 a9) (d7:a9.length≤a8) (d8:cI w b4 b6) (d9:b6.length≤b5) (h:Fzy.f a6 a9 b6=some (b7,b8,b9)) :
  Calls Try.prog 80 #[.agg #[.bool a6,.slice a7 a9.length a8,.slice b4 b6.length b5]] w fun e w'=>∃ v1_ v2_:Value,e=.returned (.agg #[.bool b7,v1_,v2_])∧rI w' w (oV v2_) v1_ b8∧rI w' w (oV v1_) v2_ b9∧bw w w':=by
 have hu33:=Try.underlying33;have e6:=aM d6;have e7:=aM d7;clear d6 d7;have f6:=aM d8;have f7:=aM d9;clear d8 d9;have HB:=aM (Below.refl w.heap.size w);have H:(if a6=true then(if([]:List Int).length+a9.length < 17592186044416 then(if([]:List Int).length+b6.length < 17592186044416 then(some (false,(([]:List Int) ++ a9),(([]:List Int) ++ b6))) else(none)) else(none)) else(if([]:List Int).length+a9.length < 17592186044416 then(if([]:List Int).length+b6.length < 17592186044416 then(some (decide (0 < a9.length),(([]:List Int) ++ a9),(([]:List Int) ++ b6))) else(none)) else(none)))=some (b7,b8,b9):=h
 clear h;have f8:=aM H;clear H;go_enter Try.func80,Try.ntmps80
 go_upto_region 1 with (first|((with_reducible refine gd 1 rfl ?_);refine bxg #[.bool a6,.slice a7 a9.length a8,.slice b4 b6.length b5] 33 ?_;intro g5 hg g8 g9 hb;have j3:=gA w hg;replace HB:=bB hb;clear hb hg)|((with_reducible refine gd 2 rfl ?_);refine bzg 33 ?_;intro j5 hg j6 j7 hb;have j8:=gA w hg;have l5:=nl hg g9;have l6:=ng hg g9;replace g9:=kb g9 hb;replace HB:=bB hb;clear hb hg))
 have H:=f8.out;clear f8;by_cases c5:a6=true
 ·subst c5;rw[if_pos rfl] at H;obtain⟨c6,H⟩:=iO H;have LMc6:=aM c6;clear c6;obtain⟨l7,l8⟩:∃ y_:List Int,y_=(([]:List Int) ++ a9):=⟨_,rfl⟩;replace H:(if([]:List Int).length+b6.length < 17592186044416 then(some (false,l7,(([]:List Int) ++ b6))) else(none))=some (b7,b8,b9):=yE l8 H
  have l9:=aM l8;clear l8;obtain⟨c7,H⟩:=iO H;have LMc7:=aM c7;clear c7;obtain⟨m0,m4⟩:∃ y_:List Int,y_=(([]:List Int) ++ b6):=⟨_,rfl⟩;replace H:(some (false,l7,m0))=some (b7,b8,b9):=yE m4 H
  have m5:=aM m4;clear m4;obtain⟨rfl,rfl,rfl⟩:=q3 H;try go_wp2
  have n0_:=aM (az g9.out);have n1_:=aM (az j7.out);have n2_:=aM (dA HB.out);clear g9 j7 HB;have g9:=n0_;have j7:=n1_;have HB:=n2_;clear n0_ n1_ n2_;refine gz (n:=17) (S:=fun w'=>w'.cell? ⟨g5,0,none⟩=some (.bool true)∧w'.cell? ⟨g5,1,none⟩=some (.slice a7 a9.length a8)∧w'.cell? ⟨g5,2,none⟩=some (.slice b4 b6.length b5)) (ds:=[]) (bA 17 0) (by kernel_rfl) rfl rfl ⟨(af g9.out 0).trans rfl,(af g9.out 1).trans rfl,(af g9.out 2).trans rfl⟩ (fun hHeld=>?_);refine fF Fzy.EK Fzy.AV (fun HT_ HW_=>?_)
  generalize j6.drew=m6 at g9 j7 HB hHeld ⊢;refine pS 0 3 HT_ ?_;refine pS 9 12 HT_ ?_;refine pS 12 15 HT_ ?_;refine tU 1 4 HT_ HW_ hHeld ?_;refine pS 2 5 HT_ ?_;refine pS 3 6 HT_ ?_;refine pN 4 7 HT_ ?_;refine pN 5 8 HT_ ?_;refine pN 6 9 HT_ ?_;refine pN 7 10 HT_ ?_;refine pS 8 11 HT_ ?_;refine tU 10 13 HT_ HW_ hHeld ?_;refine tU 13 16 HT_ HW_ hHeld ?_;refine oU 11 (some 14) HT_ fun K hK=>?_
  refine Kd.gU (Kd.int .i64) (w0:=w) w.heap.size (by rfl) (.const (.slice none 0 0)) (.tmp 13) 31 3 (.int .i64 0) 8 rfl Try.underlying31 info3 rfl (by decide) (by omega) (.slice none 0 0) ([]:List Int) a9 _ _ _ (fun _=>True) (fun _=>False) rfl rfl ?aO ?aR (fun _ _ h=>h) (fun _ h=>h.elim) ?aF ?aB ?aS ?aL ?_
  (case aR=>exact cB e6)
  (case aB=>exact pB)
  (case aF=>exact(fun _ _=>trivial))
  (case aO=>exact((Kd.iX _ _ _ _ (fun _=>True))))
  (case aS=>exact(ay pB))
  (case aL=>have:=LMc6.out;omega)
  intro m7 m8 ho hb hg hat;rw[← l9.out] at ho;have n0_:=aM (fC (g:=g5) (o:=.cells #[.bool true,.slice a7 a9.length a8,.slice b4 b6.length b5] 33 (0,0)) (kW g9) hg (by simp [Value.ownBlock]))
  have n1_:=aM (fC (g:=j5) (o:=.cells #[.bool false,.slice none 0 0,.slice none 0 0] 33 (0,0)) (kW j7) hg (by simp [Value.ownBlock]))
  have n2_:=aM (hb);have n3_:=aM (ho);clear g9 j7 HB;have g9:=n0_;have j7:=n1_;have HB:=n2_;have m9:=n3_;clear n0_ n1_ n2_ n3_ ho hb hg hat;refine hK.out _ _ ⟨(af g9.out 0).trans rfl,(af g9.out 1).trans rfl,(af g9.out 2).trans rfl⟩ (fun hHeld=>?_)
  clear hK K;refine nm 14 ?_;refine oU 14 (some 17) HT_ fun K hK=>?_
  refine Kd.gU (Kd.int .i64) (w0:=w) w.heap.size (by rfl) (.const (.slice none 0 0)) (.tmp 16) 31 3 (.int .i64 0) 8 rfl Try.underlying31 info3 rfl (by decide) (by omega) (.slice none 0 0) ([]:List Int) b6 _ _ _ (oV m7) (fun _=>False) rfl rfl ?aO ?aR (fun _ _ h=>h) (fun _ h=>h.elim) ?aF ?aB ?aS ?aL ?_
  (case aR=>exact cB f6)
  (case aB=>exact pB)
  (case aF=>exact(fun k_ hk=>Kd.fresh' (Kd.dS (rX m9.out)) k_ hk))
  (case aO=>exact((Kd.iX _ _ _ _ (oV m7))))
  (case aS=>exact(ay pB))
  (case aL=>have:=LMc7.out;omega)
  intro n0 n7 ho hb hg hat;rw[← m5.out] at ho;have n0_:=aM (fC (g:=g5) (o:=.cells #[.bool true,.slice a7 a9.length a8,.slice b4 b6.length b5] 33 (0,0)) (kW g9) hg (by simp [Value.ownBlock]))
  have n1_:=aM (fC (g:=j5) (o:=.cells #[.bool false,.slice none 0 0,.slice none 0 0] 33 (0,0)) (kW j7) hg (by simp [Value.ownBlock]))
  have n2_:=aM (Kd.iC (Kd.kT (rX m9.out)) hg hat);have n3_:=aM (hb);have n4_:=aM (ho);clear g9 j7 m9 HB;have g9:=n0_;have j7:=n1_;have m9:=n2_;have HB:=n3_;have n8:=n4_;clear n0_ n1_ n2_ n3_ n4_ ho hb hg hat;obtain⟨n9,o0,o8⟩:=Kd.aj n8.out;(first|subst o8|(injection o8 with f1_ f2_ f3_;have f4_:=f1_.symm;have f5_:=f3_.symm;clear f1_ f2_ f3_;subst f4_;subst f5_))
  obtain⟨o9,p9,r6⟩:=Kd.aj m9.out;(first|subst r6|(injection r6 with f1_ f2_ f3_;have f4_:=f1_.symm;have f5_:=f3_.symm;clear f1_ f2_ f3_;subst f4_;subst f5_))
  refine hK.out _ _ ⟨(af g9.out 0).trans rfl,(af g9.out 1).trans rfl,(af g9.out 2).trans rfl⟩ (fun hHeld=>?_)
  clear hK K;refine nm 17 ?_;refine pS 15 18 HT_ ?_;refine oU 16 none HT_ fun K hK=>?_
  have r7:n7.cell? ⟨j5,0,none⟩=some (.bool false):=(af j7.out 0).trans rfl;have hfs13:=bO j7.out 0;have hns13_0:=l5.out;have hms13_0:=l6.out;have r8:n7.cell? ⟨j5,1,none⟩=some (.slice none 0 0):=(af j7.out 1).trans rfl;have hfs14:=bO j7.out 1;have hns14_0:=l5.out;have hms14_0:=l6.out;have r9:n7.cell? ⟨j5,2,none⟩=some (.slice none 0 0):=(af j7.out 2).trans rfl;have hfs15:=bO j7.out 2;have hns15_0:=l5.out;have hms15_0:=l6.out;refine iY (w1:=?_) (by rfl) rfl ?_ ?_
  rotate_left
  ·go_simp
   rfl
  refine hK.out _ _ ⟨((cell_far (p:=⟨j5,_,none⟩) l5.out _).trans (((cell_far (p:=⟨j5,_,none⟩) l5.out _).trans (((cell_far (p:=⟨j5,_,none⟩) l5.out _).trans (hHeld.1)))))),((cell_far (p:=⟨j5,_,none⟩) l5.out _).trans (((cell_far (p:=⟨j5,_,none⟩) l5.out _).trans (((cell_far (p:=⟨j5,_,none⟩) l5.out _).trans (hHeld.2.1)))))),((cell_far (p:=⟨j5,_,none⟩) l5.out _).trans (((cell_far (p:=⟨j5,_,none⟩) l5.out _).trans (((cell_far (p:=⟨j5,_,none⟩) l5.out _).trans (hHeld.2.2))))))⟩ (fun hHeld=>?_)
  clear hK K;refine gZ (il HT_.out (by kernel_rfl)) ?_
  try go_wp2
  refine bodyPost_ret (results_cell_row rfl _ _ j5 33 #[.bool false,.slice o9 l7.length p9,.slice n9 m0.length o0] (0,0) _ rfl (kQ j7) Try.underlying33 rfl (by kernel_rfl)) rfl ?_
  exact⟨_,_,eW,by exact Kd.ah (rT m9 j7) (fun _ hk=>hk.2),by exact Kd.ah (rT n8 j7) (fun _ hk=>hk),pB⟩
 ·obtain rfl:=bN c5;rw[if_neg nF] at H
  by_cases t4:([]:List Int).length+a9.length < 17592186044416
  ·rw[if_pos t4] at H;have LMc16:=aM t4;clear t4;obtain⟨t5,t6⟩:∃ y_:List Int,y_=(([]:List Int) ++ a9):=⟨_,rfl⟩;replace H:(if([]:List Int).length+b6.length < 17592186044416 then(some (decide (0 < a9.length),t5,(([]:List Int) ++ b6))) else(none))=some (b7,b8,b9):=yE t6 H
   have t7:=aM t6;clear t6;obtain⟨t8,H⟩:=iO H;have LMc17:=aM t8;clear t8;obtain⟨t9,z3⟩:∃ y_:List Int,y_=(([]:List Int) ++ b6):=⟨_,rfl⟩;replace H:(some (decide (0 < a9.length),t5,t9))=some (b7,b8,b9):=yE z3 H
   have z4:=aM z3;clear z3;obtain⟨rfl,rfl,rfl⟩:=q3 H;try go_wp2
   have n0_:=aM (az g9.out);have n1_:=aM (az j7.out);have n2_:=aM (dA HB.out);clear g9 j7 HB;have g9:=n0_;have j7:=n1_;have HB:=n2_;clear n0_ n1_ n2_;refine gz (n:=17) (S:=fun w'=>w'.cell? ⟨g5,0,none⟩=some (.bool false)∧w'.cell? ⟨g5,1,none⟩=some (.slice a7 a9.length a8)∧w'.cell? ⟨g5,2,none⟩=some (.slice b4 b6.length b5)) (ds:=[]) (bA 17 0) (by kernel_rfl) rfl rfl ⟨(af g9.out 0).trans rfl,(af g9.out 1).trans rfl,(af g9.out 2).trans rfl⟩ (fun hHeld=>?_);refine fF Fzy.EK Fzy.AV (fun HT_ HW_=>?_)
   generalize j6.drew=z5 at g9 j7 HB hHeld ⊢;refine pS 0 3 HT_ ?_;refine pS 9 12 HT_ ?_;refine pS 12 15 HT_ ?_;refine tU 1 4 HT_ HW_ hHeld ?_;refine pS 2 5 HT_ ?_;refine pS 3 6 HT_ ?_;refine pS 4 7 HT_ ?_;refine tU 5 8 HT_ HW_ hHeld ?_;refine pS 6 9 HT_ ?_;refine pS 7 10 HT_ ?_;refine pS 8 11 HT_ ?_;refine tU 10 13 HT_ HW_ hHeld ?_;refine tU 13 16 HT_ HW_ hHeld ?_;refine oU 11 (some 14) HT_ fun K hK=>?_
   refine Kd.gU (Kd.int .i64) (w0:=w) w.heap.size (by rfl) (.const (.slice none 0 0)) (.tmp 13) 31 3 (.int .i64 0) 8 rfl Try.underlying31 info3 rfl (by decide) (by omega) (.slice none 0 0) ([]:List Int) a9 _ _ _ (fun _=>True) (fun _=>False) rfl rfl ?aO ?aR (fun _ _ h=>h) (fun _ h=>h.elim) ?aF ?aB ?aS ?aL ?_
   (case aR=>exact cB e6)
   (case aB=>exact pB)
   (case aF=>exact(fun _ _=>trivial))
   (case aO=>exact((Kd.iX _ _ _ _ (fun _=>True))))
   (case aS=>exact(ay pB))
   (case aL=>have:=LMc16.out;omega)
   intro z6 z7 ho hb hg hat;rw[← t7.out] at ho;have n0_:=aM (fC (g:=g5) (o:=.cells #[.bool false,.slice a7 a9.length a8,.slice b4 b6.length b5] 33 (0,0)) (kW g9) hg (by simp [Value.ownBlock]))
   have n1_:=aM (fC (g:=j5) (o:=.cells #[.bool false,.slice none 0 0,.slice none 0 0] 33 (0,0)) (kW j7) hg (by simp [Value.ownBlock]))
   have n2_:=aM (hb);have n3_:=aM (ho);clear g9 j7 HB;have g9:=n0_;have j7:=n1_;have HB:=n2_;have z8:=n3_;clear n0_ n1_ n2_ n3_ ho hb hg hat;refine hK.out _ _ ⟨(af g9.out 0).trans rfl,(af g9.out 1).trans rfl,(af g9.out 2).trans rfl⟩ (fun hHeld=>?_)
   clear hK K;refine nm 14 ?_;refine oU 14 (some 17) HT_ fun K hK=>?_
   refine Kd.gU (Kd.int .i64) (w0:=w) w.heap.size (by rfl) (.const (.slice none 0 0)) (.tmp 16) 31 3 (.int .i64 0) 8 rfl Try.underlying31 info3 rfl (by decide) (by omega) (.slice none 0 0) ([]:List Int) b6 _ _ _ (oV z6) (fun _=>False) rfl rfl ?aO ?aR (fun _ _ h=>h) (fun _ h=>h.elim) ?aF ?aB ?aS ?aL ?_
   (case aR=>exact cB f6)
   (case aB=>exact pB)
   (case aF=>exact(fun k_ hk=>Kd.fresh' (Kd.dS (rX z8.out)) k_ hk))
   (case aO=>exact((Kd.iX _ _ _ _ (oV z6))))
   (case aS=>exact(ay pB))
   (case aL=>have:=LMc17.out;omega)
   intro z9 B0 ho hb hg hat;rw[← z4.out] at ho;have n0_:=aM (fC (g:=g5) (o:=.cells #[.bool false,.slice a7 a9.length a8,.slice b4 b6.length b5] 33 (0,0)) (kW g9) hg (by simp [Value.ownBlock]))
   have n1_:=aM (fC (g:=j5) (o:=.cells #[.bool false,.slice none 0 0,.slice none 0 0] 33 (0,0)) (kW j7) hg (by simp [Value.ownBlock]))
   have n2_:=aM (Kd.iC (Kd.kT (rX z8.out)) hg hat);have n3_:=aM (hb);have n4_:=aM (ho);clear g9 j7 z8 HB;have g9:=n0_;have j7:=n1_;have z8:=n2_;have HB:=n3_;have B5:=n4_;clear n0_ n1_ n2_ n3_ n4_ ho hb hg hat;obtain⟨B9,C0,C1⟩:=Kd.aj B5.out;(first|subst C1|(injection C1 with f1_ f2_ f3_;have f4_:=f1_.symm;have f5_:=f3_.symm;clear f1_ f2_ f3_;subst f4_;subst f5_))
   obtain⟨C2,C3,C4⟩:=Kd.aj z8.out;(first|subst C4|(injection C4 with f1_ f2_ f3_;have f4_:=f1_.symm;have f5_:=f3_.symm;clear f1_ f2_ f3_;subst f4_;subst f5_))
   refine hK.out _ _ ⟨(af g9.out 0).trans rfl,(af g9.out 1).trans rfl,(af g9.out 2).trans rfl⟩ (fun hHeld=>?_)
   clear hK K;refine nm 17 ?_;refine pS 15 18 HT_ ?_;refine oU 16 none HT_ fun K hK=>?_
   have C6:B0.cell? ⟨j5,0,none⟩=some (.bool false):=(af j7.out 0).trans rfl;have hfs23:=bO j7.out 0;have hns23_0:=l5.out;have hms23_0:=l6.out;have C7:B0.cell? ⟨j5,1,none⟩=some (.slice none 0 0):=(af j7.out 1).trans rfl;have hfs24:=bO j7.out 1;have hns24_0:=l5.out;have hms24_0:=l6.out;have C8:B0.cell? ⟨j5,2,none⟩=some (.slice none 0 0):=(af j7.out 2).trans rfl;have hfs25:=bO j7.out 2;have hns25_0:=l5.out;have hms25_0:=l6.out;refine iY (w1:=?_) (by rfl) rfl ?_ ?_
   rotate_left
   ·go_simp
    rfl
   refine hK.out _ _ ⟨((cell_far (p:=⟨j5,_,none⟩) l5.out _).trans (((cell_far (p:=⟨j5,_,none⟩) l5.out _).trans (((cell_far (p:=⟨j5,_,none⟩) l5.out _).trans (hHeld.1)))))),((cell_far (p:=⟨j5,_,none⟩) l5.out _).trans (((cell_far (p:=⟨j5,_,none⟩) l5.out _).trans (((cell_far (p:=⟨j5,_,none⟩) l5.out _).trans (hHeld.2.1)))))),((cell_far (p:=⟨j5,_,none⟩) l5.out _).trans (((cell_far (p:=⟨j5,_,none⟩) l5.out _).trans (((cell_far (p:=⟨j5,_,none⟩) l5.out _).trans (hHeld.2.2))))))⟩ (fun hHeld=>?_)
   clear hK K;refine gZ (il HT_.out (by kernel_rfl)) ?_
   try go_wp2
   refine bodyPost_ret (results_cell_row rfl _ _ j5 33 #[.bool (decide (0 < a9.length)),.slice C2 t5.length C3,.slice B9 t9.length C0] (0,0) _ rfl (kQ j7) Try.underlying33 rfl (by kernel_rfl)) rfl ?_
   exact⟨_,_,eW,by exact Kd.ah (rT z8 j7) (fun _ hk=>hk.2),by exact Kd.ah (rT B5 j7) (fun _ hk=>hk),pB⟩
  ·rw[if_neg t4] at H;exact absurd H (by simp)


def Gzq.f (k:Nat) (a0_0:Bool) (l0_1:List Int) (l0_2:List Int) (a1_0:Bool) (l1_1:List Int) (l1_2:List Int):Option (Bool × List Int × List Int × Int):=(Czq.f k (([(⟨a0_0,l0_1,l0_2⟩:S33),(⟨a1_0,l1_1,l1_2⟩:S33)]:List (S33)))).bind fun t501=>(if t501=true then((Fzy.f a1_0 l1_1 l1_2).bind fun bt502=>((Fzx.f k a0_0 l0_1 l0_2 bt502.1 bt502.2.1 bt502.2.2).bind fun bt509=>(some (bt509.1,bt509.2.1,bt509.2.2.1,bt509.2.2.2)))) else(some (false,([]:List Int),([]:List Int),3)))
theorem Gzq.mono:∀ a6 a7 a8 a9 b4 b5 k,LeO (Gzq.f k a6 a7 a8 a9 b4 b5) (Gzq.f (k+1) a6 a7 a8 a9 b4 b5):=by
 intro a6 a7 a8 a9 b4 b5 k;unfold Gzq.f;have i0:=@Fzx.mono;have i1:=@Czq.mono;exact mM
def Gzq.T3:Bool × List (List Nat × List Nat):=(true,[([],[]),([],[]),([1],[1]),([0,2,2],[0,2]),([3],[3]),([3],[3]),([4,3,0,1,2,3,4,5],[4]),([5,6,0,1,2,3,4,5,6],[5])])
def Gzq.B3:List Nat:=[0,0,2,7,15,15,63,127]
theorem Gzq.EU:ik .any (opsOf Try.f53 3)=Gzq.T3:=by kernel_rfl
theorem Gzq.EL:gM Gzq.T3.2 Gzq.B3=true:=by kernel_rfl
theorem Gzq.calls (k:Nat) (a6:Bool) (a7:Nat→Prop) (a8:Option Addr) (a9:Nat) (b4:List Int) (b5:Nat→Prop) (b6:Option Addr) (b7:Nat) (b8:List Int) (b9:Bool) (d6:Nat→Prop) (d7:Option Addr) (d8:Nat) (d9:List Int) (e6:Nat→Prop) (e7:Option Addr) (f6:Nat) (f7:List Int) (f8:Bool) (g5:List Int) (g8:List Int) (g9:Int) (w:World) (j3:Kd.V (Kd.int .i64) 3 w w.heap.size (fun k_=>a7 k_) (.slice a8 b4.length a9) b4) (j4:Kd.V (Kd.int .i64) 3 w w.heap.size (fun k_=>b5 k_) (.slice b6 b8.length b7) b8) (j5:Kd.V (Kd.int .i64) 3 w w.heap.size (fun k_=>d6 k_) (.slice d7 d9.length d8) d9) (j6:Kd.V (Kd.int .i64) 3 w w.heap.size (fun k_=>e6 k_) (.slice e7 f7.length f6) f7) (h:Gzq.f k a6 b4 b8 b9 d9 f7=some (f8,g5,g8,g9)) :
  Calls Try.prog 53 #[.agg #[.bool a6,.slice a8 b4.length a9,.slice b6 b8.length b7],.agg #[.bool b9,.slice d7 d9.length d8,.slice e7 f7.length f6]] w fun e w'=>∃ v1_ v2_:Value,e=.returned (.tuple #[.agg #[.bool f8,v1_,v2_],.int .i64 g9])∧rI w' w (fun k_=>(w.heap.size≤k_)∧oV v2_ k_) v1_ g5∧rI w' w (fun k_=>(w.heap.size≤k_)∧oV v1_ k_) v2_ g8∧bw w w':=by
 have hu33:=Try.underlying33;have j7:=aM (show Kd.V (Kd.int .i64) 3 w w.heap.size (fun k_=>((a7 k_∨b5 k_∨d6 k_∨e6 k_)∨w.heap.size≤k_)) (.slice a8 b4.length a9) b4 from Kd.aC j3 (fun k_ hk=>.inl (.inl hk)))
 have j8:=aM (show Kd.V (Kd.int .i64) 3 w w.heap.size (fun k_=>((a7 k_∨b5 k_∨d6 k_∨e6 k_)∨w.heap.size≤k_)) (.slice b6 b8.length b7) b8 from Kd.aC j4 (fun k_ hk=>.inl (.inr (.inl hk))))
 have j9:=aM (show Kd.V (Kd.int .i64) 3 w w.heap.size (fun k_=>((a7 k_∨b5 k_∨d6 k_∨e6 k_)∨w.heap.size≤k_)) (.slice d7 d9.length d8) d9 from Kd.aC j5 (fun k_ hk=>.inl (.inr (.inr (.inl hk)))))
 have l5:=aM (show Kd.V (Kd.int .i64) 3 w w.heap.size (fun k_=>((a7 k_∨b5 k_∨d6 k_∨e6 k_)∨w.heap.size≤k_)) (.slice e7 f7.length f6) f7 from Kd.aC j6 (fun k_ hk=>.inl (.inr (.inr (.inr hk)))))
 have HB:=aM (Below.refl w.heap.size w);have H:((Czq.f k (([(⟨a6,b4,b8⟩:S33),(⟨b9,d9,f7⟩:S33)]:List (S33)))).bind fun l6=>(if l6=true then((Fzy.f b9 d9 f7).bind fun l7=>((Fzx.f k a6 b4 b8 l7.1 l7.2.1 l7.2.2).bind fun l8=>(some (l8.1,l8.2.1,l8.2.2.1,l8.2.2.2)))) else(some (false,([]:List Int),([]:List Int),3))))=some (f8,g5,g8,g9):=h
 clear h;obtain⟨l9,m0⟩:∃ y_:List (S33),y_=(([(⟨a6,b4,b8⟩:S33),(⟨b9,d9,f7⟩:S33)]:List (S33))):=⟨_,rfl⟩;replace H:((Czq.f k l9).bind fun l6=>(if l6=true then((Fzy.f b9 d9 f7).bind fun l7=>((Fzx.f k a6 b4 b8 l7.1 l7.2.1 l7.2.2).bind fun l8=>(some (l8.1,l8.2.1,l8.2.2.1,l8.2.2.2)))) else(some (false,([]:List Int),([]:List Int),3))))=some (f8,g5,g8,g9):=yE m0 H
 have m4:=aM m0;clear m0;obtain⟨l6,m5,H⟩:=bT H;(try dsimp only at H);have m6:=aM H;clear H;go_enter Try.func53,Try.ntmps53
 go_upto_if 10 with (first|((with_reducible refine gd 2 rfl ?_);refine bx #[.bool a6,.slice a8 b4.length a9,.slice b6 b8.length b7] 33 ?_;intro m7 hg m8 m9 hb;have n0:=gA w hg;replace j7:=vG j7 hg hb;replace j8:=vG j8 hg hb;replace j9:=vG j9 hg hb;replace l5:=vG l5 hg hb;replace HB:=bB hb;clear hb hg)|((with_reducible refine gd 3 rfl ?_);refine bx #[.bool b9,.slice d7 d9.length d8,.slice e7 f7.length f6] 33 ?_;intro n8 hg n9 o0 hb;have o8:=gA w hg;have p9:=nl hg m9;have r6:=ng hg m9;replace j7:=vG j7 hg hb;replace j8:=vG j8 hg hb;replace j9:=vG j9 hg hb;replace l5:=vG l5 hg hb;replace m9:=kb m9 hb;replace HB:=bB hb;clear hb hg)|((with_reducible refine gd 4 rfl ?_);refine bz 33 ?_;intro r7 hg r8 r9 hb;have t4:=gA w hg;have t6:=nl hg m9;have t7:=ng hg m9;have t8:=nl hg o0;have t9:=ng hg o0;replace j7:=vG j7 hg hb;replace j8:=vG j8 hg hb;replace j9:=vG j9 hg hb;replace l5:=vG l5 hg hb;replace m9:=kb m9 hb;replace o0:=kb o0 hb;replace HB:=bB hb;clear hb hg;have z3:=p9.out;have z4:=r6.out;have z5:=t6.out;have z6:=t7.out;obtain⟨z7,z8,z9,B0,B5,B9⟩:=bk3 m9;have C0:=t8.out;have C1:=t9.out;obtain⟨C2,C3,C4,C6,C7,C8⟩:=bk3 o0)|((with_reducible refine dY (N:=8) rfl ?_);refine Kd.mh k33 _ 33 ?hg (N':=8) ?hd (xs:=([(⟨a6,b4,b8⟩:S33),(⟨b9,d9,f7⟩:S33)]:List (S33))) (inner:=[.bool a6,.slice a8 b4.length a9,.slice b6 b8.length b7,.bool b9,.slice d7 d9.length d8,.slice e7 f7.length f6]) (ok:=(fun k_=>((a7 k_∨b5 k_∨d6 k_∨e6 k_)∨w.heap.size≤k_)∧k_≠m7∧k_≠n8∧k_≠r7)) (okp:=(fun k_=>((a7 k_∨b5 k_∨d6 k_∨e6 k_)∨w.heap.size≤k_)∧k_≠m7∧k_≠n8∧k_≠r7)) ?hr ?hp (fun _ hk=>hk) ((show ∀ k_,r8.heap.size≤k_→(fun k_=>((a7 k_∨b5 k_∨d6 k_∨e6 k_)∨w.heap.size≤k_)∧k_≠m7∧k_≠n8∧k_≠r7) k_ from fun k_ hk=>⟨(.inr (Nat.le_trans (ay pB) hk)),fB m9 hk,fB o0 hk,fB r9 hk⟩) _ (Nat.le_refl _)) (Below.refl _ _) (Nat.le_refl _) (by simp) ?_;(case hd=>rfl);(case hg=>rfl);(case hr=>first|(go_simp;done)|(go_simp;rfl));(case hp=>exact(bR.c3 (show Kd.FK k33 _ _ (⟨a6,b4,b8⟩:S33) [.bool a6,.slice a8 b4.length a9,.slice b6 b8.length b7] from(eG _ _ (⟨a6,b4,b8⟩:S33) (Kd.aW (Kd.aC (ok':=(fun k_=>((a7 k_∨b5 k_∨d6 k_∨e6 k_)∨w.heap.size≤k_)∧k_≠m7∧k_≠n8∧k_≠r7)) (j7.out) (fun k_ hk=>⟨hk.1.1.1,⟨hk.1.1.2,⟨hk.1.2,hk.2⟩⟩⟩))).2.1 (Kd.V_F (Kd.aC (ok':=(fun k_=>((a7 k_∨b5 k_∨d6 k_∨e6 k_)∨w.heap.size≤k_)∧k_≠m7∧k_≠n8∧k_≠r7)) (j7.out) (fun k_ hk=>⟨hk.1.1.1,⟨hk.1.1.2,⟨hk.1.2,hk.2⟩⟩⟩))) (Kd.aW (Kd.aC (ok':=(fun k_=>((a7 k_∨b5 k_∨d6 k_∨e6 k_)∨w.heap.size≤k_)∧k_≠m7∧k_≠n8∧k_≠r7)) (j8.out) (fun k_ hk=>⟨hk.1.1.1,⟨hk.1.1.2,⟨hk.1.2,hk.2⟩⟩⟩))).2.1 (Kd.V_F (Kd.aC (ok':=(fun k_=>((a7 k_∨b5 k_∨d6 k_∨e6 k_)∨w.heap.size≤k_)∧k_≠m7∧k_≠n8∧k_≠r7)) (j8.out) (fun k_ hk=>⟨hk.1.1.1,⟨hk.1.1.2,⟨hk.1.2,hk.2⟩⟩⟩))))) (bR.c3 (show Kd.FK k33 _ _ (⟨b9,d9,f7⟩:S33) [.bool b9,.slice d7 d9.length d8,.slice e7 f7.length f6] from(eG _ _ (⟨b9,d9,f7⟩:S33) (Kd.aW (Kd.aC (ok':=(fun k_=>((a7 k_∨b5 k_∨d6 k_∨e6 k_)∨w.heap.size≤k_)∧k_≠m7∧k_≠n8∧k_≠r7)) (j9.out) (fun k_ hk=>⟨hk.1.1.1,⟨hk.1.1.2,⟨hk.1.2,hk.2⟩⟩⟩))).2.1 (Kd.V_F (Kd.aC (ok':=(fun k_=>((a7 k_∨b5 k_∨d6 k_∨e6 k_)∨w.heap.size≤k_)∧k_≠m7∧k_≠n8∧k_≠r7)) (j9.out) (fun k_ hk=>⟨hk.1.1.1,⟨hk.1.1.2,⟨hk.1.2,hk.2⟩⟩⟩))) (Kd.aW (Kd.aC (ok':=(fun k_=>((a7 k_∨b5 k_∨d6 k_∨e6 k_)∨w.heap.size≤k_)∧k_≠m7∧k_≠n8∧k_≠r7)) (l5.out) (fun k_ hk=>⟨hk.1.1.1,⟨hk.1.1.2,⟨hk.1.2,hk.2⟩⟩⟩))).2.1 (Kd.V_F (Kd.aC (ok':=(fun k_=>((a7 k_∨b5 k_∨d6 k_∨e6 k_)∨w.heap.size≤k_)∧k_≠m7∧k_≠n8∧k_≠r7)) (l5.out) (fun k_ hk=>⟨hk.1.1.1,⟨hk.1.1.2,⟨hk.1.2,hk.2⟩⟩⟩))))) (bR.none _ _))));intro C9 D4 D5 hb hg_ hnew_;clear hg_ hnew_;replace D5:=nY m4 D5;have D6:=aM (Kd.fq D5 (ay pB));replace j7:=aM (Kd.bW (vX j7.out) (Kd.cO D5) hb);replace j8:=aM (Kd.bW (vX j8.out) (Kd.cO D5) hb);replace j9:=aM (Kd.bW (vX j9.out) (Kd.cO D5) hb);replace l5:=aM (Kd.bW (vX l5.out) (Kd.cO D5) hb);replace m9:=kb m9 hb;replace o0:=kb o0 hb;replace r9:=kb r9 hb;replace HB:=bB hb;clear hb D5;obtain⟨D7,D8,rfl⟩:=Kd.ek D6.out)|((with_reducible refine gc 62 rfl ?_);refine gC 62 (some 9) Try.func62 #[.slice D7 l9.length D8] ?_;(with_reducible refine(Czq.calls k _ _ l9 l6 _ ?_ ?_ m5.out).mono ?_);exact cN D6;exact lN D6;rintro e D9 ⟨rfl,hb⟩;refine⟨_,rfl,?_⟩;replace j7:=vB j7 hb;replace j8:=vB j8 hb;replace j9:=vB j9 hb;replace l5:=vB l5 hb;replace D6:=nB D6 hb;replace m9:=kb m9 hb;replace o0:=kb o0 hb;replace r9:=kb r9 hb;replace HB:=bB hb;clear hb))
 have H:=m6.out;clear m6;by_cases E0:l6=true
 ·subst E0;rw[if_pos rfl] at H;obtain⟨⟨E1,E2,E3⟩,E4,H⟩:=bT H;(try dsimp only at H);replace H:=bS H;obtain⟨⟨E5,E6,E7,E8⟩,E9,H⟩:=H;replace H:(some (E5,E6,E7,E8))=some (f8,g5,g8,g9):=H;have F0:=aM E9;clear E9;obtain⟨rfl,rfl,rfl,rfl⟩:=q4 H;try go_wp2
  have n0_:=aM (Kd.fw j7.out);have n1_:=aM (Kd.fw j8.out);have n2_:=aM (Kd.fw j9.out);have n3_:=aM (Kd.fw l5.out);have n4_:=aM (Kd.jm D6.out);have n5_:=aM (az m9.out);have n6_:=aM (az o0.out);have n7_:=aM (az r9.out);have n8_:=aM (dA HB.out);clear j7 j8 j9 l5 D6 m9 o0 r9 HB;have j7:=n0_;have j8:=n1_;have j9:=n2_;have l5:=n3_;have D6:=n4_;have m9:=n5_;have o0:=n6_;have r9:=n7_;have HB:=n8_;clear n0_ n1_ n2_ n3_ n4_ n5_ n6_ n7_ n8_;refine gz (n:=8) (S:=fun w'=>w'.cell? ⟨m7,0,none⟩=some (.bool a6)∧w'.cell? ⟨m7,1,none⟩=some (.slice a8 b4.length a9)∧w'.cell? ⟨m7,2,none⟩=some (.slice b6 b8.length b7)∧w'.cell? ⟨n8,0,none⟩=some (.bool b9)∧w'.cell? ⟨n8,1,none⟩=some (.slice d7 d9.length d8)∧w'.cell? ⟨n8,2,none⟩=some (.slice e7 f7.length f6)) (ds:=[]) (bA 8 0) (by kernel_rfl) rfl rfl ⟨(af m9.out 0).trans rfl,(af m9.out 1).trans rfl,(af m9.out 2).trans rfl,(af o0.out 0).trans rfl,(af o0.out 1).trans rfl,(af o0.out 2).trans rfl⟩ (fun hHeld=>?_);refine fF Gzq.EU Gzq.EL (fun HT_ HW_=>?_)
  generalize D9.drew=F2 at j7 j8 j9 l5 D6 m9 o0 r9 HB hHeld ⊢;refine tU 0 12 HT_ HW_ hHeld ?_;refine tU 1 13 HT_ HW_ hHeld ?_;refine oU 2 (some 14) HT_ fun K hK=>?_
  refine eH Try.func80 (by kernel_rfl) rfl #[.agg #[.bool b9,.slice d7 d9.length d8,.slice e7 f7.length f6]] (by rfl) rfl rfl mA ?_
  with_reducible refine(Fzy.calls b9 _ _ d9 _ _ f7 E1 E2 E3 _ ?side1 ?side2 ?side3 ?side4 E4.out).mono ?_
  (case side1=>exact cV j9)
  (case side2=>exact lV j9)
  (case side3=>exact cV l5)
  (case side4=>exact lV l5)
  rintro e F3 ⟨F4,F5,rfl,F6,F7,hb⟩;refine⟨_,rfl,?_⟩;have n0_:=vO j7 hb F6 F7
  have n1_:=vO j8 hb F6 F7
  have n2_:=vO j9 hb F6 F7
  have n3_:=vO l5 hb F6 F7
  have n4_:=nO D6 hb F6 F7
  have n5_:=rL (Kd.gB (M:=fun k_=>(w.heap.size≤k_)) F6 (ay pB) (fun k_ h_=>h_))
  have n6_:=rL (Kd.gB (M:=fun k_=>(w.heap.size≤k_)) F7 (ay pB) (fun k_ h_=>h_))
  have n7_:=kb m9 hb;have n8_:=kb o0 hb;have n9_:=kb r9 hb;have F8:=bB hb;clear j7 j8 j9 l5 D6 m9 o0 r9 HB;have j7:=n0_;have j8:=n1_;have j9:=n2_;have l5:=n3_;have D6:=n4_;have F9:=n5_;have G5:=n6_;have m9:=n7_;have o0:=n8_;have r9:=n9_;have HB:=F8;clear n0_ n1_ n2_ n3_ n4_ n5_ n6_ n7_ n8_ n9_ F8;(try clear hb)
  (try clear G9)
  (try clear hk)
  (try clear hi)
  (try clear F6)
  (try clear F7)
  obtain⟨H5,H6,H7⟩:=Kd.aj F9.out;(first|subst H7|(injection H7 with f1_ f2_ f3_;have f4_:=f1_.symm;have f5_:=f3_.symm;clear f1_ f2_ f3_;subst f4_;subst f5_))
  obtain⟨H8,H9,I0⟩:=Kd.aj G5.out;(first|subst I0|(injection I0 with f1_ f2_ f3_;have f4_:=f1_.symm;have f5_:=f3_.symm;clear f1_ f2_ f3_;subst f4_;subst f5_))
  refine hK.out _ _ ⟨(af m9.out 0).trans rfl,(af m9.out 1).trans rfl,(af m9.out 2).trans rfl,(af o0.out 0).trans rfl,(af o0.out 1).trans rfl,(af o0.out 2).trans rfl⟩ (fun hHeld=>?_)
  clear hK K;refine nm 14 ?_;refine oU 3 (some 15) HT_ fun K hK=>?_
  refine eH Try.func64 (by kernel_rfl) rfl #[.agg #[.bool a6,.slice a8 b4.length a9,.slice b6 b8.length b7],.agg #[.bool E1,.slice H5 E2.length H6,.slice H8 E3.length H9]] (by rfl) rfl rfl mA ?_
  with_reducible refine(Fzx.calls k a6 _ _ b4 _ _ b8 E1 _ _ E2 _ _ E3 E5 E6 E7 E8 _ ?side1 ?side2 ?side3 ?side4 ?side5 ?side6 ?side7 ?side8 F0.out).mono ?_
  (case side1=>exact cV j7)
  (case side2=>exact lV j7)
  (case side3=>exact cV j8)
  (case side4=>exact lV j8)
  (case side5=>exact cR F9)
  (case side6=>exact lR F9)
  (case side7=>exact cR G5)
  (case side8=>exact lR G5)
  rintro e I3 ⟨I4,I5,rfl,F6,F7,hb⟩;refine⟨_,rfl,?_⟩;have n0_:=vO j7 hb F6 F7
  have n1_:=vO j8 hb F6 F7
  have n2_:=vO j9 hb F6 F7
  have n3_:=vO l5 hb F6 F7
  have n4_:=nO D6 hb F6 F7
  have n5_:=rO F9 hb F6 F7
  have n6_:=rO G5 hb F6 F7
  have n7_:=rL (rn (rn (Kd.gB (M:=fun k_=>(w.heap.size≤k_)) F6 (ay pB) (fun k_ h_=>h_)) F9) G5)
  have n8_:=rL (rn (rn (Kd.gB (M:=fun k_=>(w.heap.size≤k_)) F7 (ay pB) (fun k_ h_=>h_)) F9) G5)
  have n9_:=kb m9 hb;have F8:=kb o0 hb;have I6:=kb r9 hb;have I7:=bB hb;clear j7 j8 j9 l5 D6 F9 G5 m9 o0 r9 HB;have j7:=n0_;have j8:=n1_;have j9:=n2_;have l5:=n3_;have D6:=n4_;have F9:=n5_;have G5:=n6_;have I8:=n7_;have I9:=n8_;have m9:=n9_;have o0:=F8;have r9:=I6;have HB:=I7;clear n0_ n1_ n2_ n3_ n4_ n5_ n6_ n7_ n8_ n9_ F8 I6 I7;(try clear hb)
  (try clear G9)
  (try clear hk)
  (try clear hi)
  (try clear F6)
  (try clear F7)
  obtain⟨J0,J1,J2⟩:=Kd.aj I8.out;(first|subst J2|(injection J2 with f1_ f2_ f3_;have f4_:=f1_.symm;have f5_:=f3_.symm;clear f1_ f2_ f3_;subst f4_;subst f5_))
  obtain⟨J3,J4,J5⟩:=Kd.aj I9.out;(first|subst J5|(injection J5 with f1_ f2_ f3_;have f4_:=f1_.symm;have f5_:=f3_.symm;clear f1_ f2_ f3_;subst f4_;subst f5_))
  refine hK.out _ _ ⟨(af m9.out 0).trans rfl,(af m9.out 1).trans rfl,(af m9.out 2).trans rfl,(af o0.out 0).trans rfl,(af o0.out 1).trans rfl,(af o0.out 2).trans rfl⟩ (fun hHeld=>?_)
  clear hK K;refine nm 15 ?_;refine pS 4 16 HT_ ?_;refine pS 5 17 HT_ ?_;refine oU 6 none HT_ fun K hK=>?_
  have J6:I3.cell? ⟨r7,0,none⟩=some (.bool false):=(af r9.out 0).trans rfl;have hfs25:=bO r9.out 0;have hns25_0:=t6.out;have hns25_1:=t8.out;have hms25_0:=t7.out;have hms25_1:=t9.out;have J7:I3.cell? ⟨r7,1,none⟩=some (.slice none 0 0):=(af r9.out 1).trans rfl;have hfs27:=bO r9.out 1;have hns27_0:=t6.out;have hns27_1:=t8.out;have hms27_0:=t7.out;have hms27_1:=t9.out;have J8:I3.cell? ⟨r7,2,none⟩=some (.slice none 0 0):=(af r9.out 2).trans rfl;have hfs29:=bO r9.out 2;have hns29_0:=t6.out;have hns29_1:=t8.out;have hms29_0:=t7.out;have hms29_1:=t9.out;refine iY (w1:=?_) (by rfl) rfl ?_ ?_
  rotate_left
  ·go_simp
   rfl
  refine hK.out _ _ ⟨((cell_far (p:=⟨r7,_,none⟩) t6.out _).trans (((cell_far (p:=⟨r7,_,none⟩) t6.out _).trans (((cell_far (p:=⟨r7,_,none⟩) t6.out _).trans (hHeld.1)))))),((cell_far (p:=⟨r7,_,none⟩) t6.out _).trans (((cell_far (p:=⟨r7,_,none⟩) t6.out _).trans (((cell_far (p:=⟨r7,_,none⟩) t6.out _).trans (hHeld.2.1)))))),((cell_far (p:=⟨r7,_,none⟩) t6.out _).trans (((cell_far (p:=⟨r7,_,none⟩) t6.out _).trans (((cell_far (p:=⟨r7,_,none⟩) t6.out _).trans (hHeld.2.2.1)))))),((cell_far (p:=⟨r7,_,none⟩) t8.out _).trans (((cell_far (p:=⟨r7,_,none⟩) t8.out _).trans (((cell_far (p:=⟨r7,_,none⟩) t8.out _).trans (hHeld.2.2.2.1)))))),((cell_far (p:=⟨r7,_,none⟩) t8.out _).trans (((cell_far (p:=⟨r7,_,none⟩) t8.out _).trans (((cell_far (p:=⟨r7,_,none⟩) t8.out _).trans (hHeld.2.2.2.2.1)))))),((cell_far (p:=⟨r7,_,none⟩) t8.out _).trans (((cell_far (p:=⟨r7,_,none⟩) t8.out _).trans (((cell_far (p:=⟨r7,_,none⟩) t8.out _).trans (hHeld.2.2.2.2.2))))))⟩ (fun hHeld=>?_)
  clear hK K;refine pS 7 5 HT_ ?_;refine gZ (il HT_.out (by kernel_rfl)) ?_
  try go_wp2
  refine rC r7 33 #[.bool E5,.slice J0 E6.length J1,.slice J3 E7.length J4] (kQ r9) Try.underlying33 ?_
  exact⟨_,_,eW,by exact Kd.ah (rT I8 r9) (fun _ hk=>⟨hk.1.1.1,hk.1.1.2⟩),by exact Kd.ah (rT I9 r9) (fun _ hk=>⟨hk.1.1.1,hk.1.1.2⟩),pB⟩
 ·obtain rfl:=bN E0;rw[if_neg nF] at H
  obtain⟨rfl,rfl,rfl,rfl⟩:=q4 H;have J9:=t7.out;have K0:=t6.out;have K1:=t9.out;have K2:=t8.out;obtain⟨K3,K4,K5,K6,K7,K8⟩:=bk3 r9;go_wp2
  refine rC r7 33 #[.bool false,.slice none 0 0,.slice none 0 0] (kQ r9) Try.underlying33 ?_
  exact⟨_,_,eW,nK,nK,pB⟩


end Go.Proofs.Ytbnpcplckcipfaa.Print
