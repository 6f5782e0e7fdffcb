import Derived.Test.YtokkiljkgejnhaaGreatPrint0
import Derived.Test.YtokkiljkgejnhaaGreatPrint42
namespace Go.Proofs.YtokkiljkgejnhaaGreat.Print
open Go.RowKit Go.Proofs.YtokkiljkgejnhaaGreatW.PrintWords Go.Proofs.YtokkiljkgejnhaaGreatW.PrintLast Go.Proofs.YtokkiljkgejnhaaGreatW.PrintMore
attribute [local go_sem] max2_int min2_int max_two min_two max_three min_three max_four min_four
set_option linter.unusedVariables false
set_option maxRecDepth 100000
set_option maxHeartbeats 8000000
set_option linter.unusedSimpArgs false

mutual
def Azw.l0:Nat→List Int→List Int→List Int→Int→Option (List Int)
 | 0,_,_,_,_=>none
 | k+1,x0,x1,x5,x6=>if x6 < (x0.length:Int) then(Azw.l1 k x0 x1 x5 x6 0 0) else(Azw.l2 k x5 (x5.length:Int))
def Azw.l1:Nat→List Int→List Int→List Int→Int→Int→Int→Option (List Int)
 | 0,_,_,_,_,_,_=>none
 | k+1,x0,x1,x5,x6,x7,x8=>if x8 < (x1.length:Int) then(if 0≤(wrap64 (x6+x8)) then(if(wrap64 (x6+x8)) < (x5.length:Int) then(if 0≤x6 then(if x6 < (x0.length:Int) then((Ezq.f x1 x8).bind fun t744=>(Azw.l1 k x0 x1 (x5.set ((wrap64 (x6+x8)):Int).toNat (Int.tmod (wrap64 ((wrap64 ((rd x5 (wrap64 (x6+x8)))+(wrap64 ((rd x0 x6) * t744))))+x7)) 1000000000)) x6 (wrap64 (Int.tdiv (wrap64 ((wrap64 ((rd x5 (wrap64 (x6+x8)))+(wrap64 ((rd x0 x6) * t744))))+x7)) 1000000000)) (wrap64 (x8+1)))) else(none)) else(none)) else(none)) else(none)) else(if x7 > 0 then(if 0≤(wrap64 (x6+x8)) then(if(wrap64 (x6+x8)) < (x5.length:Int) then(if 0≤x6 then(if x6 < (x0.length:Int) then((Ezq.f x1 x8).bind fun t748=>(Azw.l1 k x0 x1 (x5.set ((wrap64 (x6+x8)):Int).toNat (Int.tmod (wrap64 ((wrap64 ((rd x5 (wrap64 (x6+x8)))+(wrap64 ((rd x0 x6) * t748))))+x7)) 1000000000)) x6 (wrap64 (Int.tdiv (wrap64 ((wrap64 ((rd x5 (wrap64 (x6+x8)))+(wrap64 ((rd x0 x6) * t748))))+x7)) 1000000000)) (wrap64 (x8+1)))) else(none)) else(none)) else(none)) else(none)) else(Azw.l0 k x0 x1 x5 (wrap64 (x6+1))))
def Azw.l2:Nat→List Int→Int→Option (List Int)
 | 0,_,_=>none
 | k+1,x5,x10=>if x10 > 0 then(if 0≤(wrap64 (x10 - 1)) then(if(wrap64 (x10 - 1)) < (x5.length:Int) then(if(rd x5 (wrap64 (x10 - 1)))=0 then(Azw.l2 k x5 (wrap64 (x10 - 1))) else(if 0≤x10 then(if x10≤(x5.length:Int) then(some (x5.take (x10:Int).toNat)) else(none)) else(none))) else(none)) else(none)) else(if 0≤x10 then(if x10≤(x5.length:Int) then(some (x5.take (x10:Int).toNat)) else(none)) else(none))
end
def Azw.f (k:Nat) (l0:List Int) (l1:List Int):Option (List Int):=if 0≤(wrap64 ((l0.length:Int)+(l1.length:Int))) then(if(wrap64 ((l0.length:Int)+(l1.length:Int)):Int).toNat≤35184372088832 then(Azw.l0 k l0 l1 (List.replicate (wrap64 ((l0.length:Int)+(l1.length:Int)):Int).toNat 0) 0) else(none)) else(none)
theorem Azw.mono_l:∀ k,(∀ a6 a7 a8 b4,LeO (Azw.l0 k a6 a7 a8 b4) (Azw.l0 (k+1) a6 a7 a8 b4))∧(∀ a6 a7 a8 b4 b5 b6,LeO (Azw.l1 k a6 a7 a8 b4 b5 b6) (Azw.l1 (k+1) a6 a7 a8 b4 b5 b6))∧(∀ a6 a7,LeO (Azw.l2 k a6 a7) (Azw.l2 (k+1) a6 a7))
 | 0=>⟨fun _ _ _ _ r h=>by simp [Azw.l0] at h,fun _ _ _ _ _ _ r h=>by simp [Azw.l1] at h,fun _ _ r h=>by simp [Azw.l2] at h⟩
 | k+1=>by
  obtain⟨ih0,ih1,ih2⟩:=Azw.mono_l k;refine⟨?_,?_,?_⟩
  ·intro a6 a7 a8 b4;unfold Azw.l0;exact mM
  ·intro a6 a7 a8 b4 b5 b6;unfold Azw.l1;exact mM
  ·intro a6 a7;unfold Azw.l2;exact mM
theorem Azw.mono:∀ a6 a7 k,LeO (Azw.f k a6 a7) (Azw.f (k+1) a6 a7):=by
 intro a6 a7 k;obtain⟨ih0,ih1,ih2⟩:=Azw.mono_l k;unfold Azw.f;exact mM
theorem Azw.calls (k:Nat) (a6:Option Addr) (a7:Nat) (l0:List Int) (a8:Option Addr) (b4:Nat) (l1:List Int) (r:List Int) (w:World) (b5:Kd.C (Kd.int .i64) w a6 l0.length l0) (b6:l0.length≤a7) (b7:Kd.C (Kd.int .i64) w a8 l1.length l1) (b8:l1.length≤b4) (h:Azw.f k l0 l1=some r) :
  Calls Tryz.prog 73 #[.slice a6 l0.length a7,.slice a8 l1.length b4] w fun e w'=>∃ v0_:Value,e=.returned (v0_)∧Kd.R (Kd.int .i64) 3 w' w.heap.size (fun _=>True) v0_ r∧Below w.heap.size w w':=by
 have b9:=aM b5;have d0:=aM b6;clear b5 b6;have d6:=aM b7;have d7:=aM b8;clear b7 b8;have HB:=aM (Below.refl w.heap.size w);have H:(if 0≤(wrap64 ((l0.length:Int)+(l1.length:Int))) then(if(wrap64 ((l0.length:Int)+(l1.length:Int)):Int).toNat≤35184372088832 then(Azw.l0 k l0 l1 (List.replicate (wrap64 ((l0.length:Int)+(l1.length:Int)):Int).toNat 0) 0) else(none)) else(none))=some r:=h
 clear h;obtain⟨d8,d9⟩:∃ j_:Int,(wrap64 ((l0.length:Int)+(l1.length:Int)))=j_:=⟨_,rfl⟩;replace H:(if 0≤(d8) then(if(d8:Int).toNat≤35184372088832 then(Azw.l0 k l0 l1 (List.replicate (d8:Int).toNat 0) 0) else(none)) else(none))=some r:=by first|(rw[d9] at H;exact H)|(simp only[d9] at H ⊢;exact H)
 have e6:(IntKind.i64.wrap ((l0.length:Int)+(l1.length:Int)))=d8:=(i64_w _).trans d9;by_cases c4:0≤(d8)
 ·rw[if_pos c4] at H;have e7:=eq_true c4;have e8:=dE c4;clear c4;obtain⟨c5,H⟩:=iO H;have e9:=eq_true c5;have f3:decide ((d8:Int).toNat≤35184372088832)=true:=dE c5;clear c5;obtain⟨f4,f6⟩:∃ y_:List Int,y_=(List.replicate (d8:Int).toNat 0):=⟨_,rfl⟩;replace H:(Azw.l0 k l0 l1 f4 0)=some r:=yE f6 H
  have f9:=aM f6;clear f6;have H':=aM H;clear H;go_enter Tryz.func73,Tryz.ntmps73
  have fl_:True:=trivial;repeat((first|clear fl_|go_quiet (first|((with_reducible refine gate_dst (N:=16) rfl ?_);refine Kd.R_make (Kd.int .i64) _ 3 rfl (N:=16) rfl 24 _ _ rfl d8 rfl rfl Tryz.underlying24 (.int .i64 0) 8 info3 rfl (by decide) (by omega) 0 (ok:=fun _=>True) (okp:=fun _=>True) rfl (fun _ hk=>hk) trivial (oE aS) (Nat.le_trans (Nat.mul_le_mul_right _ (oE aS:d8.toNat≤35184372088832)) (by omega)) (Below.refl _ _) (Nat.le_refl _) ?_;intro g4 g5 g6 hb hg_ hnew_;clear hg_ hnew_;replace g6:=rY f9 g6;have g7:=rL g6;replace HB:=bB hb;clear hb g6)));go_wp2_with (first|((with_reducible refine gate_dst (N:=16) rfl ?_);refine Kd.R_make (Kd.int .i64) _ 3 rfl (N:=16) rfl 24 _ _ rfl d8 rfl rfl Tryz.underlying24 (.int .i64 0) 8 info3 rfl (by decide) (by omega) 0 (ok:=fun _=>True) (okp:=fun _=>True) rfl (fun _ hk=>hk) trivial (oE aS) (Nat.le_trans (Nat.mul_le_mul_right _ (oE aS:d8.toNat≤35184372088832)) (by omega)) (Below.refl _ _) (Nat.le_refl _) ?_;intro g4 g5 g6 hb hg_ hnew_;clear hg_ hnew_;replace g6:=rY f9 g6;have g7:=rL g6;replace HB:=bB hb;clear hb g6)))
  go_loopg [6] k (fun kq g8 w'=>∃ (g9:List Int) (j3:Int),g8=.int .i64 j3∧Aside0 (Azw.l0 kq l0 l1 g9 j3=some r)∧Aside0 (kq≤k)∧Aside0 (Kd.R (Kd.int .i64) 3 w' w.heap.size (fun _=>True) g4 g9)∧Aside0 (Below w.heap.size w w'))
  case atStart=>exact⟨(f4),(0),sD,H',⟨Nat.le_refl _⟩,⟨rX g7.out⟩,⟨pB⟩⟩
  case round =>
   clear H';try clear b4
   obtain⟨g9,j3,rfl,HA,j4,j5,HB⟩:=hrel;cases gk with
   | zero=>exact absurd HA.out (by simp [Azw.l0])
   | succ k1 =>
    have H:=HA.out;clear HA;simp only[Azw.l0] at H;by_cases c8:j3 < (l0.length:Int)
    ·rw[if_pos c8] at H;have j6:=dE c8;clear c8;have H':=aM H;clear H;go_wp2
     repeat(go_quiet (fail);try go_wp2)
     go_loopg [7,8] k1 (fun kq j7 j8 w'=>∃ (j9:List Int) (l5:Int) (l6:Int),j7=.int .i64 l5∧j8=.int .i64 l6∧Aside0 (Azw.l1 kq l0 l1 j9 j3 l5 l6=some r)∧Aside0 (kq≤k1)∧Aside0 (Kd.R (Kd.int .i64) 3 w' w.heap.size (fun _=>True) g4 j9)∧Aside0 (Below w.heap.size w w'))
     case atStart=>exact⟨(g9),(0),(0),sD,sD,H',⟨Nat.le_refl _⟩,⟨rX j5.out⟩,⟨pB⟩⟩
     case round =>
      clear H';try clear b4
      obtain⟨j9,l5,l6,rfl,rfl,HA,l7,j5,HB⟩:=hrel;cases gk with
      | zero=>exact absurd HA.out (by simp [Azw.l1])
      | succ k2 =>
       have H:=HA.out;clear HA;simp only[Azw.l1] at H;by_cases c9:l6 < (l1.length:Int)
       ·rw[if_pos c9] at H;have l8:=dE c9;clear c9;obtain⟨l9,m0⟩:∃ j_:Int,(wrap64 (j3+l6))=j_:=⟨_,rfl⟩;replace H:(if 0≤(l9) then(if(l9) < (j9.length:Int) then(if 0≤j3 then(if j3 < (l0.length:Int) then((Ezq.f l1 l6).bind fun m3=>(Azw.l1 k2 l0 l1 (j9.set ((l9):Int).toNat (Int.tmod (wrap64 ((wrap64 ((rd j9 (l9))+(wrap64 ((rd l0 j3) * m3))))+l5)) 1000000000)) j3 (wrap64 (Int.tdiv (wrap64 ((wrap64 ((rd j9 (l9))+(wrap64 ((rd l0 j3) * m3))))+l5)) 1000000000)) (wrap64 (l6+1)))) else(none)) else(none)) else(none)) else(none))=some r:=by first|(rw[m0] at H;exact H)|(simp only[m0] at H ⊢;exact H)
        have m4:(IntKind.i64.wrap (j3+l6))=l9:=(i64_w _).trans m0;obtain⟨m5,H⟩:=iN H;obtain⟨m6,H⟩:=iN H;obtain⟨m7,H⟩:=iN H;obtain⟨m8,H⟩:=iN H;obtain⟨m3,m9,H⟩:=bT H;(try dsimp only at H);obtain⟨n0,n6⟩:∃ y_:List Int,y_=(j9.set ((l9):Int).toNat (Int.tmod (wrap64 ((wrap64 ((rd j9 (l9))+(wrap64 ((rd l0 j3) * m3))))+l5)) 1000000000)):=⟨_,rfl⟩;replace H:(Azw.l1 k2 l0 l1 n0 j3 (wrap64 (Int.tdiv (wrap64 ((wrap64 ((rd j9 (l9))+(wrap64 ((rd l0 j3) * m3))))+l5)) 1000000000)) (wrap64 (l6+1)))=some r:=yE n6 H
        have n7:=aM n6;clear n6;have H':=aM H;clear H;obtain⟨n8,n9,rfl⟩:=Kd.R_slice j5.out;obtain⟨o0,o8,o9,p0,p3⟩:=aI (Kd.R_reads' j5.out).2.2 (l9);cases o8;obtain⟨p4,p5,r5,r6,r7⟩:=aI b9.out j3;cases p5
        replace r5:=hB HB r5;have fl_:True:=trivial;repeat((first|clear fl_|go_quiet (first|(go_at_call 89;(with_reducible refine(Ezq.calls _ _ l1 l6 m3 _ ?_ ?_ m9.out).mono ?_);exact cB d6;exact d7.out;rintro e w' ⟨rfl,⟨nd,rfl⟩⟩;(try exact dD);have r8:0≤((l9):Int):=oE aS;have r9:((l9):Int) < ((j9.length:Int):Int):=oE aS;obtain⟨t6,t7,t8,z1,z2,z6,z7⟩:=Kd.R_form j5.out (by omega);(first|cases t8|(injection t8 with ea_ en_ ec_;(first|subst ea_|(injection ea_ with ea_;subst ea_));subst ec_;clear en_));have z8:=aM z1;have B0:=aM z7;clear z1 z2 z7;(first|simp only[add_plain] at o9|skip);obtain⟨B5,B6⟩:=Kd.R_celln 0 j5.out ((l9):Int) r8 r9;replace r8:=eq_true r8;replace r9:=eq_true r9;obtain⟨B8,hz18_⟩:=Kd.R_celln 0 j5.out ((l9):Int) (oE aS) (oE aS);have B9:=Kd.R_putg j5.out ((l9):Int) (Int.tmod (wrap64 ((wrap64 ((rd j9 (l9))+(wrap64 ((rd l0 j3) * m3))))+l5)) 1000000000))|((with_reducible refine gate_store (t:=3) (p:=56) rfl ?_);(try(rw[drewN_self wr];generalize hq_:World.drewN wr _=wr;have n0_:=aM (Kd.R_at hq_ j5.out);have n1_:=aM (below_at hq_ HB.out);clear hq_ j5 HB;have j5:=n0_;have HB:=n1_;clear n0_ n1_;(try(obtain⟨B8,hz18_⟩:=Kd.R_celln 0 j5.out ((l9):Int) (oE aS) (oE aS)));(try(have B9:=Kd.R_putg j5.out ((l9):Int) (Int.tmod (wrap64 ((wrap64 ((rd j9 (l9))+(wrap64 ((rd l0 j3) * m3))))+l5)) 1000000000)))));refine store_event (t:=3) (p:=56) (v:=?vo_w19) (w1:=(wr.setCell ⟨t6,((l9):Int).toNat,none⟩ (.int .i64 (Int.tmod (wrap64 ((wrap64 ((rd j9 (l9))+(wrap64 ((rd l0 j3) * m3))))+l5)) 1000000000)))) ?hg ?ho ?hn ?hr ?_;(case ho=>rfl);(case hg=>rfl);(case hn=>rfl);(case hr=>first|(go_simp;done)|(go_simp;rfl));intro C0 hw;have hg:wr.grownBy C0 (some t6):=(by rw[hw];exact B9.2);have hp_:Kd.R (Kd.int .i64) 3 C0 w.heap.size (fun _=>True) (.slice (some ⟨t6,0,none⟩) j9.length n9) n0:=(by rw[hw,n7.out];exact B9.1);clear B9;replace j5:=aM (hp_);replace HB:=aM ((by rw[hw];exact below_set (HB.out) z8.out:Below w.heap.size w C0));clear hg hw hp_)));go_wp2_with (first|(go_at_call 89;(with_reducible refine(Ezq.calls _ _ l1 l6 m3 _ ?_ ?_ m9.out).mono ?_);exact cB d6;exact d7.out;rintro e w' ⟨rfl,⟨nd,rfl⟩⟩;(try exact dD);have r8:0≤((l9):Int):=oE aS;have r9:((l9):Int) < ((j9.length:Int):Int):=oE aS;obtain⟨t6,t7,t8,z1,z2,z6,z7⟩:=Kd.R_form j5.out (by omega);(first|cases t8|(injection t8 with ea_ en_ ec_;(first|subst ea_|(injection ea_ with ea_;subst ea_));subst ec_;clear en_));have z8:=aM z1;have B0:=aM z7;clear z1 z2 z7;(first|simp only[add_plain] at o9|skip);obtain⟨B5,B6⟩:=Kd.R_celln 0 j5.out ((l9):Int) r8 r9;replace r8:=eq_true r8;replace r9:=eq_true r9;obtain⟨B8,hz18_⟩:=Kd.R_celln 0 j5.out ((l9):Int) (oE aS) (oE aS);have B9:=Kd.R_putg j5.out ((l9):Int) (Int.tmod (wrap64 ((wrap64 ((rd j9 (l9))+(wrap64 ((rd l0 j3) * m3))))+l5)) 1000000000))|((with_reducible refine gate_store (t:=3) (p:=56) rfl ?_);(try(rw[drewN_self wr];generalize hq_:World.drewN wr _=wr;have n0_:=aM (Kd.R_at hq_ j5.out);have n1_:=aM (below_at hq_ HB.out);clear hq_ j5 HB;have j5:=n0_;have HB:=n1_;clear n0_ n1_;(try(obtain⟨B8,hz18_⟩:=Kd.R_celln 0 j5.out ((l9):Int) (oE aS) (oE aS)));(try(have B9:=Kd.R_putg j5.out ((l9):Int) (Int.tmod (wrap64 ((wrap64 ((rd j9 (l9))+(wrap64 ((rd l0 j3) * m3))))+l5)) 1000000000)))));refine store_event (t:=3) (p:=56) (v:=?vo_w19) (w1:=(wr.setCell ⟨t6,((l9):Int).toNat,none⟩ (.int .i64 (Int.tmod (wrap64 ((wrap64 ((rd j9 (l9))+(wrap64 ((rd l0 j3) * m3))))+l5)) 1000000000)))) ?hg ?ho ?hn ?hr ?_;(case ho=>rfl);(case hg=>rfl);(case hn=>rfl);(case hr=>first|(go_simp;done)|(go_simp;rfl));intro C0 hw;have hg:wr.grownBy C0 (some t6):=(by rw[hw];exact B9.2);have hp_:Kd.R (Kd.int .i64) 3 C0 w.heap.size (fun _=>True) (.slice (some ⟨t6,0,none⟩) j9.length n9) n0:=(by rw[hw,n7.out];exact B9.1);clear B9;replace j5:=aM (hp_);replace HB:=aM ((by rw[hw];exact below_set (HB.out) z8.out:Below w.heap.size w C0));clear hg hw hp_)))
        go_roundg k2
        case measure=>have:=j4.out;have:=l7.out;omega
        case rel=>exact⟨(n0),(wrap64 (Int.tdiv (wrap64 ((wrap64 ((rd j9 (l9))+(wrap64 ((rd l0 j3) * m3))))+l5)) 1000000000)),(wrap64 (l6+1)),(by first|rfl|(simp;done)|(simp only[← m0] <;> (first|rfl|simp))|(simp [*];done)),sD,H',⟨by have:=j4.out;have:=l7.out;omega⟩,⟨rX j5.out⟩,⟨pB⟩⟩
       ·rw[if_neg c9] at H;have l8:decide (l6 < (l1.length:Int))=false:=decide_eq_false c9;clear c9;by_cases C1:l5 > 0
        ·rw[if_pos C1] at H;have C2:decide (0 < l5)=true:=dE C1;clear C1;obtain⟨C3,C4⟩:∃ j_:Int,(wrap64 (j3+l6))=j_:=⟨_,rfl⟩;replace H:(if 0≤(C3) then(if(C3) < (j9.length:Int) then(if 0≤j3 then(if j3 < (l0.length:Int) then((Ezq.f l1 l6).bind fun C6=>(Azw.l1 k2 l0 l1 (j9.set ((C3):Int).toNat (Int.tmod (wrap64 ((wrap64 ((rd j9 (C3))+(wrap64 ((rd l0 j3) * C6))))+l5)) 1000000000)) j3 (wrap64 (Int.tdiv (wrap64 ((wrap64 ((rd j9 (C3))+(wrap64 ((rd l0 j3) * C6))))+l5)) 1000000000)) (wrap64 (l6+1)))) else(none)) else(none)) else(none)) else(none))=some r:=by first|(rw[C4] at H;exact H)|(simp only[C4] at H ⊢;exact H)
         have C7:(IntKind.i64.wrap (j3+l6))=C3:=(i64_w _).trans C4;obtain⟨C8,H⟩:=iN H;obtain⟨C9,H⟩:=iN H;obtain⟨D0,H⟩:=iN H;obtain⟨D1,H⟩:=iN H;obtain⟨C6,D2,H⟩:=bT H;(try dsimp only at H);obtain⟨D3,D4⟩:∃ y_:List Int,y_=(j9.set ((C3):Int).toNat (Int.tmod (wrap64 ((wrap64 ((rd j9 (C3))+(wrap64 ((rd l0 j3) * C6))))+l5)) 1000000000)):=⟨_,rfl⟩;replace H:(Azw.l1 k2 l0 l1 D3 j3 (wrap64 (Int.tdiv (wrap64 ((wrap64 ((rd j9 (C3))+(wrap64 ((rd l0 j3) * C6))))+l5)) 1000000000)) (wrap64 (l6+1)))=some r:=yE D4 H
         have D5:=aM D4;clear D4;have H':=aM H;clear H;obtain⟨D6,D7,rfl⟩:=Kd.R_slice j5.out;obtain⟨D8,D9,E0,E1,E2⟩:=aI (Kd.R_reads' j5.out).2.2 (C3);cases D9;obtain⟨E3,E4,E5,E6,E7⟩:=aI b9.out j3;cases E4
         replace E5:=hB HB E5;have fl_:True:=trivial;repeat((first|clear fl_|go_quiet (first|(go_at_call 89;(with_reducible refine(Ezq.calls _ _ l1 l6 C6 _ ?_ ?_ D2.out).mono ?_);exact cB d6;exact d7.out;rintro e w' ⟨rfl,⟨nd,rfl⟩⟩;(try exact dD);have E8:0≤((C3):Int):=oE aS;have E9:((C3):Int) < ((j9.length:Int):Int):=oE aS;obtain⟨F0,F1,F2,F3,F4,F5,F6⟩:=Kd.R_form j5.out (by omega);(first|cases F2|(injection F2 with ea_ en_ ec_;(first|subst ea_|(injection ea_ with ea_;subst ea_));subst ec_;clear en_));have F7:=aM F3;have F8:=aM F6;clear F3 F4 F6;(first|simp only[add_plain] at E0|skip);obtain⟨F9,G0⟩:=Kd.R_celln 0 j5.out ((C3):Int) E8 E9;replace E8:=eq_true E8;replace E9:=eq_true E9;obtain⟨G4,hz29_⟩:=Kd.R_celln 0 j5.out ((C3):Int) (oE aS) (oE aS);have G5:=Kd.R_putg j5.out ((C3):Int) (Int.tmod (wrap64 ((wrap64 ((rd j9 (C3))+(wrap64 ((rd l0 j3) * C6))))+l5)) 1000000000))|((with_reducible refine gate_store (t:=3) (p:=56) rfl ?_);(try(rw[drewN_self wr];generalize hq_:World.drewN wr _=wr;have n0_:=aM (Kd.R_at hq_ j5.out);have n1_:=aM (below_at hq_ HB.out);clear hq_ j5 HB;have j5:=n0_;have HB:=n1_;clear n0_ n1_;(try(obtain⟨G4,hz29_⟩:=Kd.R_celln 0 j5.out ((C3):Int) (oE aS) (oE aS)));(try(have G5:=Kd.R_putg j5.out ((C3):Int) (Int.tmod (wrap64 ((wrap64 ((rd j9 (C3))+(wrap64 ((rd l0 j3) * C6))))+l5)) 1000000000)))));refine store_event (t:=3) (p:=56) (v:=?vo_w30) (w1:=(wr.setCell ⟨F0,((C3):Int).toNat,none⟩ (.int .i64 (Int.tmod (wrap64 ((wrap64 ((rd j9 (C3))+(wrap64 ((rd l0 j3) * C6))))+l5)) 1000000000)))) ?hg ?ho ?hn ?hr ?_;(case ho=>rfl);(case hg=>rfl);(case hn=>rfl);(case hr=>first|(go_simp;done)|(go_simp;rfl));intro G6 hw;have hg:wr.grownBy G6 (some F0):=(by rw[hw];exact G5.2);have hp_:Kd.R (Kd.int .i64) 3 G6 w.heap.size (fun _=>True) (.slice (some ⟨F0,0,none⟩) j9.length D7) D3:=(by rw[hw,D5.out];exact G5.1);clear G5;replace j5:=aM (hp_);replace HB:=aM ((by rw[hw];exact below_set (HB.out) F7.out:Below w.heap.size w G6));clear hg hw hp_)));go_wp2_with (first|(go_at_call 89;(with_reducible refine(Ezq.calls _ _ l1 l6 C6 _ ?_ ?_ D2.out).mono ?_);exact cB d6;exact d7.out;rintro e w' ⟨rfl,⟨nd,rfl⟩⟩;(try exact dD);have E8:0≤((C3):Int):=oE aS;have E9:((C3):Int) < ((j9.length:Int):Int):=oE aS;obtain⟨F0,F1,F2,F3,F4,F5,F6⟩:=Kd.R_form j5.out (by omega);(first|cases F2|(injection F2 with ea_ en_ ec_;(first|subst ea_|(injection ea_ with ea_;subst ea_));subst ec_;clear en_));have F7:=aM F3;have F8:=aM F6;clear F3 F4 F6;(first|simp only[add_plain] at E0|skip);obtain⟨F9,G0⟩:=Kd.R_celln 0 j5.out ((C3):Int) E8 E9;replace E8:=eq_true E8;replace E9:=eq_true E9;obtain⟨G4,hz29_⟩:=Kd.R_celln 0 j5.out ((C3):Int) (oE aS) (oE aS);have G5:=Kd.R_putg j5.out ((C3):Int) (Int.tmod (wrap64 ((wrap64 ((rd j9 (C3))+(wrap64 ((rd l0 j3) * C6))))+l5)) 1000000000))|((with_reducible refine gate_store (t:=3) (p:=56) rfl ?_);(try(rw[drewN_self wr];generalize hq_:World.drewN wr _=wr;have n0_:=aM (Kd.R_at hq_ j5.out);have n1_:=aM (below_at hq_ HB.out);clear hq_ j5 HB;have j5:=n0_;have HB:=n1_;clear n0_ n1_;(try(obtain⟨G4,hz29_⟩:=Kd.R_celln 0 j5.out ((C3):Int) (oE aS) (oE aS)));(try(have G5:=Kd.R_putg j5.out ((C3):Int) (Int.tmod (wrap64 ((wrap64 ((rd j9 (C3))+(wrap64 ((rd l0 j3) * C6))))+l5)) 1000000000)))));refine store_event (t:=3) (p:=56) (v:=?vo_w30) (w1:=(wr.setCell ⟨F0,((C3):Int).toNat,none⟩ (.int .i64 (Int.tmod (wrap64 ((wrap64 ((rd j9 (C3))+(wrap64 ((rd l0 j3) * C6))))+l5)) 1000000000)))) ?hg ?ho ?hn ?hr ?_;(case ho=>rfl);(case hg=>rfl);(case hn=>rfl);(case hr=>first|(go_simp;done)|(go_simp;rfl));intro G6 hw;have hg:wr.grownBy G6 (some F0):=(by rw[hw];exact G5.2);have hp_:Kd.R (Kd.int .i64) 3 G6 w.heap.size (fun _=>True) (.slice (some ⟨F0,0,none⟩) j9.length D7) D3:=(by rw[hw,D5.out];exact G5.1);clear G5;replace j5:=aM (hp_);replace HB:=aM ((by rw[hw];exact below_set (HB.out) F7.out:Below w.heap.size w G6));clear hg hw hp_)))
         go_roundg k2
         case measure=>have:=j4.out;have:=l7.out;omega
         case rel=>exact⟨(D3),(wrap64 (Int.tdiv (wrap64 ((wrap64 ((rd j9 (C3))+(wrap64 ((rd l0 j3) * C6))))+l5)) 1000000000)),(wrap64 (l6+1)),(by first|rfl|(simp;done)|(simp only[← C4] <;> (first|rfl|simp))|(simp [*];done)),sD,H',⟨by have:=j4.out;have:=l7.out;omega⟩,⟨rX j5.out⟩,⟨pB⟩⟩
        ·rw[if_neg C1] at H;have C2:decide (0 < l5)=false:=decide_eq_false C1;clear C1;have H':=aM H;clear H;go_wp2
         repeat(go_quiet (fail);try go_wp2)
         go_roundg k2
         case measure=>have:=j4.out;have:=l7.out;omega
         case rel=>exact⟨(j9),(wrap64 (j3+1)),sD,H',⟨by have:=j4.out;have:=l7.out;omega⟩,⟨rX j5.out⟩,⟨pB⟩⟩
    ·rw[if_neg c8] at H;have j6:decide (j3 < (l0.length:Int))=false:=decide_eq_false c8;clear c8;have H':=aM H;clear H;obtain⟨G7,G8,rfl⟩:=Kd.R_slice j5.out;go_wp2
     repeat(go_quiet (fail);try go_wp2)
     go_loopg [10] k1 (fun kq G9 w'=>∃ (H5:Int),G9=.int .i64 H5∧Aside0 (Azw.l2 kq g9 H5=some r)∧Aside0 (kq≤k1)∧Aside0 (Kd.R (Kd.int .i64) 3 w' w.heap.size (fun _=>True) (.slice G7 g9.length G8) g9)∧Aside0 (Below w.heap.size w w'))
     case atStart=>exact⟨((g9.length:Int)),sD,H',⟨Nat.le_refl _⟩,⟨rX j5.out⟩,⟨pB⟩⟩
     case round =>
      clear H';try clear b4
      obtain⟨H5,rfl,HA,l7,j5,HB⟩:=hrel;cases gk with
      | zero=>exact absurd HA.out (by simp [Azw.l2])
      | succ k2 =>
       have H:=HA.out;clear HA;simp only[Azw.l2] at H;by_cases H6:H5 > 0
       ·rw[if_pos H6] at H;have H7:decide (0 < H5)=true:=dE H6;clear H6;obtain⟨H8,H9⟩:∃ j_:Int,(wrap64 (H5 - 1))=j_:=⟨_,rfl⟩;replace H:(if 0≤(H8) then(if(H8) < (g9.length:Int) then(if(rd g9 (H8))=0 then(Azw.l2 k2 g9 H8) else(if 0≤H5 then(if H5≤(g9.length:Int) then(some (g9.take (H5:Int).toNat)) else(none)) else(none))) else(none)) else(none))=some r:=by first|(rw[H9] at H;exact H)|(simp only[H9] at H ⊢;exact H)
        have I0:(IntKind.i64.wrap (H5 - 1))=H8:=(i64_w _).trans H9;obtain⟨I1,H⟩:=iN H;obtain⟨I2,H⟩:=iN H;by_cases I3:(rd g9 (H8))=0
        ·rw[if_pos I3] at H;obtain⟨I4,I5⟩:=bE I3;clear I3;have H':=aM H;clear H;obtain⟨I6,I7,I8,I9,J0⟩:=aI (Kd.R_reads' j5.out).2.2 (H8);cases I7;go_wp2
         repeat(go_quiet (fail);try go_wp2)
         go_roundg k2
         case measure=>have:=j4.out;have:=l7.out;omega
         case rel=>exact⟨(H8),(by first|rfl|(simp;done)|(simp only[← H9] <;> (first|rfl|simp))|(simp [*];done)),H',⟨by have:=j4.out;have:=l7.out;omega⟩,⟨rX j5.out⟩,⟨pB⟩⟩
        ·rw[if_neg I3] at H;obtain⟨I4,I5⟩:=bI I3;obtain⟨J1,H⟩:=iO H;have J2:=eq_true J1;have J3:decide (0≤H5)=true:=dE J1;clear J1;obtain⟨J4,H⟩:=iO H;have J5:=eq_true J4;have J6:decide (H5≤(g9.length:Int))=true:=dE J4;clear J4;obtain⟨J7,J8⟩:∃ y_:List Int,y_=(g9.take (H5:Int).toNat):=⟨_,rfl⟩;replace H:(some J7)=some r:=yE J8 H
         have J9:=aM J8;clear J8;obtain rfl:=Option.some.inj H;obtain⟨I6,I7,I8,I9,J0⟩:=aI (Kd.R_reads' j5.out).2.2 (H8);cases I7;have K0:(H5:Int)≤((g9.length:Int):Int):=oE aS
         obtain⟨i039,K1,_,hsz39,_⟩:=info_parts info3;have hcut39:=cut_to (P:=Tryz.prog) 24 3 .i64 Tryz.underlying24 K1 (some I6) g9.length G8 H5 (oE aS) K0 (Kd.R_reads' j5.out).2.1
         have K2:=Kd.R_take (m:=(H5:Int).toNat) j5.out (by omega)
         have K3:J7.length=(H5:Int).toNat:=(by rw[J9.out,List.length_take];omega)
         rw[← J9.out] at K2;rw[← K3] at K2 hcut39;clear K3 K1 hsz39 j5;have K4:=aM K2;clear K2;replace K0:=eq_true K0;go_wp2
         repeat(go_quiet (fail);try go_wp2)
         go_ret
         exact⟨_,by first|rfl|(simp [errW_none,errW_some] <;> rfl)|(simp only[← d9,← H9];first|rfl|(simp [errW_none,errW_some] <;> rfl))|(simp [*,errW_none,errW_some] <;> rfl),rX K4.out,pB⟩
       ·rw[if_neg H6] at H;have H7:decide (0 < H5)=false:=decide_eq_false H6;clear H6;obtain⟨K5,H⟩:=iO H;have K6:=eq_true K5;have K7:decide (0≤H5)=true:=dE K5;clear K5;obtain⟨K8,H⟩:=iO H;have K9:=eq_true K8;have L0:decide (H5≤(g9.length:Int))=true:=dE K8;clear K8;obtain⟨L5,L6⟩:∃ y_:List Int,y_=(g9.take (H5:Int).toNat):=⟨_,rfl⟩;replace H:(some L5)=some r:=yE L6 H
        have L7:=aM L6;clear L6;obtain rfl:=Option.some.inj H;have L8:(H5:Int)≤((g9.length:Int):Int):=oE aS
        obtain⟨i042,L9,_,hsz42,_⟩:=info_parts info3;have hcut42:=cut_to (P:=Tryz.prog) 24 3 .i64 Tryz.underlying24 L9 G7 g9.length G8 H5 (oE aS) L8 (Kd.R_reads' j5.out).2.1
        have M0:=Kd.R_take (m:=(H5:Int).toNat) j5.out (by omega)
        have M1:L5.length=(H5:Int).toNat:=(by rw[L7.out,List.length_take];omega)
        rw[← L7.out] at M0;rw[← M1] at M0 hcut42;clear M1 L9 hsz42 j5;have M2:=aM M0;clear M0;replace L8:=eq_true L8;go_wp2
        repeat(go_quiet (fail);try go_wp2)
        go_ret
        exact⟨_,by first|rfl|(simp [errW_none,errW_some] <;> rfl)|(simp only[← d9];first|rfl|(simp [errW_none,errW_some] <;> rfl))|(simp [*,errW_none,errW_some] <;> rfl),rX M2.out,pB⟩
 ·rw[if_neg c4] at H;exact absurd H (by simp)


def Bzw.l0:Nat→List Int→List Int→Int→Option (Int)
 | 0,_,_,_=>none
 | k+1,x0,x1,x5=>if x5≥0 then(if 0≤x5 then(if x5 < (x0.length:Int) then(if x5 < (x1.length:Int) then(if(rd x0 x5) < (rd x1 x5) then(some (-1)) else(if(rd x0 x5) > (rd x1 x5) then(some 1) else(Bzw.l0 k x0 x1 (wrap64 (x5 - 1))))) else(none)) else(none)) else(none)) else(some 0)
def Bzw.f (k:Nat) (l0:List Int) (l1:List Int):Option (Int):=if(l0.length:Int)=(l1.length:Int) then(Bzw.l0 k l0 l1 (wrap64 ((l0.length:Int) - 1))) else(if(l0.length:Int) < (l1.length:Int) then(some (-1)) else(some 1))
theorem Bzw.mono_l:∀ k,(∀ a6 a7 a8,LeO (Bzw.l0 k a6 a7 a8) (Bzw.l0 (k+1) a6 a7 a8))
 | 0=>fun _ _ _ r h=>by simp [Bzw.l0] at h
 | k+1=>by
  have ih0:=Bzw.mono_l k
  ·intro a6 a7 a8;unfold Bzw.l0;exact mM
theorem Bzw.mono:∀ a6 a7 k,LeO (Bzw.f k a6 a7) (Bzw.f (k+1) a6 a7):=by
 intro a6 a7 k;have ih0:=Bzw.mono_l k;unfold Bzw.f;exact mM
theorem Bzw.calls (k:Nat) (a6:Option Addr) (a7:Nat) (l0:List Int) (a8:Option Addr) (b4:Nat) (l1:List Int) (r:Int) (w:World) (b5:Kd.C (Kd.int .i64) w a6 l0.length l0) (b6:l0.length≤a7) (b7:Kd.C (Kd.int .i64) w a8 l1.length l1) (b8:l1.length≤b4) (h:Bzw.f k l0 l1=some r) :
  Calls Tryz.prog 105 #[.slice a6 l0.length a7,.slice a8 l1.length b4] w fun e w'=>e=.returned (.int .i64 r)∧Drawn0 w w':=by
 have b9:=aM b5;have d0:=aM b6;clear b5 b6;have d6:=aM b7;have d7:=aM b8;clear b7 b8;have H:(if(l0.length:Int)=(l1.length:Int) then(Bzw.l0 k l0 l1 (wrap64 ((l0.length:Int) - 1))) else(if(l0.length:Int) < (l1.length:Int) then(some (-1)) else(some 1)))=some r:=h
 clear h;by_cases c3:(l0.length:Int)=(l1.length:Int)
 ·rw[if_pos c3] at H;obtain⟨d8,d9⟩:=bE c3;have e6:(l0.length == l1.length)=true:=by first|simpa using c3|(simp at c3 ⊢;omega)
  clear c3;have H':=aM H;clear H;go_enter Tryz.func105,Tryz.ntmps105
  go_wp2
  repeat(go_quiet (fail);try go_wp2)
  go_loopg [5] k (fun kq e7 w'=>∃ (e8:Int),e7=.int .i64 e8∧Aside0 (Bzw.l0 kq l0 l1 e8=some r)∧Aside0 (kq≤k)∧Drawn0 w w')
  case atStart=>exact⟨(wrap64 ((l0.length:Int) - 1)),sD,H',⟨Nat.le_refl _⟩,dR⟩
  case round =>
   clear H';try clear b4
   obtain⟨e8,rfl,HA,e9,⟨f3,rfl⟩⟩:=hrel;cases gk with
   | zero=>exact absurd HA.out (by simp [Bzw.l0])
   | succ k1 =>
    have H:=HA.out;clear HA;simp only[Bzw.l0] at H;by_cases c4:e8≥0
    ·rw[if_pos c4] at H;have f4:decide (0≤e8)=true:=dE c4;clear c4;obtain⟨f6,H⟩:=iN H;obtain⟨f9,H⟩:=iN H;obtain⟨g4,H⟩:=iN H;by_cases c8:(rd l0 e8) < (rd l1 e8)
     ·rw[if_pos c8] at H;have g5:=dE c8;clear c8;obtain rfl:=Option.some.inj H;obtain⟨g6,g7,g8,g9,j3⟩:=aI b9.out e8;cases g7;obtain⟨j4,j5,j6,j7,j8⟩:=aI d6.out e8;cases j5;go_wp2
      repeat(go_quiet (fail);try go_wp2)
      go_ret
      exact⟨sD,dR⟩
     ·rw[if_neg c8] at H;have g5:decide ((rd l0 e8) < (rd l1 e8))=false:=decide_eq_false c8;clear c8;by_cases c9:(rd l0 e8) > (rd l1 e8)
      ·rw[if_pos c9] at H;have j9:decide ((rd l1 e8) < (rd l0 e8))=true:=dE c9;clear c9;obtain rfl:=Option.some.inj H;obtain⟨g6,g7,g8,g9,j3⟩:=aI b9.out e8;cases g7;obtain⟨j4,j5,j6,j7,j8⟩:=aI d6.out e8;cases j5;obtain⟨l5,l6,l7,l8,l9⟩:=aI b9.out e8;obtain rfl:g6=l5:=(by injection l6);obtain⟨m0,m3,m4,m5,m6⟩:=aI d6.out e8;obtain rfl:j4=m0:=(by injection m3);go_wp2
       repeat(go_quiet (fail);try go_wp2)
       go_ret
       exact⟨sD,dR⟩
      ·rw[if_neg c9] at H;have j9:decide ((rd l1 e8) < (rd l0 e8))=false:=decide_eq_false c9;clear c9;have H':=aM H;clear H;obtain⟨g6,g7,g8,g9,j3⟩:=aI b9.out e8;cases g7;obtain⟨j4,j5,j6,j7,j8⟩:=aI d6.out e8;cases j5;obtain⟨l5,l6,l7,l8,l9⟩:=aI b9.out e8;obtain rfl:g6=l5:=(by injection l6);obtain⟨m0,m3,m4,m5,m6⟩:=aI d6.out e8;obtain rfl:j4=m0:=(by injection m3);go_wp2
       repeat(go_quiet (fail);try go_wp2)
       go_roundg k1
       case measure=>have:=e9.out;omega
       case rel=>exact⟨(wrap64 (e8 - 1)),sD,H',⟨by have:=e9.out;omega⟩,dR⟩
    ·rw[if_neg c4] at H;have f4:decide (0≤e8)=false:=decide_eq_false c4;clear c4;obtain rfl:=Option.some.inj H;go_wp2
     repeat(go_quiet (fail);try go_wp2)
     go_ret
     exact⟨sD,dR⟩
 ·rw[if_neg c3] at H;obtain⟨d8,d9⟩:=bI c3;have e6:(l0.length == l1.length)=false:=by first|simpa using c3|(simp at c3 ⊢;omega)
  by_cases c10:(l0.length:Int) < (l1.length:Int)
  ·rw[if_pos c10] at H;have m7:=dE c10;have m8:decide (l0.length < l1.length)=true:=dE (Int.ofNat_lt.mp c10);clear c10;obtain rfl:=Option.some.inj H;go_enter Tryz.func105,Tryz.ntmps105
   go_wp2
   repeat(go_quiet (fail);try go_wp2)
   go_ret
   exact⟨sD,dR⟩
  ·rw[if_neg c10] at H;have m7:decide ((l0.length:Int) < (l1.length:Int))=false:=decide_eq_false c10;have m8:decide (l0.length < l1.length)=false:=decide_eq_false (fun h=>c10 (Int.ofNat_lt.mpr h))
   clear c10;obtain rfl:=Option.some.inj H;go_enter Tryz.func105,Tryz.ntmps105
   go_wp2
   repeat(go_quiet (fail);try go_wp2)
   go_ret
   exact⟨sD,dR⟩

def Czq.l0:Nat→List Int→List Int→Int→Int→Option (Int)
 | 0,_,_,_,_=>none
 | k+1,x0,x1,x5,x6=>if x5 < x6 then((Azw.f k x1 (([wrap64 (Int.tdiv (wrap64 ((wrap64 (x5+x6))+1)) 2)]:List Int))).bind fun t764=>((Bzw.f k t764 x0).bind fun t767=>(if t767≤0 then(Czq.l0 k x0 x1 (wrap64 (Int.tdiv (wrap64 ((wrap64 (x5+x6))+1)) 2)) x6) else(Czq.l0 k x0 x1 x5 (wrap64 ((wrap64 (Int.tdiv (wrap64 ((wrap64 (x5+x6))+1)) 2)) - 1)))))) else(some x5)
def Czq.f (k:Nat) (l0:List Int) (l1:List Int):Option (Int):=Czq.l0 k l0 l1 0 999999999
theorem Czq.mono_l:∀ k,(∀ a6 a7 a8 b4,LeO (Czq.l0 k a6 a7 a8 b4) (Czq.l0 (k+1) a6 a7 a8 b4))
 | 0=>fun _ _ _ _ r h=>by simp [Czq.l0] at h
 | k+1=>by
  have ih0:=Czq.mono_l k
  ·intro a6 a7 a8 b4;unfold Czq.l0;have i0:=@Bzw.mono;have i1:=@Azw.mono;exact mM
theorem Czq.mono:∀ a6 a7 k,LeO (Czq.f k a6 a7) (Czq.f (k+1) a6 a7):=by
 intro a6 a7 k;have ih0:=Czq.mono_l k;unfold Czq.f;have i0:=@Bzw.mono;have i1:=@Azw.mono;exact mM
theorem Czq.calls (k:Nat) (a6:Option Addr) (a7:Nat) (l0:List Int) (a8:Option Addr) (b4:Nat) (l1:List Int) (r:Int) (w:World) (b5:Kd.C (Kd.int .i64) w a6 l0.length l0) (b6:l0.length≤a7) (b7:Kd.C (Kd.int .i64) w a8 l1.length l1) (b8:l1.length≤b4) (h:Czq.f k l0 l1=some r) :
  Calls Tryz.prog 90 #[.slice a6 l0.length a7,.slice a8 l1.length b4] w fun e w'=>e=.returned (.int .i64 r)∧Below w.heap.size w w':=by
 have b9:=aM b5;have d0:=aM b6;clear b5 b6;have d6:=aM b7;have d7:=aM b8;clear b7 b8;have HB:=aM (Below.refl w.heap.size w);have H:(Czq.l0 k l0 l1 0 999999999)=some r:=h;clear h;have H':=aM H;clear H;go_enter Tryz.func90,Tryz.ntmps90
 go_wp2
 go_loopg [5,6] k (fun kq d8 d9 w'=>∃ (e6:Int) (e7:Int),d8=.int .i64 e6∧d9=.int .i64 e7∧Aside0 (Czq.l0 kq l0 l1 e6 e7=some r)∧Aside0 (kq≤k)∧Aside0 (Below w.heap.size w w'))
 case atStart=>exact⟨(0),(999999999),sD,sD,H',⟨Nat.le_refl _⟩,⟨pB⟩⟩
 case round =>
  clear H';try clear b4
  obtain⟨e6,e7,rfl,rfl,HA,e8,HB⟩:=hrel;cases gk with
  | zero=>exact absurd HA.out (by simp [Czq.l0])
  | succ k1 =>
   have H:=HA.out;clear HA;simp only[Czq.l0] at H;by_cases c3:e6 < e7
   ·rw[if_pos c3] at H;have e9:=dE c3;clear c3;obtain⟨f3,f4⟩:∃ y_:List Int,y_=(([wrap64 (Int.tdiv (wrap64 ((wrap64 (e6+e7))+1)) 2)]:List Int)):=⟨_,rfl⟩;replace H:((Azw.f k1 l1 f3).bind fun f6=>((Bzw.f k1 f6 l0).bind fun f9=>(if f9≤0 then(Czq.l0 k1 l0 l1 (wrap64 (Int.tdiv (wrap64 ((wrap64 (e6+e7))+1)) 2)) e7) else(Czq.l0 k1 l0 l1 e6 (wrap64 ((wrap64 (Int.tdiv (wrap64 ((wrap64 (e6+e7))+1)) 2)) - 1))))))=some r:=yE f4 H
    have g4:=aM f4;clear f4;obtain⟨f6,g5,H⟩:=bT H;(try dsimp only at H);obtain⟨f9,g6,H⟩:=bT H;(try dsimp only at H);by_cases c6:f9≤0
    ·rw[if_pos c6] at H;have g7:=dE c6;clear c6;have H':=aM H;clear H;go_wp2_with (first|((with_reducible refine gate_dst (N:=18) rfl ?_);refine Kd.R_lit (Kd.int .i64) _ 3 ?hg (N:=18) ?hd (xs:=([wrap64 (Int.tdiv (wrap64 ((wrap64 (e6+e7))+1)) 2)]:List Int)) (inner:=[.int .i64 (wrap64 (Int.tdiv (wrap64 ((wrap64 (e6+e7))+1)) 2))]) (ok:=fun _=>True) (okp:=fun _=>True) ?hr ?hp (fun _ hk=>hk) trivial (Below.refl _ _) (Nat.le_refl _) (by simp) ?_;(case hd=>rfl);(case hg=>rfl);(case hr=>first|(go_simp;done)|(go_simp;rfl));(case hp=>exact(Reps.one (show Kd.M (Kd.int .i64) _ _ _ (wrap64 (Int.tdiv (wrap64 ((wrap64 (e6+e7))+1)) 2)) [.int .i64 (wrap64 (Int.tdiv (wrap64 ((wrap64 (e6+e7))+1)) 2))] from rfl) (Reps.none _ _)));intro g8 g9 j3 hb hg_ hnew_;clear hg_ hnew_;replace j3:=rY g4 j3;have j4:=rL j3;replace HB:=bB hb;clear hb j3;obtain⟨j5,j6,rfl⟩:=Kd.R_slice j4.out)|((with_reducible refine gc 73 rfl ?_);refine gC 73 (some 19) Tryz.func73 #[.slice a8 l1.length b4,.slice j5 f3.length j6] ?_;(with_reducible refine(Azw.calls k1 _ _ l1 _ _ f3 f6 _ ?_ ?_ ?_ ?_ g5.out).mono ?_);exact cB d6;exact d7.out;exact cR j4;exact lR j4;rintro e j7 ⟨j8,rfl,j9,hb⟩;refine⟨_,rfl,?_⟩;have l5:=rL (rn j9 j4);replace j4:=rE j4 j9 hb;replace HB:=bB hb;clear hb j9;obtain⟨l6,l7,rfl⟩:=Kd.R_slice l5.out)|((with_reducible refine gc 105 rfl ?_);refine gC 105 (some 21) Tryz.func105 #[.slice l6 f6.length l7,.slice a6 l0.length a7] ?_;(with_reducible refine(Bzw.calls k1 _ _ f6 _ _ l0 f9 _ ?_ ?_ ?_ ?_ g6.out).mono ?_);exact cR l5;exact lR l5;exact cB b9;exact d0.out;rintro e w' ⟨rfl,⟨nd,rfl⟩⟩;refine⟨_,rfl,?_⟩))
     go_roundg k1
     case measure=>have:=e8.out;omega
     case rel=>exact⟨(wrap64 (Int.tdiv (wrap64 ((wrap64 (e6+e7))+1)) 2)),(e7),sD,sD,H',⟨by have:=e8.out;omega⟩,⟨pB⟩⟩
    ·rw[if_neg c6] at H;have g7:decide (f9≤0)=false:=decide_eq_false c6;clear c6;have H':=aM H;clear H;go_wp2_with (first|((with_reducible refine gate_dst (N:=18) rfl ?_);refine Kd.R_lit (Kd.int .i64) _ 3 ?hg (N:=18) ?hd (xs:=([wrap64 (Int.tdiv (wrap64 ((wrap64 (e6+e7))+1)) 2)]:List Int)) (inner:=[.int .i64 (wrap64 (Int.tdiv (wrap64 ((wrap64 (e6+e7))+1)) 2))]) (ok:=fun _=>True) (okp:=fun _=>True) ?hr ?hp (fun _ hk=>hk) trivial (Below.refl _ _) (Nat.le_refl _) (by simp) ?_;(case hd=>rfl);(case hg=>rfl);(case hr=>first|(go_simp;done)|(go_simp;rfl));(case hp=>exact(Reps.one (show Kd.M (Kd.int .i64) _ _ _ (wrap64 (Int.tdiv (wrap64 ((wrap64 (e6+e7))+1)) 2)) [.int .i64 (wrap64 (Int.tdiv (wrap64 ((wrap64 (e6+e7))+1)) 2))] from rfl) (Reps.none _ _)));intro g8 l8 l9 hb hg_ hnew_;clear hg_ hnew_;replace l9:=rY g4 l9;have j4:=rL l9;replace HB:=bB hb;clear hb l9;obtain⟨m0,m3,rfl⟩:=Kd.R_slice j4.out)|((with_reducible refine gc 73 rfl ?_);refine gC 73 (some 19) Tryz.func73 #[.slice a8 l1.length b4,.slice m0 f3.length m3] ?_;(with_reducible refine(Azw.calls k1 _ _ l1 _ _ f3 f6 _ ?_ ?_ ?_ ?_ g5.out).mono ?_);exact cB d6;exact d7.out;exact cR j4;exact lR j4;rintro e m4 ⟨j8,rfl,j9,hb⟩;refine⟨_,rfl,?_⟩;have l5:=rL (rn j9 j4);replace j4:=rE j4 j9 hb;replace HB:=bB hb;clear hb j9;obtain⟨m5,m6,rfl⟩:=Kd.R_slice l5.out)|((with_reducible refine gc 105 rfl ?_);refine gC 105 (some 21) Tryz.func105 #[.slice m5 f6.length m6,.slice a6 l0.length a7] ?_;(with_reducible refine(Bzw.calls k1 _ _ f6 _ _ l0 f9 _ ?_ ?_ ?_ ?_ g6.out).mono ?_);exact cR l5;exact lR l5;exact cB b9;exact d0.out;rintro e w' ⟨rfl,⟨nd,rfl⟩⟩;refine⟨_,rfl,?_⟩))
     go_roundg k1
     case measure=>have:=e8.out;omega
     case rel=>exact⟨(e6),(wrap64 ((wrap64 (Int.tdiv (wrap64 ((wrap64 (e6+e7))+1)) 2)) - 1)),sD,sD,H',⟨by have:=e8.out;omega⟩,⟨pB⟩⟩
   ·rw[if_neg c3] at H;have e9:decide (e6 < e7)=false:=decide_eq_false c3;clear c3;obtain rfl:=Option.some.inj H;go_wp2
    go_ret
    exact⟨eW,pB⟩


def Bzp.l0:Nat→List Int→List Int→List Int→Int→Int→Option (List Int)
 | 0,_,_,_,_,_=>none
 | k+1,x0,x1,x5,x6,x7=>if x7 < (x0.length:Int) then(if 0≤x7 then((Ezq.f x1 x7).bind fun t769=>(if(wrap64 ((wrap64 ((rd x0 x7) - t769)) - x6)) < 0 then(if x5.length < 17592186044416 then(Bzp.l0 k x0 x1 (x5 ++ [wrap64 ((wrap64 ((wrap64 ((rd x0 x7) - t769)) - x6))+1000000000)]) 1 (wrap64 (x7+1))) else(none)) else(if x5.length < 17592186044416 then(Bzp.l0 k x0 x1 (x5 ++ [wrap64 ((wrap64 ((rd x0 x7) - t769)) - x6)]) 0 (wrap64 (x7+1))) else(none)))) else(none)) else((Bzy.f k x5).bind fun bt776=>(some bt776.1))
def Bzp.f (k:Nat) (l0:List Int) (l1:List Int):Option (List Int):=Bzp.l0 k l0 l1 ([]:List Int) 0 0
theorem Bzp.mono_l:∀ k,(∀ a6 a7 a8 b4 b5,LeO (Bzp.l0 k a6 a7 a8 b4 b5) (Bzp.l0 (k+1) a6 a7 a8 b4 b5))
 | 0=>fun _ _ _ _ _ r h=>by simp [Bzp.l0] at h
 | k+1=>by
  have ih0:=Bzp.mono_l k
  ·intro a6 a7 a8 b4 b5;unfold Bzp.l0;have i0:=@Bzy.mono;exact mM
theorem Bzp.mono:∀ a6 a7 k,LeO (Bzp.f k a6 a7) (Bzp.f (k+1) a6 a7):=by
 intro a6 a7 k;have ih0:=Bzp.mono_l k;unfold Bzp.f;have i0:=@Bzy.mono;exact mM
theorem Bzp.calls (k:Nat) (a6:Option Addr) (a7:Nat) (l0:List Int) (a8:Option Addr) (b4:Nat) (l1:List Int) (r:List Int) (w:World) (b5:Kd.C (Kd.int .i64) w a6 l0.length l0) (b6:l0.length≤a7) (b7:Kd.C (Kd.int .i64) w a8 l1.length l1) (b8:l1.length≤b4) (h:Bzp.f k l0 l1=some r) :
  Calls Tryz.prog 91 #[.slice a6 l0.length a7,.slice a8 l1.length b4] w fun e w'=>∃ v0_:Value,e=.returned (v0_)∧Kd.R (Kd.int .i64) 3 w' w.heap.size (fun _=>True) v0_ r∧Below w.heap.size w w':=by
 have b9:=aM b5;have d0:=aM b6;clear b5 b6;have d6:=aM b7;have d7:=aM b8;clear b7 b8;have HB:=aM (Below.refl w.heap.size w);have H:(Bzp.l0 k l0 l1 ([]:List Int) 0 0)=some r:=h;clear h;have H':=aM H;clear H;go_enter Tryz.func91,Tryz.ntmps91
 go_wp2
 repeat(go_quiet (fail);try go_wp2)
 go_loopg [5,6,7] k (fun kq d8 d9 e6 w'=>∃ (e7:List Int) (e8:Int) (e9:Int),d9=.int .i64 e8∧e6=.int .i64 e9∧Aside0 (Bzp.l0 kq l0 l1 e7 e8 e9=some r)∧Aside0 (kq≤k)∧Aside0 (Kd.R (Kd.int .i64) 3 w' w.heap.size (fun _=>True) d8 e7)∧Aside0 (Below w.heap.size w w'))
 case atStart=>exact⟨(([]:List Int)),(0),(0),sD,sD,H',⟨Nat.le_refl _⟩,⟨nK⟩,⟨pB⟩⟩
 case round =>
  clear H';try clear b4
  obtain⟨e7,e8,e9,rfl,rfl,HA,f3,f4,HB⟩:=hrel;cases gk with
  | zero=>exact absurd HA.out (by simp [Bzp.l0])
  | succ k1 =>
   have H:=HA.out;clear HA;simp only[Bzp.l0] at H;by_cases c3:e9 < (l0.length:Int)
   ·rw[if_pos c3] at H;have f6:=dE c3;clear c3;obtain⟨f9,H⟩:=iN H;obtain⟨g4,g5,H⟩:=bT H;(try dsimp only at H);by_cases c6:(wrap64 ((wrap64 ((rd l0 e9) - g4)) - e8)) < 0
    ·rw[if_pos c6] at H;have g6:decide ((wrap64 ((wrap64 ((rd l0 e9) - g4)) - e8)) < 0)=true:=dE c6;have g7:decide ((IntKind.i64.wrap ((IntKind.i64.wrap ((rd l0 e9) - g4)) - e8)) < 0)=true:=by have h_:=g6;first|exact h_|(simp only[i64_w];exact h_)
     clear c6;obtain⟨c7,H⟩:=iO H;have LMc7:=aM c7;clear c7;obtain⟨g8,g9⟩:∃ y_:List Int,y_=(e7 ++ [wrap64 ((wrap64 ((wrap64 ((rd l0 e9) - g4)) - e8))+1000000000)]):=⟨_,rfl⟩;replace H:(Bzp.l0 k1 l0 l1 g8 1 (wrap64 (e9+1)))=some r:=yE g9 H
     have j3:=aM g9;clear g9;have H':=aM H;clear H;obtain⟨j4,j5,j6,j7,j8⟩:=aI b9.out e9;cases j5
     replace j6:=hB HB j6;have fl_:True:=trivial;repeat((first|clear fl_|go_quiet (first|(go_at_call 89;(with_reducible refine(Ezq.calls _ _ l1 e9 g4 _ ?_ ?_ g5.out).mono ?_);exact cB d6;exact d7.out;rintro e w' ⟨rfl,⟨nd,rfl⟩⟩;(try exact dD))|((with_reducible refine gate_builtin (b:=.append) (xs:=#[.tmp 29,.tmp 31]) rfl ?_);at_builtin;refine Kd.R_append (Kd.int .i64) (w0:=w) w.heap.size rfl (.tmp 29) (.tmp 31) 24 3 (.int .i64 0) 8 rfl Tryz.underlying24 info3 rfl (by decide) (by omega) u5 e7 (wrap64 ((wrap64 ((wrap64 ((rd l0 e9) - g4)) - e8))+1000000000)) [.int .i64 (wrap64 ((wrap64 ((wrap64 ((rd l0 e9) - g4)) - e8))+1000000000))] (fun _=>True) (fun _=>False) rfl rfl ?aP (fun _ hk=>hk.elim) ?aF ?aO ?aB ?aS ?aL ?_;(case aP=>exact rfl);(case aB=>exact pB);(case aF=>exact(fun _ _=>trivial));(case aO=>exact(rX f4.out));(case aS=>exact(below_size pB));(case aL=>have:=LMc7.out;omega);intro j9 l5 ho hb hg hat;rw[← j3.out] at ho;have l6:=aM (ho);replace HB:=aM (hb);clear f4 ho hb hg hat)));go_wp2_with (first|(go_at_call 89;(with_reducible refine(Ezq.calls _ _ l1 e9 g4 _ ?_ ?_ g5.out).mono ?_);exact cB d6;exact d7.out;rintro e w' ⟨rfl,⟨nd,rfl⟩⟩;(try exact dD))|((with_reducible refine gate_builtin (b:=.append) (xs:=#[.tmp 29,.tmp 31]) rfl ?_);at_builtin;refine Kd.R_append (Kd.int .i64) (w0:=w) w.heap.size rfl (.tmp 29) (.tmp 31) 24 3 (.int .i64 0) 8 rfl Tryz.underlying24 info3 rfl (by decide) (by omega) u5 e7 (wrap64 ((wrap64 ((wrap64 ((rd l0 e9) - g4)) - e8))+1000000000)) [.int .i64 (wrap64 ((wrap64 ((wrap64 ((rd l0 e9) - g4)) - e8))+1000000000))] (fun _=>True) (fun _=>False) rfl rfl ?aP (fun _ hk=>hk.elim) ?aF ?aO ?aB ?aS ?aL ?_;(case aP=>exact rfl);(case aB=>exact pB);(case aF=>exact(fun _ _=>trivial));(case aO=>exact(rX f4.out));(case aS=>exact(below_size pB));(case aL=>have:=LMc7.out;omega);intro j9 l5 ho hb hg hat;rw[← j3.out] at ho;have l6:=aM (ho);replace HB:=aM (hb);clear f4 ho hb hg hat)))
     go_roundg k1
     case measure=>have:=f3.out;omega
     case rel=>exact⟨(g8),(1),(wrap64 (e9+1)),sD,sD,H',⟨by have:=f3.out;omega⟩,⟨rX l6.out⟩,⟨pB⟩⟩
    ·rw[if_neg c6] at H;have g6:decide ((wrap64 ((wrap64 ((rd l0 e9) - g4)) - e8)) < 0)=false:=decide_eq_false c6;have g7:decide ((IntKind.i64.wrap ((IntKind.i64.wrap ((rd l0 e9) - g4)) - e8)) < 0)=false:=by have h_:=g6;first|exact h_|(simp only[i64_w];exact h_)
     clear c6;obtain⟨c9,H⟩:=iO H;have LMc9:=aM c9;clear c9;obtain⟨l7,l8⟩:∃ y_:List Int,y_=(e7 ++ [wrap64 ((wrap64 ((rd l0 e9) - g4)) - e8)]):=⟨_,rfl⟩;replace H:(Bzp.l0 k1 l0 l1 l7 0 (wrap64 (e9+1)))=some r:=yE l8 H
     have l9:=aM l8;clear l8;have H':=aM H;clear H;obtain⟨j4,j5,j6,j7,j8⟩:=aI b9.out e9;cases j5
     replace j6:=hB HB j6;have fl_:True:=trivial;repeat((first|clear fl_|go_quiet (first|(go_at_call 89;(with_reducible refine(Ezq.calls _ _ l1 e9 g4 _ ?_ ?_ g5.out).mono ?_);exact cB d6;exact d7.out;rintro e w' ⟨rfl,⟨nd,rfl⟩⟩;(try exact dD))|((with_reducible refine gate_builtin (b:=.append) (xs:=#[.tmp 29,.tmp 31]) rfl ?_);at_builtin;refine Kd.R_append (Kd.int .i64) (w0:=w) w.heap.size rfl (.tmp 29) (.tmp 31) 24 3 (.int .i64 0) 8 rfl Tryz.underlying24 info3 rfl (by decide) (by omega) u5 e7 (wrap64 ((wrap64 ((rd l0 e9) - g4)) - e8)) [.int .i64 (wrap64 ((wrap64 ((rd l0 e9) - g4)) - e8))] (fun _=>True) (fun _=>False) rfl rfl ?aP (fun _ hk=>hk.elim) ?aF ?aO ?aB ?aS ?aL ?_;(case aP=>exact rfl);(case aB=>exact pB);(case aF=>exact(fun _ _=>trivial));(case aO=>exact(rX f4.out));(case aS=>exact(below_size pB));(case aL=>have:=LMc9.out;omega);intro m0 m3 ho hb hg hat;rw[← l9.out] at ho;have m4:=aM (ho);replace HB:=aM (hb);clear f4 ho hb hg hat)));go_wp2_with (first|(go_at_call 89;(with_reducible refine(Ezq.calls _ _ l1 e9 g4 _ ?_ ?_ g5.out).mono ?_);exact cB d6;exact d7.out;rintro e w' ⟨rfl,⟨nd,rfl⟩⟩;(try exact dD))|((with_reducible refine gate_builtin (b:=.append) (xs:=#[.tmp 29,.tmp 31]) rfl ?_);at_builtin;refine Kd.R_append (Kd.int .i64) (w0:=w) w.heap.size rfl (.tmp 29) (.tmp 31) 24 3 (.int .i64 0) 8 rfl Tryz.underlying24 info3 rfl (by decide) (by omega) u5 e7 (wrap64 ((wrap64 ((rd l0 e9) - g4)) - e8)) [.int .i64 (wrap64 ((wrap64 ((rd l0 e9) - g4)) - e8))] (fun _=>True) (fun _=>False) rfl rfl ?aP (fun _ hk=>hk.elim) ?aF ?aO ?aB ?aS ?aL ?_;(case aP=>exact rfl);(case aB=>exact pB);(case aF=>exact(fun _ _=>trivial));(case aO=>exact(rX f4.out));(case aS=>exact(below_size pB));(case aL=>have:=LMc9.out;omega);intro m0 m3 ho hb hg hat;rw[← l9.out] at ho;have m4:=aM (ho);replace HB:=aM (hb);clear f4 ho hb hg hat)))
     go_roundg k1
     case measure=>have:=f3.out;omega
     case rel=>exact⟨(l7),(0),(wrap64 (e9+1)),sD,sD,H',⟨by have:=f3.out;omega⟩,⟨rX m4.out⟩,⟨pB⟩⟩
   ·rw[if_neg c3] at H;have f6:decide (e9 < (l0.length:Int))=false:=decide_eq_false c3;clear c3;replace H:=bS H;obtain⟨⟨m5,m6⟩,m7,H⟩:=H;replace H:(some m5)=some r:=H;have m8:=aM m7;clear m7;obtain rfl:=Option.some.inj H;obtain⟨m9,n0,rfl⟩:=Kd.R_slice f4.out;have fl_:True:=trivial;repeat((first|clear fl_|go_quiet (first|(go_at_call 72;(with_reducible refine(Bzy.calls k1 _ _ e7 m5 m6 _ ?_ ?_ m8.out).mono ?_);exact cR f4;exact lR f4;rintro e n6 ⟨n7,rfl,n8,hb⟩;have n9:=rL (rn n8 f4);replace f4:=rE f4 n8 hb;replace HB:=bB hb;clear hb n8)));go_wp2_with (first|(go_at_call 72;(with_reducible refine(Bzy.calls k1 _ _ e7 m5 m6 _ ?_ ?_ m8.out).mono ?_);exact cR f4;exact lR f4;rintro e n6 ⟨n7,rfl,n8,hb⟩;have n9:=rL (rn n8 f4);replace f4:=rE f4 n8 hb;replace HB:=bB hb;clear hb n8)))
    go_ret
    exact⟨_,eW,by exact rX (Kd.R_mono n9.out (fun _ hk=>trivial)),pB⟩

end Go.Proofs.YtokkiljkgejnhaaGreat.Print
