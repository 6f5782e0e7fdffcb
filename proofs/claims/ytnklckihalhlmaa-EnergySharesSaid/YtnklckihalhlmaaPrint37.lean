import Derived.Test.YtnklckihalhlmaaPrint0
import Derived.Test.YtnklckihalhlmaaPrint34
namespace Go.Proofs.Ytnklckihalhlmaa.Print
open Go.RowKit Go.Proofs.YtnklckihalhlmaaW.PrintWords Go.Proofs.YtnklckihalhlmaaW.PrintLast Go.Proofs.YtnklckihalhlmaaW.PrintMore
attribute [local go_sem] max2_int min2_int max_two min_two max_three min_three max_four min_four
set_option linter.unusedVariables false
set_option maxRecDepth 100000
set_option maxHeartbeats 8000000
set_option linter.unusedSimpArgs false

mutual
def Azp.l0:Nat→List Int→List Int→List Int→Int→Option (List Int)
 | 0,_,_,_,_=>none
 | k+1,x0,x1,x5,x6=>if x6 < (x0.length:Int) then(Azp.l1 k x0 x1 x5 x6 0 0) else(Azp.l2 k x5 (x5.length:Int))
def Azp.l1:Nat→List Int→List Int→List Int→Int→Int→Int→Option (List Int)
 | 0,_,_,_,_,_,_=>none
 | k+1,x0,x1,x5,x6,x7,x8=>if x8 < (x1.length:Int) then(if 0≤(wrap64 (x6+x8)) then(if(wrap64 (x6+x8)) < (x5.length:Int) then(if 0≤x6 then(if x6 < (x0.length:Int) then((Ezp.f x1 x8).bind fun t515=>(Azp.l1 k x0 x1 (x5.set ((wrap64 (x6+x8)):Int).toNat (Int.tmod (wrap64 ((wrap64 ((rd x5 (wrap64 (x6+x8)))+(wrap64 ((rd x0 x6) * t515))))+x7)) 1000000000)) x6 (wrap64 (Int.tdiv (wrap64 ((wrap64 ((rd x5 (wrap64 (x6+x8)))+(wrap64 ((rd x0 x6) * t515))))+x7)) 1000000000)) (wrap64 (x8+1)))) else(none)) else(none)) else(none)) else(none)) else(if x7 > 0 then(if 0≤(wrap64 (x6+x8)) then(if(wrap64 (x6+x8)) < (x5.length:Int) then(if 0≤x6 then(if x6 < (x0.length:Int) then((Ezp.f x1 x8).bind fun t519=>(Azp.l1 k x0 x1 (x5.set ((wrap64 (x6+x8)):Int).toNat (Int.tmod (wrap64 ((wrap64 ((rd x5 (wrap64 (x6+x8)))+(wrap64 ((rd x0 x6) * t519))))+x7)) 1000000000)) x6 (wrap64 (Int.tdiv (wrap64 ((wrap64 ((rd x5 (wrap64 (x6+x8)))+(wrap64 ((rd x0 x6) * t519))))+x7)) 1000000000)) (wrap64 (x8+1)))) else(none)) else(none)) else(none)) else(none)) else(Azp.l0 k x0 x1 x5 (wrap64 (x6+1))))
def Azp.l2:Nat→List Int→Int→Option (List Int)
 | 0,_,_=>none
 | k+1,x5,x10=>if x10 > 0 then(if 0≤(wrap64 (x10 - 1)) then(if(wrap64 (x10 - 1)) < (x5.length:Int) then(if(rd x5 (wrap64 (x10 - 1)))=0 then(Azp.l2 k x5 (wrap64 (x10 - 1))) else(if 0≤x10 then(if x10≤(x5.length:Int) then(some (x5.take (x10:Int).toNat)) else(none)) else(none))) else(none)) else(none)) else(if 0≤x10 then(if x10≤(x5.length:Int) then(some (x5.take (x10:Int).toNat)) else(none)) else(none))
end
def Azp.f (k:Nat) (l0:List Int) (l1:List Int):Option (List Int):=if 0≤(wrap64 ((l0.length:Int)+(l1.length:Int))) then(if(wrap64 ((l0.length:Int)+(l1.length:Int)):Int).toNat≤35184372088832 then(Azp.l0 k l0 l1 (List.replicate (wrap64 ((l0.length:Int)+(l1.length:Int)):Int).toNat 0) 0) else(none)) else(none)
theorem Azp.mono_l:∀ k,(∀ a6 a7 a8 a9,LeO (Azp.l0 k a6 a7 a8 a9) (Azp.l0 (k+1) a6 a7 a8 a9))∧(∀ a6 a7 a8 a9 b3 b4,LeO (Azp.l1 k a6 a7 a8 a9 b3 b4) (Azp.l1 (k+1) a6 a7 a8 a9 b3 b4))∧(∀ a6 a7,LeO (Azp.l2 k a6 a7) (Azp.l2 (k+1) a6 a7))
 | 0=>⟨fun _ _ _ _ r h=>by simp [Azp.l0] at h,fun _ _ _ _ _ _ r h=>by simp [Azp.l1] at h,fun _ _ r h=>by simp [Azp.l2] at h⟩
 | k+1=>by
  obtain⟨ih0,ih1,ih2⟩:=Azp.mono_l k;refine⟨?_,?_,?_⟩
  ·intro a6 a7 a8 a9;unfold Azp.l0;exact mM
  ·intro a6 a7 a8 a9 b3 b4;unfold Azp.l1;exact mM
  ·intro a6 a7;unfold Azp.l2;exact mM
theorem Azp.mono:∀ a6 a7 k,LeO (Azp.f k a6 a7) (Azp.f (k+1) a6 a7):=by
 intro a6 a7 k;obtain⟨ih0,ih1,ih2⟩:=Azp.mono_l k;unfold Azp.f;exact mM
theorem Azp.calls (k:Nat) (a6:Option Addr) (a7:Nat) (l0:List Int) (a8:Option Addr) (a9:Nat) (l1:List Int) (r:List Int) (w:World) (b3:Kd.C (Kd.int .i64) w a6 l0.length l0) (b4:l0.length≤a7) (b5:Kd.C (Kd.int .i64) w a8 l1.length l1) (b6:l1.length≤a9) (h:Azp.f k l0 l1=some r) :
  Calls Try.prog 66 #[.slice a6 l0.length a7,.slice a8 l1.length a9] w fun e w'=>∃ v0_:Value,e=.returned (v0_)∧Kd.R (Kd.int .i64) 3 w' w.heap.size (fun _=>True) v0_ r∧Below w.heap.size w w':=by
 have b7:=aM b3;have b8:=aM b4;clear b3 b4;have b9:=aM b5;have d0:=aM b6;clear b5 b6;have HB:=aM (Below.refl w.heap.size w);have H:(if 0≤(wrap64 ((l0.length:Int)+(l1.length:Int))) then(if(wrap64 ((l0.length:Int)+(l1.length:Int)):Int).toNat≤35184372088832 then(Azp.l0 k l0 l1 (List.replicate (wrap64 ((l0.length:Int)+(l1.length:Int)):Int).toNat 0) 0) else(none)) else(none))=some r:=h
 clear h;obtain⟨d1,d3⟩:∃ j_:Int,(wrap64 ((l0.length:Int)+(l1.length:Int)))=j_:=⟨_,rfl⟩;replace H:(if 0≤(d1) then(if(d1:Int).toNat≤35184372088832 then(Azp.l0 k l0 l1 (List.replicate (d1:Int).toNat 0) 0) else(none)) else(none))=some r:=by first|(rw[d3] at H;exact H)|(simp only[d3] at H ⊢;exact H)
 have d4:(IntKind.i64.wrap ((l0.length:Int)+(l1.length:Int)))=d1:=(i64_w _).trans d3;(try rw[d3] at d5)
 (try rw[d3] at d6)
 by_cases c4:0≤(d1)
 ·rw[if_pos c4] at H;have d7:=eq_true c4;have d8:=dE c4;clear c4;obtain⟨c5,H⟩:=iO H;have d9:=eq_true c5;have e6:decide ((d1:Int).toNat≤35184372088832)=true:=dE c5;clear c5;obtain⟨e7,e8⟩:∃ y_:List Int,y_=(List.replicate (d1:Int).toNat 0):=⟨_,rfl⟩;replace H:(Azp.l0 k l0 l1 e7 0)=some r:=yE e8 H
  have f3:=aM e8;clear e8;have H':=aM H;clear H;go_enter Try.func66,Try.ntmps66
  have fl_:True:=trivial;repeat((first|clear fl_|go_quiet (first|((with_reducible refine gate_dst (N:=16) rfl ?_);refine Kd.R_make (Kd.int .i64) _ 3 rfl (N:=16) rfl 37 _ _ rfl d1 rfl rfl Try.underlying37 (.int .i64 0) 8 info3 rfl (by decide) (by omega) 0 (ok:=fun _=>True) (okp:=fun _=>True) rfl (fun _ hk=>hk) trivial (oE aS) (Nat.le_trans (Nat.mul_le_mul_right _ (oE aS:d1.toNat≤35184372088832)) (by omega)) (Below.refl _ _) (Nat.le_refl _) ?_;intro f4 f5 f6 hb hg_ hnew_;clear hg_ hnew_;replace f6:=rY f3 f6;have f7:=rL f6;replace HB:=bB hb;clear hb f6)));go_wp2_with (first|((with_reducible refine gate_dst (N:=16) rfl ?_);refine Kd.R_make (Kd.int .i64) _ 3 rfl (N:=16) rfl 37 _ _ rfl d1 rfl rfl Try.underlying37 (.int .i64 0) 8 info3 rfl (by decide) (by omega) 0 (ok:=fun _=>True) (okp:=fun _=>True) rfl (fun _ hk=>hk) trivial (oE aS) (Nat.le_trans (Nat.mul_le_mul_right _ (oE aS:d1.toNat≤35184372088832)) (by omega)) (Below.refl _ _) (Nat.le_refl _) ?_;intro f4 f5 f6 hb hg_ hnew_;clear hg_ hnew_;replace f6:=rY f3 f6;have f7:=rL f6;replace HB:=bB hb;clear hb f6)))
  go_loopg [6] k (fun kq f8 w'=>∃ (f9:List Int) (g6:Int),f8=.int .i64 g6∧Aside0 (Azp.l0 kq l0 l1 f9 g6=some r)∧Aside0 (kq≤k)∧Aside0 (Kd.R (Kd.int .i64) 3 w' w.heap.size (fun _=>True) f4 f9)∧Aside0 (Below w.heap.size w w'))
  case atStart=>exact⟨(e7),(0),sD,H',⟨Nat.le_refl _⟩,⟨rX f7.out⟩,⟨pB⟩⟩
  case round =>
   clear H';try clear a9
   obtain⟨f9,g6,rfl,HA,g7,g8,HB⟩:=hrel;cases gk with
   | zero=>exact absurd HA.out (by simp [Azp.l0])
   | succ k1 =>
    have H:=HA.out;clear HA;simp only[Azp.l0] at H;by_cases c8:g6 < (l0.length:Int)
    ·rw[if_pos c8] at H;have g9:=dE c8;clear c8;have H':=aM H;clear H;go_wp2
     repeat(go_quiet (fail);try go_wp2)
     go_loopg [7,8] k1 (fun kq j5 j9 w'=>∃ (l5:List Int) (l6:Int) (l7:Int),j5=.int .i64 l6∧j9=.int .i64 l7∧Aside0 (Azp.l1 kq l0 l1 l5 g6 l6 l7=some r)∧Aside0 (kq≤k1)∧Aside0 (Kd.R (Kd.int .i64) 3 w' w.heap.size (fun _=>True) f4 l5)∧Aside0 (Below w.heap.size w w'))
     case atStart=>exact⟨(f9),(0),(0),sD,sD,H',⟨Nat.le_refl _⟩,⟨rX g8.out⟩,⟨pB⟩⟩
     case round =>
      clear H';try clear a9
      obtain⟨l5,l6,l7,rfl,rfl,HA,l8,g8,HB⟩:=hrel;cases gk with
      | zero=>exact absurd HA.out (by simp [Azp.l1])
      | succ k2 =>
       have H:=HA.out;clear HA;simp only[Azp.l1] at H;by_cases c9:l7 < (l1.length:Int)
       ·rw[if_pos c9] at H;have l9:=dE c9;clear c9;obtain⟨m4,m5⟩:∃ j_:Int,(wrap64 (g6+l7))=j_:=⟨_,rfl⟩;replace H:(if 0≤(m4) then(if(m4) < (l5.length:Int) then(if 0≤g6 then(if g6 < (l0.length:Int) then((Ezp.f l1 l7).bind fun m6=>(Azp.l1 k2 l0 l1 (l5.set ((m4):Int).toNat (Int.tmod (wrap64 ((wrap64 ((rd l5 (m4))+(wrap64 ((rd l0 g6) * m6))))+l6)) 1000000000)) g6 (wrap64 (Int.tdiv (wrap64 ((wrap64 ((rd l5 (m4))+(wrap64 ((rd l0 g6) * m6))))+l6)) 1000000000)) (wrap64 (l7+1)))) else(none)) else(none)) else(none)) else(none))=some r:=by first|(rw[m5] at H;exact H)|(simp only[m5] at H ⊢;exact H)
        have m7:(IntKind.i64.wrap (g6+l7))=m4:=(i64_w _).trans m5;obtain⟨m8,H⟩:=iN H;obtain⟨m9,H⟩:=iN H;obtain⟨n0,H⟩:=iN H;obtain⟨n1,H⟩:=iN H;obtain⟨m6,n2,H⟩:=bT H;(try dsimp only at H);obtain⟨n3,n4⟩:∃ y_:List Int,y_=(l5.set ((m4):Int).toNat (Int.tmod (wrap64 ((wrap64 ((rd l5 (m4))+(wrap64 ((rd l0 g6) * m6))))+l6)) 1000000000)):=⟨_,rfl⟩;replace H:(Azp.l1 k2 l0 l1 n3 g6 (wrap64 (Int.tdiv (wrap64 ((wrap64 ((rd l5 (m4))+(wrap64 ((rd l0 g6) * m6))))+l6)) 1000000000)) (wrap64 (l7+1)))=some r:=yE n4 H
        have n5:=aM n4;clear n4;have H':=aM H;clear H;obtain⟨n6,n7,rfl⟩:=Kd.R_slice g8.out;obtain⟨n8,n9,o0,o1,o2⟩:=aI (Kd.R_reads' g8.out).2.2 (m4);cases n9;obtain⟨o3,o4,o5,o6,o7⟩:=aI b7.out g6;cases o4
        replace o5:=hB HB o5;have fl_:True:=trivial;repeat((first|clear fl_|go_quiet (first|(go_at_call 85;(with_reducible refine(Ezp.calls _ _ l1 l7 m6 _ ?_ ?_ n2.out).mono ?_);exact cB b9;exact d0.out;rintro e w' ⟨rfl,⟨nd,rfl⟩⟩;(try exact dD);have o8:0≤((m4):Int):=oE aS;have o9:((m4):Int) < ((l5.length:Int):Int):=oE aS;obtain⟨p3,p7,p9,r5,r6,r7,r8⟩:=Kd.R_form g8.out (by omega);(first|cases p9|(injection p9 with ea_ en_ ec_;(first|subst ea_|(injection ea_ with ea_;subst ea_));subst ec_;clear en_));have r9:=aM r5;have t0:=aM r8;clear r5 r6 r8;(first|simp only[add_plain] at o0|skip);obtain⟨t1,t2⟩:=Kd.R_celln 0 g8.out ((m4):Int) o8 o9;replace o8:=eq_true o8;replace o9:=eq_true o9;obtain⟨t3,hz18_⟩:=Kd.R_celln 0 g8.out ((m4):Int) (oE aS) (oE aS);have t4:=Kd.R_putg g8.out ((m4):Int) (Int.tmod (wrap64 ((wrap64 ((rd l5 (m4))+(wrap64 ((rd l0 g6) * m6))))+l6)) 1000000000))|((with_reducible refine gate_store (t:=3) (p:=56) rfl ?_);(try(rw[drewN_self wr];generalize hq_:World.drewN wr _=wr;have n0_:=aM (Kd.R_at hq_ g8.out);have n1_:=aM (below_at hq_ HB.out);clear hq_ g8 HB;have g8:=n0_;have HB:=n1_;clear n0_ n1_;(try(obtain⟨t3,hz18_⟩:=Kd.R_celln 0 g8.out ((m4):Int) (oE aS) (oE aS)));(try(have t4:=Kd.R_putg g8.out ((m4):Int) (Int.tmod (wrap64 ((wrap64 ((rd l5 (m4))+(wrap64 ((rd l0 g6) * m6))))+l6)) 1000000000)))));refine store_event (t:=3) (p:=56) (v:=?vo_w19) (w1:=(wr.setCell ⟨p3,((m4):Int).toNat,none⟩ (.int .i64 (Int.tmod (wrap64 ((wrap64 ((rd l5 (m4))+(wrap64 ((rd l0 g6) * m6))))+l6)) 1000000000)))) ?hg ?ho ?hn ?hr ?_;(case ho=>rfl);(case hg=>rfl);(case hn=>rfl);(case hr=>first|(go_simp;done)|(go_simp;rfl));intro t5 hw;have hg:wr.grownBy t5 (some p3):=(by rw[hw];exact t4.2);have hp_:Kd.R (Kd.int .i64) 3 t5 w.heap.size (fun _=>True) (.slice (some ⟨p3,0,none⟩) l5.length n7) n3:=(by rw[hw,n5.out];exact t4.1);clear t4;replace g8:=aM (hp_);replace HB:=aM ((by rw[hw];exact below_set (HB.out) r9.out:Below w.heap.size w t5));clear hg hw hp_)));go_wp2_with (first|(go_at_call 85;(with_reducible refine(Ezp.calls _ _ l1 l7 m6 _ ?_ ?_ n2.out).mono ?_);exact cB b9;exact d0.out;rintro e w' ⟨rfl,⟨nd,rfl⟩⟩;(try exact dD);have o8:0≤((m4):Int):=oE aS;have o9:((m4):Int) < ((l5.length:Int):Int):=oE aS;obtain⟨p3,p7,p9,r5,r6,r7,r8⟩:=Kd.R_form g8.out (by omega);(first|cases p9|(injection p9 with ea_ en_ ec_;(first|subst ea_|(injection ea_ with ea_;subst ea_));subst ec_;clear en_));have r9:=aM r5;have t0:=aM r8;clear r5 r6 r8;(first|simp only[add_plain] at o0|skip);obtain⟨t1,t2⟩:=Kd.R_celln 0 g8.out ((m4):Int) o8 o9;replace o8:=eq_true o8;replace o9:=eq_true o9;obtain⟨t3,hz18_⟩:=Kd.R_celln 0 g8.out ((m4):Int) (oE aS) (oE aS);have t4:=Kd.R_putg g8.out ((m4):Int) (Int.tmod (wrap64 ((wrap64 ((rd l5 (m4))+(wrap64 ((rd l0 g6) * m6))))+l6)) 1000000000))|((with_reducible refine gate_store (t:=3) (p:=56) rfl ?_);(try(rw[drewN_self wr];generalize hq_:World.drewN wr _=wr;have n0_:=aM (Kd.R_at hq_ g8.out);have n1_:=aM (below_at hq_ HB.out);clear hq_ g8 HB;have g8:=n0_;have HB:=n1_;clear n0_ n1_;(try(obtain⟨t3,hz18_⟩:=Kd.R_celln 0 g8.out ((m4):Int) (oE aS) (oE aS)));(try(have t4:=Kd.R_putg g8.out ((m4):Int) (Int.tmod (wrap64 ((wrap64 ((rd l5 (m4))+(wrap64 ((rd l0 g6) * m6))))+l6)) 1000000000)))));refine store_event (t:=3) (p:=56) (v:=?vo_w19) (w1:=(wr.setCell ⟨p3,((m4):Int).toNat,none⟩ (.int .i64 (Int.tmod (wrap64 ((wrap64 ((rd l5 (m4))+(wrap64 ((rd l0 g6) * m6))))+l6)) 1000000000)))) ?hg ?ho ?hn ?hr ?_;(case ho=>rfl);(case hg=>rfl);(case hn=>rfl);(case hr=>first|(go_simp;done)|(go_simp;rfl));intro t5 hw;have hg:wr.grownBy t5 (some p3):=(by rw[hw];exact t4.2);have hp_:Kd.R (Kd.int .i64) 3 t5 w.heap.size (fun _=>True) (.slice (some ⟨p3,0,none⟩) l5.length n7) n3:=(by rw[hw,n5.out];exact t4.1);clear t4;replace g8:=aM (hp_);replace HB:=aM ((by rw[hw];exact below_set (HB.out) r9.out:Below w.heap.size w t5));clear hg hw hp_)))
        go_roundg k2
        case measure=>have:=g7.out;have:=l8.out;omega
        case rel=>exact⟨(n3),(wrap64 (Int.tdiv (wrap64 ((wrap64 ((rd l5 (m4))+(wrap64 ((rd l0 g6) * m6))))+l6)) 1000000000)),(wrap64 (l7+1)),(by first|rfl|(simp;done)|(simp only[← m5] <;> (first|rfl|simp))|(simp [*];done)),sD,H',⟨by have:=g7.out;have:=l8.out;omega⟩,⟨rX g8.out⟩,⟨pB⟩⟩
       ·rw[if_neg c9] at H;have l9:decide (l7 < (l1.length:Int))=false:=decide_eq_false c9;clear c9;by_cases t6:l6 > 0
        ·rw[if_pos t6] at H;have t7:decide (0 < l6)=true:=dE t6;clear t6;obtain⟨t8,t9⟩:∃ j_:Int,(wrap64 (g6+l7))=j_:=⟨_,rfl⟩;replace H:(if 0≤(t8) then(if(t8) < (l5.length:Int) then(if 0≤g6 then(if g6 < (l0.length:Int) then((Ezp.f l1 l7).bind fun z3=>(Azp.l1 k2 l0 l1 (l5.set ((t8):Int).toNat (Int.tmod (wrap64 ((wrap64 ((rd l5 (t8))+(wrap64 ((rd l0 g6) * z3))))+l6)) 1000000000)) g6 (wrap64 (Int.tdiv (wrap64 ((wrap64 ((rd l5 (t8))+(wrap64 ((rd l0 g6) * z3))))+l6)) 1000000000)) (wrap64 (l7+1)))) else(none)) else(none)) else(none)) else(none))=some r:=by first|(rw[t9] at H;exact H)|(simp only[t9] at H ⊢;exact H)
         have z4:(IntKind.i64.wrap (g6+l7))=t8:=(i64_w _).trans t9;obtain⟨z5,H⟩:=iN H;obtain⟨z6,H⟩:=iN H;obtain⟨z7,H⟩:=iN H;obtain⟨z8,H⟩:=iN H;obtain⟨z3,z9,H⟩:=bT H;(try dsimp only at H);obtain⟨B0,B1⟩:∃ y_:List Int,y_=(l5.set ((t8):Int).toNat (Int.tmod (wrap64 ((wrap64 ((rd l5 (t8))+(wrap64 ((rd l0 g6) * z3))))+l6)) 1000000000)):=⟨_,rfl⟩;replace H:(Azp.l1 k2 l0 l1 B0 g6 (wrap64 (Int.tdiv (wrap64 ((wrap64 ((rd l5 (t8))+(wrap64 ((rd l0 g6) * z3))))+l6)) 1000000000)) (wrap64 (l7+1)))=some r:=yE B1 H
         have B8:=aM B1;clear B1;have H':=aM H;clear H;obtain⟨C0,C1,rfl⟩:=Kd.R_slice g8.out;obtain⟨C2,C3,C4,C6,C7⟩:=aI (Kd.R_reads' g8.out).2.2 (t8);cases C3;obtain⟨C8,C9,D0,D1,D2⟩:=aI b7.out g6;cases C9
         replace D0:=hB HB D0;have fl_:True:=trivial;repeat((first|clear fl_|go_quiet (first|(go_at_call 85;(with_reducible refine(Ezp.calls _ _ l1 l7 z3 _ ?_ ?_ z9.out).mono ?_);exact cB b9;exact d0.out;rintro e w' ⟨rfl,⟨nd,rfl⟩⟩;(try exact dD);have D3:0≤((t8):Int):=oE aS;have D4:((t8):Int) < ((l5.length:Int):Int):=oE aS;obtain⟨D5,D6,D7,D8,D9,E3,E4⟩:=Kd.R_form g8.out (by omega);(first|cases D7|(injection D7 with ea_ en_ ec_;(first|subst ea_|(injection ea_ with ea_;subst ea_));subst ec_;clear en_));have E5:=aM D8;have E6:=aM E4;clear D8 D9 E4;(first|simp only[add_plain] at C4|skip);obtain⟨E7,E8⟩:=Kd.R_celln 0 g8.out ((t8):Int) D3 D4;replace D3:=eq_true D3;replace D4:=eq_true D4;obtain⟨E9,hz29_⟩:=Kd.R_celln 0 g8.out ((t8):Int) (oE aS) (oE aS);have F0:=Kd.R_putg g8.out ((t8):Int) (Int.tmod (wrap64 ((wrap64 ((rd l5 (t8))+(wrap64 ((rd l0 g6) * z3))))+l6)) 1000000000))|((with_reducible refine gate_store (t:=3) (p:=56) rfl ?_);(try(rw[drewN_self wr];generalize hq_:World.drewN wr _=wr;have n0_:=aM (Kd.R_at hq_ g8.out);have n1_:=aM (below_at hq_ HB.out);clear hq_ g8 HB;have g8:=n0_;have HB:=n1_;clear n0_ n1_;(try(obtain⟨E9,hz29_⟩:=Kd.R_celln 0 g8.out ((t8):Int) (oE aS) (oE aS)));(try(have F0:=Kd.R_putg g8.out ((t8):Int) (Int.tmod (wrap64 ((wrap64 ((rd l5 (t8))+(wrap64 ((rd l0 g6) * z3))))+l6)) 1000000000)))));refine store_event (t:=3) (p:=56) (v:=?vo_w30) (w1:=(wr.setCell ⟨D5,((t8):Int).toNat,none⟩ (.int .i64 (Int.tmod (wrap64 ((wrap64 ((rd l5 (t8))+(wrap64 ((rd l0 g6) * z3))))+l6)) 1000000000)))) ?hg ?ho ?hn ?hr ?_;(case ho=>rfl);(case hg=>rfl);(case hn=>rfl);(case hr=>first|(go_simp;done)|(go_simp;rfl));intro F1 hw;have hg:wr.grownBy F1 (some D5):=(by rw[hw];exact F0.2);have hp_:Kd.R (Kd.int .i64) 3 F1 w.heap.size (fun _=>True) (.slice (some ⟨D5,0,none⟩) l5.length C1) B0:=(by rw[hw,B8.out];exact F0.1);clear F0;replace g8:=aM (hp_);replace HB:=aM ((by rw[hw];exact below_set (HB.out) E5.out:Below w.heap.size w F1));clear hg hw hp_)));go_wp2_with (first|(go_at_call 85;(with_reducible refine(Ezp.calls _ _ l1 l7 z3 _ ?_ ?_ z9.out).mono ?_);exact cB b9;exact d0.out;rintro e w' ⟨rfl,⟨nd,rfl⟩⟩;(try exact dD);have D3:0≤((t8):Int):=oE aS;have D4:((t8):Int) < ((l5.length:Int):Int):=oE aS;obtain⟨D5,D6,D7,D8,D9,E3,E4⟩:=Kd.R_form g8.out (by omega);(first|cases D7|(injection D7 with ea_ en_ ec_;(first|subst ea_|(injection ea_ with ea_;subst ea_));subst ec_;clear en_));have E5:=aM D8;have E6:=aM E4;clear D8 D9 E4;(first|simp only[add_plain] at C4|skip);obtain⟨E7,E8⟩:=Kd.R_celln 0 g8.out ((t8):Int) D3 D4;replace D3:=eq_true D3;replace D4:=eq_true D4;obtain⟨E9,hz29_⟩:=Kd.R_celln 0 g8.out ((t8):Int) (oE aS) (oE aS);have F0:=Kd.R_putg g8.out ((t8):Int) (Int.tmod (wrap64 ((wrap64 ((rd l5 (t8))+(wrap64 ((rd l0 g6) * z3))))+l6)) 1000000000))|((with_reducible refine gate_store (t:=3) (p:=56) rfl ?_);(try(rw[drewN_self wr];generalize hq_:World.drewN wr _=wr;have n0_:=aM (Kd.R_at hq_ g8.out);have n1_:=aM (below_at hq_ HB.out);clear hq_ g8 HB;have g8:=n0_;have HB:=n1_;clear n0_ n1_;(try(obtain⟨E9,hz29_⟩:=Kd.R_celln 0 g8.out ((t8):Int) (oE aS) (oE aS)));(try(have F0:=Kd.R_putg g8.out ((t8):Int) (Int.tmod (wrap64 ((wrap64 ((rd l5 (t8))+(wrap64 ((rd l0 g6) * z3))))+l6)) 1000000000)))));refine store_event (t:=3) (p:=56) (v:=?vo_w30) (w1:=(wr.setCell ⟨D5,((t8):Int).toNat,none⟩ (.int .i64 (Int.tmod (wrap64 ((wrap64 ((rd l5 (t8))+(wrap64 ((rd l0 g6) * z3))))+l6)) 1000000000)))) ?hg ?ho ?hn ?hr ?_;(case ho=>rfl);(case hg=>rfl);(case hn=>rfl);(case hr=>first|(go_simp;done)|(go_simp;rfl));intro F1 hw;have hg:wr.grownBy F1 (some D5):=(by rw[hw];exact F0.2);have hp_:Kd.R (Kd.int .i64) 3 F1 w.heap.size (fun _=>True) (.slice (some ⟨D5,0,none⟩) l5.length C1) B0:=(by rw[hw,B8.out];exact F0.1);clear F0;replace g8:=aM (hp_);replace HB:=aM ((by rw[hw];exact below_set (HB.out) E5.out:Below w.heap.size w F1));clear hg hw hp_)))
         go_roundg k2
         case measure=>have:=g7.out;have:=l8.out;omega
         case rel=>exact⟨(B0),(wrap64 (Int.tdiv (wrap64 ((wrap64 ((rd l5 (t8))+(wrap64 ((rd l0 g6) * z3))))+l6)) 1000000000)),(wrap64 (l7+1)),(by first|rfl|(simp;done)|(simp only[← t9] <;> (first|rfl|simp))|(simp [*];done)),sD,H',⟨by have:=g7.out;have:=l8.out;omega⟩,⟨rX g8.out⟩,⟨pB⟩⟩
        ·rw[if_neg t6] at H;have t7:decide (0 < l6)=false:=decide_eq_false t6;clear t6;have H':=aM H;clear H;go_wp2
         repeat(go_quiet (fail);try go_wp2)
         go_roundg k2
         case measure=>have:=g7.out;have:=l8.out;omega
         case rel=>exact⟨(l5),(wrap64 (g6+1)),sD,H',⟨by have:=g7.out;have:=l8.out;omega⟩,⟨rX g8.out⟩,⟨pB⟩⟩
    ·rw[if_neg c8] at H;have g9:decide (g6 < (l0.length:Int))=false:=decide_eq_false c8;clear c8;have H':=aM H;clear H;obtain⟨F2,F3,rfl⟩:=Kd.R_slice g8.out;go_wp2
     repeat(go_quiet (fail);try go_wp2)
     go_loopg [10] k1 (fun kq F4 w'=>∃ (F5:Int),F4=.int .i64 F5∧Aside0 (Azp.l2 kq f9 F5=some r)∧Aside0 (kq≤k1)∧Aside0 (Kd.R (Kd.int .i64) 3 w' w.heap.size (fun _=>True) (.slice F2 f9.length F3) f9)∧Aside0 (Below w.heap.size w w'))
     case atStart=>exact⟨((f9.length:Int)),sD,H',⟨Nat.le_refl _⟩,⟨rX g8.out⟩,⟨pB⟩⟩
     case round =>
      clear H';try clear a9
      obtain⟨F5,rfl,HA,l8,g8,HB⟩:=hrel;cases gk with
      | zero=>exact absurd HA.out (by simp [Azp.l2])
      | succ k2 =>
       have H:=HA.out;clear HA;simp only[Azp.l2] at H;by_cases F6:F5 > 0
       ·rw[if_pos F6] at H;have F7:decide (0 < F5)=true:=dE F6;clear F6;obtain⟨F8,F9⟩:∃ j_:Int,(wrap64 (F5 - 1))=j_:=⟨_,rfl⟩;replace H:(if 0≤(F8) then(if(F8) < (f9.length:Int) then(if(rd f9 (F8))=0 then(Azp.l2 k2 f9 F8) else(if 0≤F5 then(if F5≤(f9.length:Int) then(some (f9.take (F5:Int).toNat)) else(none)) else(none))) else(none)) else(none))=some r:=by first|(rw[F9] at H;exact H)|(simp only[F9] at H ⊢;exact H)
        have G0:(IntKind.i64.wrap (F5 - 1))=F8:=(i64_w _).trans F9;obtain⟨G1,H⟩:=iN H;obtain⟨G2,H⟩:=iN H;by_cases G3:(rd f9 (F8))=0
        ·rw[if_pos G3] at H;obtain⟨G4,G5⟩:=bE G3;clear G3;have H':=aM H;clear H;obtain⟨G6,G7,G8,G9,H1⟩:=aI (Kd.R_reads' g8.out).2.2 (F8);cases G7;go_wp2
         repeat(go_quiet (fail);try go_wp2)
         go_roundg k2
         case measure=>have:=g7.out;have:=l8.out;omega
         case rel=>exact⟨(F8),(by first|rfl|(simp;done)|(simp only[← F9] <;> (first|rfl|simp))|(simp [*];done)),H',⟨by have:=g7.out;have:=l8.out;omega⟩,⟨rX g8.out⟩,⟨pB⟩⟩
        ·rw[if_neg G3] at H;obtain⟨G4,G5⟩:=bI G3;obtain⟨H2,H⟩:=iO H;have H3:=eq_true H2;have H4:decide (0≤F5)=true:=dE H2;clear H2;obtain⟨H5,H⟩:=iO H;have H6:=eq_true H5;have H7:decide (F5≤(f9.length:Int))=true:=dE H5;clear H5;obtain⟨H8,H9⟩:∃ y_:List Int,y_=(f9.take (F5:Int).toNat):=⟨_,rfl⟩;replace H:(some H8)=some r:=yE H9 H
         have I0:=aM H9;clear H9;obtain rfl:=Option.some.inj H;obtain⟨G6,G7,G8,G9,H1⟩:=aI (Kd.R_reads' g8.out).2.2 (F8);cases G7;have I1:(F5:Int)≤((f9.length:Int):Int):=oE aS
         obtain⟨i039,I2,_,hsz39,_⟩:=info_parts info3;have hcut39:=cut_to (P:=Try.prog) 37 3 .i64 Try.underlying37 I2 (some G6) f9.length F3 F5 (oE aS) I1 (Kd.R_reads' g8.out).2.1
         have I3:=Kd.R_take (m:=(F5:Int).toNat) g8.out (by omega)
         have I4:H8.length=(F5:Int).toNat:=(by rw[I0.out,List.length_take];omega)
         rw[← I0.out] at I3;rw[← I4] at I3 hcut39;clear I4 I2 hsz39 g8;have I5:=aM I3;clear I3;replace I1:=eq_true I1;go_wp2
         repeat(go_quiet (fail);try go_wp2)
         go_ret
         exact⟨_,by first|rfl|(simp [errW_none,errW_some] <;> rfl)|(simp only[← d3,← F9];first|rfl|(simp [errW_none,errW_some] <;> rfl))|(simp [*,errW_none,errW_some] <;> rfl),rX I5.out,pB⟩
       ·rw[if_neg F6] at H;have F7:decide (0 < F5)=false:=decide_eq_false F6;clear F6;obtain⟨I6,H⟩:=iO H;have I7:=eq_true I6;have I8:decide (0≤F5)=true:=dE I6;clear I6;obtain⟨I9,H⟩:=iO H;have J0:=eq_true I9;have J1:decide (F5≤(f9.length:Int))=true:=dE I9;clear I9;obtain⟨J2,J3⟩:∃ y_:List Int,y_=(f9.take (F5:Int).toNat):=⟨_,rfl⟩;replace H:(some J2)=some r:=yE J3 H
        have J4:=aM J3;clear J3;obtain rfl:=Option.some.inj H;have J5:(F5:Int)≤((f9.length:Int):Int):=oE aS
        obtain⟨i042,J6,_,hsz42,_⟩:=info_parts info3;have hcut42:=cut_to (P:=Try.prog) 37 3 .i64 Try.underlying37 J6 F2 f9.length F3 F5 (oE aS) J5 (Kd.R_reads' g8.out).2.1
        have J7:=Kd.R_take (m:=(F5:Int).toNat) g8.out (by omega)
        have J8:J2.length=(F5:Int).toNat:=(by rw[J4.out,List.length_take];omega)
        rw[← J4.out] at J7;rw[← J8] at J7 hcut42;clear J8 J6 hsz42 g8;have J9:=aM J7;clear J7;replace J5:=eq_true J5;go_wp2
        repeat(go_quiet (fail);try go_wp2)
        go_ret
        exact⟨_,by first|rfl|(simp [errW_none,errW_some] <;> rfl)|(simp only[← d3];first|rfl|(simp [errW_none,errW_some] <;> rfl))|(simp [*,errW_none,errW_some] <;> rfl),rX J9.out,pB⟩
 ·rw[if_neg c4] at H;exact absurd H (by simp)


def Czq.l0:Nat→List Int→List Int→Int→Option (Int)
 | 0,_,_,_=>none
 | k+1,x0,x1,x5=>if x5≥0 then(if 0≤x5 then(if x5 < (x0.length:Int) then(if x5 < (x1.length:Int) then(if(rd x0 x5) < (rd x1 x5) then(some (-1)) else(if(rd x0 x5) > (rd x1 x5) then(some 1) else(Czq.l0 k x0 x1 (wrap64 (x5 - 1))))) else(none)) else(none)) else(none)) else(some 0)
def Czq.f (k:Nat) (l0:List Int) (l1:List Int):Option (Int):=if(l0.length:Int)=(l1.length:Int) then(Czq.l0 k l0 l1 (wrap64 ((l0.length:Int) - 1))) else(if(l0.length:Int) < (l1.length:Int) then(some (-1)) else(some 1))
theorem Czq.mono_l:∀ k,(∀ a6 a7 a8,LeO (Czq.l0 k a6 a7 a8) (Czq.l0 (k+1) a6 a7 a8))
 | 0=>fun _ _ _ r h=>by simp [Czq.l0] at h
 | k+1=>by
  have ih0:=Czq.mono_l k
  ·intro a6 a7 a8;unfold Czq.l0;exact mM
theorem Czq.mono:∀ a6 a7 k,LeO (Czq.f k a6 a7) (Czq.f (k+1) a6 a7):=by
 intro a6 a7 k;have ih0:=Czq.mono_l k;unfold Czq.f;exact mM
theorem Czq.calls (k:Nat) (a6:Option Addr) (a7:Nat) (l0:List Int) (a8:Option Addr) (a9:Nat) (l1:List Int) (r:Int) (w:World) (b3:Kd.C (Kd.int .i64) w a6 l0.length l0) (b4:l0.length≤a7) (b5:Kd.C (Kd.int .i64) w a8 l1.length l1) (b6:l1.length≤a9) (h:Czq.f k l0 l1=some r) :
  Calls Try.prog 96 #[.slice a6 l0.length a7,.slice a8 l1.length a9] w fun e w'=>e=.returned (.int .i64 r)∧Drawn0 w w':=by
 have b7:=aM b3;have b8:=aM b4;clear b3 b4;have b9:=aM b5;have d0:=aM b6;clear b5 b6;have H:(if(l0.length:Int)=(l1.length:Int) then(Czq.l0 k l0 l1 (wrap64 ((l0.length:Int) - 1))) else(if(l0.length:Int) < (l1.length:Int) then(some (-1)) else(some 1)))=some r:=h
 clear h;by_cases c3:(l0.length:Int)=(l1.length:Int)
 ·rw[if_pos c3] at H;obtain⟨d1,d3⟩:=bE c3;have d4:(l0.length == l1.length)=true:=by first|simpa using c3|(simp at c3 ⊢;omega)
  clear c3;have H':=aM H;clear H;go_enter Try.func96,Try.ntmps96
  go_wp2
  repeat(go_quiet (fail);try go_wp2)
  go_loopg [5] k (fun kq d5 w'=>∃ (d6:Int),d5=.int .i64 d6∧Aside0 (Czq.l0 kq l0 l1 d6=some r)∧Aside0 (kq≤k)∧Drawn0 w w')
  case atStart=>exact⟨(wrap64 ((l0.length:Int) - 1)),sD,H',⟨Nat.le_refl _⟩,dR⟩
  case round =>
   clear H';try clear a9
   obtain⟨d6,rfl,HA,d7,⟨d8,rfl⟩⟩:=hrel;cases gk with
   | zero=>exact absurd HA.out (by simp [Czq.l0])
   | succ k1 =>
    have H:=HA.out;clear HA;simp only[Czq.l0] at H;by_cases c4:d6≥0
    ·rw[if_pos c4] at H;have d9:decide (0≤d6)=true:=dE c4;clear c4;obtain⟨e6,H⟩:=iN H;obtain⟨e7,H⟩:=iN H;obtain⟨e8,H⟩:=iN H;by_cases c8:(rd l0 d6) < (rd l1 d6)
     ·rw[if_pos c8] at H;have f3:=dE c8;clear c8;obtain rfl:=Option.some.inj H;obtain⟨f4,f5,f6,f7,f8⟩:=aI b7.out d6;cases f5;obtain⟨f9,g6,g7,g8,g9⟩:=aI b9.out d6;cases g6;go_wp2
      repeat(go_quiet (fail);try go_wp2)
      go_ret
      exact⟨sD,dR⟩
     ·rw[if_neg c8] at H;have f3:decide ((rd l0 d6) < (rd l1 d6))=false:=decide_eq_false c8;clear c8;by_cases c9:(rd l0 d6) > (rd l1 d6)
      ·rw[if_pos c9] at H;have j5:decide ((rd l1 d6) < (rd l0 d6))=true:=dE c9;clear c9;obtain rfl:=Option.some.inj H;obtain⟨f4,f5,f6,f7,f8⟩:=aI b7.out d6;cases f5;obtain⟨f9,g6,g7,g8,g9⟩:=aI b9.out d6;cases g6;obtain⟨j9,l5,l6,l7,l8⟩:=aI b7.out d6;obtain rfl:f4=j9:=(by injection l5);obtain⟨l9,m4,m5,m6,m7⟩:=aI b9.out d6;obtain rfl:f9=l9:=(by injection m4);go_wp2
       repeat(go_quiet (fail);try go_wp2)
       go_ret
       exact⟨sD,dR⟩
      ·rw[if_neg c9] at H;have j5:decide ((rd l1 d6) < (rd l0 d6))=false:=decide_eq_false c9;clear c9;have H':=aM H;clear H;obtain⟨f4,f5,f6,f7,f8⟩:=aI b7.out d6;cases f5;obtain⟨f9,g6,g7,g8,g9⟩:=aI b9.out d6;cases g6;obtain⟨j9,l5,l6,l7,l8⟩:=aI b7.out d6;obtain rfl:f4=j9:=(by injection l5);obtain⟨l9,m4,m5,m6,m7⟩:=aI b9.out d6;obtain rfl:f9=l9:=(by injection m4);go_wp2
       repeat(go_quiet (fail);try go_wp2)
       go_roundg k1
       case measure=>have:=d7.out;omega
       case rel=>exact⟨(wrap64 (d6 - 1)),sD,H',⟨by have:=d7.out;omega⟩,dR⟩
    ·rw[if_neg c4] at H;have d9:decide (0≤d6)=false:=decide_eq_false c4;clear c4;obtain rfl:=Option.some.inj H;go_wp2
     repeat(go_quiet (fail);try go_wp2)
     go_ret
     exact⟨sD,dR⟩
 ·rw[if_neg c3] at H;obtain⟨d1,d3⟩:=bI c3;have d4:(l0.length == l1.length)=false:=by first|simpa using c3|(simp at c3 ⊢;omega)
  by_cases c10:(l0.length:Int) < (l1.length:Int)
  ·rw[if_pos c10] at H;have m8:=dE c10;have m9:decide (l0.length < l1.length)=true:=dE (Int.ofNat_lt.mp c10);clear c10;obtain rfl:=Option.some.inj H;go_enter Try.func96,Try.ntmps96
   go_wp2
   repeat(go_quiet (fail);try go_wp2)
   go_ret
   exact⟨sD,dR⟩
  ·rw[if_neg c10] at H;have m8:decide ((l0.length:Int) < (l1.length:Int))=false:=decide_eq_false c10;have m9:decide (l0.length < l1.length)=false:=decide_eq_false (fun h=>c10 (Int.ofNat_lt.mpr h))
   clear c10;obtain rfl:=Option.some.inj H;go_enter Try.func96,Try.ntmps96
   go_wp2
   repeat(go_quiet (fail);try go_wp2)
   go_ret
   exact⟨sD,dR⟩

def Czz.l0:Nat→List Int→List Int→Int→Int→Option (Int)
 | 0,_,_,_,_=>none
 | k+1,x0,x1,x5,x6=>if x5 < x6 then((Azp.f k x1 (([wrap64 (Int.tdiv (wrap64 ((wrap64 (x5+x6))+1)) 2)]:List Int))).bind fun t535=>((Czq.f k t535 x0).bind fun t538=>(if t538≤0 then(Czz.l0 k x0 x1 (wrap64 (Int.tdiv (wrap64 ((wrap64 (x5+x6))+1)) 2)) x6) else(Czz.l0 k x0 x1 x5 (wrap64 ((wrap64 (Int.tdiv (wrap64 ((wrap64 (x5+x6))+1)) 2)) - 1)))))) else(some x5)
def Czz.f (k:Nat) (l0:List Int) (l1:List Int):Option (Int):=Czz.l0 k l0 l1 0 999999999
theorem Czz.mono_l:∀ k,(∀ a6 a7 a8 a9,LeO (Czz.l0 k a6 a7 a8 a9) (Czz.l0 (k+1) a6 a7 a8 a9))
 | 0=>fun _ _ _ _ r h=>by simp [Czz.l0] at h
 | k+1=>by
  have ih0:=Czz.mono_l k
  ·intro a6 a7 a8 a9;unfold Czz.l0;have i0:=@Czq.mono;have i1:=@Azp.mono;exact mM
theorem Czz.mono:∀ a6 a7 k,LeO (Czz.f k a6 a7) (Czz.f (k+1) a6 a7):=by
 intro a6 a7 k;have ih0:=Czz.mono_l k;unfold Czz.f;have i0:=@Czq.mono;have i1:=@Azp.mono;exact mM
theorem Czz.calls (k:Nat) (a6:Option Addr) (a7:Nat) (l0:List Int) (a8:Option Addr) (a9:Nat) (l1:List Int) (r:Int) (w:World) (b3:Kd.C (Kd.int .i64) w a6 l0.length l0) (b4:l0.length≤a7) (b5:Kd.C (Kd.int .i64) w a8 l1.length l1) (b6:l1.length≤a9) (h:Czz.f k l0 l1=some r) :
  Calls Try.prog 83 #[.slice a6 l0.length a7,.slice a8 l1.length a9] w fun e w'=>e=.returned (.int .i64 r)∧Below w.heap.size w w':=by
 have b7:=aM b3;have b8:=aM b4;clear b3 b4;have b9:=aM b5;have d0:=aM b6;clear b5 b6;have HB:=aM (Below.refl w.heap.size w);have H:(Czz.l0 k l0 l1 0 999999999)=some r:=h;clear h;have H':=aM H;clear H;go_enter Try.func83,Try.ntmps83
 go_wp2
 go_loopg [5,6] k (fun kq d1 d3 w'=>∃ (d4:Int) (d5:Int),d1=.int .i64 d4∧d3=.int .i64 d5∧Aside0 (Czz.l0 kq l0 l1 d4 d5=some r)∧Aside0 (kq≤k)∧Aside0 (Below w.heap.size w w'))
 case atStart=>exact⟨(0),(999999999),sD,sD,H',⟨Nat.le_refl _⟩,⟨pB⟩⟩
 case round =>
  clear H';try clear a9
  obtain⟨d4,d5,rfl,rfl,HA,d6,HB⟩:=hrel;cases gk with
  | zero=>exact absurd HA.out (by simp [Czz.l0])
  | succ k1 =>
   have H:=HA.out;clear HA;simp only[Czz.l0] at H;by_cases c3:d4 < d5
   ·rw[if_pos c3] at H;have d7:=dE c3;clear c3;obtain⟨d8,d9⟩:∃ y_:List Int,y_=(([wrap64 (Int.tdiv (wrap64 ((wrap64 (d4+d5))+1)) 2)]:List Int)):=⟨_,rfl⟩;replace H:((Azp.f k1 l1 d8).bind fun e6=>((Czq.f k1 e6 l0).bind fun e7=>(if e7≤0 then(Czz.l0 k1 l0 l1 (wrap64 (Int.tdiv (wrap64 ((wrap64 (d4+d5))+1)) 2)) d5) else(Czz.l0 k1 l0 l1 d4 (wrap64 ((wrap64 (Int.tdiv (wrap64 ((wrap64 (d4+d5))+1)) 2)) - 1))))))=some r:=yE d9 H
    have e8:=aM d9;clear d9;obtain⟨e6,f3,H⟩:=bT H;(try dsimp only at H);obtain⟨e7,f4,H⟩:=bT H;(try dsimp only at H);by_cases c6:e7≤0
    ·rw[if_pos c6] at H;have f5:=dE c6;clear c6;have H':=aM H;clear H;go_wp2_with (first|((with_reducible refine gate_dst (N:=18) rfl ?_);refine Kd.R_lit (Kd.int .i64) _ 3 ?hg (N:=18) ?hd (xs:=([wrap64 (Int.tdiv (wrap64 ((wrap64 (d4+d5))+1)) 2)]:List Int)) (inner:=[.int .i64 (wrap64 (Int.tdiv (wrap64 ((wrap64 (d4+d5))+1)) 2))]) (ok:=fun _=>True) (okp:=fun _=>True) ?hr ?hp (fun _ hk=>hk) trivial (Below.refl _ _) (Nat.le_refl _) (by simp) ?_;(case hd=>rfl);(case hg=>rfl);(case hr=>first|(go_simp;done)|(go_simp;rfl));(case hp=>exact(Reps.one (show Kd.M (Kd.int .i64) _ _ _ (wrap64 (Int.tdiv (wrap64 ((wrap64 (d4+d5))+1)) 2)) [.int .i64 (wrap64 (Int.tdiv (wrap64 ((wrap64 (d4+d5))+1)) 2))] from rfl) (Reps.none _ _)));intro f6 f7 f8 hb hg_ hnew_;clear hg_ hnew_;replace f8:=rY e8 f8;have f9:=rL f8;replace HB:=bB hb;clear hb f8;obtain⟨g6,g7,rfl⟩:=Kd.R_slice f9.out)|((with_reducible refine gc 66 rfl ?_);refine gC 66 (some 19) Try.func66 #[.slice a8 l1.length a9,.slice g6 d8.length g7] ?_;(with_reducible refine(Azp.calls k1 _ _ l1 _ _ d8 e6 _ ?_ ?_ ?_ ?_ f3.out).mono ?_);exact cB b9;exact d0.out;exact cR f9;exact lR f9;rintro e g8 ⟨g9,rfl,j5,hb⟩;refine⟨_,rfl,?_⟩;have j9:=rL (rn j5 f9);replace f9:=rE f9 j5 hb;replace HB:=bB hb;clear hb j5;obtain⟨l5,l6,rfl⟩:=Kd.R_slice j9.out)|((with_reducible refine gc 96 rfl ?_);refine gC 96 (some 21) Try.func96 #[.slice l5 e6.length l6,.slice a6 l0.length a7] ?_;(with_reducible refine(Czq.calls k1 _ _ e6 _ _ l0 e7 _ ?_ ?_ ?_ ?_ f4.out).mono ?_);exact cR j9;exact lR j9;exact cB b7;exact b8.out;rintro e w' ⟨rfl,⟨nd,rfl⟩⟩;refine⟨_,rfl,?_⟩))
     go_roundg k1
     case measure=>have:=d6.out;omega
     case rel=>exact⟨(wrap64 (Int.tdiv (wrap64 ((wrap64 (d4+d5))+1)) 2)),(d5),sD,sD,H',⟨by have:=d6.out;omega⟩,⟨pB⟩⟩
    ·rw[if_neg c6] at H;have f5:decide (e7≤0)=false:=decide_eq_false c6;clear c6;have H':=aM H;clear H;go_wp2_with (first|((with_reducible refine gate_dst (N:=18) rfl ?_);refine Kd.R_lit (Kd.int .i64) _ 3 ?hg (N:=18) ?hd (xs:=([wrap64 (Int.tdiv (wrap64 ((wrap64 (d4+d5))+1)) 2)]:List Int)) (inner:=[.int .i64 (wrap64 (Int.tdiv (wrap64 ((wrap64 (d4+d5))+1)) 2))]) (ok:=fun _=>True) (okp:=fun _=>True) ?hr ?hp (fun _ hk=>hk) trivial (Below.refl _ _) (Nat.le_refl _) (by simp) ?_;(case hd=>rfl);(case hg=>rfl);(case hr=>first|(go_simp;done)|(go_simp;rfl));(case hp=>exact(Reps.one (show Kd.M (Kd.int .i64) _ _ _ (wrap64 (Int.tdiv (wrap64 ((wrap64 (d4+d5))+1)) 2)) [.int .i64 (wrap64 (Int.tdiv (wrap64 ((wrap64 (d4+d5))+1)) 2))] from rfl) (Reps.none _ _)));intro f6 l7 l8 hb hg_ hnew_;clear hg_ hnew_;replace l8:=rY e8 l8;have f9:=rL l8;replace HB:=bB hb;clear hb l8;obtain⟨l9,m4,rfl⟩:=Kd.R_slice f9.out)|((with_reducible refine gc 66 rfl ?_);refine gC 66 (some 19) Try.func66 #[.slice a8 l1.length a9,.slice l9 d8.length m4] ?_;(with_reducible refine(Azp.calls k1 _ _ l1 _ _ d8 e6 _ ?_ ?_ ?_ ?_ f3.out).mono ?_);exact cB b9;exact d0.out;exact cR f9;exact lR f9;rintro e m5 ⟨g9,rfl,j5,hb⟩;refine⟨_,rfl,?_⟩;have j9:=rL (rn j5 f9);replace f9:=rE f9 j5 hb;replace HB:=bB hb;clear hb j5;obtain⟨m6,m7,rfl⟩:=Kd.R_slice j9.out)|((with_reducible refine gc 96 rfl ?_);refine gC 96 (some 21) Try.func96 #[.slice m6 e6.length m7,.slice a6 l0.length a7] ?_;(with_reducible refine(Czq.calls k1 _ _ e6 _ _ l0 e7 _ ?_ ?_ ?_ ?_ f4.out).mono ?_);exact cR j9;exact lR j9;exact cB b7;exact b8.out;rintro e w' ⟨rfl,⟨nd,rfl⟩⟩;refine⟨_,rfl,?_⟩))
     go_roundg k1
     case measure=>have:=d6.out;omega
     case rel=>exact⟨(d4),(wrap64 ((wrap64 (Int.tdiv (wrap64 ((wrap64 (d4+d5))+1)) 2)) - 1)),sD,sD,H',⟨by have:=d6.out;omega⟩,⟨pB⟩⟩
   ·rw[if_neg c3] at H;have d7:decide (d4 < d5)=false:=decide_eq_false c3;clear c3;obtain rfl:=Option.some.inj H;go_wp2
    go_ret
    exact⟨eW,pB⟩


def Bzm.l0:Nat→List Int→List Int→List Int→Int→Int→Option (List Int)
 | 0,_,_,_,_,_=>none
 | k+1,x0,x1,x5,x6,x7=>if x7 < (x0.length:Int) then(if 0≤x7 then((Ezp.f x1 x7).bind fun t540=>(if(wrap64 ((wrap64 ((rd x0 x7) - t540)) - x6)) < 0 then(if x5.length < 17592186044416 then(Bzm.l0 k x0 x1 (x5 ++ [wrap64 ((wrap64 ((wrap64 ((rd x0 x7) - t540)) - x6))+1000000000)]) 1 (wrap64 (x7+1))) else(none)) else(if x5.length < 17592186044416 then(Bzm.l0 k x0 x1 (x5 ++ [wrap64 ((wrap64 ((rd x0 x7) - t540)) - x6)]) 0 (wrap64 (x7+1))) else(none)))) else(none)) else((Bzb.f k x5).bind fun bt547=>(some bt547.1))
def Bzm.f (k:Nat) (l0:List Int) (l1:List Int):Option (List Int):=Bzm.l0 k l0 l1 ([]:List Int) 0 0
theorem Bzm.mono_l:∀ k,(∀ a6 a7 a8 a9 b3,LeO (Bzm.l0 k a6 a7 a8 a9 b3) (Bzm.l0 (k+1) a6 a7 a8 a9 b3))
 | 0=>fun _ _ _ _ _ r h=>by simp [Bzm.l0] at h
 | k+1=>by
  have ih0:=Bzm.mono_l k
  ·intro a6 a7 a8 a9 b3;unfold Bzm.l0;have i0:=@Bzb.mono;exact mM
theorem Bzm.mono:∀ a6 a7 k,LeO (Bzm.f k a6 a7) (Bzm.f (k+1) a6 a7):=by
 intro a6 a7 k;have ih0:=Bzm.mono_l k;unfold Bzm.f;have i0:=@Bzb.mono;exact mM
theorem Bzm.calls (k:Nat) (a6:Option Addr) (a7:Nat) (l0:List Int) (a8:Option Addr) (a9:Nat) (l1:List Int) (r:List Int) (w:World) (b3:Kd.C (Kd.int .i64) w a6 l0.length l0) (b4:l0.length≤a7) (b5:Kd.C (Kd.int .i64) w a8 l1.length l1) (b6:l1.length≤a9) (h:Bzm.f k l0 l1=some r) :
  Calls Try.prog 84 #[.slice a6 l0.length a7,.slice a8 l1.length a9] w fun e w'=>∃ v0_:Value,e=.returned (v0_)∧Kd.R (Kd.int .i64) 3 w' w.heap.size (fun _=>True) v0_ r∧Below w.heap.size w w':=by
 have b7:=aM b3;have b8:=aM b4;clear b3 b4;have b9:=aM b5;have d0:=aM b6;clear b5 b6;have HB:=aM (Below.refl w.heap.size w);have H:(Bzm.l0 k l0 l1 ([]:List Int) 0 0)=some r:=h;clear h;have H':=aM H;clear H;go_enter Try.func84,Try.ntmps84
 go_wp2
 repeat(go_quiet (fail);try go_wp2)
 go_loopg [5,6,7] k (fun kq d1 d3 d4 w'=>∃ (d5:List Int) (d6:Int) (d7:Int),d3=.int .i64 d6∧d4=.int .i64 d7∧Aside0 (Bzm.l0 kq l0 l1 d5 d6 d7=some r)∧Aside0 (kq≤k)∧Aside0 (Kd.R (Kd.int .i64) 3 w' w.heap.size (fun _=>True) d1 d5)∧Aside0 (Below w.heap.size w w'))
 case atStart=>exact⟨(([]:List Int)),(0),(0),sD,sD,H',⟨Nat.le_refl _⟩,⟨nK⟩,⟨pB⟩⟩
 case round =>
  clear H';try clear a9
  obtain⟨d5,d6,d7,rfl,rfl,HA,d8,d9,HB⟩:=hrel;cases gk with
  | zero=>exact absurd HA.out (by simp [Bzm.l0])
  | succ k1 =>
   have H:=HA.out;clear HA;simp only[Bzm.l0] at H;by_cases c3:d7 < (l0.length:Int)
   ·rw[if_pos c3] at H;have e6:=dE c3;clear c3;obtain⟨e7,H⟩:=iN H;obtain⟨e8,f3,H⟩:=bT H;(try dsimp only at H);by_cases c6:(wrap64 ((wrap64 ((rd l0 d7) - e8)) - d6)) < 0
    ·rw[if_pos c6] at H;have f4:decide ((wrap64 ((wrap64 ((rd l0 d7) - e8)) - d6)) < 0)=true:=dE c6;have f5:decide ((IntKind.i64.wrap ((IntKind.i64.wrap ((rd l0 d7) - e8)) - d6)) < 0)=true:=by have h_:=f4;first|exact h_|(simp only[i64_w];exact h_)
     clear c6;obtain⟨c7,H⟩:=iO H;have LMc7:=aM c7;clear c7;obtain⟨f6,f7⟩:∃ y_:List Int,y_=(d5 ++ [wrap64 ((wrap64 ((wrap64 ((rd l0 d7) - e8)) - d6))+1000000000)]):=⟨_,rfl⟩;replace H:(Bzm.l0 k1 l0 l1 f6 1 (wrap64 (d7+1)))=some r:=yE f7 H
     have f8:=aM f7;clear f7;have H':=aM H;clear H;obtain⟨f9,g6,g7,g8,g9⟩:=aI b7.out d7;cases g6
     replace g7:=hB HB g7;have fl_:True:=trivial;repeat((first|clear fl_|go_quiet (first|(go_at_call 85;(with_reducible refine(Ezp.calls _ _ l1 d7 e8 _ ?_ ?_ f3.out).mono ?_);exact cB b9;exact d0.out;rintro e w' ⟨rfl,⟨nd,rfl⟩⟩;(try exact dD))|((with_reducible refine gate_builtin (b:=.append) (xs:=#[.tmp 29,.tmp 31]) rfl ?_);at_builtin;refine Kd.R_append (Kd.int .i64) (w0:=w) w.heap.size rfl (.tmp 29) (.tmp 31) 37 3 (.int .i64 0) 8 rfl Try.underlying37 info3 rfl (by decide) (by omega) u5 d5 (wrap64 ((wrap64 ((wrap64 ((rd l0 d7) - e8)) - d6))+1000000000)) [.int .i64 (wrap64 ((wrap64 ((wrap64 ((rd l0 d7) - e8)) - d6))+1000000000))] (fun _=>True) (fun _=>False) rfl rfl ?aP (fun _ hk=>hk.elim) ?aF ?aO ?aB ?aS ?aL ?_;(case aP=>exact rfl);(case aB=>exact pB);(case aF=>exact(fun _ _=>trivial));(case aO=>exact(rX d9.out));(case aS=>exact(below_size pB));(case aL=>have:=LMc7.out;omega);intro j5 j9 ho hb hg hat;rw[← f8.out] at ho;have l5:=aM (ho);replace HB:=aM (hb);clear d9 ho hb hg hat)));go_wp2_with (first|(go_at_call 85;(with_reducible refine(Ezp.calls _ _ l1 d7 e8 _ ?_ ?_ f3.out).mono ?_);exact cB b9;exact d0.out;rintro e w' ⟨rfl,⟨nd,rfl⟩⟩;(try exact dD))|((with_reducible refine gate_builtin (b:=.append) (xs:=#[.tmp 29,.tmp 31]) rfl ?_);at_builtin;refine Kd.R_append (Kd.int .i64) (w0:=w) w.heap.size rfl (.tmp 29) (.tmp 31) 37 3 (.int .i64 0) 8 rfl Try.underlying37 info3 rfl (by decide) (by omega) u5 d5 (wrap64 ((wrap64 ((wrap64 ((rd l0 d7) - e8)) - d6))+1000000000)) [.int .i64 (wrap64 ((wrap64 ((wrap64 ((rd l0 d7) - e8)) - d6))+1000000000))] (fun _=>True) (fun _=>False) rfl rfl ?aP (fun _ hk=>hk.elim) ?aF ?aO ?aB ?aS ?aL ?_;(case aP=>exact rfl);(case aB=>exact pB);(case aF=>exact(fun _ _=>trivial));(case aO=>exact(rX d9.out));(case aS=>exact(below_size pB));(case aL=>have:=LMc7.out;omega);intro j5 j9 ho hb hg hat;rw[← f8.out] at ho;have l5:=aM (ho);replace HB:=aM (hb);clear d9 ho hb hg hat)))
     go_roundg k1
     case measure=>have:=d8.out;omega
     case rel=>exact⟨(f6),(1),(wrap64 (d7+1)),sD,sD,H',⟨by have:=d8.out;omega⟩,⟨rX l5.out⟩,⟨pB⟩⟩
    ·rw[if_neg c6] at H;have f4:decide ((wrap64 ((wrap64 ((rd l0 d7) - e8)) - d6)) < 0)=false:=decide_eq_false c6;have f5:decide ((IntKind.i64.wrap ((IntKind.i64.wrap ((rd l0 d7) - e8)) - d6)) < 0)=false:=by have h_:=f4;first|exact h_|(simp only[i64_w];exact h_)
     clear c6;obtain⟨c9,H⟩:=iO H;have LMc9:=aM c9;clear c9;obtain⟨l6,l7⟩:∃ y_:List Int,y_=(d5 ++ [wrap64 ((wrap64 ((rd l0 d7) - e8)) - d6)]):=⟨_,rfl⟩;replace H:(Bzm.l0 k1 l0 l1 l6 0 (wrap64 (d7+1)))=some r:=yE l7 H
     have l8:=aM l7;clear l7;have H':=aM H;clear H;obtain⟨f9,g6,g7,g8,g9⟩:=aI b7.out d7;cases g6
     replace g7:=hB HB g7;have fl_:True:=trivial;repeat((first|clear fl_|go_quiet (first|(go_at_call 85;(with_reducible refine(Ezp.calls _ _ l1 d7 e8 _ ?_ ?_ f3.out).mono ?_);exact cB b9;exact d0.out;rintro e w' ⟨rfl,⟨nd,rfl⟩⟩;(try exact dD))|((with_reducible refine gate_builtin (b:=.append) (xs:=#[.tmp 29,.tmp 31]) rfl ?_);at_builtin;refine Kd.R_append (Kd.int .i64) (w0:=w) w.heap.size rfl (.tmp 29) (.tmp 31) 37 3 (.int .i64 0) 8 rfl Try.underlying37 info3 rfl (by decide) (by omega) u5 d5 (wrap64 ((wrap64 ((rd l0 d7) - e8)) - d6)) [.int .i64 (wrap64 ((wrap64 ((rd l0 d7) - e8)) - d6))] (fun _=>True) (fun _=>False) rfl rfl ?aP (fun _ hk=>hk.elim) ?aF ?aO ?aB ?aS ?aL ?_;(case aP=>exact rfl);(case aB=>exact pB);(case aF=>exact(fun _ _=>trivial));(case aO=>exact(rX d9.out));(case aS=>exact(below_size pB));(case aL=>have:=LMc9.out;omega);intro l9 m4 ho hb hg hat;rw[← l8.out] at ho;have m5:=aM (ho);replace HB:=aM (hb);clear d9 ho hb hg hat)));go_wp2_with (first|(go_at_call 85;(with_reducible refine(Ezp.calls _ _ l1 d7 e8 _ ?_ ?_ f3.out).mono ?_);exact cB b9;exact d0.out;rintro e w' ⟨rfl,⟨nd,rfl⟩⟩;(try exact dD))|((with_reducible refine gate_builtin (b:=.append) (xs:=#[.tmp 29,.tmp 31]) rfl ?_);at_builtin;refine Kd.R_append (Kd.int .i64) (w0:=w) w.heap.size rfl (.tmp 29) (.tmp 31) 37 3 (.int .i64 0) 8 rfl Try.underlying37 info3 rfl (by decide) (by omega) u5 d5 (wrap64 ((wrap64 ((rd l0 d7) - e8)) - d6)) [.int .i64 (wrap64 ((wrap64 ((rd l0 d7) - e8)) - d6))] (fun _=>True) (fun _=>False) rfl rfl ?aP (fun _ hk=>hk.elim) ?aF ?aO ?aB ?aS ?aL ?_;(case aP=>exact rfl);(case aB=>exact pB);(case aF=>exact(fun _ _=>trivial));(case aO=>exact(rX d9.out));(case aS=>exact(below_size pB));(case aL=>have:=LMc9.out;omega);intro l9 m4 ho hb hg hat;rw[← l8.out] at ho;have m5:=aM (ho);replace HB:=aM (hb);clear d9 ho hb hg hat)))
     go_roundg k1
     case measure=>have:=d8.out;omega
     case rel=>exact⟨(l6),(0),(wrap64 (d7+1)),sD,sD,H',⟨by have:=d8.out;omega⟩,⟨rX m5.out⟩,⟨pB⟩⟩
   ·rw[if_neg c3] at H;have e6:decide (d7 < (l0.length:Int))=false:=decide_eq_false c3;clear c3;replace H:=bS H;obtain⟨⟨m6,m7⟩,m8,H⟩:=H;replace H:(some m6)=some r:=H;have m9:=aM m8;clear m8;obtain rfl:=Option.some.inj H;obtain⟨n0,n1,rfl⟩:=Kd.R_slice d9.out;have fl_:True:=trivial;repeat((first|clear fl_|go_quiet (first|(go_at_call 65;(with_reducible refine(Bzb.calls k1 _ _ d5 m6 m7 _ ?_ ?_ m9.out).mono ?_);exact cR d9;exact lR d9;rintro e n2 ⟨n3,rfl,n4,hb⟩;have n5:=rL (rn n4 d9);replace d9:=rE d9 n4 hb;replace HB:=bB hb;clear hb n4)));go_wp2_with (first|(go_at_call 65;(with_reducible refine(Bzb.calls k1 _ _ d5 m6 m7 _ ?_ ?_ m9.out).mono ?_);exact cR d9;exact lR d9;rintro e n2 ⟨n3,rfl,n4,hb⟩;have n5:=rL (rn n4 d9);replace d9:=rE d9 n4 hb;replace HB:=bB hb;clear hb n4)))
    go_ret
    exact⟨_,eW,by exact rX (Kd.R_mono n5.out (fun _ hk=>trivial)),pB⟩

end Go.Proofs.Ytnklckihalhlmaa.Print
