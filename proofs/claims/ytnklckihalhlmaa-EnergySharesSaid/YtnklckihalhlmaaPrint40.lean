import Derived.Test.YtnklckihalhlmaaPrint0
import Derived.Test.YtnklckihalhlmaaPrint34
import Derived.Test.YtnklckihalhlmaaPrint37
namespace Go.Proofs.Ytnklckihalhlmaa.Print
open Go.RowKit Go.Proofs.YtnklckihalhlmaaW.PrintWords Go.Proofs.YtnklckihalhlmaaW.PrintLast Go.Proofs.YtnklckihalhlmaaW.PrintMore
attribute [local go_sem] max2_int min2_int max_two min_two max_three min_three max_four min_four
set_option linter.unusedVariables false
set_option maxRecDepth 100000
set_option maxHeartbeats 8000000
set_option linter.unusedSimpArgs false

mutual
def Azx.j0:Nat→List Int→List Int→Bool→Option (List Int × List Int × Int)
 | 0,_,_,_=>none
 | k+1,x0,x1,x18=>if x18=true then(some (([]:List Int),([]:List Int),3)) else(if(x1.length:Int)=0 then(some (([]:List Int),([]:List Int),16)) else(if 0≤(x0.length:Int) then(if((x0.length:Int):Int).toNat≤35184372088832 then(Azx.l0 k x0 x1 (List.replicate ((x0.length:Int):Int).toNat 0) ([]:List Int) (wrap64 ((x0.length:Int) - 1))) else(none)) else(none)))
def Azx.l0:Nat→List Int→List Int→List Int→List Int→Int→Option (List Int × List Int × Int)
 | 0,_,_,_,_,_=>none
 | k+1,x0,x1,x7,x8,x9=>if x9≥0 then(if 0≤x9 then(if x9 < (x0.length:Int) then((some (([rd x0 x9]:List Int):List Int)).bind fun y561=>(if y561.length+x8.length < 17592186044416 then((some (y561 ++ x8:List Int)).bind fun y564=>(if 0≤(wrap64 ((y564.length:Int) - 1)) then(if(wrap64 ((y564.length:Int) - 1)) < (y564.length:Int) then(if(rd y564 (wrap64 ((y564.length:Int) - 1)))=0 then(Azx.j2 k x0 x1 x7 ([]:List Int) x9) else(Azx.j2 k x0 x1 x7 y564 x9)) else(none)) else(none))) else(none))) else(none)) else(none)) else((Bzb.f k x7).bind fun bt556=>(some (bt556.1,x8,0)))
def Azx.j2:Nat→List Int→List Int→List Int→List Int→Int→Option (List Int × List Int × Int)
 | 0,_,_,_,_,_=>none
 | k+1,x0,x1,x7,x8,x9=>(Czz.f k x8 x1).bind fun t568=>(if 0≤x9 then(if x9 < (x7.length:Int) then((some (x7.set (x9:Int).toNat t568:List Int)).bind fun y569=>(if t568 > 0 then((Azp.f k x1 (([t568]:List Int))).bind fun t573=>((Bzm.f k x8 t573).bind fun t576=>(Azx.l0 k x0 x1 y569 t576 (wrap64 (x9 - 1))))) else(Azx.l0 k x0 x1 y569 x8 (wrap64 (x9 - 1))))) else(none)) else(none))
end
def Azx.f (k:Nat) (l0:List Int) (l1:List Int):Option (List Int × List Int × Int):=(Azy.f k l0).bind fun t551=>(if t551=true then((Azy.f k l1).bind fun t552=>(Azx.j0 k l0 l1 (!t552))) else(Azx.j0 k l0 l1 true))
theorem Azx.mono_l:∀ k,(∀ a6 a7 a8,LeO (Azx.j0 k a6 a7 a8) (Azx.j0 (k+1) a6 a7 a8))∧(∀ a6 a7 a8 a9 b3,LeO (Azx.l0 k a6 a7 a8 a9 b3) (Azx.l0 (k+1) a6 a7 a8 a9 b3))∧(∀ a6 a7 a8 a9 b3,LeO (Azx.j2 k a6 a7 a8 a9 b3) (Azx.j2 (k+1) a6 a7 a8 a9 b3))
 | 0=>⟨fun _ _ _ r h=>by simp [Azx.j0] at h,fun _ _ _ _ _ r h=>by simp [Azx.l0] at h,fun _ _ _ _ _ r h=>by simp [Azx.j2] at h⟩
 | k+1=>by
  obtain⟨ih0,ih1,ih2⟩:=Azx.mono_l k;have i0:=@Azy.mono;have i1:=@Czz.mono;have i2:=@Bzb.mono;have i3:=@Bzm.mono;have i4:=@Azp.mono;refine⟨?_,?_,?_⟩
  ·intro a6 a7 a8;unfold Azx.j0;exact mM
  ·intro a6 a7 a8 a9 b3;unfold Azx.l0;exact mM
  ·intro a6 a7 a8 a9 b3;unfold Azx.j2;exact mM
theorem Azx.mono:∀ a6 a7 k,LeO (Azx.f k a6 a7) (Azx.f (k+1) a6 a7):=by
 intro a6 a7 k;obtain⟨ih0,ih1,ih2⟩:=Azx.mono_l k;unfold Azx.f;have i0:=@Azy.mono;have i1:=@Czz.mono;have i2:=@Bzb.mono;have i3:=@Bzm.mono;have i4:=@Azp.mono;exact mM
theorem Azx.calls (k:Nat) (a6:Option Addr) (a7:Nat) (l0:List Int) (a8:Option Addr) (a9:Nat) (l1:List Int) (b3:List Int) (b4:List Int) (b5:Int) (w:World) (b6:Kd.C (Kd.int .i64) w a6 l0.length l0) (b7:l0.length≤a7) (b8:Kd.C (Kd.int .i64) w a8 l1.length l1) (b9:l1.length≤a9) (h:Azx.f k l0 l1=some (b3,b4,b5)) :
  Calls Try.prog 64 #[.slice a6 l0.length a7,.slice a8 l1.length a9] w fun e w'=>∃ v0_ v1_:Value,e=.returned (.tuple #[v0_,v1_,.int .i64 b5])∧Kd.R (Kd.int .i64) 3 w' w.heap.size (fun k_=>some k_≠(v1_:Value).ownBlock) v0_ b3∧Kd.R (Kd.int .i64) 3 w' w.heap.size (fun k_=>some k_≠(v0_:Value).ownBlock) v1_ b4∧Below w.heap.size w w':=by
 have d0:=aM b6;have d1:=aM b7;clear b6 b7;have d3:=aM b8;have d4:=aM b9;clear b8 b9;have HB:=aM (Below.refl w.heap.size w);have H:((Azy.f k l0).bind fun d5=>(if d5=true then((Azy.f k l1).bind fun d6=>(Azx.j0 k l0 l1 (!d6))) else(Azx.j0 k l0 l1 true)))=some (b3,b4,b5):=h
 clear h;have d7:=aM H;clear H;go_enter Try.func64,Try.ntmps64
 go_upto_region 1 with (fail)
 go_cut [18] (fun d8 wc=>∃ (kq:Nat) (d9:Bool),d8=.bool d9∧Aside0 (Azx.j0 kq l0 l1 d9=some (b3,b4,b5))∧Aside0 (kq≤k)∧Aside0 (Below w.heap.size w wc))
 case first =>
  have H:=d7.out;clear d7;obtain⟨d5,e6,H⟩:=bT H;(try dsimp only at H);by_cases c5:d5=true
  ·subst c5;rw[if_pos rfl] at H;obtain⟨d6,e7,H⟩:=bT H;(try dsimp only at H);have H':=aM H;clear H;go_wp2_with (first|((with_reducible refine gc 42 rfl ?_);refine gC 42 (some 12) Try.func42 #[.slice a6 l0.length a7] ?_;(with_reducible refine(Azy.calls k _ _ l0 true _ ?_ ?_ e6.out).mono ?_);exact cB d0;exact d1.out;rintro e w' ⟨rfl,⟨nd,rfl⟩⟩;refine⟨_,rfl,?_⟩)|(go_at_call 42;(with_reducible refine(Azy.calls k _ _ l1 d6 _ ?_ ?_ e7.out).mono ?_);exact cB d3;exact d4.out;rintro e w' ⟨rfl,⟨nd,rfl⟩⟩))
   go_meet
   case rel=>exact⟨_,(!d6),sD,H',⟨by first|omega|exact Nat.le_refl _⟩,⟨pB⟩⟩
  ·obtain rfl:=bN c5;rw[if_neg nF] at H
   have H':=aM H;clear H;go_wp2_with (first|((with_reducible refine gc 42 rfl ?_);refine gC 42 (some 12) Try.func42 #[.slice a6 l0.length a7] ?_;(with_reducible refine(Azy.calls k _ _ l0 false _ ?_ ?_ e6.out).mono ?_);exact cB d0;exact d1.out;rintro e w' ⟨rfl,⟨nd,rfl⟩⟩;refine⟨_,rfl,?_⟩))
   go_meet
   case rel=>exact⟨_,(true),sD,H',⟨by first|omega|exact Nat.le_refl _⟩,⟨pB⟩⟩
 case rest =>
  clear d7;try clear a9
  obtain⟨kq,d9,rfl,HA,e8,HB⟩:=hcut;cases kq with
  | zero=>exact absurd HA.out (by simp [Azx.j0])
  | succ f3 =>
   have H:=HA.out;clear HA;simp only[Azx.j0] at H;by_cases c7:d9=true
   ·subst c7;rw[if_pos rfl] at H;obtain⟨rfl,rfl,rfl⟩:=q3 H;go_wp2
    go_ret3
    exact⟨_,_,eW,nK,nK,pB⟩
   ·obtain rfl:=bN c7;rw[if_neg nF] at H
    by_cases c8:(l1.length:Int)=0
    ·rw[if_pos c8] at H;obtain⟨f4,f5⟩:=bE c8;clear c8;obtain⟨rfl,rfl,rfl⟩:=q3 H;go_wp2
     go_ret3
     exact⟨_,_,eW,nK,nK,pB⟩
    ·rw[if_neg c8] at H;obtain⟨f4,f5⟩:=bI c8;have f6:¬ (l1=[]):=fun h_=>c8 (by rw[h_];rfl)
     by_cases c9:0≤(l0.length:Int)
     ·rw[if_pos c9] at H;have f7:=eq_true c9;have f8:=dE c9;clear c9;obtain⟨c10,H⟩:=iO H;have f9:=eq_true c10;have g6:decide (((l0.length:Int):Int).toNat≤35184372088832)=true:=dE c10;clear c10;obtain⟨g7,g8⟩:∃ y_:List Int,y_=(List.replicate ((l0.length:Int):Int).toNat 0):=⟨_,rfl⟩;replace H:(Azx.l0 f3 l0 l1 g7 ([]:List Int) (wrap64 ((l0.length:Int) - 1)))=some (b3,b4,b5):=yE g8 H
      have g9:=aM g8;clear g8;have H':=aM H;clear H;go_wp2_with (first|((with_reducible refine gate_dst (N:=24) rfl ?_);refine Kd.R_make (Kd.int .i64) _ 3 rfl (N:=24) rfl 37 _ _ rfl (l0.length:Int) rfl rfl Try.underlying37 (.int .i64 0) 8 info3 rfl (by decide) (by omega) 0 (ok:=fun _=>True) (okp:=fun _=>True) rfl (fun _ hk=>hk) trivial (oE aS) (Nat.le_trans (Nat.mul_le_mul_right _ (oE aS:(l0.length:Int).toNat≤35184372088832)) (by omega)) (Below.refl _ _) (Nat.le_refl _) ?_;intro j5 j9 l5 hb hg_ hnew_;clear hg_ hnew_;replace l5:=rY g9 l5;have l6:=rL l5;replace HB:=bB hb;clear hb l5))
      go_loopg [8,9] f3 (fun kq l7 l8 w'=>∃ (l9:List Int) (m4:List Int) (m5:Int),l8=.int .i64 m5∧Aside0 (Azx.l0 kq l0 l1 l9 m4 m5=some (b3,b4,b5))∧Aside0 (kq≤f3)∧Aside0 (Kd.R (Kd.int .i64) 3 w' w.heap.size (fun k_=>some k_≠(l7:Value).ownBlock) j5 l9)∧Aside0 (Kd.R (Kd.int .i64) 3 w' w.heap.size (fun k_=>some k_≠(j5:Value).ownBlock) l7 m4)∧Aside0 (Below w.heap.size w w'))
      case atStart=>exact⟨(g7),(([]:List Int)),(wrap64 ((l0.length:Int) - 1)),sD,H',⟨Nat.le_refl _⟩,⟨by exact rX (Kd.R_mono l6.out (fun _ hk=>(by simp [Value.ownBlock])))⟩,⟨nK⟩,⟨pB⟩⟩
      case round =>
       clear H';try clear a9
       obtain⟨l9,m4,m5,rfl,HA,m6,m7,m8,HB⟩:=hrel;cases gk with
       | zero=>exact absurd HA.out (by simp [Azx.l0])
       | succ k2 =>
        have H:=HA.out;clear HA;simp only[Azx.l0] at H;by_cases m9:m5≥0
        ·rw[if_pos m9] at H;have n0:decide (0≤m5)=true:=dE m9;clear m9;obtain⟨n1,H⟩:=iN H;obtain⟨n2,H⟩:=iN H;obtain⟨n3,n4⟩:∃ y_:List Int,y_=(([rd l0 m5]:List Int)):=⟨_,rfl⟩;replace H:(if n3.length+m4.length < 17592186044416 then((some (n3 ++ m4:List Int)).bind fun n5=>(if 0≤(wrap64 ((n5.length:Int) - 1)) then(if(wrap64 ((n5.length:Int) - 1)) < (n5.length:Int) then(if(rd n5 (wrap64 ((n5.length:Int) - 1)))=0 then(Azx.j2 k2 l0 l1 l9 ([]:List Int) m5) else(Azx.j2 k2 l0 l1 l9 n5 m5)) else(none)) else(none))) else(none))=some (b3,b4,b5):=yE n4 H
         have n6:=aM n4;clear n4;obtain⟨n7,H⟩:=iO H;have LMc16:=aM n7;clear n7;obtain⟨n5,n8⟩:∃ y_:List Int,y_=(n3 ++ m4):=⟨_,rfl⟩;replace H:(if 0≤(wrap64 ((n5.length:Int) - 1)) then(if(wrap64 ((n5.length:Int) - 1)) < (n5.length:Int) then(if(rd n5 (wrap64 ((n5.length:Int) - 1)))=0 then(Azx.j2 k2 l0 l1 l9 ([]:List Int) m5) else(Azx.j2 k2 l0 l1 l9 n5 m5)) else(none)) else(none))=some (b3,b4,b5):=yE n8 H
         have n9:=aM n8;clear n8;obtain⟨o0,o1⟩:∃ j_:Int,(wrap64 ((n5.length:Int) - 1))=j_:=⟨_,rfl⟩;replace H:(if 0≤(o0) then(if(o0) < (n5.length:Int) then(if(rd n5 (o0))=0 then(Azx.j2 k2 l0 l1 l9 ([]:List Int) m5) else(Azx.j2 k2 l0 l1 l9 n5 m5)) else(none)) else(none))=some (b3,b4,b5):=by first|(rw[o1] at H;exact H)|(simp only[o1] at H ⊢;exact H)
         have o2:(IntKind.i64.wrap ((n5.length:Int) - 1))=o0:=(i64_w _).trans o1;obtain⟨o3,H⟩:=iN H;obtain⟨o4,H⟩:=iN H;have o5:=aM H;clear H;obtain⟨o6,o7,o8,o9,p3⟩:=aI d0.out m5;cases o7
         replace o8:=hB HB o8;go_upto_if 45 with (first|((with_reducible refine gd 36 rfl ?_);refine iL 36 [rd l0 m5] ?_;intro p7 p9 r5 hb;replace r5:=rY n6 r5;have r6:=rL (rn (rn r5 m7) m8);replace m7:=rE m7 r5 hb;replace m8:=rE m8 r5 hb;replace HB:=bB hb;clear hb r5;obtain⟨r7,r8,rfl⟩:=Kd.R_slice m8.out)|((with_reducible refine gate_builtin (b:=.append) (xs:=#[.tmp 36,.tmp 37]) rfl ?_);at_builtin;refine Kd.R_append_rows (Kd.int .i64) (w0:=w) w.heap.size rfl (.tmp 36) (.tmp 37) 37 3 (.int .i64 0) 8 rfl Try.underlying37 info3 rfl (by decide) (by omega) p7 n3 m4 _ _ _ (fun k_=>some k_≠(j5:Value).ownBlock∧some k_≠(.slice r7 m4.length r8:Value).ownBlock) (fun _=>False) rfl rfl ?aO ?aR (fun _ _ h=>h) (fun _ h=>h.elim) ?aF ?aB ?aS ?aL ?_;(case aR=>exact cR m8);(case aB=>exact pB);(case aF=>exact(fun k_ hk=>⟨Kd.fresh' (Kd.R_lt (rX m7.out)) k_ hk,Kd.fresh' (Kd.R_lt (rX m8.out)) k_ hk⟩));(case aO=>exact(rX (Kd.R_mono r6.out (fun _ hk=>⟨hk.1.2,hk.2⟩))));(case aS=>exact(below_size pB));(case aL=>have:=LMc16.out;omega);intro r9 t0 ho hb hg hat;rw[← n9.out] at ho;have t1:=aM (ho);replace m7:=aM (Kd.R_after (ok:=(fun k_=>some k_≠(.slice r7 m4.length r8:Value).ownBlock)) (rX m7.out) hg hat);replace m8:=aM (Kd.R_after (ok:=(fun k_=>some k_≠(j5:Value).ownBlock)) (rX m8.out) hg hat);replace HB:=aM (hb);clear r6 ho hb hg hat;obtain⟨t2,t3,rfl⟩:=Kd.R_slice t1.out;obtain⟨t4,t5,t6,t7,t8⟩:=aI (Kd.R_reads' t1.out).2.2 (o0);cases t5))
         (try simp only[Act.put,sA,sZ,sC])
         go_cut [8] (fun l7 wc=>∃ (kq:Nat) (t9:List Int),Aside0 (Azx.j2 kq l0 l1 l9 t9 m5=some (b3,b4,b5))∧Aside0 (kq≤k2)∧Aside0 (Kd.R (Kd.int .i64) 3 wc w.heap.size (fun k_=>some k_≠(l7:Value).ownBlock) j5 l9)∧Aside0 (Kd.R (Kd.int .i64) 3 wc w.heap.size (fun k_=>some k_≠(j5:Value).ownBlock) l7 t9)∧Aside0 (Below w.heap.size w wc))
         case first =>
          have H:=o5.out;clear o5;by_cases z3:(rd n5 (o0))=0
          ·rw[if_pos z3] at H;obtain⟨z4,z5⟩:=bE z3;clear z3;(first|rw[z4]|(simp only[i64_w,i32_w];rw[z4])|skip)
           have H':=aM H;clear H;go_wp2
           go_meet
           case rel=>exact⟨_,(([]:List Int)),H',⟨by have:=e8.out;have:=m6.out;first|omega|exact Nat.le_refl _⟩,⟨by exact rX (Kd.R_mono m7.out (fun _ hk=>(by simp [Value.ownBlock])))⟩,⟨nK⟩,⟨pB⟩⟩
          ·rw[if_neg z3] at H;obtain⟨z4,z5⟩:=bI z3;(first|rw[z4]|(simp only[i64_w,i32_w];rw[z4])|skip)
           have H':=aM H;clear H;go_wp2
           go_meet
           case rel=>exact⟨_,(n5),H',⟨by have:=e8.out;have:=m6.out;first|omega|exact Nat.le_refl _⟩,⟨by exact rX (Kd.R_mono m7.out (fun _ hk=>hk.2))⟩,⟨by exact rX (Kd.R_mono t1.out (fun _ hk=>hk.1))⟩,⟨pB⟩⟩
         case rest =>
          clear o5;try clear a9
          obtain⟨kq,t9,HA,z6,m7,m8,HB⟩:=hcut;cases kq with
          | zero=>exact absurd HA.out (by simp [Azx.j2])
          | succ z7 =>
           have H:=HA.out;clear HA;simp only[Azx.j2] at H;obtain⟨z8,z9,H⟩:=bT H;(try dsimp only at H);obtain⟨B0,H⟩:=iN H;obtain⟨B1,H⟩:=iN H;obtain⟨B8,C0⟩:∃ y_:List Int,y_=(l9.set (m5:Int).toNat z8):=⟨_,rfl⟩;replace H:(if z8 > 0 then((Azp.f z7 l1 (([z8]:List Int))).bind fun C1=>((Bzm.f z7 t9 C1).bind fun C2=>(Azx.l0 z7 l0 l1 B8 C2 (wrap64 (m5 - 1))))) else(Azx.l0 z7 l0 l1 B8 t9 (wrap64 (m5 - 1))))=some (b3,b4,b5):=yE C0 H
           have C3:=aM C0;clear C0;by_cases C4:z8 > 0
           ·rw[if_pos C4] at H;have C6:decide (0 < z8)=true:=dE C4;clear C4;obtain⟨C7,C8⟩:∃ y_:List Int,y_=(([z8]:List Int)):=⟨_,rfl⟩;replace H:((Azp.f z7 l1 C7).bind fun C1=>((Bzm.f z7 t9 C1).bind fun C2=>(Azx.l0 z7 l0 l1 B8 C2 (wrap64 (m5 - 1)))))=some (b3,b4,b5):=yE C8 H
            have C9:=aM C8;clear C8;obtain⟨C1,D0,H⟩:=bT H;(try dsimp only at H);obtain⟨C2,D1,H⟩:=bT H;(try dsimp only at H);have H':=aM H;clear H;obtain⟨D2,D3,rfl⟩:=Kd.R_slice m8.out;go_wp2_with (first|((with_reducible refine gc 83 rfl ?_);refine gC 83 (some 48) Try.func83 #[.slice D2 t9.length D3,.slice a8 l1.length a9] ?_;(with_reducible refine(Czz.calls z7 _ _ t9 _ _ l1 z8 _ ?_ ?_ ?_ ?_ z9.out).mono ?_);exact cR m8;exact lR m8;exact cB d3;exact d4.out;rintro e D4 ⟨rfl,hb⟩;refine⟨_,rfl,?_⟩;replace m7:=rB m7 hb;replace m8:=rB m8 hb;replace HB:=bB hb;clear hb;have D5:0≤(m5:Int):=oE aS;have D6:(m5:Int) < ((l9.length:Int):Int):=oE aS;obtain⟨D7,D8,D9,E3,E4,E5,E6⟩:=Kd.R_form m7.out (by omega);(first|cases D9|(injection D9 with ea_ en_ ec_;(first|subst ea_|(injection ea_ with ea_;subst ea_));subst ec_;clear en_));have E7:=aM E3;have E8:=aM E6;clear E3 E4 E6;obtain⟨E9,F0⟩:=Kd.R_celln 0 m7.out (m5:Int) D5 D6;replace D5:=eq_true D5;replace D6:=eq_true D6;obtain⟨F1,hz36_⟩:=Kd.R_celln 0 m7.out (m5:Int) (oE aS) (oE aS);have F2:=Kd.R_putg m7.out (m5:Int) z8)|((with_reducible refine gate_store (t:=3) (p:=52) rfl ?_);refine store_event (t:=3) (p:=52) (v:=?vo_w37) (w1:=(D4.setCell ⟨D7,(m5:Int).toNat,none⟩ (.int .i64 z8))) ?hg ?ho ?hn ?hr ?_;(case ho=>rfl);(case hg=>rfl);(case hn=>rfl);(case hr=>first|(go_simp;done)|(go_simp;rfl));intro F3 hw;have hg:D4.grownBy F3 (some D7):=(by rw[hw];exact F2.2);have hp_:Kd.R (Kd.int .i64) 3 F3 w.heap.size (fun k_=>some k_≠(.slice D2 t9.length D3:Value).ownBlock) (.slice (some ⟨D7,0,none⟩) l9.length D8) B8:=(by rw[hw,C3.out];exact F2.1);clear F2;replace m7:=aM (hp_);replace m8:=aM (Kd.R_after (v:=(.slice (some ⟨D7,0,none⟩) l9.length D8)) (v1:=(.slice (some ⟨D7,0,none⟩) l9.length D8)) (ok:=(fun _=>True)) (rX (Kd.R_mono m8.out (fun _ hk=>⟨trivial,hk⟩))) hg (.inl rfl));replace HB:=aM ((by rw[hw];exact below_set (HB.out) E7.out:Below w.heap.size w F3));clear hg hw hp_)|((with_reducible refine gd 58 rfl ?_);refine iL 58 [z8] ?_;intro F4 F5 F6 hb;replace F6:=rY C9 F6;have F7:=rL (rn (rn F6 m7) m8);replace m7:=rE m7 F6 hb;replace m8:=rE m8 F6 hb;replace HB:=bB hb;clear hb F6;obtain⟨F8,F9,rfl⟩:=Kd.R_slice F7.out)|((with_reducible refine gc 66 rfl ?_);refine gC 66 (some 59) Try.func66 #[.slice a8 l1.length a9,.slice F8 C7.length F9] ?_;(with_reducible refine(Azp.calls z7 _ _ l1 _ _ C7 C1 _ ?_ ?_ ?_ ?_ D0.out).mono ?_);exact cB d3;exact d4.out;exact cR F7;exact lR F7;rintro e G0 ⟨G1,rfl,G2,hb⟩;refine⟨_,rfl,?_⟩;have G3:=rL (rn (rn (rn G2 m7) m8) F7);replace m7:=rE m7 G2 hb;replace m8:=rE m8 G2 hb;replace F7:=rE F7 G2 hb;replace HB:=bB hb;clear hb G2;obtain⟨G4,G5,rfl⟩:=Kd.R_slice G3.out)|((with_reducible refine gc 84 rfl ?_);refine gC 84 (some 60) Try.func84 #[.slice D2 t9.length D3,.slice G4 C1.length G5] ?_;(with_reducible refine(Bzm.calls z7 _ _ t9 _ _ C1 C2 _ ?_ ?_ ?_ ?_ D1.out).mono ?_);exact cR m8;exact lR m8;exact cR G3;exact lR G3;rintro e G6 ⟨G7,rfl,G2,hb⟩;refine⟨_,rfl,?_⟩;have G8:=rL (rn (rn (rn (rn G2 m7) m8) F7) G3);replace m7:=rE m7 G2 hb;replace m8:=rE m8 G2 hb;replace F7:=rE F7 G2 hb;replace G3:=rE G3 G2 hb;replace HB:=bB hb;clear hb G2))
            go_roundg z7
            case measure=>have:=e8.out;have:=m6.out;have:=z6.out;omega
            case rel=>exact⟨(B8),(C2),(wrap64 (m5 - 1)),sD,H',⟨by have:=e8.out;have:=m6.out;have:=z6.out;omega⟩,⟨by exact rX (Kd.R_mono m7.out (fun _ hk=>hk.2))⟩,⟨by exact rX (Kd.R_mono G8.out (fun _ hk=>hk.1.1.1.2))⟩,⟨pB⟩⟩
           ·rw[if_neg C4] at H;have C6:decide (0 < z8)=false:=decide_eq_false C4;clear C4;have H':=aM H;clear H;obtain⟨G9,H1,rfl⟩:=Kd.R_slice m8.out;go_wp2_with (first|((with_reducible refine gc 83 rfl ?_);refine gC 83 (some 48) Try.func83 #[.slice G9 t9.length H1,.slice a8 l1.length a9] ?_;(with_reducible refine(Czz.calls z7 _ _ t9 _ _ l1 z8 _ ?_ ?_ ?_ ?_ z9.out).mono ?_);exact cR m8;exact lR m8;exact cB d3;exact d4.out;rintro e H2 ⟨rfl,hb⟩;refine⟨_,rfl,?_⟩;replace m7:=rB m7 hb;replace m8:=rB m8 hb;replace HB:=bB hb;clear hb;have D5:0≤(m5:Int):=oE aS;have D6:(m5:Int) < ((l9.length:Int):Int):=oE aS;obtain⟨D7,D8,D9,E3,E4,E5,E6⟩:=Kd.R_form m7.out (by omega);(first|cases D9|(injection D9 with ea_ en_ ec_;(first|subst ea_|(injection ea_ with ea_;subst ea_));subst ec_;clear en_));have E7:=aM E3;have E8:=aM E6;clear E3 E4 E6;obtain⟨E9,F0⟩:=Kd.R_celln 0 m7.out (m5:Int) D5 D6;replace D5:=eq_true D5;replace D6:=eq_true D6;obtain⟨H3,hz46_⟩:=Kd.R_celln 0 m7.out (m5:Int) (oE aS) (oE aS);have H4:=Kd.R_putg m7.out (m5:Int) z8)|((with_reducible refine gate_store (t:=3) (p:=52) rfl ?_);refine store_event (t:=3) (p:=52) (v:=?vo_w47) (w1:=(H2.setCell ⟨D7,(m5:Int).toNat,none⟩ (.int .i64 z8))) ?hg ?ho ?hn ?hr ?_;(case ho=>rfl);(case hg=>rfl);(case hn=>rfl);(case hr=>first|(go_simp;done)|(go_simp;rfl));intro H5 hw;have hg:H2.grownBy H5 (some D7):=(by rw[hw];exact H4.2);have hp_:Kd.R (Kd.int .i64) 3 H5 w.heap.size (fun k_=>some k_≠(.slice G9 t9.length H1:Value).ownBlock) (.slice (some ⟨D7,0,none⟩) l9.length D8) B8:=(by rw[hw,C3.out];exact H4.1);clear H4;replace m7:=aM (hp_);replace m8:=aM (Kd.R_after (v:=(.slice (some ⟨D7,0,none⟩) l9.length D8)) (v1:=(.slice (some ⟨D7,0,none⟩) l9.length D8)) (ok:=(fun _=>True)) (rX (Kd.R_mono m8.out (fun _ hk=>⟨trivial,hk⟩))) hg (.inl rfl));replace HB:=aM ((by rw[hw];exact below_set (HB.out) E7.out:Below w.heap.size w H5));clear hg hw hp_))
            go_roundg z7
            case measure=>have:=e8.out;have:=m6.out;have:=z6.out;omega
            case rel=>exact⟨(B8),(t9),(wrap64 (m5 - 1)),sD,H',⟨by have:=e8.out;have:=m6.out;have:=z6.out;omega⟩,⟨rX m7.out⟩,⟨by exact rX (Kd.R_mono m8.out (fun _ hk=>hk.2))⟩,⟨pB⟩⟩
        ·rw[if_neg m9] at H;have n0:decide (0≤m5)=false:=decide_eq_false m9;clear m9;replace H:=bS H;obtain⟨⟨H6,H7⟩,H8,H⟩:=H;replace H:(some (H6,m4,0))=some (b3,b4,b5):=H;have H9:=aM H8;clear H8;obtain⟨rfl,rfl,rfl⟩:=q3 H;obtain⟨I0,I1,rfl⟩:=Kd.R_slice m7.out;go_wp2_with (first|((with_reducible refine gc 65 rfl ?_);refine gC 65 (some 63) Try.func65 #[.slice I0 l9.length I1] ?_;(with_reducible refine(Bzb.calls k2 _ _ l9 H6 H7 _ ?_ ?_ H9.out).mono ?_);exact cR m7;exact lR m7;rintro e I2 ⟨I3,rfl,G2,hb⟩;refine⟨_,rfl,?_⟩;have I4:=rL (rn (rn G2 m7) m8);replace m7:=rE m7 G2 hb;replace m8:=rE m8 G2 hb;replace HB:=bB hb;clear hb G2))
         go_ret3
         exact⟨_,_,eW,by exact rX (Kd.R_mono I4.out (fun _ hk=>hk.2)),by exact rX (Kd.R_mono m8.out (fun _ hk=>hk.2)),pB⟩
     ·rw[if_neg c9] at H;exact absurd H (by simp)


mutual
def Bzj.j0:Nat→List Int→List Int→Bool→Option (List Int × Int)
 | 0,_,_,_=>none
 | k+1,x0,x1,x16=>if x16=true then(some (([]:List Int),3)) else((some (([]:List Int):List Int)).bind fun y581=>(if y581.length+x0.length < 17592186044416 then(Bzj.l0 k (y581 ++ x0) x1) else(none)))
def Bzj.l0:Nat→List Int→List Int→Option (List Int × Int)
 | 0,_,_=>none
 | k+1,x0,x1=>if(x1.length:Int) > 0 then((Azx.f k x0 x1).bind fun bt587=>((some (([]:List Int):List Int)).bind fun y594=>(if y594.length+x1.length < 17592186044416 then(Bzj.l0 k (y594 ++ x1) bt587.2.1) else(none)))) else(some (x0,0))
end
def Bzj.f (k:Nat) (l0:List Int) (l1:List Int):Option (List Int × Int):=(Azy.f k l0).bind fun t579=>(if t579=true then((Azy.f k l1).bind fun t580=>(Bzj.j0 k l0 l1 (!t580))) else(Bzj.j0 k l0 l1 true))
theorem Bzj.mono_l:∀ k,(∀ a6 a7 a8,LeO (Bzj.j0 k a6 a7 a8) (Bzj.j0 (k+1) a6 a7 a8))∧(∀ a6 a7,LeO (Bzj.l0 k a6 a7) (Bzj.l0 (k+1) a6 a7))
 | 0=>⟨fun _ _ _ r h=>by simp [Bzj.j0] at h,fun _ _ r h=>by simp [Bzj.l0] at h⟩
 | k+1=>by
  obtain⟨ih0,ih1⟩:=Bzj.mono_l k;have i0:=@Azx.mono;have i1:=@Azy.mono;refine⟨?_,?_⟩
  ·intro a6 a7 a8;unfold Bzj.j0;exact mM
  ·intro a6 a7;unfold Bzj.l0;exact mM
theorem Bzj.mono:∀ a6 a7 k,LeO (Bzj.f k a6 a7) (Bzj.f (k+1) a6 a7):=by
 intro a6 a7 k;obtain⟨ih0,ih1⟩:=Bzj.mono_l k;unfold Bzj.f;have i0:=@Azx.mono;have i1:=@Azy.mono;exact mM
theorem Bzj.calls (k:Nat) (a6:Option Addr) (a7:Nat) (l0:List Int) (a8:Nat→Prop) (a9:Option Addr) (b3:Nat) (l1:List Int) (b4:List Int) (b5:Int) (w:World) (b6:Kd.C (Kd.int .i64) w a6 l0.length l0) (b7:l0.length≤a7) (b8:Kd.V (Kd.int .i64) 3 w w.heap.size (fun k_=>a8 k_) (.slice a9 l1.length b3) l1) (h:Bzj.f k l0 l1=some (b4,b5)) :
  Calls Try.prog 43 #[.slice a6 l0.length a7,.slice a9 l1.length b3] w fun e w'=>∃ v0_:Value,e=.returned (.tuple #[v0_,.int .i64 b5])∧Kd.R (Kd.int .i64) 3 w' w.heap.size (fun k_=>(w.heap.size≤k_)) v0_ b4∧Below w.heap.size w w':=by
 have b9:=aM b6;have d0:=aM b7;clear b6 b7;have d1:=aM (show Kd.V (Kd.int .i64) 3 w w.heap.size (fun k_=>(a8 k_∨w.heap.size≤k_)) (.slice a9 l1.length b3) l1 from Kd.V_mono b8 (fun k_ hk=>.inl hk))
 have HB:=aM (Below.refl w.heap.size w);have H:((Azy.f k l0).bind fun d3=>(if d3=true then((Azy.f k l1).bind fun d4=>(Bzj.j0 k l0 l1 (!d4))) else(Bzj.j0 k l0 l1 true)))=some (b4,b5):=h
 clear h;have d5:=aM H;clear H;go_enter Try.func43,Try.ntmps43
 go_upto_region 1 with (fail)
 go_cut [16] (fun d6 wc=>∃ (kq:Nat) (d7:Bool),d6=.bool d7∧Aside0 (Bzj.j0 kq l0 l1 d7=some (b4,b5))∧Aside0 (kq≤k)∧Aside0 (Kd.V (Kd.int .i64) 3 wc w.heap.size (fun k_=>(a8 k_∨w.heap.size≤k_)) (.slice a9 l1.length b3) l1)∧Aside0 (Below w.heap.size w wc))
 case first =>
  have H:=d5.out;clear d5;obtain⟨d3,d8,H⟩:=bT H;(try dsimp only at H);by_cases c5:d3=true
  ·subst c5;rw[if_pos rfl] at H;obtain⟨d4,d9,H⟩:=bT H;(try dsimp only at H);have H':=aM H;clear H;go_wp2_with (first|((with_reducible refine gc 42 rfl ?_);refine gC 42 (some 10) Try.func42 #[.slice a6 l0.length a7] ?_;(with_reducible refine(Azy.calls k _ _ l0 true _ ?_ ?_ d8.out).mono ?_);exact cB b9;exact d0.out;rintro e w' ⟨rfl,⟨nd,rfl⟩⟩;refine⟨_,rfl,?_⟩)|(go_at_call 42;(with_reducible refine(Azy.calls k _ _ l1 d4 _ ?_ ?_ d9.out).mono ?_);exact cV d1;exact lV d1;rintro e w' ⟨rfl,⟨nd,rfl⟩⟩))
   go_meet
   case rel=>exact⟨_,(!d4),sD,H',⟨by first|omega|exact Nat.le_refl _⟩,⟨vX d1.out⟩,⟨pB⟩⟩
  ·obtain rfl:=bN c5;rw[if_neg nF] at H
   have H':=aM H;clear H;go_wp2_with (first|((with_reducible refine gc 42 rfl ?_);refine gC 42 (some 10) Try.func42 #[.slice a6 l0.length a7] ?_;(with_reducible refine(Azy.calls k _ _ l0 false _ ?_ ?_ d8.out).mono ?_);exact cB b9;exact d0.out;rintro e w' ⟨rfl,⟨nd,rfl⟩⟩;refine⟨_,rfl,?_⟩))
   go_meet
   case rel=>exact⟨_,(true),sD,H',⟨by first|omega|exact Nat.le_refl _⟩,⟨vX d1.out⟩,⟨pB⟩⟩
 case rest =>
  clear d5;try clear b3
  obtain⟨kq,d7,rfl,HA,e6,e7,HB⟩:=hcut;cases kq with
  | zero=>exact absurd HA.out (by simp [Bzj.j0])
  | succ e8 =>
   have H:=HA.out;clear HA;simp only[Bzj.j0] at H;by_cases c7:d7=true
   ·subst c7;rw[if_pos rfl] at H;obtain⟨rfl,rfl⟩:=q2 H;go_wp2
    go_ret2
    exact⟨_,eW,nK,pB⟩
   ·obtain rfl:=bN c7;rw[if_neg nF] at H
    obtain⟨f3,f4⟩:∃ y_:List Int,y_=(([]:List Int)):=⟨_,rfl⟩;replace H:(if f3.length+l0.length < 17592186044416 then(Bzj.l0 e8 (f3 ++ l0) l1) else(none))=some (b4,b5):=yE f4 H
    have f5:=aM f4;clear f4;by_cases c8:f3.length+l0.length < 17592186044416
    ·rw[if_pos c8] at H;have LMc8:=aM c8;clear c8;obtain⟨f6,f7⟩:∃ y_:List Int,y_=(f3 ++ l0):=⟨_,rfl⟩;replace H:(Bzj.l0 e8 f6 l1)=some (b4,b5):=yE f7 H
     have f8:=aM f7;clear f7;have H':=aM H;clear H;go_wp2_with (first|((with_reducible refine gd 17 rfl ?_);refine iL 17 [] ?_;intro f9 g6 g7 hb;replace g7:=rY f5 g7;have g8:=rL (Kd.R_newM (M:=fun k_=>(w.heap.size≤k_)) g7 (below_size pB) (fun k_ h_=>h_));replace e7:=vE e7 g7 hb;replace HB:=bB hb;clear hb g7)|((with_reducible refine gate_builtin (b:=.append) (xs:=#[.tmp 17,.tmp 18]) rfl ?_);at_builtin;refine Kd.R_append_rows (Kd.int .i64) (w0:=w) w.heap.size rfl (.tmp 17) (.tmp 18) 37 3 (.int .i64 0) 8 rfl Try.underlying37 info3 rfl (by decide) (by omega) f9 f3 l0 _ _ _ (fun k_=>(w.heap.size≤k_)) (fun _=>False) rfl rfl ?aO ?aR (fun _ _ h=>h) (fun _ h=>h.elim) ?aF ?aB ?aS ?aL ?_;(case aR=>exact cB b9);(case aB=>exact pB);(case aF=>exact(fun k_ hk=>(Nat.le_trans (below_size pB) hk)));(case aO=>exact(rX (Kd.R_mono g8.out (fun _ hk=>hk.1))));(case aS=>exact(below_size pB));(case aL=>have:=LMc8.out;omega);intro g9 j5 ho hb hg hat;rw[← f8.out] at ho;have j9:=aM (ho);replace e7:=aM (Kd.V_afterv (ok:=(fun k_=>(a8 k_∨w.heap.size≤k_))) (vX e7.out) hg hat);replace HB:=aM (hb);clear g8 ho hb hg hat))
     go_loopg [0,1] e8 (fun kq l5 l6 w'=>∃ (l7:List Int) (l8:List Int),Aside0 (Bzj.l0 kq l7 l8=some (b4,b5))∧Aside0 (kq≤e8)∧Aside0 (Kd.R (Kd.int .i64) 3 w' w.heap.size (fun k_=>(w.heap.size≤k_)) l5 l7)∧Aside0 (Kd.V (Kd.int .i64) 3 w' w.heap.size (fun k_=>(a8 k_∨w.heap.size≤k_)∧some k_≠(l5:Value).ownBlock) l6 l8)∧Aside0 (Below w.heap.size w w'))
     case atStart=>exact⟨(f6),(l1),H',⟨Nat.le_refl _⟩,⟨rX j9.out⟩,⟨vX e7.out⟩,⟨pB⟩⟩
     case round =>
      clear H';try clear b3
      obtain⟨l7,l8,HA,l9,m4,e7,HB⟩:=hrel;cases gk with
      | zero=>exact absurd HA.out (by simp [Bzj.l0])
      | succ k2 =>
       have H:=HA.out;clear HA;simp only[Bzj.l0] at H;by_cases m5:(l8.length:Int) > 0
       ·rw[if_pos m5] at H;have m6:decide (0 < (l8.length:Int))=true:=dE m5;have m7:decide (0 < l8.length)=true:=dE (by omega)
        clear m5;obtain⟨⟨m8,m9,n0⟩,n1,H⟩:=bT H;(try dsimp only at H);obtain⟨n2,n3⟩:∃ y_:List Int,y_=(([]:List Int)):=⟨_,rfl⟩;replace H:(if n2.length+l8.length < 17592186044416 then(Bzj.l0 k2 (n2 ++ l8) m9) else(none))=some (b4,b5):=yE n3 H
        have n4:=aM n3;clear n3;obtain⟨n5,H⟩:=iO H;have LMc14:=aM n5;clear n5;obtain⟨n6,n7⟩:∃ y_:List Int,y_=(n2 ++ l8):=⟨_,rfl⟩;replace H:(Bzj.l0 k2 n6 m9)=some (b4,b5):=yE n7 H
        have n8:=aM n7;clear n7;have H':=aM H;clear H;obtain⟨n9,o0,o1⟩:=Kd.V_slice e7.out;subst o1;obtain⟨o2,o3,rfl⟩:=Kd.R_slice m4.out;go_wp2_with (first|((with_reducible refine gc 64 rfl ?_);refine gC 64 (some 26) Try.func64 #[.slice o2 l7.length o3,.slice n9 l8.length o0] ?_;(with_reducible refine(Azx.calls k2 _ _ l7 _ _ l8 m8 m9 n0 _ ?_ ?_ ?_ ?_ n1.out).mono ?_);exact cR m4;exact lR m4;exact cV e7;exact lV e7;rintro e o4 ⟨o5,o6,rfl,o7,o8,hb⟩;refine⟨_,rfl,?_⟩;have o9:=rL (rn (Kd.R_newM (M:=fun k_=>(w.heap.size≤k_)) o7 (below_size pB) (fun k_ h_=>h_)) m4);have p3:=rL (rn (Kd.R_newM (M:=fun k_=>(w.heap.size≤k_)) o8 (below_size pB) (fun k_ h_=>h_)) m4);replace m4:=rO m4 hb o7 o8;replace e7:=vO e7 hb o7 o8;replace HB:=bB hb;clear hb o7 o8)|((with_reducible refine gd 30 rfl ?_);refine iL 30 [] ?_;intro p7 p9 r5 hb;replace r5:=rY n4 r5;have r6:=rL (rn (rn (rn (Kd.R_newM (M:=fun k_=>(w.heap.size≤k_)) r5 (below_size pB) (fun k_ h_=>h_)) m4) o9) p3);replace m4:=rE m4 r5 hb;replace e7:=vE e7 r5 hb;replace o9:=rE o9 r5 hb;replace p3:=rE p3 r5 hb;replace HB:=bB hb;clear hb r5)|((with_reducible refine gate_builtin (b:=.append) (xs:=#[.tmp 30,.tmp 31]) rfl ?_);at_builtin;refine Kd.R_append_rows (Kd.int .i64) (w0:=w) w.heap.size rfl (.tmp 30) (.tmp 31) 37 3 (.int .i64 0) 8 rfl Try.underlying37 info3 rfl (by decide) (by omega) p7 n2 l8 _ _ _ (fun k_=>(w.heap.size≤k_)∧some k_≠(.slice o2 l7.length o3:Value).ownBlock∧some k_≠(o5:Value).ownBlock∧some k_≠(o6:Value).ownBlock) (fun _=>False) rfl rfl ?aO ?aR (fun _ _ h=>h) (fun _ h=>h.elim) ?aF ?aB ?aS ?aL ?_;(case aR=>exact cV e7);(case aB=>exact pB);(case aF=>exact(fun k_ hk=>⟨(Nat.le_trans (below_size pB) hk),Kd.fresh' (Kd.R_lt (rX m4.out)) k_ hk,Kd.fresh' (Kd.R_lt (rX o9.out)) k_ hk,Kd.fresh' (Kd.R_lt (rX p3.out)) k_ hk⟩));(case aO=>exact(rX (Kd.R_mono r6.out (fun _ hk=>⟨hk.1.1.1.1,⟨hk.1.1.2,⟨hk.1.2,hk.2⟩⟩⟩))));(case aS=>exact(below_size pB));(case aL=>have:=LMc14.out;omega);intro r7 r8 ho hb hg hat;rw[← n8.out] at ho;have r9:=aM (ho);replace m4:=aM (Kd.R_after (ok:=(fun k_=>(w.heap.size≤k_)∧some k_≠(o5:Value).ownBlock∧some k_≠(o6:Value).ownBlock)) (rX (Kd.R_mono m4.out (fun _ hk=>⟨⟨hk.1.1.1,⟨hk.1.1.2,hk.1.2⟩⟩,hk.2⟩))) hg hat);replace e7:=aM (Kd.V_afterv (ok:=(fun k_=>(a8 k_∨w.heap.size≤k_)∧some k_≠(.slice o2 l7.length o3:Value).ownBlock∧some k_≠(o5:Value).ownBlock∧some k_≠(o6:Value).ownBlock)) (by exact vX (Kd.V_mono e7.out (fun _ hk=>⟨⟨hk.1.1.1.1,⟨hk.1.1.1.2,⟨hk.1.1.2,hk.1.2⟩⟩⟩,hk.2⟩))) hg hat);replace o9:=aM (Kd.R_after (ok:=(fun k_=>(w.heap.size≤k_)∧some k_≠(.slice o2 l7.length o3:Value).ownBlock∧some k_≠(o6:Value).ownBlock)) (rX (Kd.R_mono o9.out (fun _ hk=>⟨⟨hk.1.1.1,⟨hk.1.2,hk.1.1.2⟩⟩,hk.2⟩))) hg hat);replace p3:=aM (Kd.R_after (ok:=(fun k_=>(w.heap.size≤k_)∧some k_≠(.slice o2 l7.length o3:Value).ownBlock∧some k_≠(o5:Value).ownBlock)) (rX (Kd.R_mono p3.out (fun _ hk=>⟨⟨hk.1.1.1,⟨hk.1.2,hk.1.1.2⟩⟩,hk.2⟩))) hg hat);replace HB:=aM (hb);clear r6 ho hb hg hat))
        go_roundg k2
        case measure=>have:=e6.out;have:=l9.out;omega
        case rel=>exact⟨(n6),(m9),H',⟨by have:=e6.out;have:=l9.out;omega⟩,⟨by exact rX (Kd.R_mono r9.out (fun _ hk=>hk.1))⟩,⟨Kd.V_mono (Kd.R_V (rX p3.out)) (fun k_ hk=>by first|exact⟨(.inr hk.1.1),hk.2⟩|exact⟨(.inr (hk.1)),hk.2⟩|exact(.inr (hk)))⟩,⟨pB⟩⟩
       ·rw[if_neg m5] at H;have m6:decide (0 < (l8.length:Int))=false:=decide_eq_false m5;have m7:decide (0 < l8.length)=false:=decide_eq_false (by omega)
        clear m5;obtain⟨rfl,rfl⟩:=q2 H;obtain⟨t0,t1,t2⟩:=Kd.V_slice e7.out;subst t2;go_wp2
        go_ret2
        exact⟨_,eW,rX m4.out,pB⟩
    ·rw[if_neg c8] at H;exact absurd H (by simp)

def Dzp.f (k:Nat) (a0:Bool) (l1:List Int) (l2:List Int):Option (Bool × List Int × List Int):=(Bzj.f k l1 l2).bind fun bt601=>((Azx.f k l1 bt601.1).bind fun bt605=>((Azx.f k l2 bt601.1).bind fun bt612=>(if a0=true then(some (decide (0 < bt605.1.length),bt605.1,bt612.1)) else(some (false,bt605.1,bt612.1)))))
theorem Dzp.mono:∀ a6 a7 a8 k,LeO (Dzp.f k a6 a7 a8) (Dzp.f (k+1) a6 a7 a8):=by
 intro a6 a7 a8 k;unfold Dzp.f;have i0:=@Azx.mono;have i1:=@Bzj.mono;exact mM
theorem Dzp.calls (k:Nat) (a6:Bool) (a7:Option Addr) (a8:Nat) (l1:List Int) (a9:Option Addr) (c2:Nat) (l2:List Int) (b3:Bool) (b4:List Int) (b5:List Int) (w:World) (b6:Kd.C (Kd.int .i64) w a7 l1.length l1) (b7:l1.length≤a8) (b8:Kd.C (Kd.int .i64) w a9 l2.length l2) (b9:l2.length≤c2) (h:Dzp.f k a6 l1 l2=some (b3,b4,b5)) :
  Calls Try.prog 46 #[.bool a6,.slice a7 l1.length a8,.slice a9 l2.length c2] w fun e w'=>∃ v1_ v2_:Value,e=.returned (.agg #[.bool b3,v1_,v2_])∧Kd.R (Kd.int .i64) 3 w' w.heap.size (fun k_=>some k_≠(v2_:Value).ownBlock) v1_ b4∧Kd.R (Kd.int .i64) 3 w' w.heap.size (fun k_=>some k_≠(v1_:Value).ownBlock) v2_ b5∧Below w.heap.size w w':=by
 have hu39:=Try.underlying39;have d0:=aM b6;have d1:=aM b7;clear b6 b7;have d3:=aM b8;have d4:=aM b9;clear b8 b9;have HB:=aM (Below.refl w.heap.size w);have H:((Bzj.f k l1 l2).bind fun d5=>((Azx.f k l1 d5.1).bind fun d6=>((Azx.f k l2 d5.1).bind fun d7=>(if a6=true then(some (decide (0 < d6.1.length),d6.1,d7.1)) else(some (false,d6.1,d7.1))))))=some (b3,b4,b5):=h
 clear h;obtain⟨⟨d8,d9⟩,e6,H⟩:=bT H;(try dsimp only at H);obtain⟨⟨e7,e8,f3⟩,f4,H⟩:=bT H;(try dsimp only at H);obtain⟨⟨f5,f6,f7⟩,f8,H⟩:=bT H;(try dsimp only at H);by_cases c7:a6=true
 ·subst c7;rw[if_pos rfl] at H;obtain⟨rfl,rfl,rfl⟩:=q3 H;go_enter Try.func46,Try.ntmps46
  go_wp2_with (first|((with_reducible refine gd 6 rfl ?_);refine bxg #[.bool false,.slice none 0 0,.slice none 0 0] 39 ?_;intro f9 hg g6 g7 hb;have g8:=gA w hg;have g9:=gA w hg;replace HB:=bB hb;clear hb hg)|((with_reducible refine gc 43 rfl ?_);refine gC 43 (some 18) Try.func43 #[.slice a7 l1.length a8,.slice a9 l2.length c2] ?_;(with_reducible refine(Bzj.calls k _ _ l1 (fun k_=>k_ < w.heap.size) _ _ l2 d8 d9 _ ?_ ?_ ?_ e6.out).mono ?_);exact cB d0;exact d1.out;exact Kd.V_mk d4.out (Kd.F_below (Kd.C_F (Kd.heap_int .i64) d3.out) pB);rintro e j5 ⟨j9,rfl,l5,hb⟩;refine⟨_,rfl,?_⟩;have l6:=rL (Kd.R_mono (ok':=fun k_=>True) l5 (fun _ hk_=>trivial));replace g7:=kb g7 hb;replace HB:=bB hb;clear hb l5;obtain⟨l7,l8,rfl⟩:=Kd.R_slice l6.out)|((with_reducible refine gc 64 rfl ?_);refine gC 64 (some 24) Try.func64 #[.slice a7 l1.length a8,.slice l7 d8.length l8] ?_;(with_reducible refine(Azx.calls k _ _ l1 _ _ d8 e7 e8 f3 _ ?_ ?_ ?_ ?_ f4.out).mono ?_);exact cB d0;exact d1.out;exact cR l6;exact lR l6;rintro e l9 ⟨m4,m5,rfl,l5,m6,hb⟩;refine⟨_,rfl,?_⟩;have m7:=rL (rn l5 l6);have m8:=rL (rn m6 l6);replace l6:=rO l6 hb l5 m6;replace g7:=kb g7 hb;replace HB:=bB hb;clear hb l5 m6)|((with_reducible refine gc 64 rfl ?_);refine gC 64 (some 31) Try.func64 #[.slice a9 l2.length c2,.slice l7 d8.length l8] ?_;(with_reducible refine(Azx.calls k _ _ l2 _ _ d8 f5 f6 f7 _ ?_ ?_ ?_ ?_ f8.out).mono ?_);exact cB d3;exact d4.out;exact cR l6;exact lR l6;rintro e m9 ⟨n0,n1,rfl,l5,m6,hb⟩;refine⟨_,rfl,?_⟩;have n2:=rL (rn (rn (rn l5 l6) m7) m8);have n3:=rL (rn (rn (rn m6 l6) m7) m8);replace l6:=rO l6 hb l5 m6;replace m7:=rO m7 hb l5 m6;replace m8:=rO m8 hb l5 m6;replace g7:=kb g7 hb;replace HB:=bB hb;clear hb l5 m6;obtain⟨n4,n5,rfl⟩:=Kd.R_slice m7.out;obtain⟨n6,n7,rfl⟩:=Kd.R_slice n2.out;obtain⟨n8,n9,o0,o1,o2,o3⟩:=bk3 g7))
  refine bodyPost_ret (results_cell_row rfl _ _ f9 39 #[.bool (decide (0 < e7.length)),.slice n4 e7.length n5,.slice n6 f5.length n7] (0,0) _ rfl (kQ g7) Try.underlying39 rfl (by kernel_rfl)) rfl ?_
  exact⟨_,_,eW,by exact Kd.R_mono (rT m7 g7) (fun _ hk=>hk.1.2),by exact Kd.R_mono (rT n2 g7) (fun _ hk=>hk.1.2),pB⟩
 ·obtain rfl:=bN c7;rw[if_neg nF] at H
  obtain⟨rfl,rfl,rfl⟩:=q3 H;go_enter Try.func46,Try.ntmps46
  go_wp2_with (first|((with_reducible refine gd 6 rfl ?_);refine bxg #[.bool false,.slice none 0 0,.slice none 0 0] 39 ?_;intro f9 hg o4 g7 hb;have g8:=gA w hg;have g9:=gA w hg;replace HB:=bB hb;clear hb hg)|((with_reducible refine gc 43 rfl ?_);refine gC 43 (some 18) Try.func43 #[.slice a7 l1.length a8,.slice a9 l2.length c2] ?_;(with_reducible refine(Bzj.calls k _ _ l1 (fun k_=>k_ < w.heap.size) _ _ l2 d8 d9 _ ?_ ?_ ?_ e6.out).mono ?_);exact cB d0;exact d1.out;exact Kd.V_mk d4.out (Kd.F_below (Kd.C_F (Kd.heap_int .i64) d3.out) pB);rintro e o5 ⟨j9,rfl,l5,hb⟩;refine⟨_,rfl,?_⟩;have l6:=rL (Kd.R_mono (ok':=fun k_=>True) l5 (fun _ hk_=>trivial));replace g7:=kb g7 hb;replace HB:=bB hb;clear hb l5;obtain⟨o6,o7,rfl⟩:=Kd.R_slice l6.out)|((with_reducible refine gc 64 rfl ?_);refine gC 64 (some 24) Try.func64 #[.slice a7 l1.length a8,.slice o6 d8.length o7] ?_;(with_reducible refine(Azx.calls k _ _ l1 _ _ d8 e7 e8 f3 _ ?_ ?_ ?_ ?_ f4.out).mono ?_);exact cB d0;exact d1.out;exact cR l6;exact lR l6;rintro e o8 ⟨m4,m5,rfl,l5,m6,hb⟩;refine⟨_,rfl,?_⟩;have m7:=rL (rn l5 l6);have m8:=rL (rn m6 l6);replace l6:=rO l6 hb l5 m6;replace g7:=kb g7 hb;replace HB:=bB hb;clear hb l5 m6)|((with_reducible refine gc 64 rfl ?_);refine gC 64 (some 31) Try.func64 #[.slice a9 l2.length c2,.slice o6 d8.length o7] ?_;(with_reducible refine(Azx.calls k _ _ l2 _ _ d8 f5 f6 f7 _ ?_ ?_ ?_ ?_ f8.out).mono ?_);exact cB d3;exact d4.out;exact cR l6;exact lR l6;rintro e o9 ⟨n0,n1,rfl,l5,m6,hb⟩;refine⟨_,rfl,?_⟩;have n2:=rL (rn (rn (rn l5 l6) m7) m8);have n3:=rL (rn (rn (rn m6 l6) m7) m8);replace l6:=rO l6 hb l5 m6;replace m7:=rO m7 hb l5 m6;replace m8:=rO m8 hb l5 m6;replace g7:=kb g7 hb;replace HB:=bB hb;clear hb l5 m6;obtain⟨p3,p7,rfl⟩:=Kd.R_slice n2.out;obtain⟨p9,r5,rfl⟩:=Kd.R_slice m7.out;obtain⟨r6,r7,r8,r9,t0,t1⟩:=bk3 g7))
  refine bodyPost_ret (results_cell_row rfl _ _ f9 39 #[.bool false,.slice p9 e7.length r5,.slice p3 f5.length p7] (0,0) _ rfl (kQ g7) Try.underlying39 rfl (by kernel_rfl)) rfl ?_
  exact⟨_,_,eW,by exact Kd.R_mono (rT m7 g7) (fun _ hk=>hk.1.2),by exact Kd.R_mono (rT n2 g7) (fun _ hk=>hk.1.2),pB⟩

end Go.Proofs.Ytnklckihalhlmaa.Print
