import Derived.Test.YtokkiljkgejnhaaGreatPrint0
import Derived.Test.YtokkiljkgejnhaaGreatPrint42
import Derived.Test.YtokkiljkgejnhaaGreatPrint46
import Derived.Test.YtokkiljkgejnhaaGreatPrint36
namespace Go.Proofs.YtokkiljkgejnhaaGreat.Print
open Go.RowKit Go.Proofs.YtokkiljkgejnhaaGreatW.PrintWords Go.Proofs.YtokkiljkgejnhaaGreatW.PrintLast Go.Proofs.YtokkiljkgejnhaaGreatW.PrintMore
attribute [local go_sem] max2_int min2_int max_two min_two max_three min_three max_four min_four
set_option linter.unusedVariables false
set_option maxRecDepth 100000
set_option maxHeartbeats 8000000
set_option linter.unusedSimpArgs false

mutual
def Azj.j0:Nat→List Int→List Int→Bool→Option (List Int × List Int × Int)
 | 0,_,_,_=>none
 | k+1,x0,x1,x18=>if x18=true then(some (([]:List Int),([]:List Int),3)) else(if(x1.length:Int)=0 then(some (([]:List Int),([]:List Int),16)) else(if 0≤(x0.length:Int) then(if((x0.length:Int):Int).toNat≤35184372088832 then(Azj.l0 k x0 x1 (List.replicate ((x0.length:Int):Int).toNat 0) ([]:List Int) (wrap64 ((x0.length:Int) - 1))) else(none)) else(none)))
def Azj.l0:Nat→List Int→List Int→List Int→List Int→Int→Option (List Int × List Int × Int)
 | 0,_,_,_,_,_=>none
 | k+1,x0,x1,x7,x8,x9=>if x9≥0 then(if 0≤x9 then(if x9 < (x0.length:Int) then((some (([rd x0 x9]:List Int):List Int)).bind fun y790=>(if y790.length+x8.length < 17592186044416 then((some (y790 ++ x8:List Int)).bind fun y793=>(if 0≤(wrap64 ((y793.length:Int) - 1)) then(if(wrap64 ((y793.length:Int) - 1)) < (y793.length:Int) then(if(rd y793 (wrap64 ((y793.length:Int) - 1)))=0 then(Azj.j2 k x0 x1 x7 ([]:List Int) x9) else(Azj.j2 k x0 x1 x7 y793 x9)) else(none)) else(none))) else(none))) else(none)) else(none)) else((Bzy.f k x7).bind fun bt785=>(some (bt785.1,x8,0)))
def Azj.j2:Nat→List Int→List Int→List Int→List Int→Int→Option (List Int × List Int × Int)
 | 0,_,_,_,_,_=>none
 | k+1,x0,x1,x7,x8,x9=>(Czq.f k x8 x1).bind fun t797=>(if 0≤x9 then(if x9 < (x7.length:Int) then((some (x7.set (x9:Int).toNat t797:List Int)).bind fun y798=>(if t797 > 0 then((Azw.f k x1 (([t797]:List Int))).bind fun t802=>((Bzp.f k x8 t802).bind fun t805=>(Azj.l0 k x0 x1 y798 t805 (wrap64 (x9 - 1))))) else(Azj.l0 k x0 x1 y798 x8 (wrap64 (x9 - 1))))) else(none)) else(none))
end
def Azj.f (k:Nat) (l0:List Int) (l1:List Int):Option (List Int × List Int × Int):=(Azz.f k l0).bind fun t780=>(if t780=true then((Azz.f k l1).bind fun t781=>(Azj.j0 k l0 l1 (!t781))) else(Azj.j0 k l0 l1 true))
theorem Azj.mono_l:∀ k,(∀ a6 a7 a8,LeO (Azj.j0 k a6 a7 a8) (Azj.j0 (k+1) a6 a7 a8))∧(∀ a6 a7 a8 b4 b5,LeO (Azj.l0 k a6 a7 a8 b4 b5) (Azj.l0 (k+1) a6 a7 a8 b4 b5))∧(∀ a6 a7 a8 b4 b5,LeO (Azj.j2 k a6 a7 a8 b4 b5) (Azj.j2 (k+1) a6 a7 a8 b4 b5))
 | 0=>⟨fun _ _ _ r h=>by simp [Azj.j0] at h,fun _ _ _ _ _ r h=>by simp [Azj.l0] at h,fun _ _ _ _ _ r h=>by simp [Azj.j2] at h⟩
 | k+1=>by
  obtain⟨ih0,ih1,ih2⟩:=Azj.mono_l k;have i0:=@Azz.mono;have i1:=@Czq.mono;have i2:=@Bzy.mono;have i3:=@Bzp.mono;have i4:=@Azw.mono;refine⟨?_,?_,?_⟩
  ·intro a6 a7 a8;unfold Azj.j0;exact mM
  ·intro a6 a7 a8 b4 b5;unfold Azj.l0;exact mM
  ·intro a6 a7 a8 b4 b5;unfold Azj.j2;exact mM
theorem Azj.mono:∀ a6 a7 k,LeO (Azj.f k a6 a7) (Azj.f (k+1) a6 a7):=by
 intro a6 a7 k;obtain⟨ih0,ih1,ih2⟩:=Azj.mono_l k;unfold Azj.f;have i0:=@Azz.mono;have i1:=@Czq.mono;have i2:=@Bzy.mono;have i3:=@Bzp.mono;have i4:=@Azw.mono;exact mM
theorem Azj.calls (k:Nat) (a6:Option Addr) (a7:Nat) (l0:List Int) (a8:Option Addr) (b4:Nat) (l1:List Int) (b5:List Int) (b6:List Int) (b7:Int) (w:World) (b8:Kd.C (Kd.int .i64) w a6 l0.length l0) (b9:l0.length≤a7) (d0:Kd.C (Kd.int .i64) w a8 l1.length l1) (d6:l1.length≤b4) (h:Azj.f k l0 l1=some (b5,b6,b7)) :
  Calls Tryz.prog 74 #[.slice a6 l0.length a7,.slice a8 l1.length b4] w fun e w'=>∃ v0_ v1_:Value,e=.returned (.tuple #[v0_,v1_,.int .i64 b7])∧Kd.R (Kd.int .i64) 3 w' w.heap.size (fun k_=>some k_≠(v1_:Value).ownBlock) v0_ b5∧Kd.R (Kd.int .i64) 3 w' w.heap.size (fun k_=>some k_≠(v0_:Value).ownBlock) v1_ b6∧Below w.heap.size w w':=by
 have d7:=aM b8;have d8:=aM b9;clear b8 b9;have d9:=aM d0;have e6:=aM d6;clear d0 d6;have HB:=aM (Below.refl w.heap.size w);have H:((Azz.f k l0).bind fun e7=>(if e7=true then((Azz.f k l1).bind fun e8=>(Azj.j0 k l0 l1 (!e8))) else(Azj.j0 k l0 l1 true)))=some (b5,b6,b7):=h
 clear h;have e9:=aM H;clear H;go_enter Tryz.func74,Tryz.ntmps74
 go_upto_region 1 with (fail)
 go_cut [18] (fun f3 wc=>∃ (kq:Nat) (f4:Bool),f3=.bool f4∧Aside0 (Azj.j0 kq l0 l1 f4=some (b5,b6,b7))∧Aside0 (kq≤k)∧Aside0 (Below w.heap.size w wc))
 case first =>
  have H:=e9.out;clear e9;obtain⟨e7,f6,H⟩:=bT H;(try dsimp only at H);by_cases c5:e7=true
  ·subst c5;rw[if_pos rfl] at H;obtain⟨e8,f9,H⟩:=bT H;(try dsimp only at H);have H':=aM H;clear H;go_wp2_with (first|((with_reducible refine gc 69 rfl ?_);refine gC 69 (some 12) Tryz.func69 #[.slice a6 l0.length a7] ?_;(with_reducible refine(Azz.calls k _ _ l0 true _ ?_ ?_ f6.out).mono ?_);exact cB d7;exact d8.out;rintro e w' ⟨rfl,⟨nd,rfl⟩⟩;refine⟨_,rfl,?_⟩)|(go_at_call 69;(with_reducible refine(Azz.calls k _ _ l1 e8 _ ?_ ?_ f9.out).mono ?_);exact cB d9;exact e6.out;rintro e w' ⟨rfl,⟨nd,rfl⟩⟩))
   go_meet
   case rel=>exact⟨_,(!e8),sD,H',⟨by first|omega|exact Nat.le_refl _⟩,⟨pB⟩⟩
  ·obtain rfl:=bN c5;rw[if_neg nF] at H
   have H':=aM H;clear H;go_wp2_with (first|((with_reducible refine gc 69 rfl ?_);refine gC 69 (some 12) Tryz.func69 #[.slice a6 l0.length a7] ?_;(with_reducible refine(Azz.calls k _ _ l0 false _ ?_ ?_ f6.out).mono ?_);exact cB d7;exact d8.out;rintro e w' ⟨rfl,⟨nd,rfl⟩⟩;refine⟨_,rfl,?_⟩))
   go_meet
   case rel=>exact⟨_,(true),sD,H',⟨by first|omega|exact Nat.le_refl _⟩,⟨pB⟩⟩
 case rest =>
  clear e9;try clear b4
  obtain⟨kq,f4,rfl,HA,g4,HB⟩:=hcut;cases kq with
  | zero=>exact absurd HA.out (by simp [Azj.j0])
  | succ g5 =>
   have H:=HA.out;clear HA;simp only[Azj.j0] at H;by_cases c7:f4=true
   ·subst c7;rw[if_pos rfl] at H;obtain⟨rfl,rfl,rfl⟩:=q3 H;go_wp2
    go_ret3
    exact⟨_,_,eW,nK,nK,pB⟩
   ·obtain rfl:=bN c7;rw[if_neg nF] at H
    by_cases c8:(l1.length:Int)=0
    ·rw[if_pos c8] at H;obtain⟨g6,g7⟩:=bE c8;clear c8;obtain⟨rfl,rfl,rfl⟩:=q3 H;go_wp2
     go_ret3
     exact⟨_,_,eW,nK,nK,pB⟩
    ·rw[if_neg c8] at H;obtain⟨g6,g7⟩:=bI c8;have g8:¬ (l1=[]):=fun h_=>c8 (by rw[h_];rfl)
     by_cases c9:0≤(l0.length:Int)
     ·rw[if_pos c9] at H;have g9:=eq_true c9;have j3:=dE c9;clear c9;obtain⟨c10,H⟩:=iO H;have j4:=eq_true c10;have j5:decide (((l0.length:Int):Int).toNat≤35184372088832)=true:=dE c10;clear c10;obtain⟨j6,j7⟩:∃ y_:List Int,y_=(List.replicate ((l0.length:Int):Int).toNat 0):=⟨_,rfl⟩;replace H:(Azj.l0 g5 l0 l1 j6 ([]:List Int) (wrap64 ((l0.length:Int) - 1)))=some (b5,b6,b7):=yE j7 H
      have j8:=aM j7;clear j7;have H':=aM H;clear H;go_wp2_with (first|((with_reducible refine gate_dst (N:=24) rfl ?_);refine Kd.R_make (Kd.int .i64) _ 3 rfl (N:=24) rfl 24 _ _ rfl (l0.length:Int) rfl rfl Tryz.underlying24 (.int .i64 0) 8 info3 rfl (by decide) (by omega) 0 (ok:=fun _=>True) (okp:=fun _=>True) rfl (fun _ hk=>hk) trivial (oE aS) (Nat.le_trans (Nat.mul_le_mul_right _ (oE aS:(l0.length:Int).toNat≤35184372088832)) (by omega)) (Below.refl _ _) (Nat.le_refl _) ?_;intro j9 l5 l6 hb hg_ hnew_;clear hg_ hnew_;replace l6:=rY j8 l6;have l7:=rL l6;replace HB:=bB hb;clear hb l6))
      go_loopg [8,9] g5 (fun kq l8 l9 w'=>∃ (m0:List Int) (m3:List Int) (m4:Int),l9=.int .i64 m4∧Aside0 (Azj.l0 kq l0 l1 m0 m3 m4=some (b5,b6,b7))∧Aside0 (kq≤g5)∧Aside0 (Kd.R (Kd.int .i64) 3 w' w.heap.size (fun k_=>some k_≠(l8:Value).ownBlock) j9 m0)∧Aside0 (Kd.R (Kd.int .i64) 3 w' w.heap.size (fun k_=>some k_≠(j9:Value).ownBlock) l8 m3)∧Aside0 (Below w.heap.size w w'))
      case atStart=>exact⟨(j6),(([]:List Int)),(wrap64 ((l0.length:Int) - 1)),sD,H',⟨Nat.le_refl _⟩,⟨by exact rX (Kd.R_mono l7.out (fun _ hk=>(by simp [Value.ownBlock])))⟩,⟨nK⟩,⟨pB⟩⟩
      case round =>
       clear H';try clear b4
       obtain⟨m0,m3,m4,rfl,HA,m5,m6,m7,HB⟩:=hrel;cases gk with
       | zero=>exact absurd HA.out (by simp [Azj.l0])
       | succ k2 =>
        have H:=HA.out;clear HA;simp only[Azj.l0] at H;by_cases m8:m4≥0
        ·rw[if_pos m8] at H;have m9:decide (0≤m4)=true:=dE m8;clear m8;obtain⟨n0,H⟩:=iN H;obtain⟨n6,H⟩:=iN H;obtain⟨n7,n8⟩:∃ y_:List Int,y_=(([rd l0 m4]:List Int)):=⟨_,rfl⟩;replace H:(if n7.length+m3.length < 17592186044416 then((some (n7 ++ m3:List Int)).bind fun n9=>(if 0≤(wrap64 ((n9.length:Int) - 1)) then(if(wrap64 ((n9.length:Int) - 1)) < (n9.length:Int) then(if(rd n9 (wrap64 ((n9.length:Int) - 1)))=0 then(Azj.j2 k2 l0 l1 m0 ([]:List Int) m4) else(Azj.j2 k2 l0 l1 m0 n9 m4)) else(none)) else(none))) else(none))=some (b5,b6,b7):=yE n8 H
         have o0:=aM n8;clear n8;obtain⟨o8,H⟩:=iO H;have LMc16:=aM o8;clear o8;obtain⟨n9,o9⟩:∃ y_:List Int,y_=(n7 ++ m3):=⟨_,rfl⟩;replace H:(if 0≤(wrap64 ((n9.length:Int) - 1)) then(if(wrap64 ((n9.length:Int) - 1)) < (n9.length:Int) then(if(rd n9 (wrap64 ((n9.length:Int) - 1)))=0 then(Azj.j2 k2 l0 l1 m0 ([]:List Int) m4) else(Azj.j2 k2 l0 l1 m0 n9 m4)) else(none)) else(none))=some (b5,b6,b7):=yE o9 H
         have p0:=aM o9;clear o9;obtain⟨p3,p4⟩:∃ j_:Int,(wrap64 ((n9.length:Int) - 1))=j_:=⟨_,rfl⟩;replace H:(if 0≤(p3) then(if(p3) < (n9.length:Int) then(if(rd n9 (p3))=0 then(Azj.j2 k2 l0 l1 m0 ([]:List Int) m4) else(Azj.j2 k2 l0 l1 m0 n9 m4)) else(none)) else(none))=some (b5,b6,b7):=by first|(rw[p4] at H;exact H)|(simp only[p4] at H ⊢;exact H)
         have p5:(IntKind.i64.wrap ((n9.length:Int) - 1))=p3:=(i64_w _).trans p4;obtain⟨r5,H⟩:=iN H;obtain⟨r6,H⟩:=iN H;have r7:=aM H;clear H;obtain⟨r8,r9,t6,t7,t8⟩:=aI d7.out m4;cases r9
         replace t6:=hB HB t6;go_upto_if 45 with (first|((with_reducible refine gd 36 rfl ?_);refine iL 36 [rd l0 m4] ?_;intro z1 z2 z6 hb;replace z6:=rY o0 z6;have z7:=rL (rn (rn z6 m6) m7);replace m6:=rE m6 z6 hb;replace m7:=rE m7 z6 hb;replace HB:=bB hb;clear hb z6;obtain⟨z8,B0,rfl⟩:=Kd.R_slice m7.out)|((with_reducible refine gate_builtin (b:=.append) (xs:=#[.tmp 36,.tmp 37]) rfl ?_);at_builtin;refine Kd.R_append_rows (Kd.int .i64) (w0:=w) w.heap.size rfl (.tmp 36) (.tmp 37) 24 3 (.int .i64 0) 8 rfl Tryz.underlying24 info3 rfl (by decide) (by omega) z1 n7 m3 _ _ _ (fun k_=>some k_≠(j9:Value).ownBlock∧some k_≠(.slice z8 m3.length B0:Value).ownBlock) (fun _=>False) rfl rfl ?aO ?aR (fun _ _ h=>h) (fun _ h=>h.elim) ?aF ?aB ?aS ?aL ?_;(case aR=>exact cR m7);(case aB=>exact pB);(case aF=>exact(fun k_ hk=>⟨Kd.fresh' (Kd.R_lt (rX m6.out)) k_ hk,Kd.fresh' (Kd.R_lt (rX m7.out)) k_ hk⟩));(case aO=>exact(rX (Kd.R_mono z7.out (fun _ hk=>⟨hk.1.2,hk.2⟩))));(case aS=>exact(below_size pB));(case aL=>have:=LMc16.out;omega);intro B5 B6 ho hb hg hat;rw[← p0.out] at ho;have B8:=aM (ho);replace m6:=aM (Kd.R_after (ok:=(fun k_=>some k_≠(.slice z8 m3.length B0:Value).ownBlock)) (rX m6.out) hg hat);replace m7:=aM (Kd.R_after (ok:=(fun k_=>some k_≠(j9:Value).ownBlock)) (rX m7.out) hg hat);replace HB:=aM (hb);clear z7 ho hb hg hat;obtain⟨B9,C0,rfl⟩:=Kd.R_slice B8.out;obtain⟨C1,C2,C3,C4,C6⟩:=aI (Kd.R_reads' B8.out).2.2 (p3);cases C2))
         (try simp only[Act.put,sA,sZ,sC])
         go_cut [8] (fun l8 wc=>∃ (kq:Nat) (C7:List Int),Aside0 (Azj.j2 kq l0 l1 m0 C7 m4=some (b5,b6,b7))∧Aside0 (kq≤k2)∧Aside0 (Kd.R (Kd.int .i64) 3 wc w.heap.size (fun k_=>some k_≠(l8:Value).ownBlock) j9 m0)∧Aside0 (Kd.R (Kd.int .i64) 3 wc w.heap.size (fun k_=>some k_≠(j9:Value).ownBlock) l8 C7)∧Aside0 (Below w.heap.size w wc))
         case first =>
          have H:=r7.out;clear r7;by_cases C8:(rd n9 (p3))=0
          ·rw[if_pos C8] at H;obtain⟨C9,D0⟩:=bE C8;clear C8;(first|rw[C9]|(simp only[i64_w,i32_w];rw[C9])|skip)
           have H':=aM H;clear H;go_wp2
           go_meet
           case rel=>exact⟨_,(([]:List Int)),H',⟨by have:=g4.out;have:=m5.out;first|omega|exact Nat.le_refl _⟩,⟨by exact rX (Kd.R_mono m6.out (fun _ hk=>(by simp [Value.ownBlock])))⟩,⟨nK⟩,⟨pB⟩⟩
          ·rw[if_neg C8] at H;obtain⟨C9,D0⟩:=bI C8;(first|rw[C9]|(simp only[i64_w,i32_w];rw[C9])|skip)
           have H':=aM H;clear H;go_wp2
           go_meet
           case rel=>exact⟨_,(n9),H',⟨by have:=g4.out;have:=m5.out;first|omega|exact Nat.le_refl _⟩,⟨by exact rX (Kd.R_mono m6.out (fun _ hk=>hk.2))⟩,⟨by exact rX (Kd.R_mono B8.out (fun _ hk=>hk.1))⟩,⟨pB⟩⟩
         case rest =>
          clear r7;try clear b4
          obtain⟨kq,C7,HA,D1,m6,m7,HB⟩:=hcut;cases kq with
          | zero=>exact absurd HA.out (by simp [Azj.j2])
          | succ D2 =>
           have H:=HA.out;clear HA;simp only[Azj.j2] at H;obtain⟨D3,D4,H⟩:=bT H;(try dsimp only at H);obtain⟨D5,H⟩:=iN H;obtain⟨D6,H⟩:=iN H;obtain⟨D7,D8⟩:∃ y_:List Int,y_=(m0.set (m4:Int).toNat D3):=⟨_,rfl⟩;replace H:(if D3 > 0 then((Azw.f D2 l1 (([D3]:List Int))).bind fun D9=>((Bzp.f D2 C7 D9).bind fun E0=>(Azj.l0 D2 l0 l1 D7 E0 (wrap64 (m4 - 1))))) else(Azj.l0 D2 l0 l1 D7 C7 (wrap64 (m4 - 1))))=some (b5,b6,b7):=yE D8 H
           have E1:=aM D8;clear D8;by_cases E2:D3 > 0
           ·rw[if_pos E2] at H;have E3:decide (0 < D3)=true:=dE E2;clear E2;obtain⟨E4,E5⟩:∃ y_:List Int,y_=(([D3]:List Int)):=⟨_,rfl⟩;replace H:((Azw.f D2 l1 E4).bind fun D9=>((Bzp.f D2 C7 D9).bind fun E0=>(Azj.l0 D2 l0 l1 D7 E0 (wrap64 (m4 - 1)))))=some (b5,b6,b7):=yE E5 H
            have E6:=aM E5;clear E5;obtain⟨D9,E7,H⟩:=bT H;(try dsimp only at H);obtain⟨E0,E8,H⟩:=bT H;(try dsimp only at H);have H':=aM H;clear H;obtain⟨E9,F0,rfl⟩:=Kd.R_slice m7.out;go_wp2_with (first|((with_reducible refine gc 90 rfl ?_);refine gC 90 (some 48) Tryz.func90 #[.slice E9 C7.length F0,.slice a8 l1.length b4] ?_;(with_reducible refine(Czq.calls D2 _ _ C7 _ _ l1 D3 _ ?_ ?_ ?_ ?_ D4.out).mono ?_);exact cR m7;exact lR m7;exact cB d9;exact e6.out;rintro e F1 ⟨rfl,hb⟩;refine⟨_,rfl,?_⟩;replace m6:=rB m6 hb;replace m7:=rB m7 hb;replace HB:=bB hb;clear hb;have F2:0≤(m4:Int):=oE aS;have F3:(m4:Int) < ((m0.length:Int):Int):=oE aS;obtain⟨F4,F5,F6,F7,F8,F9,G0⟩:=Kd.R_form m6.out (by omega);(first|cases F6|(injection F6 with ea_ en_ ec_;(first|subst ea_|(injection ea_ with ea_;subst ea_));subst ec_;clear en_));have G4:=aM F7;have G5:=aM G0;clear F7 F8 G0;obtain⟨G6,G7⟩:=Kd.R_celln 0 m6.out (m4:Int) F2 F3;replace F2:=eq_true F2;replace F3:=eq_true F3;obtain⟨G8,hz36_⟩:=Kd.R_celln 0 m6.out (m4:Int) (oE aS) (oE aS);have G9:=Kd.R_putg m6.out (m4:Int) D3)|((with_reducible refine gate_store (t:=3) (p:=52) rfl ?_);refine store_event (t:=3) (p:=52) (v:=?vo_w37) (w1:=(F1.setCell ⟨F4,(m4:Int).toNat,none⟩ (.int .i64 D3))) ?hg ?ho ?hn ?hr ?_;(case ho=>rfl);(case hg=>rfl);(case hn=>rfl);(case hr=>first|(go_simp;done)|(go_simp;rfl));intro H5 hw;have hg:F1.grownBy H5 (some F4):=(by rw[hw];exact G9.2);have hp_:Kd.R (Kd.int .i64) 3 H5 w.heap.size (fun k_=>some k_≠(.slice E9 C7.length F0:Value).ownBlock) (.slice (some ⟨F4,0,none⟩) m0.length F5) D7:=(by rw[hw,E1.out];exact G9.1);clear G9;replace m6:=aM (hp_);replace m7:=aM (Kd.R_after (v:=(.slice (some ⟨F4,0,none⟩) m0.length F5)) (v1:=(.slice (some ⟨F4,0,none⟩) m0.length F5)) (ok:=(fun _=>True)) (rX (Kd.R_mono m7.out (fun _ hk=>⟨trivial,hk⟩))) hg (.inl rfl));replace HB:=aM ((by rw[hw];exact below_set (HB.out) G4.out:Below w.heap.size w H5));clear hg hw hp_)|((with_reducible refine gd 58 rfl ?_);refine iL 58 [D3] ?_;intro H6 H7 H8 hb;replace H8:=rY E6 H8;have H9:=rL (rn (rn H8 m6) m7);replace m6:=rE m6 H8 hb;replace m7:=rE m7 H8 hb;replace HB:=bB hb;clear hb H8;obtain⟨I0,I1,rfl⟩:=Kd.R_slice H9.out)|((with_reducible refine gc 73 rfl ?_);refine gC 73 (some 59) Tryz.func73 #[.slice a8 l1.length b4,.slice I0 E4.length I1] ?_;(with_reducible refine(Azw.calls D2 _ _ l1 _ _ E4 D9 _ ?_ ?_ ?_ ?_ E7.out).mono ?_);exact cB d9;exact e6.out;exact cR H9;exact lR H9;rintro e I2 ⟨I3,rfl,I4,hb⟩;refine⟨_,rfl,?_⟩;have I5:=rL (rn (rn (rn I4 m6) m7) H9);replace m6:=rE m6 I4 hb;replace m7:=rE m7 I4 hb;replace H9:=rE H9 I4 hb;replace HB:=bB hb;clear hb I4;obtain⟨I6,I7,rfl⟩:=Kd.R_slice I5.out)|((with_reducible refine gc 91 rfl ?_);refine gC 91 (some 60) Tryz.func91 #[.slice E9 C7.length F0,.slice I6 D9.length I7] ?_;(with_reducible refine(Bzp.calls D2 _ _ C7 _ _ D9 E0 _ ?_ ?_ ?_ ?_ E8.out).mono ?_);exact cR m7;exact lR m7;exact cR I5;exact lR I5;rintro e I8 ⟨I9,rfl,I4,hb⟩;refine⟨_,rfl,?_⟩;have J0:=rL (rn (rn (rn (rn I4 m6) m7) H9) I5);replace m6:=rE m6 I4 hb;replace m7:=rE m7 I4 hb;replace H9:=rE H9 I4 hb;replace I5:=rE I5 I4 hb;replace HB:=bB hb;clear hb I4))
            go_roundg D2
            case measure=>have:=g4.out;have:=m5.out;have:=D1.out;omega
            case rel=>exact⟨(D7),(E0),(wrap64 (m4 - 1)),sD,H',⟨by have:=g4.out;have:=m5.out;have:=D1.out;omega⟩,⟨by exact rX (Kd.R_mono m6.out (fun _ hk=>hk.2))⟩,⟨by exact rX (Kd.R_mono J0.out (fun _ hk=>hk.1.1.1.2))⟩,⟨pB⟩⟩
           ·rw[if_neg E2] at H;have E3:decide (0 < D3)=false:=decide_eq_false E2;clear E2;have H':=aM H;clear H;obtain⟨J1,J2,rfl⟩:=Kd.R_slice m7.out;go_wp2_with (first|((with_reducible refine gc 90 rfl ?_);refine gC 90 (some 48) Tryz.func90 #[.slice J1 C7.length J2,.slice a8 l1.length b4] ?_;(with_reducible refine(Czq.calls D2 _ _ C7 _ _ l1 D3 _ ?_ ?_ ?_ ?_ D4.out).mono ?_);exact cR m7;exact lR m7;exact cB d9;exact e6.out;rintro e J3 ⟨rfl,hb⟩;refine⟨_,rfl,?_⟩;replace m6:=rB m6 hb;replace m7:=rB m7 hb;replace HB:=bB hb;clear hb;have F2:0≤(m4:Int):=oE aS;have F3:(m4:Int) < ((m0.length:Int):Int):=oE aS;obtain⟨F4,F5,F6,F7,F8,F9,G0⟩:=Kd.R_form m6.out (by omega);(first|cases F6|(injection F6 with ea_ en_ ec_;(first|subst ea_|(injection ea_ with ea_;subst ea_));subst ec_;clear en_));have G4:=aM F7;have G5:=aM G0;clear F7 F8 G0;obtain⟨G6,G7⟩:=Kd.R_celln 0 m6.out (m4:Int) F2 F3;replace F2:=eq_true F2;replace F3:=eq_true F3;obtain⟨J4,hz46_⟩:=Kd.R_celln 0 m6.out (m4:Int) (oE aS) (oE aS);have J5:=Kd.R_putg m6.out (m4:Int) D3)|((with_reducible refine gate_store (t:=3) (p:=52) rfl ?_);refine store_event (t:=3) (p:=52) (v:=?vo_w47) (w1:=(J3.setCell ⟨F4,(m4:Int).toNat,none⟩ (.int .i64 D3))) ?hg ?ho ?hn ?hr ?_;(case ho=>rfl);(case hg=>rfl);(case hn=>rfl);(case hr=>first|(go_simp;done)|(go_simp;rfl));intro J6 hw;have hg:J3.grownBy J6 (some F4):=(by rw[hw];exact J5.2);have hp_:Kd.R (Kd.int .i64) 3 J6 w.heap.size (fun k_=>some k_≠(.slice J1 C7.length J2:Value).ownBlock) (.slice (some ⟨F4,0,none⟩) m0.length F5) D7:=(by rw[hw,E1.out];exact J5.1);clear J5;replace m6:=aM (hp_);replace m7:=aM (Kd.R_after (v:=(.slice (some ⟨F4,0,none⟩) m0.length F5)) (v1:=(.slice (some ⟨F4,0,none⟩) m0.length F5)) (ok:=(fun _=>True)) (rX (Kd.R_mono m7.out (fun _ hk=>⟨trivial,hk⟩))) hg (.inl rfl));replace HB:=aM ((by rw[hw];exact below_set (HB.out) G4.out:Below w.heap.size w J6));clear hg hw hp_))
            go_roundg D2
            case measure=>have:=g4.out;have:=m5.out;have:=D1.out;omega
            case rel=>exact⟨(D7),(C7),(wrap64 (m4 - 1)),sD,H',⟨by have:=g4.out;have:=m5.out;have:=D1.out;omega⟩,⟨rX m6.out⟩,⟨by exact rX (Kd.R_mono m7.out (fun _ hk=>hk.2))⟩,⟨pB⟩⟩
        ·rw[if_neg m8] at H;have m9:decide (0≤m4)=false:=decide_eq_false m8;clear m8;replace H:=bS H;obtain⟨⟨J7,J8⟩,J9,H⟩:=H;replace H:(some (J7,m3,0))=some (b5,b6,b7):=H;have K0:=aM J9;clear J9;obtain⟨rfl,rfl,rfl⟩:=q3 H;obtain⟨K1,K2,rfl⟩:=Kd.R_slice m6.out;go_wp2_with (first|((with_reducible refine gc 72 rfl ?_);refine gC 72 (some 63) Tryz.func72 #[.slice K1 m0.length K2] ?_;(with_reducible refine(Bzy.calls k2 _ _ m0 J7 J8 _ ?_ ?_ K0.out).mono ?_);exact cR m6;exact lR m6;rintro e K3 ⟨K4,rfl,I4,hb⟩;refine⟨_,rfl,?_⟩;have K5:=rL (rn (rn I4 m6) m7);replace m6:=rE m6 I4 hb;replace m7:=rE m7 I4 hb;replace HB:=bB hb;clear hb I4))
         go_ret3
         exact⟨_,_,eW,by exact rX (Kd.R_mono K5.out (fun _ hk=>hk.2)),by exact rX (Kd.R_mono m7.out (fun _ hk=>hk.2)),pB⟩
     ·rw[if_neg c9] at H;exact absurd H (by simp)


mutual
def Bzz.j0:Nat→List Int→List Int→Bool→Option (List Int × Int)
 | 0,_,_,_=>none
 | k+1,x0,x1,x16=>if x16=true then(some (([]:List Int),3)) else((some (([]:List Int):List Int)).bind fun y810=>(if y810.length+x0.length < 17592186044416 then(Bzz.l0 k (y810 ++ x0) x1) else(none)))
def Bzz.l0:Nat→List Int→List Int→Option (List Int × Int)
 | 0,_,_=>none
 | k+1,x0,x1=>if(x1.length:Int) > 0 then((Azj.f k x0 x1).bind fun bt816=>((some (([]:List Int):List Int)).bind fun y823=>(if y823.length+x1.length < 17592186044416 then(Bzz.l0 k (y823 ++ x1) bt816.2.1) else(none)))) else(some (x0,0))
end
def Bzz.f (k:Nat) (l0:List Int) (l1:List Int):Option (List Int × Int):=(Azz.f k l0).bind fun t808=>(if t808=true then((Azz.f k l1).bind fun t809=>(Bzz.j0 k l0 l1 (!t809))) else(Bzz.j0 k l0 l1 true))
theorem Bzz.mono_l:∀ k,(∀ a6 a7 a8,LeO (Bzz.j0 k a6 a7 a8) (Bzz.j0 (k+1) a6 a7 a8))∧(∀ a6 a7,LeO (Bzz.l0 k a6 a7) (Bzz.l0 (k+1) a6 a7))
 | 0=>⟨fun _ _ _ r h=>by simp [Bzz.j0] at h,fun _ _ r h=>by simp [Bzz.l0] at h⟩
 | k+1=>by
  obtain⟨ih0,ih1⟩:=Bzz.mono_l k;have i0:=@Azj.mono;have i1:=@Azz.mono;refine⟨?_,?_⟩
  ·intro a6 a7 a8;unfold Bzz.j0;exact mM
  ·intro a6 a7;unfold Bzz.l0;exact mM
theorem Bzz.mono:∀ a6 a7 k,LeO (Bzz.f k a6 a7) (Bzz.f (k+1) a6 a7):=by
 intro a6 a7 k;obtain⟨ih0,ih1⟩:=Bzz.mono_l k;unfold Bzz.f;have i0:=@Azj.mono;have i1:=@Azz.mono;exact mM
theorem Bzz.calls (k:Nat) (a6:Option Addr) (a7:Nat) (l0:List Int) (a8:Nat→Prop) (b4:Option Addr) (b5:Nat) (l1:List Int) (b6:List Int) (b7:Int) (w:World) (b8:Kd.C (Kd.int .i64) w a6 l0.length l0) (b9:l0.length≤a7) (d0:Kd.V (Kd.int .i64) 3 w w.heap.size (fun k_=>a8 k_) (.slice b4 l1.length b5) l1) (h:Bzz.f k l0 l1=some (b6,b7)) :
  Calls Tryz.prog 70 #[.slice a6 l0.length a7,.slice b4 l1.length b5] w fun e w'=>∃ v0_:Value,e=.returned (.tuple #[v0_,.int .i64 b7])∧Kd.R (Kd.int .i64) 3 w' w.heap.size (fun k_=>(w.heap.size≤k_)) v0_ b6∧Below w.heap.size w w':=by
 have d6:=aM b8;have d7:=aM b9;clear b8 b9;have d8:=aM (show Kd.V (Kd.int .i64) 3 w w.heap.size (fun k_=>(a8 k_∨w.heap.size≤k_)) (.slice b4 l1.length b5) l1 from Kd.V_mono d0 (fun k_ hk=>.inl hk))
 have HB:=aM (Below.refl w.heap.size w);have H:((Azz.f k l0).bind fun d9=>(if d9=true then((Azz.f k l1).bind fun e6=>(Bzz.j0 k l0 l1 (!e6))) else(Bzz.j0 k l0 l1 true)))=some (b6,b7):=h
 clear h;have e7:=aM H;clear H;go_enter Tryz.func70,Tryz.ntmps70
 go_upto_region 1 with (fail)
 go_cut [16] (fun e8 wc=>∃ (kq:Nat) (e9:Bool),e8=.bool e9∧Aside0 (Bzz.j0 kq l0 l1 e9=some (b6,b7))∧Aside0 (kq≤k)∧Aside0 (Kd.V (Kd.int .i64) 3 wc w.heap.size (fun k_=>(a8 k_∨w.heap.size≤k_)) (.slice b4 l1.length b5) l1)∧Aside0 (Below w.heap.size w wc))
 case first =>
  have H:=e7.out;clear e7;obtain⟨d9,f3,H⟩:=bT H;(try dsimp only at H);by_cases c5:d9=true
  ·subst c5;rw[if_pos rfl] at H;obtain⟨e6,f4,H⟩:=bT H;(try dsimp only at H);have H':=aM H;clear H;go_wp2_with (first|((with_reducible refine gc 69 rfl ?_);refine gC 69 (some 10) Tryz.func69 #[.slice a6 l0.length a7] ?_;(with_reducible refine(Azz.calls k _ _ l0 true _ ?_ ?_ f3.out).mono ?_);exact cB d6;exact d7.out;rintro e w' ⟨rfl,⟨nd,rfl⟩⟩;refine⟨_,rfl,?_⟩)|(go_at_call 69;(with_reducible refine(Azz.calls k _ _ l1 e6 _ ?_ ?_ f4.out).mono ?_);exact cV d8;exact lV d8;rintro e w' ⟨rfl,⟨nd,rfl⟩⟩))
   go_meet
   case rel=>exact⟨_,(!e6),sD,H',⟨by first|omega|exact Nat.le_refl _⟩,⟨vX d8.out⟩,⟨pB⟩⟩
  ·obtain rfl:=bN c5;rw[if_neg nF] at H
   have H':=aM H;clear H;go_wp2_with (first|((with_reducible refine gc 69 rfl ?_);refine gC 69 (some 10) Tryz.func69 #[.slice a6 l0.length a7] ?_;(with_reducible refine(Azz.calls k _ _ l0 false _ ?_ ?_ f3.out).mono ?_);exact cB d6;exact d7.out;rintro e w' ⟨rfl,⟨nd,rfl⟩⟩;refine⟨_,rfl,?_⟩))
   go_meet
   case rel=>exact⟨_,(true),sD,H',⟨by first|omega|exact Nat.le_refl _⟩,⟨vX d8.out⟩,⟨pB⟩⟩
 case rest =>
  clear e7;try clear b5
  obtain⟨kq,e9,rfl,HA,f6,f9,HB⟩:=hcut;cases kq with
  | zero=>exact absurd HA.out (by simp [Bzz.j0])
  | succ g4 =>
   have H:=HA.out;clear HA;simp only[Bzz.j0] at H;by_cases c7:e9=true
   ·subst c7;rw[if_pos rfl] at H;obtain⟨rfl,rfl⟩:=q2 H;go_wp2
    go_ret2
    exact⟨_,eW,nK,pB⟩
   ·obtain rfl:=bN c7;rw[if_neg nF] at H
    obtain⟨g5,g6⟩:∃ y_:List Int,y_=(([]:List Int)):=⟨_,rfl⟩;replace H:(if g5.length+l0.length < 17592186044416 then(Bzz.l0 g4 (g5 ++ l0) l1) else(none))=some (b6,b7):=yE g6 H
    have g7:=aM g6;clear g6;by_cases c8:g5.length+l0.length < 17592186044416
    ·rw[if_pos c8] at H;have LMc8:=aM c8;clear c8;obtain⟨g8,g9⟩:∃ y_:List Int,y_=(g5 ++ l0):=⟨_,rfl⟩;replace H:(Bzz.l0 g4 g8 l1)=some (b6,b7):=yE g9 H
     have j3:=aM g9;clear g9;have H':=aM H;clear H;go_wp2_with (first|((with_reducible refine gd 17 rfl ?_);refine iL 17 [] ?_;intro j4 j5 j6 hb;replace j6:=rY g7 j6;have j7:=rL (Kd.R_newM (M:=fun k_=>(w.heap.size≤k_)) j6 (below_size pB) (fun k_ h_=>h_));replace f9:=vE f9 j6 hb;replace HB:=bB hb;clear hb j6)|((with_reducible refine gate_builtin (b:=.append) (xs:=#[.tmp 17,.tmp 18]) rfl ?_);at_builtin;refine Kd.R_append_rows (Kd.int .i64) (w0:=w) w.heap.size rfl (.tmp 17) (.tmp 18) 24 3 (.int .i64 0) 8 rfl Tryz.underlying24 info3 rfl (by decide) (by omega) j4 g5 l0 _ _ _ (fun k_=>(w.heap.size≤k_)) (fun _=>False) rfl rfl ?aO ?aR (fun _ _ h=>h) (fun _ h=>h.elim) ?aF ?aB ?aS ?aL ?_;(case aR=>exact cB d6);(case aB=>exact pB);(case aF=>exact(fun k_ hk=>(Nat.le_trans (below_size pB) hk)));(case aO=>exact(rX (Kd.R_mono j7.out (fun _ hk=>hk.1))));(case aS=>exact(below_size pB));(case aL=>have:=LMc8.out;omega);intro j8 j9 ho hb hg hat;rw[← j3.out] at ho;have l5:=aM (ho);replace f9:=aM (Kd.V_afterv (ok:=(fun k_=>(a8 k_∨w.heap.size≤k_))) (vX f9.out) hg hat);replace HB:=aM (hb);clear j7 ho hb hg hat))
     go_loopg [0,1] g4 (fun kq l6 l7 w'=>∃ (l8:List Int) (l9:List Int),Aside0 (Bzz.l0 kq l8 l9=some (b6,b7))∧Aside0 (kq≤g4)∧Aside0 (Kd.R (Kd.int .i64) 3 w' w.heap.size (fun k_=>(w.heap.size≤k_)) l6 l8)∧Aside0 (Kd.V (Kd.int .i64) 3 w' w.heap.size (fun k_=>(a8 k_∨w.heap.size≤k_)∧some k_≠(l6:Value).ownBlock) l7 l9)∧Aside0 (Below w.heap.size w w'))
     case atStart=>exact⟨(g8),(l1),H',⟨Nat.le_refl _⟩,⟨rX l5.out⟩,⟨vX f9.out⟩,⟨pB⟩⟩
     case round =>
      clear H';try clear b5
      obtain⟨l8,l9,HA,m0,m3,f9,HB⟩:=hrel;cases gk with
      | zero=>exact absurd HA.out (by simp [Bzz.l0])
      | succ k2 =>
       have H:=HA.out;clear HA;simp only[Bzz.l0] at H;by_cases m4:(l9.length:Int) > 0
       ·rw[if_pos m4] at H;have m5:decide (0 < (l9.length:Int))=true:=dE m4;have m6:decide (0 < l9.length)=true:=dE (by omega)
        clear m4;obtain⟨⟨m7,m8,m9⟩,n0,H⟩:=bT H;(try dsimp only at H);obtain⟨n6,n7⟩:∃ y_:List Int,y_=(([]:List Int)):=⟨_,rfl⟩;replace H:(if n6.length+l9.length < 17592186044416 then(Bzz.l0 k2 (n6 ++ l9) m8) else(none))=some (b6,b7):=yE n7 H
        have n8:=aM n7;clear n7;obtain⟨n9,H⟩:=iO H;have LMc14:=aM n9;clear n9;obtain⟨o0,o8⟩:∃ y_:List Int,y_=(n6 ++ l9):=⟨_,rfl⟩;replace H:(Bzz.l0 k2 o0 m8)=some (b6,b7):=yE o8 H
        have o9:=aM o8;clear o8;have H':=aM H;clear H;obtain⟨p0,p3,p4⟩:=Kd.V_slice f9.out;subst p4;obtain⟨p5,r5,rfl⟩:=Kd.R_slice m3.out;go_wp2_with (first|((with_reducible refine gc 74 rfl ?_);refine gC 74 (some 26) Tryz.func74 #[.slice p5 l8.length r5,.slice p0 l9.length p3] ?_;(with_reducible refine(Azj.calls k2 _ _ l8 _ _ l9 m7 m8 m9 _ ?_ ?_ ?_ ?_ n0.out).mono ?_);exact cR m3;exact lR m3;exact cV f9;exact lV f9;rintro e r6 ⟨r7,r8,rfl,r9,t6,hb⟩;refine⟨_,rfl,?_⟩;have t7:=rL (rn (Kd.R_newM (M:=fun k_=>(w.heap.size≤k_)) r9 (below_size pB) (fun k_ h_=>h_)) m3);have t8:=rL (rn (Kd.R_newM (M:=fun k_=>(w.heap.size≤k_)) t6 (below_size pB) (fun k_ h_=>h_)) m3);replace m3:=rO m3 hb r9 t6;replace f9:=vO f9 hb r9 t6;replace HB:=bB hb;clear hb r9 t6)|((with_reducible refine gd 30 rfl ?_);refine iL 30 [] ?_;intro z1 z2 z6 hb;replace z6:=rY n8 z6;have z7:=rL (rn (rn (rn (Kd.R_newM (M:=fun k_=>(w.heap.size≤k_)) z6 (below_size pB) (fun k_ h_=>h_)) m3) t7) t8);replace m3:=rE m3 z6 hb;replace f9:=vE f9 z6 hb;replace t7:=rE t7 z6 hb;replace t8:=rE t8 z6 hb;replace HB:=bB hb;clear hb z6)|((with_reducible refine gate_builtin (b:=.append) (xs:=#[.tmp 30,.tmp 31]) rfl ?_);at_builtin;refine Kd.R_append_rows (Kd.int .i64) (w0:=w) w.heap.size rfl (.tmp 30) (.tmp 31) 24 3 (.int .i64 0) 8 rfl Tryz.underlying24 info3 rfl (by decide) (by omega) z1 n6 l9 _ _ _ (fun k_=>(w.heap.size≤k_)∧some k_≠(.slice p5 l8.length r5:Value).ownBlock∧some k_≠(r7:Value).ownBlock∧some k_≠(r8:Value).ownBlock) (fun _=>False) rfl rfl ?aO ?aR (fun _ _ h=>h) (fun _ h=>h.elim) ?aF ?aB ?aS ?aL ?_;(case aR=>exact cV f9);(case aB=>exact pB);(case aF=>exact(fun k_ hk=>⟨(Nat.le_trans (below_size pB) hk),Kd.fresh' (Kd.R_lt (rX m3.out)) k_ hk,Kd.fresh' (Kd.R_lt (rX t7.out)) k_ hk,Kd.fresh' (Kd.R_lt (rX t8.out)) k_ hk⟩));(case aO=>exact(rX (Kd.R_mono z7.out (fun _ hk=>⟨hk.1.1.1.1,⟨hk.1.1.2,⟨hk.1.2,hk.2⟩⟩⟩))));(case aS=>exact(below_size pB));(case aL=>have:=LMc14.out;omega);intro z8 B0 ho hb hg hat;rw[← o9.out] at ho;have B5:=aM (ho);replace m3:=aM (Kd.R_after (ok:=(fun k_=>(w.heap.size≤k_)∧some k_≠(r7:Value).ownBlock∧some k_≠(r8:Value).ownBlock)) (rX (Kd.R_mono m3.out (fun _ hk=>⟨⟨hk.1.1.1,⟨hk.1.1.2,hk.1.2⟩⟩,hk.2⟩))) hg hat);replace f9:=aM (Kd.V_afterv (ok:=(fun k_=>(a8 k_∨w.heap.size≤k_)∧some k_≠(.slice p5 l8.length r5:Value).ownBlock∧some k_≠(r7:Value).ownBlock∧some k_≠(r8:Value).ownBlock)) (by exact vX (Kd.V_mono f9.out (fun _ hk=>⟨⟨hk.1.1.1.1,⟨hk.1.1.1.2,⟨hk.1.1.2,hk.1.2⟩⟩⟩,hk.2⟩))) hg hat);replace t7:=aM (Kd.R_after (ok:=(fun k_=>(w.heap.size≤k_)∧some k_≠(.slice p5 l8.length r5:Value).ownBlock∧some k_≠(r8:Value).ownBlock)) (rX (Kd.R_mono t7.out (fun _ hk=>⟨⟨hk.1.1.1,⟨hk.1.2,hk.1.1.2⟩⟩,hk.2⟩))) hg hat);replace t8:=aM (Kd.R_after (ok:=(fun k_=>(w.heap.size≤k_)∧some k_≠(.slice p5 l8.length r5:Value).ownBlock∧some k_≠(r7:Value).ownBlock)) (rX (Kd.R_mono t8.out (fun _ hk=>⟨⟨hk.1.1.1,⟨hk.1.2,hk.1.1.2⟩⟩,hk.2⟩))) hg hat);replace HB:=aM (hb);clear z7 ho hb hg hat))
        go_roundg k2
        case measure=>have:=f6.out;have:=m0.out;omega
        case rel=>exact⟨(o0),(m8),H',⟨by have:=f6.out;have:=m0.out;omega⟩,⟨by exact rX (Kd.R_mono B5.out (fun _ hk=>hk.1))⟩,⟨Kd.V_mono (Kd.R_V (rX t8.out)) (fun k_ hk=>by first|exact⟨(.inr hk.1.1),hk.2⟩|exact⟨(.inr (hk.1)),hk.2⟩|exact(.inr (hk)))⟩,⟨pB⟩⟩
       ·rw[if_neg m4] at H;have m5:decide (0 < (l9.length:Int))=false:=decide_eq_false m4;have m6:decide (0 < l9.length)=false:=decide_eq_false (by omega)
        clear m4;obtain⟨rfl,rfl⟩:=q2 H;obtain⟨B6,B8,B9⟩:=Kd.V_slice f9.out;subst B9;go_wp2
        go_ret2
        exact⟨_,eW,rX m3.out,pB⟩
    ·rw[if_neg c8] at H;exact absurd H (by simp)

def Dzq.f (k:Nat) (a0:Bool) (l1:List Int) (l2:List Int):Option (Bool × List Int × List Int):=(Bzz.f k l1 l2).bind fun bt830=>((Azj.f k l1 bt830.1).bind fun bt834=>((Azj.f k l2 bt830.1).bind fun bt841=>(if a0=true then(some (decide (0 < bt834.1.length),bt834.1,bt841.1)) else(some (false,bt834.1,bt841.1)))))
theorem Dzq.mono:∀ a6 a7 a8 k,LeO (Dzq.f k a6 a7 a8) (Dzq.f (k+1) a6 a7 a8):=by
 intro a6 a7 a8 k;unfold Dzq.f;have i0:=@Azj.mono;have i1:=@Bzz.mono;exact mM
theorem Dzq.calls (k:Nat) (a6:Bool) (a7:Option Addr) (a8:Nat) (l1:List Int) (b4:Option Addr) (c2:Nat) (l2:List Int) (b5:Bool) (b6:List Int) (b7:List Int) (w:World) (b8:Kd.C (Kd.int .i64) w a7 l1.length l1) (b9:l1.length≤a8) (d0:Kd.C (Kd.int .i64) w b4 l2.length l2) (d6:l2.length≤c2) (h:Dzq.f k a6 l1 l2=some (b5,b6,b7)) :
  Calls Tryz.prog 53 #[.bool a6,.slice a7 l1.length a8,.slice b4 l2.length c2] w fun e w'=>∃ v1_ v2_:Value,e=.returned (.agg #[.bool b5,v1_,v2_])∧Kd.R (Kd.int .i64) 3 w' w.heap.size (fun k_=>some k_≠(v2_:Value).ownBlock) v1_ b6∧Kd.R (Kd.int .i64) 3 w' w.heap.size (fun k_=>some k_≠(v1_:Value).ownBlock) v2_ b7∧Below w.heap.size w w':=by
 have hu26:=Tryz.underlying26;have d7:=aM b8;have d8:=aM b9;clear b8 b9;have d9:=aM d0;have e6:=aM d6;clear d0 d6;have HB:=aM (Below.refl w.heap.size w);have H:((Bzz.f k l1 l2).bind fun e7=>((Azj.f k l1 e7.1).bind fun e8=>((Azj.f k l2 e7.1).bind fun e9=>(if a6=true then(some (decide (0 < e8.1.length),e8.1,e9.1)) else(some (false,e8.1,e9.1))))))=some (b5,b6,b7):=h
 clear h;obtain⟨⟨f3,f4⟩,f6,H⟩:=bT H;(try dsimp only at H);obtain⟨⟨f9,g4,g5⟩,g6,H⟩:=bT H;(try dsimp only at H);obtain⟨⟨g7,g8,g9⟩,j3,H⟩:=bT H;(try dsimp only at H);by_cases c7:a6=true
 ·subst c7;rw[if_pos rfl] at H;obtain⟨rfl,rfl,rfl⟩:=q3 H;go_enter Tryz.func53,Tryz.ntmps53
  go_wp2_with (first|((with_reducible refine gd 6 rfl ?_);refine bxg #[.bool false,.slice none 0 0,.slice none 0 0] 26 ?_;intro j4 hg j5 j6 hb;have j7:=gA w hg;have j8:=gA w hg;replace HB:=bB hb;clear hb hg)|((with_reducible refine gc 70 rfl ?_);refine gC 70 (some 18) Tryz.func70 #[.slice a7 l1.length a8,.slice b4 l2.length c2] ?_;(with_reducible refine(Bzz.calls k _ _ l1 (fun k_=>k_ < w.heap.size) _ _ l2 f3 f4 _ ?_ ?_ ?_ f6.out).mono ?_);exact cB d7;exact d8.out;exact Kd.V_mk e6.out (Kd.F_below (Kd.C_F (Kd.heap_int .i64) d9.out) pB);rintro e j9 ⟨l5,rfl,l6,hb⟩;refine⟨_,rfl,?_⟩;have l7:=rL (Kd.R_mono (ok':=fun k_=>True) l6 (fun _ hk_=>trivial));replace j6:=kb j6 hb;replace HB:=bB hb;clear hb l6;obtain⟨l8,l9,rfl⟩:=Kd.R_slice l7.out)|((with_reducible refine gc 74 rfl ?_);refine gC 74 (some 24) Tryz.func74 #[.slice a7 l1.length a8,.slice l8 f3.length l9] ?_;(with_reducible refine(Azj.calls k _ _ l1 _ _ f3 f9 g4 g5 _ ?_ ?_ ?_ ?_ g6.out).mono ?_);exact cB d7;exact d8.out;exact cR l7;exact lR l7;rintro e m0 ⟨m3,m4,rfl,l6,m5,hb⟩;refine⟨_,rfl,?_⟩;have m6:=rL (rn l6 l7);have m7:=rL (rn m5 l7);replace l7:=rO l7 hb l6 m5;replace j6:=kb j6 hb;replace HB:=bB hb;clear hb l6 m5)|((with_reducible refine gc 74 rfl ?_);refine gC 74 (some 31) Tryz.func74 #[.slice b4 l2.length c2,.slice l8 f3.length l9] ?_;(with_reducible refine(Azj.calls k _ _ l2 _ _ f3 g7 g8 g9 _ ?_ ?_ ?_ ?_ j3.out).mono ?_);exact cB d9;exact e6.out;exact cR l7;exact lR l7;rintro e m8 ⟨m9,n0,rfl,l6,m5,hb⟩;refine⟨_,rfl,?_⟩;have n6:=rL (rn (rn (rn l6 l7) m6) m7);have n7:=rL (rn (rn (rn m5 l7) m6) m7);replace l7:=rO l7 hb l6 m5;replace m6:=rO m6 hb l6 m5;replace m7:=rO m7 hb l6 m5;replace j6:=kb j6 hb;replace HB:=bB hb;clear hb l6 m5;obtain⟨n8,n9,rfl⟩:=Kd.R_slice m6.out;obtain⟨o0,o8,rfl⟩:=Kd.R_slice n6.out;obtain⟨o9,p0,p3,p4,p5,r5⟩:=bk3 j6))
  refine bodyPost_ret (results_cell_row rfl _ _ j4 26 #[.bool (decide (0 < f9.length)),.slice n8 f9.length n9,.slice o0 g7.length o8] (0,0) _ rfl (kQ j6) Tryz.underlying26 rfl (by kernel_rfl)) rfl ?_
  exact⟨_,_,eW,by exact Kd.R_mono (rT m6 j6) (fun _ hk=>hk.1.2),by exact Kd.R_mono (rT n6 j6) (fun _ hk=>hk.1.2),pB⟩
 ·obtain rfl:=bN c7;rw[if_neg nF] at H
  obtain⟨rfl,rfl,rfl⟩:=q3 H;go_enter Tryz.func53,Tryz.ntmps53
  go_wp2_with (first|((with_reducible refine gd 6 rfl ?_);refine bxg #[.bool false,.slice none 0 0,.slice none 0 0] 26 ?_;intro j4 hg r6 j6 hb;have j7:=gA w hg;have j8:=gA w hg;replace HB:=bB hb;clear hb hg)|((with_reducible refine gc 70 rfl ?_);refine gC 70 (some 18) Tryz.func70 #[.slice a7 l1.length a8,.slice b4 l2.length c2] ?_;(with_reducible refine(Bzz.calls k _ _ l1 (fun k_=>k_ < w.heap.size) _ _ l2 f3 f4 _ ?_ ?_ ?_ f6.out).mono ?_);exact cB d7;exact d8.out;exact Kd.V_mk e6.out (Kd.F_below (Kd.C_F (Kd.heap_int .i64) d9.out) pB);rintro e r7 ⟨l5,rfl,l6,hb⟩;refine⟨_,rfl,?_⟩;have l7:=rL (Kd.R_mono (ok':=fun k_=>True) l6 (fun _ hk_=>trivial));replace j6:=kb j6 hb;replace HB:=bB hb;clear hb l6;obtain⟨r8,r9,rfl⟩:=Kd.R_slice l7.out)|((with_reducible refine gc 74 rfl ?_);refine gC 74 (some 24) Tryz.func74 #[.slice a7 l1.length a8,.slice r8 f3.length r9] ?_;(with_reducible refine(Azj.calls k _ _ l1 _ _ f3 f9 g4 g5 _ ?_ ?_ ?_ ?_ g6.out).mono ?_);exact cB d7;exact d8.out;exact cR l7;exact lR l7;rintro e t6 ⟨m3,m4,rfl,l6,m5,hb⟩;refine⟨_,rfl,?_⟩;have m6:=rL (rn l6 l7);have m7:=rL (rn m5 l7);replace l7:=rO l7 hb l6 m5;replace j6:=kb j6 hb;replace HB:=bB hb;clear hb l6 m5)|((with_reducible refine gc 74 rfl ?_);refine gC 74 (some 31) Tryz.func74 #[.slice b4 l2.length c2,.slice r8 f3.length r9] ?_;(with_reducible refine(Azj.calls k _ _ l2 _ _ f3 g7 g8 g9 _ ?_ ?_ ?_ ?_ j3.out).mono ?_);exact cB d9;exact e6.out;exact cR l7;exact lR l7;rintro e t7 ⟨m9,n0,rfl,l6,m5,hb⟩;refine⟨_,rfl,?_⟩;have n6:=rL (rn (rn (rn l6 l7) m6) m7);have n7:=rL (rn (rn (rn m5 l7) m6) m7);replace l7:=rO l7 hb l6 m5;replace m6:=rO m6 hb l6 m5;replace m7:=rO m7 hb l6 m5;replace j6:=kb j6 hb;replace HB:=bB hb;clear hb l6 m5;obtain⟨t8,z1,rfl⟩:=Kd.R_slice n6.out;obtain⟨z2,z6,rfl⟩:=Kd.R_slice m6.out;obtain⟨z7,z8,B0,B5,B6,B8⟩:=bk3 j6))
  refine bodyPost_ret (results_cell_row rfl _ _ j4 26 #[.bool false,.slice z2 f9.length z6,.slice t8 g7.length z1] (0,0) _ rfl (kQ j6) Tryz.underlying26 rfl (by kernel_rfl)) rfl ?_
  exact⟨_,_,eW,by exact Kd.R_mono (rT m6 j6) (fun _ hk=>hk.1.2),by exact Kd.R_mono (rT n6 j6) (fun _ hk=>hk.1.2),pB⟩


def Czk.l0:Nat→Int→List Int→Option (List Int × Int)
 | 0,_,_=>none
 | k+1,x0,x4=>if x0 > 0 then(if x4.length < 17592186044416 then(Czk.l0 k (wrap64 (Int.tdiv x0 1000000000)) (x4 ++ [Int.tmod x0 1000000000])) else(none)) else(some (x4,0))
def Czk.f (k:Nat) (a0:Int):Option (List Int × Int):=if a0 < 0 then(some (([]:List Int),1)) else(Czk.l0 k a0 ([]:List Int))
theorem Czk.mono_l:∀ k,(∀ a6 a7,LeO (Czk.l0 k a6 a7) (Czk.l0 (k+1) a6 a7))
 | 0=>fun _ _ r h=>by simp [Czk.l0] at h
 | k+1=>by
  have ih0:=Czk.mono_l k
  ·intro a6 a7;unfold Czk.l0;exact mM
theorem Czk.mono:∀ a6 k,LeO (Czk.f k a6) (Czk.f (k+1) a6):=by
 intro a6 k;have ih0:=Czk.mono_l k;unfold Czk.f;exact mM
theorem Czk.calls (k:Nat) (a6:Int) (a7:List Int) (a8:Int) (w:World) (h:Czk.f k a6=some (a7,a8)) :
  Calls Tryz.prog 83 #[.int .i64 a6] w fun e w'=>∃ v0_:Value,e=.returned (.tuple #[v0_,.int .i64 a8])∧Kd.R (Kd.int .i64) 3 w' w.heap.size (fun _=>True) v0_ a7∧Below w.heap.size w w':=by
 have HB:=aM (Below.refl w.heap.size w);have H:(if a6 < 0 then(some (([]:List Int),1)) else(Czk.l0 k a6 ([]:List Int)))=some (a7,a8):=h
 clear h;by_cases c2:a6 < 0
 ·rw[if_pos c2] at H;have b4:=dE c2;clear c2;obtain⟨rfl,rfl⟩:=q2 H;go_enter Tryz.func83,Tryz.ntmps83
  go_wp2
  go_ret2
  exact⟨_,eW,nK,pB⟩
 ·rw[if_neg c2] at H;have b4:decide (a6 < 0)=false:=decide_eq_false c2;clear c2;have H':=aM H;clear H;go_enter Tryz.func83,Tryz.ntmps83
  go_wp2
  go_loopg [0,4] k (fun kq b5 b6 w'=>∃ (b7:Int) (b8:List Int),b5=.int .i64 b7∧Aside0 (Czk.l0 kq b7 b8=some (a7,a8))∧Aside0 (kq≤k)∧Aside0 (Kd.R (Kd.int .i64) 3 w' w.heap.size (fun _=>True) b6 b8)∧Aside0 (Below w.heap.size w w'))
  case atStart=>exact⟨(a6),(([]:List Int)),sD,H',⟨Nat.le_refl _⟩,⟨nK⟩,⟨pB⟩⟩
  case round =>
   clear H';try clear c2
   obtain⟨b7,b8,rfl,HA,b9,d0,HB⟩:=hrel;cases gk with
   | zero=>exact absurd HA.out (by simp [Czk.l0])
   | succ k1 =>
    have H:=HA.out;clear HA;simp only[Czk.l0] at H;by_cases c3:b7 > 0
    ·rw[if_pos c3] at H;have d6:decide (0 < b7)=true:=dE c3;clear c3;obtain⟨c4,H⟩:=iO H;have LMc4:=aM c4;clear c4;obtain⟨d7,d8⟩:∃ y_:List Int,y_=(b8 ++ [Int.tmod b7 1000000000]):=⟨_,rfl⟩;replace H:(Czk.l0 k1 (wrap64 (Int.tdiv b7 1000000000)) d7)=some (a7,a8):=yE d8 H
     have d9:=aM d8;clear d8;have H':=aM H;clear H;go_wp2_with (first|((with_reducible refine gate_builtin (b:=.append) (xs:=#[.tmp 9,.tmp 12]) rfl ?_);at_builtin;refine Kd.R_append (Kd.int .i64) (w0:=w) w.heap.size rfl (.tmp 9) (.tmp 12) 24 3 (.int .i64 0) 8 rfl Tryz.underlying24 info3 rfl (by decide) (by omega) u4 b8 (Int.tmod b7 1000000000) [.int .i64 (Int.tmod b7 1000000000)] (fun _=>True) (fun _=>False) rfl rfl ?aP (fun _ hk=>hk.elim) ?aF ?aO ?aB ?aS ?aL ?_;(case aP=>exact rfl);(case aB=>exact pB);(case aF=>exact(fun _ _=>trivial));(case aO=>exact(rX d0.out));(case aS=>exact(below_size pB));(case aL=>have:=LMc4.out;omega);intro e6 e7 ho hb hg hat;rw[← d9.out] at ho;have e8:=aM (ho);replace HB:=aM (hb);clear d0 ho hb hg hat))
     go_roundg k1
     case measure=>have:=b9.out;omega
     case rel=>exact⟨(wrap64 (Int.tdiv b7 1000000000)),(d7),sD,H',⟨by have:=b9.out;omega⟩,⟨rX e8.out⟩,⟨pB⟩⟩
    ·rw[if_neg c3] at H;have d6:decide (0 < b7)=false:=decide_eq_false c3;clear c3;obtain⟨rfl,rfl⟩:=q2 H;go_wp2
     go_ret2
     exact⟨_,eW,rX d0.out,pB⟩

def Czj.j0:Nat→Int→Int→Bool→Option (Bool × List Int × List Int × Int)
 | 0,_,_,_=>none
 | k+1,x0,x1,x23=>if x23=true then(some (false,([]:List Int),([]:List Int),1)) else(if x1=0 then(some (false,([]:List Int),([]:List Int),16)) else((Czk.f k (mx x0 (wrap64 (-x0)))).bind fun bt852=>((Czk.f k (mx x1 (wrap64 (-x1)))).bind fun bt856=>((Dzq.f k ((decide (x0 < 0)) != (decide (x1 < 0))) bt852.1 bt856.1).bind fun bt860=>(some (bt860.1,bt860.2.1,bt860.2.2,0))))))
def Czj.f (k:Nat) (a0:Int) (a1:Int):Option (Bool × List Int × List Int × Int):=if a0 < (-1125899906842624) then(Czj.j0 k a0 a1 true) else(if a0 > 1125899906842624 then(Czj.j0 k a0 a1 true) else(if a1 < (-1125899906842624) then(Czj.j0 k a0 a1 true) else(Czj.j0 k a0 a1 (decide (a1 > 1125899906842624)))))
theorem Czj.mono_l:∀ k,(∀ a6 a7 a8,LeO (Czj.j0 k a6 a7 a8) (Czj.j0 (k+1) a6 a7 a8))
 | 0=>fun _ _ _ r h=>by simp [Czj.j0] at h
 | k+1=>by
  have ih0:=Czj.mono_l k
  ·intro a6 a7 a8;unfold Czj.j0;have i0:=@Czk.mono;have i1:=@Dzq.mono;exact mM
theorem Czj.mono:∀ a6 a7 k,LeO (Czj.f k a6 a7) (Czj.f (k+1) a6 a7):=by
 intro a6 a7 k;have ih0:=Czj.mono_l k;unfold Czj.f;have i0:=@Czk.mono;have i1:=@Dzq.mono;exact mM
theorem Czj.calls (k:Nat) (a6:Int) (a7:Int) (a8:Bool) (b4:List Int) (b5:List Int) (b6:Int) (w:World) (h:Czj.f k a6 a7=some (a8,b4,b5,b6)) :
  Calls Tryz.prog 61 #[.int .i64 a6,.int .i64 a7] w fun e w'=>∃ v1_ v2_:Value,e=.returned (.tuple #[.agg #[.bool a8,v1_,v2_],.int .i64 b6])∧Kd.R (Kd.int .i64) 3 w' w.heap.size (fun k_=>some k_≠(v2_:Value).ownBlock) v1_ b4∧Kd.R (Kd.int .i64) 3 w' w.heap.size (fun k_=>some k_≠(v1_:Value).ownBlock) v2_ b5∧Below w.heap.size w w':=by
 have hu26:=Tryz.underlying26;have HB:=aM (Below.refl w.heap.size w);have H:(if a6 < (-1125899906842624) then(Czj.j0 k a6 a7 true) else(if a6 > 1125899906842624 then(Czj.j0 k a6 a7 true) else(if a7 < (-1125899906842624) then(Czj.j0 k a6 a7 true) else(Czj.j0 k a6 a7 (decide (a7 > 1125899906842624))))))=some (a8,b4,b5,b6):=h
 clear h;have b7:=aM H;clear H;go_enter Tryz.func61,Tryz.ntmps61
 go_upto_region 1 with (first|((with_reducible refine gd 4 rfl ?_);refine bx #[.bool false,.slice none 0 0,.slice none 0 0] 26 ?_;intro b8 hg b9 d0 hb;have d6:=gA w hg;have d7:=gA w hg;replace HB:=bB hb;clear hb hg))
 (try simp only[Act.put,sA,sZ,sC])
 go_cut [23] (fun d8 wc=>∃ (kq:Nat) (d9:Bool),d8=.bool d9∧Aside0 (Czj.j0 kq a6 a7 d9=some (a8,b4,b5,b6))∧Aside0 (kq≤k)∧Aside0 (wc.heap[b8]?=some (.cells #[.bool false,(.slice none 0 0),(.slice none 0 0)] 26 (0,0)))∧Aside0 (Below w.heap.size w wc))
 case first =>
  have H:=b7.out;clear b7;by_cases c5:a6 < (-1125899906842624)
  ·rw[if_pos c5] at H;have e6:=dE c5;clear c5;(first|rw[e6]|(simp only[i64_w,i32_w];rw[e6])|skip)
   have H':=aM H;clear H;go_wp2
   go_meet
   case rel=>exact⟨_,(true),sD,H',⟨by first|omega|exact Nat.le_refl _⟩,⟨by exact kW d0⟩,⟨pB⟩⟩
  ·rw[if_neg c5] at H;have e6:decide (a6 < (-1125899906842624))=false:=decide_eq_false c5;clear c5;(first|rw[e6]|(simp only[i64_w,i32_w];rw[e6])|skip)
   by_cases c6:a6 > 1125899906842624
   ·rw[if_pos c6] at H;have e7:decide (1125899906842624 < a6)=true:=dE c6;clear c6;have H':=aM H;clear H;go_wp2
    go_meet
    case rel=>exact⟨_,(true),sD,H',⟨by first|omega|exact Nat.le_refl _⟩,⟨by exact kW d0⟩,⟨pB⟩⟩
   ·rw[if_neg c6] at H;have e7:decide (1125899906842624 < a6)=false:=decide_eq_false c6;clear c6;by_cases c7:a7 < (-1125899906842624)
    ·rw[if_pos c7] at H;have e8:=dE c7;clear c7;have H':=aM H;clear H;go_wp2
     go_meet
     case rel=>exact⟨_,(true),sD,H',⟨by first|omega|exact Nat.le_refl _⟩,⟨by exact kW d0⟩,⟨pB⟩⟩
    ·rw[if_neg c7] at H;have e8:decide (a7 < (-1125899906842624))=false:=decide_eq_false c7;clear c7;have H':=aM H;clear H;go_wp2
     go_meet
     case rel=>exact⟨_,(decide (a7 > 1125899906842624)),sD,H',⟨by first|omega|exact Nat.le_refl _⟩,⟨by exact kW d0⟩,⟨pB⟩⟩
 case rest =>
  clear b7;try clear e9
  obtain⟨kq,d9,rfl,HA,f3,d0,HB⟩:=hcut;cases kq with
  | zero=>exact absurd HA.out (by simp [Czj.j0])
  | succ f4 =>
   have H:=HA.out;clear HA;simp only[Czj.j0] at H;by_cases c8:d9=true
   ·subst c8;rw[if_pos rfl] at H;obtain⟨rfl,rfl,rfl,rfl⟩:=q4 H;obtain⟨f6,f9,g4,g5,g6,g7⟩:=bk3 d0;go_wp2
    refine bodyPost_ret (results_ct rfl _ _ b8 26 #[.bool false,.slice none 0 0,.slice none 0 0] (0,0) _ rfl (kQ d0) Tryz.underlying26 rfl (by kernel_rfl)) rfl ?_
    exact⟨_,_,eW,nK,nK,pB⟩
   ·obtain rfl:=bN c8;rw[if_neg nF] at H
    by_cases c10:a7=0
    ·rw[if_pos c10] at H;obtain⟨g8,g9⟩:=bE c10;clear c10;obtain⟨rfl,rfl,rfl,rfl⟩:=q4 H;obtain⟨j3,j4,j5,j6,j7,j8⟩:=bk3 d0;go_wp2
     refine bodyPost_ret (results_ct rfl _ _ b8 26 #[.bool false,.slice none 0 0,.slice none 0 0] (0,0) _ rfl (kQ d0) Tryz.underlying26 rfl (by kernel_rfl)) rfl ?_
     exact⟨_,_,eW,nK,nK,pB⟩
    ·rw[if_neg c10] at H;obtain⟨g8,g9⟩:=bI c10;obtain⟨j9,l5⟩:∃ j_:Int,(mx a6 (wrap64 (-a6)))=j_:=⟨_,rfl⟩;replace H:((Czk.f f4 (j9)).bind fun l6=>((Czk.f f4 (mx a7 (wrap64 (-a7)))).bind fun l7=>((Dzq.f f4 ((decide (a6 < 0)) != (decide (a7 < 0))) l6.1 l7.1).bind fun l8=>(some (l8.1,l8.2.1,l8.2.2,0)))))=some (a8,b4,b5,b6):=by first|(rw[l5] at H;exact H)|(simp only[l5] at H ⊢;exact H)
     have l9:(if a6 < (wrap64 (-a6)) then(wrap64 (-a6)) else a6)=j9:=l5
     obtain⟨⟨m0,m3⟩,m4,H⟩:=bT H;(try dsimp only at H);obtain⟨m5,m6⟩:∃ j_:Int,(mx a7 (wrap64 (-a7)))=j_:=⟨_,rfl⟩;replace H:((Czk.f f4 (m5)).bind fun l7=>((Dzq.f f4 ((decide (a6 < 0)) != (decide (a7 < 0))) m0 l7.1).bind fun l8=>(some (l8.1,l8.2.1,l8.2.2,0))))=some (a8,b4,b5,b6):=by first|(rw[m6] at H;exact H)|(simp only[m6] at H ⊢;exact H)
     (try rw[m6] at m4)
     have m7:(if a7 < (wrap64 (-a7)) then(wrap64 (-a7)) else a7)=m5:=m6
     obtain⟨⟨m8,m9⟩,n0,H⟩:=bT H;(try dsimp only at H);replace H:=bS H;obtain⟨⟨n6,n7,n8⟩,n9,H⟩:=H;replace H:(some (n6,n7,n8,0))=some (a8,b4,b5,b6):=H;have o0:=aM n9;clear n9;obtain⟨rfl,rfl,rfl,rfl⟩:=q4 H;go_wp2_with (first|((with_reducible refine gate_callee (f:=83) rfl ?_);refine goesL_ (some 33) rfl rfl Tryz.func83 (by kernel_rfl) rfl #[.int .i64 j9] rfl (by(try simp only[List.map_toArray,List.map_cons,List.map_nil]);first|done|(simp only[l5];rfl)|rfl|(simp only[List.length_drop,List.length_take];rfl)) ?_;(with_reducible refine(Czk.calls f4 j9 m0 m3 _ m4.out).mono ?_);rintro e o8 ⟨o9,rfl,p0,hb⟩;refine⟨_,rfl,?_⟩;have p3:=rL p0;replace d0:=kb d0 hb;replace HB:=bB hb;clear hb p0)|((with_reducible refine gate_callee (f:=83) rfl ?_);refine goesL_ (some 41) rfl rfl Tryz.func83 (by kernel_rfl) rfl #[.int .i64 m5] rfl (by(try simp only[List.map_toArray,List.map_cons,List.map_nil]);first|done|(simp only[m6];rfl)|rfl|(simp only[List.length_drop,List.length_take];rfl)) ?_;(with_reducible refine(Czk.calls f4 m5 m8 m9 _ n0.out).mono ?_);rintro e p4 ⟨p5,rfl,p0,hb⟩;refine⟨_,rfl,?_⟩;have r5:=rL (rn p0 p3);replace p3:=rE p3 p0 hb;replace d0:=kb d0 hb;replace HB:=bB hb;clear hb p0;obtain⟨r6,r7,rfl⟩:=Kd.R_slice p3.out;obtain⟨r8,r9,rfl⟩:=Kd.R_slice r5.out)|((with_reducible refine gc 53 rfl ?_);refine gC 53 (some 51) Tryz.func53 #[.bool ((decide (a6 < 0)) != (decide (a7 < 0))),.slice r6 m0.length r7,.slice r8 m8.length r9] ?_;(with_reducible refine(Dzq.calls f4 ((decide (a6 < 0)) != (decide (a7 < 0))) _ _ m0 _ _ m8 n6 n7 n8 _ ?_ ?_ ?_ ?_ o0.out).mono ?_);exact cR p3;exact lR p3;exact cR r5;exact lR r5;rintro e t6 ⟨t7,t8,rfl,p0,z1,hb⟩;refine⟨_,rfl,?_⟩;have z2:=rL (rn (rn p0 p3) r5);have z6:=rL (rn (rn z1 p3) r5);replace p3:=rO p3 hb p0 z1;replace r5:=rO r5 hb p0 z1;replace d0:=kb d0 hb;replace HB:=bB hb;clear hb p0 z1;obtain⟨z7,z8,B0,B5,B6,B8⟩:=bk3 d0;obtain⟨B9,C0,rfl⟩:=Kd.R_slice z2.out;obtain⟨C1,C2,rfl⟩:=Kd.R_slice z6.out))
     refine bodyPost_ret (results_ct rfl _ _ b8 26 #[.bool n6,.slice B9 n7.length C0,.slice C1 n8.length C2] (0,0) _ rfl (kQ d0) Tryz.underlying26 rfl (by kernel_rfl)) rfl ?_
     exact⟨_,_,by first|rfl|(simp [errW_none,errW_some] <;> rfl)|(simp only[← l5,← m6];first|rfl|(simp [errW_none,errW_some] <;> rfl))|(simp [*,errW_none,errW_some] <;> rfl),by exact Kd.R_mono (rT z2 d0) (fun _ hk=>hk.1.1),by exact Kd.R_mono (rT z6 d0) (fun _ hk=>hk.1.1),pB⟩

def Ezz.f (k:Nat) (a0:Int):Option (Bool × List Int × List Int × Int):=(Czj.f k a0 1).bind fun bt868=>(some (bt868.1,bt868.2.1,bt868.2.2.1,bt868.2.2.2))
theorem Ezz.mono:∀ a6 k,LeO (Ezz.f k a6) (Ezz.f (k+1) a6):=by
 intro a6 k;unfold Ezz.f;have i0:=@Czj.mono;exact mM
theorem Ezz.calls (k:Nat) (a6:Int) (a7:Bool) (a8:List Int) (b4:List Int) (b5:Int) (w:World) (h:Ezz.f k a6=some (a7,a8,b4,b5)) :
  Calls Tryz.prog 41 #[.int .i64 a6] w fun e w'=>∃ v1_ v2_:Value,e=.returned (.tuple #[.agg #[.bool a7,v1_,v2_],.int .i64 b5])∧Kd.R (Kd.int .i64) 3 w' w.heap.size (fun k_=>some k_≠(v2_:Value).ownBlock) v1_ a8∧Kd.R (Kd.int .i64) 3 w' w.heap.size (fun k_=>some k_≠(v1_:Value).ownBlock) v2_ b4∧Below w.heap.size w w':=by
 have hu26:=Tryz.underlying26;have HB:=aM (Below.refl w.heap.size w);have H:((Czj.f k a6 1).bind fun b6=>(some (b6.1,b6.2.1,b6.2.2.1,b6.2.2.2)))=some (a7,a8,b4,b5):=h
 clear h;replace H:=bS H;obtain⟨⟨b7,b8,b9,d0⟩,d6,H⟩:=H;replace H:(some (b7,b8,b9,d0))=some (a7,a8,b4,b5):=H;have d7:=aM d6;clear d6;obtain⟨rfl,rfl,rfl,rfl⟩:=q4 H;go_enter Tryz.func41,Tryz.ntmps41
 go_wp2_with (first|((with_reducible refine gd 2 rfl ?_);refine bx #[.bool false,.slice none 0 0,.slice none 0 0] 26 ?_;intro d8 hg d9 e6 hb;have e7:=gA w hg;have e8:=gA w hg;replace HB:=bB hb;clear hb hg)|((with_reducible refine gc 61 rfl ?_);refine gC 61 (some 5) Tryz.func61 #[.int .i64 a6,.int .i64 1] ?_;(with_reducible refine(Czj.calls k a6 1 b7 b8 b9 d0 _ d7.out).mono ?_);rintro e e9 ⟨f3,f4,rfl,f6,f9,hb⟩;refine⟨_,rfl,?_⟩;have g4:=rL f6;have g5:=rL f9;replace e6:=kb e6 hb;replace HB:=bB hb;clear hb f6 f9;obtain⟨g6,g7,g8,g9,j3,j4⟩:=bk3 e6;obtain⟨j5,j6,rfl⟩:=Kd.R_slice g4.out;obtain⟨j7,j8,rfl⟩:=Kd.R_slice g5.out))
 refine bodyPost_ret (results_ct rfl _ _ d8 26 #[.bool b7,.slice j5 b8.length j6,.slice j7 b9.length j8] (0,0) _ rfl (kQ e6) Tryz.underlying26 rfl (by kernel_rfl)) rfl ?_
 exact⟨_,_,eW,by exact Kd.R_mono (rT g4 e6) (fun _ hk=>hk),by exact Kd.R_mono (rT g5 e6) (fun _ hk=>hk),pB⟩


def Azq.j0:Nat→Bool→Bool→List Int→List Int→Option (Bool)
 | 0,_,_,_,_=>none
 | k+1,x30,x877000,x877001,x877002=>if x30=true then(some false) else((Bzz.f k x877001 x877002).bind fun bt879=>(if bt879.2=0 then((Bzm.f k bt879.1 (([1]:List Int))).bind fun t886=>(some t886)) else(some false)))
def Azq.f (k:Nat) (a0_0:Bool) (l0_1:List Int) (l0_2:List Int):Option (Bool):=(Azz.f k l0_1).bind fun t877=>(if t877=true then((Azz.f k l0_2).bind fun t878=>(if t878=true then(if(l0_2.length:Int)=0 then(Azq.j0 k true a0_0 l0_1 l0_2) else(if(l0_1.length:Int)=0 then(Azq.j0 k a0_0 a0_0 l0_1 l0_2) else(Azq.j0 k false a0_0 l0_1 l0_2))) else(Azq.j0 k true a0_0 l0_1 l0_2))) else(Azq.j0 k true a0_0 l0_1 l0_2))
theorem Azq.mono_l:∀ k,(∀ a6 a7 a8 b4,LeO (Azq.j0 k a6 a7 a8 b4) (Azq.j0 (k+1) a6 a7 a8 b4))
 | 0=>fun _ _ _ _ r h=>by simp [Azq.j0] at h
 | k+1=>by
  have ih0:=Azq.mono_l k
  ·intro a6 a7 a8 b4;unfold Azq.j0;have i0:=@Bzz.mono;have i1:=@Azz.mono;have i2:=@Bzm.mono;exact mM
theorem Azq.mono:∀ a6 a7 a8 k,LeO (Azq.f k a6 a7 a8) (Azq.f (k+1) a6 a7 a8):=by
 intro a6 a7 a8 k;have ih0:=Azq.mono_l k;unfold Azq.f;have i0:=@Bzz.mono;have i1:=@Azz.mono;have i2:=@Bzm.mono;exact mM
theorem Azq.calls (k:Nat) (a6:Bool) (a7:Option Addr) (a8:Nat) (b4:List Int) (b5:Option Addr) (b6:Nat) (b7:List Int) (r:Bool) (w:World) (b8:Kd.C (Kd.int .i64) w a7 b4.length b4) (b9:b4.length≤a8) (d0:Kd.C (Kd.int .i64) w b5 b7.length b7) (d6:b7.length≤b6) (h:Azq.f k a6 b4 b7=some r) :
  Calls Tryz.prog 49 #[.agg #[.bool a6,.slice a7 b4.length a8,.slice b5 b7.length b6]] w fun e w'=>e=.returned (.bool r)∧Below w.heap.size w w':=by
 have hu26:=Tryz.underlying26;have d7:=aM b8;have d8:=aM b9;clear b8 b9;have d9:=aM d0;have e6:=aM d6;clear d0 d6;have HB:=aM (Below.refl w.heap.size w);have H:((Azz.f k b4).bind fun e7=>(if e7=true then((Azz.f k b7).bind fun e8=>(if e8=true then(if(b7.length:Int)=0 then(Azq.j0 k true a6 b4 b7) else(if(b4.length:Int)=0 then(Azq.j0 k a6 a6 b4 b7) else(Azq.j0 k false a6 b4 b7))) else(Azq.j0 k true a6 b4 b7))) else(Azq.j0 k true a6 b4 b7)))=some r:=h
 clear h;have e9:=aM H;clear H;go_enter Tryz.func49,Tryz.ntmps49
 go_upto_region 1 with (first|((with_reducible refine gd 1 rfl ?_);refine bxg #[.bool a6,.slice a7 b4.length a8,.slice b5 b7.length b6] 26 ?_;intro f3 hg f4 f6 hb;have f9:=gA w hg;have g4:=gA w hg;replace HB:=bB hb;clear hb hg))
 (try simp only[Act.put,sA,sZ,sC])
 go_cut [30] (fun g5 wc=>∃ (kq:Nat) (g6:Bool),g5=.bool g6∧Aside0 (Azq.j0 kq g6 a6 b4 b7=some r)∧Aside0 (kq≤k)∧Aside0 (wc.heap[f3]?=some (.cells #[.bool a6,(.slice a7 b4.length a8),(.slice b5 b7.length b6)] 26 (0,0)))∧Aside0 (Below w.heap.size w wc))
 case first =>
  have H:=e9.out;clear e9;obtain⟨e7,g7,H⟩:=bT H;(try dsimp only at H);by_cases c5:e7=true
  ·subst c5;rw[if_pos rfl] at H;obtain⟨e8,g8,H⟩:=bT H;(try dsimp only at H);by_cases c7:e8=true
   ·subst c7;rw[if_pos rfl] at H;by_cases c8:(b7.length:Int)=0
    ·rw[if_pos c8] at H;obtain⟨g9,j3⟩:=bE c8;clear c8;(first|rw[g9]|(simp only[i64_w,i32_w];rw[g9])|skip)
     have H':=aM H;clear H;obtain⟨j4,j5,j6,j7,j8,j9⟩:=bk3 f6;go_wp2_with (first|((with_reducible refine gc 69 rfl ?_);refine gC 69 (some 7) Tryz.func69 #[.slice a7 b4.length a8] ?_;(with_reducible refine(Azz.calls k _ _ b4 true _ ?_ ?_ g7.out).mono ?_);exact cB d7;exact d8.out;rintro e w' ⟨rfl,⟨nd,rfl⟩⟩;refine⟨_,rfl,?_⟩)|(go_at_call 69;(with_reducible refine(Azz.calls k _ _ b7 true _ ?_ ?_ g8.out).mono ?_);exact cB d9;exact e6.out;rintro e w' ⟨rfl,⟨nd,rfl⟩⟩))
     go_meet
     case rel=>exact⟨_,(true),sD,H',⟨by first|omega|exact Nat.le_refl _⟩,⟨by exact kW f6⟩,⟨pB⟩⟩
    ·rw[if_neg c8] at H;obtain⟨g9,j3⟩:=bI c8;have l5:¬ (b7=[]):=fun h_=>c8 (by rw[h_];rfl)
     (first|rw[g9]|(simp only[i64_w,i32_w];rw[g9])|skip)
     by_cases c10:(b4.length:Int)=0
     ·rw[if_pos c10] at H;obtain⟨l6,l7⟩:=bE c10;clear c10;have H':=aM H;clear H;obtain⟨l8,l9,m0,m3,m4,m5⟩:=bk3 f6;go_wp2_with (first|((with_reducible refine gc 69 rfl ?_);refine gC 69 (some 7) Tryz.func69 #[.slice a7 b4.length a8] ?_;(with_reducible refine(Azz.calls k _ _ b4 true _ ?_ ?_ g7.out).mono ?_);exact cB d7;exact d8.out;rintro e w' ⟨rfl,⟨nd,rfl⟩⟩;refine⟨_,rfl,?_⟩)|(go_at_call 69;(with_reducible refine(Azz.calls k _ _ b7 true _ ?_ ?_ g8.out).mono ?_);exact cB d9;exact e6.out;rintro e w' ⟨rfl,⟨nd,rfl⟩⟩))
      go_meet
      case rel=>exact⟨_,(a6),sD,H',⟨by first|omega|exact Nat.le_refl _⟩,⟨by exact kW f6⟩,⟨pB⟩⟩
     ·rw[if_neg c10] at H;obtain⟨l6,l7⟩:=bI c10;have m6:¬ (b4=[]):=fun h_=>c10 (by rw[h_];rfl)
      have H':=aM H;clear H;obtain⟨m7,m8,m9,n0,n6,n7⟩:=bk3 f6;go_wp2_with (first|((with_reducible refine gc 69 rfl ?_);refine gC 69 (some 7) Tryz.func69 #[.slice a7 b4.length a8] ?_;(with_reducible refine(Azz.calls k _ _ b4 true _ ?_ ?_ g7.out).mono ?_);exact cB d7;exact d8.out;rintro e w' ⟨rfl,⟨nd,rfl⟩⟩;refine⟨_,rfl,?_⟩)|(go_at_call 69;(with_reducible refine(Azz.calls k _ _ b7 true _ ?_ ?_ g8.out).mono ?_);exact cB d9;exact e6.out;rintro e w' ⟨rfl,⟨nd,rfl⟩⟩))
      go_meet
      case rel=>exact⟨_,(false),sD,H',⟨by first|omega|exact Nat.le_refl _⟩,⟨by exact kW f6⟩,⟨pB⟩⟩
   ·obtain rfl:=bN c7;rw[if_neg nF] at H
    have H':=aM H;clear H;obtain⟨n8,n9,o0,o8,o9,p0⟩:=bk3 f6;go_wp2_with (first|((with_reducible refine gc 69 rfl ?_);refine gC 69 (some 7) Tryz.func69 #[.slice a7 b4.length a8] ?_;(with_reducible refine(Azz.calls k _ _ b4 true _ ?_ ?_ g7.out).mono ?_);exact cB d7;exact d8.out;rintro e w' ⟨rfl,⟨nd,rfl⟩⟩;refine⟨_,rfl,?_⟩)|(go_at_call 69;(with_reducible refine(Azz.calls k _ _ b7 false _ ?_ ?_ g8.out).mono ?_);exact cB d9;exact e6.out;rintro e w' ⟨rfl,⟨nd,rfl⟩⟩))
    go_meet
    case rel=>exact⟨_,(true),sD,H',⟨by first|omega|exact Nat.le_refl _⟩,⟨by exact kW f6⟩,⟨pB⟩⟩
  ·obtain rfl:=bN c5;rw[if_neg nF] at H
   have H':=aM H;clear H;obtain⟨p3,p4,p5,r5,r6,r7⟩:=bk3 f6;go_wp2_with (first|((with_reducible refine gc 69 rfl ?_);refine gC 69 (some 7) Tryz.func69 #[.slice a7 b4.length a8] ?_;(with_reducible refine(Azz.calls k _ _ b4 false _ ?_ ?_ g7.out).mono ?_);exact cB d7;exact d8.out;rintro e w' ⟨rfl,⟨nd,rfl⟩⟩;refine⟨_,rfl,?_⟩))
   go_meet
   case rel=>exact⟨_,(true),sD,H',⟨by first|omega|exact Nat.le_refl _⟩,⟨by exact kW f6⟩,⟨pB⟩⟩
 case rest =>
  clear e9;try clear r8
  obtain⟨kq,g6,rfl,HA,r9,f6,HB⟩:=hcut;cases kq with
  | zero=>exact absurd HA.out (by simp [Azq.j0])
  | succ t6 =>
   have H:=HA.out;clear HA;simp only[Azq.j0] at H;by_cases t7:g6=true
   ·subst t7;rw[if_pos rfl] at H;obtain rfl:=Option.some.inj H;go_wp2
    go_ret
    exact⟨eW,pB⟩
   ·obtain rfl:=bN t7;rw[if_neg nF] at H
    obtain⟨⟨t8,z1⟩,z2,H⟩:=bT H;(try dsimp only at H);by_cases z6:z1=0
    ·rw[if_pos z6] at H;obtain⟨z7,z8⟩:=bE z6;clear z6;obtain⟨B0,B5⟩:∃ y_:List Int,y_=(([1]:List Int)):=⟨_,rfl⟩;replace H:((Bzm.f t6 t8 B0).bind fun B6=>(some B6))=some r:=yE B5 H
     have B8:=aM B5;clear B5;replace H:=bS H;obtain⟨B6,B9,H⟩:=H;replace H:(some B6)=some r:=H;have C0:=aM B9;clear B9;obtain rfl:=Option.some.inj H;obtain⟨C1,C2,C3,C4,C6,C7⟩:=bk3 f6;go_wp2_with (first|((with_reducible refine gc 70 rfl ?_);refine gC 70 (some 36) Tryz.func70 #[.slice a7 b4.length a8,.slice b5 b7.length b6] ?_;(with_reducible refine(Bzz.calls t6 _ _ b4 (fun k_=>k_ < w.heap.size) _ _ b7 t8 z1 _ ?_ ?_ ?_ z2.out).mono ?_);exact cB d7;exact d8.out;exact Kd.V_mk e6.out (Kd.F_below (Kd.C_F (Kd.heap_int .i64) d9.out) pB);rintro e C8 ⟨C9,rfl,D0,hb⟩;refine⟨_,rfl,?_⟩;have D1:=rL (Kd.R_mono (ok':=fun k_=>True) D0 (fun _ hk_=>trivial));replace f6:=kb f6 hb;replace HB:=bB hb;clear hb D0)|((with_reducible refine gd 43 rfl ?_);refine iLg 43 [1] ?_;intro D2 D3 D4 hb;replace D4:=rY B8 D4;have D5:=rL (rn D4 D1);replace D1:=rE D1 D4 hb;replace f6:=kb f6 hb;replace HB:=bB hb;clear hb D4;obtain⟨D6,D7,rfl⟩:=Kd.R_slice D1.out;obtain⟨D8,D9,rfl⟩:=Kd.R_slice D5.out)|(go_at_call 31;(with_reducible refine(Bzm.calls t6 _ _ t8 _ _ B0 B6 _ ?_ ?_ ?_ ?_ C0.out).mono ?_);exact cR D1;exact lR D1;exact cR D5;exact lR D5;rintro e w' ⟨rfl,⟨nd,rfl⟩⟩))
     go_ret
     exact⟨eW,pB⟩
    ·rw[if_neg z6] at H;obtain⟨z7,z8⟩:=bI z6;obtain rfl:=Option.some.inj H;obtain⟨E0,E1,E2,E3,E4,E5⟩:=bk3 f6;go_wp2_with (first|((with_reducible refine gc 70 rfl ?_);refine gC 70 (some 36) Tryz.func70 #[.slice a7 b4.length a8,.slice b5 b7.length b6] ?_;(with_reducible refine(Bzz.calls t6 _ _ b4 (fun k_=>k_ < w.heap.size) _ _ b7 t8 z1 _ ?_ ?_ ?_ z2.out).mono ?_);exact cB d7;exact d8.out;exact Kd.V_mk e6.out (Kd.F_below (Kd.C_F (Kd.heap_int .i64) d9.out) pB);rintro e E6 ⟨C9,rfl,D0,hb⟩;refine⟨_,rfl,?_⟩;have D1:=rL (Kd.R_mono (ok':=fun k_=>True) D0 (fun _ hk_=>trivial));replace f6:=kb f6 hb;replace HB:=bB hb;clear hb D0))
     go_ret
     exact⟨eW,pB⟩

def Bzk.j0:Nat→List Int→List Int→Bool→Option (List Int × Int)
 | 0,_,_,_=>none
 | k+1,x0,x1,x13=>if x13=true then(some (([]:List Int),3)) else((Azw.f k x0 x1).bind fun t889=>((Bzy.f k t889).bind fun bt892=>(some (bt892.1,bt892.2))))
def Bzk.f (k:Nat) (l0:List Int) (l1:List Int):Option (List Int × Int):=(Azz.f k l0).bind fun t887=>(if t887=true then((Azz.f k l1).bind fun t888=>(Bzk.j0 k l0 l1 (!t888))) else(Bzk.j0 k l0 l1 true))
theorem Bzk.mono_l:∀ k,(∀ a6 a7 a8,LeO (Bzk.j0 k a6 a7 a8) (Bzk.j0 (k+1) a6 a7 a8))
 | 0=>fun _ _ _ r h=>by simp [Bzk.j0] at h
 | k+1=>by
  have ih0:=Bzk.mono_l k
  ·intro a6 a7 a8;unfold Bzk.j0;have i0:=@Azz.mono;have i1:=@Bzy.mono;have i2:=@Azw.mono;exact mM
theorem Bzk.mono:∀ a6 a7 k,LeO (Bzk.f k a6 a7) (Bzk.f (k+1) a6 a7):=by
 intro a6 a7 k;have ih0:=Bzk.mono_l k;unfold Bzk.f;have i0:=@Azz.mono;have i1:=@Bzy.mono;have i2:=@Azw.mono;exact mM
theorem Bzk.calls (k:Nat) (a6:Option Addr) (a7:Nat) (l0:List Int) (a8:Option Addr) (b4:Nat) (l1:List Int) (b5:List Int) (b6:Int) (w:World) (b7:Kd.C (Kd.int .i64) w a6 l0.length l0) (b8:l0.length≤a7) (b9:Kd.C (Kd.int .i64) w a8 l1.length l1) (d0:l1.length≤b4) (h:Bzk.f k l0 l1=some (b5,b6)) :
  Calls Tryz.prog 52 #[.slice a6 l0.length a7,.slice a8 l1.length b4] w fun e w'=>∃ v0_:Value,e=.returned (.tuple #[v0_,.int .i64 b6])∧Kd.R (Kd.int .i64) 3 w' w.heap.size (fun _=>True) v0_ b5∧Below w.heap.size w w':=by
 have d6:=aM b7;have d7:=aM b8;clear b7 b8;have d8:=aM b9;have d9:=aM d0;clear b9 d0;have HB:=aM (Below.refl w.heap.size w);have H:((Azz.f k l0).bind fun e6=>(if e6=true then((Azz.f k l1).bind fun e7=>(Bzk.j0 k l0 l1 (!e7))) else(Bzk.j0 k l0 l1 true)))=some (b5,b6):=h
 clear h;have e8:=aM H;clear H;go_enter Tryz.func52,Tryz.ntmps52
 go_upto_region 1 with (fail)
 go_cut [13] (fun e9 wc=>∃ (kq:Nat) (f3:Bool),e9=.bool f3∧Aside0 (Bzk.j0 kq l0 l1 f3=some (b5,b6))∧Aside0 (kq≤k)∧Aside0 (Below w.heap.size w wc))
 case first =>
  have H:=e8.out;clear e8;obtain⟨e6,f4,H⟩:=bT H;(try dsimp only at H);by_cases c5:e6=true
  ·subst c5;rw[if_pos rfl] at H;obtain⟨e7,f6,H⟩:=bT H;(try dsimp only at H);have H':=aM H;clear H;go_wp2_with (first|((with_reducible refine gc 69 rfl ?_);refine gC 69 (some 7) Tryz.func69 #[.slice a6 l0.length a7] ?_;(with_reducible refine(Azz.calls k _ _ l0 true _ ?_ ?_ f4.out).mono ?_);exact cB d6;exact d7.out;rintro e w' ⟨rfl,⟨nd,rfl⟩⟩;refine⟨_,rfl,?_⟩)|(go_at_call 69;(with_reducible refine(Azz.calls k _ _ l1 e7 _ ?_ ?_ f6.out).mono ?_);exact cB d8;exact d9.out;rintro e w' ⟨rfl,⟨nd,rfl⟩⟩))
   go_meet
   case rel=>exact⟨_,(!e7),sD,H',⟨by first|omega|exact Nat.le_refl _⟩,⟨pB⟩⟩
  ·obtain rfl:=bN c5;rw[if_neg nF] at H
   have H':=aM H;clear H;go_wp2_with (first|((with_reducible refine gc 69 rfl ?_);refine gC 69 (some 7) Tryz.func69 #[.slice a6 l0.length a7] ?_;(with_reducible refine(Azz.calls k _ _ l0 false _ ?_ ?_ f4.out).mono ?_);exact cB d6;exact d7.out;rintro e w' ⟨rfl,⟨nd,rfl⟩⟩;refine⟨_,rfl,?_⟩))
   go_meet
   case rel=>exact⟨_,(true),sD,H',⟨by first|omega|exact Nat.le_refl _⟩,⟨pB⟩⟩
 case rest =>
  clear e8;try clear b4
  obtain⟨kq,f3,rfl,HA,f9,HB⟩:=hcut;cases kq with
  | zero=>exact absurd HA.out (by simp [Bzk.j0])
  | succ g4 =>
   have H:=HA.out;clear HA;simp only[Bzk.j0] at H;by_cases c7:f3=true
   ·subst c7;rw[if_pos rfl] at H;obtain⟨rfl,rfl⟩:=q2 H;go_wp2
    go_ret2
    exact⟨_,eW,nK,pB⟩
   ·obtain rfl:=bN c7;rw[if_neg nF] at H
    obtain⟨g5,g6,H⟩:=bT H;(try dsimp only at H);replace H:=bS H;obtain⟨⟨g7,g8⟩,g9,H⟩:=H;replace H:(some (g7,g8))=some (b5,b6):=H;have j3:=aM g9;clear g9;obtain⟨rfl,rfl⟩:=q2 H;go_wp2_with (first|((with_reducible refine gc 73 rfl ?_);refine gC 73 (some 16) Tryz.func73 #[.slice a6 l0.length a7,.slice a8 l1.length b4] ?_;(with_reducible refine(Azw.calls g4 _ _ l0 _ _ l1 g5 _ ?_ ?_ ?_ ?_ g6.out).mono ?_);exact cB d6;exact d7.out;exact cB d8;exact d9.out;rintro e j4 ⟨j5,rfl,j6,hb⟩;refine⟨_,rfl,?_⟩;have j7:=rL j6;replace HB:=bB hb;clear hb j6;obtain⟨j8,j9,rfl⟩:=Kd.R_slice j7.out)|((with_reducible refine gc 72 rfl ?_);refine gC 72 (some 17) Tryz.func72 #[.slice j8 g5.length j9] ?_;(with_reducible refine(Bzy.calls g4 _ _ g5 g7 g8 _ ?_ ?_ j3.out).mono ?_);exact cR j7;exact lR j7;rintro e l5 ⟨l6,rfl,j6,hb⟩;refine⟨_,rfl,?_⟩;have l7:=rL (rn j6 j7);replace j7:=rE j7 j6 hb;replace HB:=bB hb;clear hb j6))
    go_ret2
    exact⟨_,eW,by exact rX (Kd.R_mono l7.out (fun _ hk=>trivial)),pB⟩

end Go.Proofs.YtokkiljkgejnhaaGreat.Print
