import Derived.Test.YtokkiljkgejnhaaPrint0
namespace Go.Proofs.Ytokkiljkgejnhaa.Print
open Go.RowKit Go.Proofs.YtokkiljkgejnhaaW.PrintWords Go.Proofs.YtokkiljkgejnhaaW.PrintLast Go.Proofs.YtokkiljkgejnhaaW.PrintMore
attribute [local go_sem] max2_int min2_int max_two min_two max_three min_three max_four min_four
set_option linter.unusedVariables false
set_option maxRecDepth 100000
set_option maxHeartbeats 8000000
set_option linter.unusedSimpArgs false

mutual
def Azk.l0:Nat→List Int→List Int→Int→Option (List Int × Int)
 | 0,_,_,_=>none
 | k+1,x0,x1,x7=>if x7 < (x1.length:Int) then(if 0≤x7 then(if 0≤(wrap64 (x7 - 1)) then(if(wrap64 (x7 - 1)) < (x1.length:Int) then(if(rd x1 x7)≤(rd x1 (wrap64 (x7 - 1))) then(some (([]:List Int),9)) else(Azk.l0 k x0 x1 (wrap64 (x7+1)))) else(none)) else(none)) else(none)) else(if 0≤(wrap64 ((x1.length:Int) - 1)) then(if(wrap64 ((x1.length:Int) - 1):Int).toNat≤35184372088832 then(Azk.l1 k x1 (List.replicate (wrap64 ((x1.length:Int) - 1):Int).toNat 0) x0 (x0.length:Int) 0) else(none)) else(none))
def Azk.l1:Nat→List Int→List Int→List Int→Int→Int→Option (List Int × Int)
 | 0,_,_,_,_,_=>none
 | k+1,x1,x8,x45,x46,x47=>if x47 < x46 then(if 0≤x47 then(if x47 < (x45.length:Int) then(Azk.l2 k x1 x8 (rd x45 x47) x45 x46 x47 (x8.length:Int) 0) else(none)) else(none)) else(some (x8,0))
def Azk.l2:Nat→List Int→List Int→Int→List Int→Int→Int→Int→Int→Option (List Int × Int)
 | 0,_,_,_,_,_,_,_,_=>none
 | k+1,x1,x8,x10,x45,x46,x47,x52,x53=>if x53 < x52 then(if 0≤x53 then(if x53 < (x1.length:Int) then(if(rd x1 x53)≤x10 then(if 0≤(wrap64 (x53+1)) then(if(wrap64 (x53+1)) < (x1.length:Int) then(if x10 < (rd x1 (wrap64 (x53+1))) then(if x53 < (x8.length:Int) then(Azk.l2 k x1 (x8.set (x53:Int).toNat (wrap64 ((rd x8 x53)+1))) x10 x45 x46 x47 x52 (wrap64 (x53+1))) else(none)) else(Azk.l2 k x1 x8 x10 x45 x46 x47 x52 (wrap64 (x53+1)))) else(none)) else(none)) else(Azk.l2 k x1 x8 x10 x45 x46 x47 x52 (wrap64 (x53+1)))) else(none)) else(none)) else(Azk.l1 k x1 x8 x45 x46 (wrap64 (x47+1)))
end
def Azk.f (k:Nat) (l0:List Int) (l1:List Int):Option (List Int × Int):=(Bzw.f k l0).bind fun t243=>(if t243=0 then(if(l1.length:Int) < 2 then(some (([]:List Int),10)) else(if(l1.length:Int) > 64 then(some (([]:List Int),8)) else(Azk.l0 k l0 l1 1))) else(some (([]:List Int),t243)))
theorem Azk.mono_l:∀ k,(∀ a6 a7 a8,LeO (Azk.l0 k a6 a7 a8) (Azk.l0 (k+1) a6 a7 a8))∧(∀ a6 a7 a8 b4 b5,LeO (Azk.l1 k a6 a7 a8 b4 b5) (Azk.l1 (k+1) a6 a7 a8 b4 b5))∧(∀ a6 a7 a8 b4 b5 b6 b7 b8,LeO (Azk.l2 k a6 a7 a8 b4 b5 b6 b7 b8) (Azk.l2 (k+1) a6 a7 a8 b4 b5 b6 b7 b8))
 | 0=>⟨fun _ _ _ r h=>by simp [Azk.l0] at h,fun _ _ _ _ _ r h=>by simp [Azk.l1] at h,fun _ _ _ _ _ _ _ _ r h=>by simp [Azk.l2] at h⟩
 | k+1=>by
  obtain⟨ih0,ih1,ih2⟩:=Azk.mono_l k;have i0:=@Bzw.mono;refine⟨?_,?_,?_⟩
  ·intro a6 a7 a8;unfold Azk.l0;exact mM
  ·intro a6 a7 a8 b4 b5;unfold Azk.l1;exact mM
  ·intro a6 a7 a8 b4 b5 b6 b7 b8;unfold Azk.l2;exact mM
theorem Azk.mono:∀ a6 a7 k,LeO (Azk.f k a6 a7) (Azk.f (k+1) a6 a7):=by
 intro a6 a7 k;obtain⟨ih0,ih1,ih2⟩:=Azk.mono_l k;unfold Azk.f;have i0:=@Bzw.mono;exact mM
theorem zz12_0 {P:Prop} (h:P:=by
 have fl_:True:=trivial;repeat((first|clear fl_|go_quiet (first|(go_at_call 30;(with_reducible refine(Bzw.calls k _ _ l0 e6 _ ?_ ?_ e7.out).mono ?_);exact cX d6.out;exact d7.out;rintro e w' ⟨rfl,⟨nd,rfl⟩⟩;(try exact dD))));go_wp2_with (first|(go_at_call 30;(with_reducible refine(Bzw.calls k _ _ l0 e6 _ ?_ ?_ e7.out).mono ?_);exact cX d6.out;exact d7.out;rintro e w' ⟨rfl,⟨nd,rfl⟩⟩;(try exact dD))))
 go_ret2
 exact⟨_,eW,nK,pB⟩):P:=h
theorem Azk.calls (k:Nat) (a6:Option Addr) (a7:Nat) (l0:List Int) (a8:Option Addr) (b4:Nat) (l1:List Int) (b5:List Int) (b6:Int) (w:World) (b7:Kd.C (Kd.int .i64) w a6 l0.length l0) (b8:l0.length≤a7) (b9:Kd.C (Kd.int .i64) w a8 l1.length l1) (d0:l1.length≤b4) (h:Azk.f k l0 l1=some (b5,b6)) :
  Calls Try.prog 15 #[.slice a6 l0.length a7,.slice a8 l1.length b4] w fun e w'=>∃ v0_:Value,e=.returned (.tuple #[v0_,.int .i64 b6])∧Kd.R (Kd.int .i64) 3 w' w.heap.size (fun _=>True) v0_ b5∧Below w.heap.size w w':=by
 have d6:=aM b7;have d7:=aM b8;clear b7 b8;have d8:=aM b9;have d9:=aM d0;clear b9 d0;have HB:=aM (Below.refl w.heap.size w);have H:((Bzw.f k l0).bind fun e6=>(if e6=0 then(if(l1.length:Int) < 2 then(some (([]:List Int),10)) else(if(l1.length:Int) > 64 then(some (([]:List Int),8)) else(Azk.l0 k l0 l1 1))) else(some (([]:List Int),e6))))=some (b5,b6):=h
 clear h;obtain⟨e6,e7,H⟩:=bT H;(try dsimp only at H);by_cases c4:e6=0
 ·rw[if_pos c4] at H;have e8:(e6 == 0)=true:=beq_iff_eq.mpr c4;have e9:(e6 != 0)=false:=bne_eq_false_iff_eq.mpr c4;clear c4;by_cases c5:(l1.length:Int) < 2
  ·rw[if_pos c5] at H;have f3:=dE c5;have f4:decide (l1.length < 2)=true:=dE (by omega)
   clear c5;obtain⟨rfl,rfl⟩:=q2 H;go_enter Try.func15,Try.ntmps15
   exact zz12_0
  ·rw[if_neg c5] at H;have f3:decide ((l1.length:Int) < 2)=false:=decide_eq_false c5;have f4:decide (l1.length < 2)=false:=decide_eq_false (by omega)
   clear c5;by_cases c6:(l1.length:Int) > 64
   ·rw[if_pos c6] at H;have f6:decide (64 < (l1.length:Int))=true:=dE c6;have f9:decide (64 < l1.length)=true:=dE (by omega)
    clear c6;obtain⟨rfl,rfl⟩:=q2 H;go_enter Try.func15,Try.ntmps15
    exact zz12_0
   ·rw[if_neg c6] at H;have f6:decide (64 < (l1.length:Int))=false:=decide_eq_false c6;have f9:decide (64 < l1.length)=false:=decide_eq_false (by omega)
    clear c6;have H':=aM H;clear H;go_enter Try.func15,Try.ntmps15
    have fl_:True:=trivial;repeat((first|clear fl_|go_quiet (first|(go_at_call 30;(with_reducible refine(Bzw.calls k _ _ l0 e6 _ ?_ ?_ e7.out).mono ?_);exact cX d6.out;exact d7.out;rintro e w' ⟨rfl,⟨nd,rfl⟩⟩;(try exact dD))));go_wp2_with (first|(go_at_call 30;(with_reducible refine(Bzw.calls k _ _ l0 e6 _ ?_ ?_ e7.out).mono ?_);exact cX d6.out;exact d7.out;rintro e w' ⟨rfl,⟨nd,rfl⟩⟩;(try exact dD))))
    try simp only[Act.put,sA,sZ,sC]
    go_loopg [7] k (fun kq g4 w'=>∃ (g5:Int),g4=.int .i64 g5∧Aside0 (Azk.l0 kq l0 l1 g5=some (b5,b6))∧Aside0 (kq≤k)∧Aside0 (Below w.heap.size w w'))
    case atStart=>exact⟨(1),sD,H',⟨Nat.le_refl _⟩,⟨pB⟩⟩
    case round =>
     clear H';try clear b4
     try clear g6
     try clear c4
     try clear e8
     try clear e9
     try clear c5
     try clear f3
     try clear f4
     try clear c6
     try clear f6
     try clear f9
     obtain⟨g5,rfl,HA,g7,HB⟩:=hrel;cases gk with
     | zero=>exact absurd HA.out (by simp [Azk.l0])
     | succ k1 =>
      have H:=HA.out;clear HA;simp only[Azk.l0] at H;by_cases c7:g5 < (l1.length:Int)
      ·rw[if_pos c7] at H;have g8:=dE c7;clear c7;obtain⟨g9,H⟩:=iN H;obtain⟨j5,j6⟩:∃ j_:Int,(wrap64 (g5 - 1))=j_:=⟨_,rfl⟩;replace H:(if 0≤(j5) then(if(j5) < (l1.length:Int) then(if(rd l1 g5)≤(rd l1 (j5)) then(some (([]:List Int),9)) else(Azk.l0 k1 l0 l1 (wrap64 (g5+1)))) else(none)) else(none))=some (b5,b6):=by first|(rw[j6] at H;exact H)|(simp only[j6] at H ⊢;exact H)
       have j7:(IntKind.i64.wrap (g5 - 1))=j5:=(i64_w _).trans j6;obtain⟨j8,H⟩:=iN H;obtain⟨j9,H⟩:=iN H;by_cases l5:(rd l1 g5)≤(rd l1 (j5))
       ·rw[if_pos l5] at H;have l6:=dE l5;clear l5;obtain⟨rfl,rfl⟩:=q2 H;obtain⟨l7,l8,l9,m0,m2⟩:=aI d8.out g5;cases l8
        replace l9:=hB HB l9;obtain⟨m3,m4,m5,m6,m7⟩:=aI d8.out (j5);obtain rfl:l7=m3:=(by injection m4)
        replace m5:=hB HB m5;go_wp2
        repeat(go_quiet (fail);try go_wp2)
        go_ret2
        exact⟨_,by first|rfl|(simp [errW_none,errW_some] <;> rfl)|(simp only[← j6];first|rfl|(simp [errW_none,errW_some] <;> rfl))|(simp [*,errW_none,errW_some] <;> rfl),nK,pB⟩
       ·rw[if_neg l5] at H;have l6:decide ((rd l1 g5)≤(rd l1 (j5)))=false:=decide_eq_false l5;clear l5;have H':=aM H;clear H;obtain⟨l7,l8,l9,m0,m2⟩:=aI d8.out g5;cases l8
        replace l9:=hB HB l9;obtain⟨m3,m4,m5,m6,m7⟩:=aI d8.out (j5);obtain rfl:l7=m3:=(by injection m4)
        replace m5:=hB HB m5;go_wp2
        repeat(go_quiet (fail);try go_wp2)
        go_roundg k1
        case measure=>have:=g7.out;omega
        case rel=>exact⟨(wrap64 (g5+1)),sD,H',⟨by have:=g7.out;omega⟩,⟨pB⟩⟩
      ·rw[if_neg c7] at H;have g8:decide (g5 < (l1.length:Int))=false:=decide_eq_false c7;clear c7;obtain⟨m8,m9⟩:∃ j_:Int,(wrap64 ((l1.length:Int) - 1))=j_:=⟨_,rfl⟩;replace H:(if 0≤(m8) then(if(m8:Int).toNat≤35184372088832 then(Azk.l1 k1 l1 (List.replicate (m8:Int).toNat 0) l0 (l0.length:Int) 0) else(none)) else(none))=some (b5,b6):=by first|(rw[m9] at H;exact H)|(simp only[m9] at H ⊢;exact H)
       have n0:(IntKind.i64.wrap ((l1.length:Int) - 1))=m8:=(i64_w _).trans m9;obtain⟨n6,H⟩:=iO H;have n7:=eq_true n6;have n8:decide (0≤(m8))=true:=dE n6;clear n6;obtain⟨n9,H⟩:=iO H;have o0:=eq_true n9;have o8:decide ((m8:Int).toNat≤35184372088832)=true:=dE n9;clear n9;obtain⟨o9,p0⟩:∃ y_:List Int,y_=(List.replicate (m8:Int).toNat 0):=⟨_,rfl⟩;replace H:(Azk.l1 k1 l1 o9 l0 (l0.length:Int) 0)=some (b5,b6):=yE p0 H
       have p4:=aM p0;clear p0;have H':=aM H;clear H;have fl_:True:=trivial;repeat((first|clear fl_|go_quiet (first|((with_reducible refine gate_dst (N:=44) rfl ?_);refine Kd.R_make (Kd.int .i64) _ 3 rfl (N:=44) rfl 22 _ _ rfl m8 rfl rfl Try.underlying22 (.int .i64 0) 8 info3 rfl (by decide) (by omega) 0 (ok:=fun _=>True) (okp:=fun _=>True) rfl (fun _ hk=>hk) trivial (oE aS) (Nat.le_trans (Nat.mul_le_mul_right _ (oE aS:m8.toNat≤35184372088832)) (by omega)) (Below.refl _ _) (Nat.le_refl _) ?_;intro p5 p9 r5 hb hg_ hnew_;clear hg_ hnew_;replace r5:=rY p4 r5;have r6:=rL r5;replace HB:=bB hb;clear hb r5)));go_wp2_with (first|((with_reducible refine gate_dst (N:=44) rfl ?_);refine Kd.R_make (Kd.int .i64) _ 3 rfl (N:=44) rfl 22 _ _ rfl m8 rfl rfl Try.underlying22 (.int .i64 0) 8 info3 rfl (by decide) (by omega) 0 (ok:=fun _=>True) (okp:=fun _=>True) rfl (fun _ hk=>hk) trivial (oE aS) (Nat.le_trans (Nat.mul_le_mul_right _ (oE aS:m8.toNat≤35184372088832)) (by omega)) (Below.refl _ _) (Nat.le_refl _) ?_;intro p5 p9 r5 hb hg_ hnew_;clear hg_ hnew_;replace r5:=rY p4 r5;have r6:=rL r5;replace HB:=bB hb;clear hb r5)))
       go_loopg [47] k1 (fun kq r7 w'=>∃ (r8:List Int) (r9:Int),r7=.int .i64 r9∧Aside0 (Azk.l1 kq l1 r8 l0 (l0.length:Int) r9=some (b5,b6))∧Aside0 (kq≤k1)∧Aside0 (Kd.R (Kd.int .i64) 3 w' w.heap.size (fun _=>True) p5 r8)∧Aside0 (Below w.heap.size w w'))
       case atStart=>exact⟨(o9),(0),sD,H',⟨Nat.le_refl _⟩,⟨rX r6.out⟩,⟨pB⟩⟩
       case round =>
        clear H';try clear b4
        try clear g6
        try clear q2
        try clear t6
        try clear c4
        try clear e8
        try clear e9
        try clear c5
        try clear f3
        try clear f4
        try clear c6
        try clear f6
        try clear f9
        try clear t7
        try clear c7
        try clear g8
        try clear c8
        try clear g9
        try clear c10
        try clear j8
        try clear t8
        try clear j9
        try clear l5
        try clear l6
        try clear n6
        try clear n7
        try clear n8
        try clear n9
        try clear o0
        try clear o8
        try clear l9
        try clear m5
        try clear g6
        try clear m0
        try clear m6
        try clear m2
        try clear m7
        obtain⟨r8,r9,rfl,HA,z1,z2,HB⟩:=hrel;cases gk with
        | zero=>exact absurd HA.out (by simp [Azk.l1])
        | succ k2 =>
         have H:=HA.out;clear HA;simp only[Azk.l1] at H;by_cases z6:r9 < (l0.length:Int)
         ·rw[if_pos z6] at H;have z7:=dE z6;clear z6;obtain⟨z8,H⟩:=iN H;obtain⟨B0,H⟩:=iN H;have H':=aM H;clear H;obtain⟨B5,B6,B8,B9,C0⟩:=aI d6.out r9;cases B6
          replace B8:=hB HB B8;obtain⟨C1,C2,rfl⟩:=Kd.R_slice z2.out;go_wp2
          repeat(go_quiet (fail);try go_wp2)
          go_loopg [53] k2 (fun kq C3 w'=>∃ (C4:List Int) (C6:Int),C3=.int .i64 C6∧Aside0 (Azk.l2 kq l1 C4 (rd l0 r9) l0 (l0.length:Int) r9 (r8.length:Int) C6=some (b5,b6))∧Aside0 (kq≤k2)∧Aside0 (Kd.R (Kd.int .i64) 3 w' w.heap.size (fun _=>True) (.slice C1 r8.length C2) C4)∧Aside0 (Below w.heap.size w w'))
          case atStart=>exact⟨(r8),(0),sD,H',⟨Nat.le_refl _⟩,⟨rX z2.out⟩,⟨pB⟩⟩
          case round =>
           clear H';try clear b4
           try clear c2
           try clear g6
           try clear q2
           try clear t6
           try clear c4
           try clear e8
           try clear e9
           try clear c5
           try clear f3
           try clear f4
           try clear c6
           try clear f6
           try clear f9
           try clear t7
           try clear c7
           try clear g8
           try clear c8
           try clear g9
           try clear c10
           try clear j8
           try clear t8
           try clear j9
           try clear l5
           try clear l6
           try clear n6
           try clear n7
           try clear n8
           try clear n9
           try clear o0
           try clear o8
           try clear z6
           try clear z7
           try clear C7
           try clear z8
           try clear C8
           try clear B0
           try clear l9
           try clear m5
           try clear B8
           try clear g6
           try clear m0
           try clear m6
           try clear B9
           try clear t7
           try clear q2
           try clear m2
           try clear m7
           try clear C0
           obtain⟨C4,C6,rfl,HA,C9,z2,HB⟩:=hrel;have D0:=(Kd.R_reads' z2.out).1;rw[D0] at z2;(try simp only[D0])
           cases gk with
           | zero=>exact absurd HA.out (by simp [Azk.l2])
           | succ k3 =>
            have H:=HA.out;clear HA;simp only[Azk.l2] at H;by_cases D1:C6 < (r8.length:Int)
            ·rw[if_pos D1] at H;have D2:=dE D1;have D3:=D2;(try simp only[D0] at D3)
             clear D1;obtain⟨D4,H⟩:=iN H;obtain⟨D5,H⟩:=iO H;have D6:decide (C6 < (l1.length:Int))=true:=dE D5;have D7:=D6;(try simp only[D0] at D7)
             clear D5;by_cases D8:(rd l1 C6)≤(rd l0 r9)
             ·rw[if_pos D8] at H;have D9:=dE D8;clear D8;obtain⟨E0,E1⟩:∃ j_:Int,(wrap64 (C6+1))=j_:=⟨_,rfl⟩;replace H:(if 0≤(E0) then(if(E0) < (l1.length:Int) then(if(rd l0 r9) < (rd l1 (E0)) then(if C6 < (C4.length:Int) then(Azk.l2 k3 l1 (C4.set (C6:Int).toNat (wrap64 ((rd C4 C6)+1))) (rd l0 r9) l0 (l0.length:Int) r9 (r8.length:Int) E0) else(none)) else(Azk.l2 k3 l1 C4 (rd l0 r9) l0 (l0.length:Int) r9 (r8.length:Int) E0)) else(none)) else(none))=some (b5,b6):=by first|(rw[E1] at H;exact H)|(simp only[E1] at H ⊢;exact H)
              have E2:(IntKind.i64.wrap (C6+1))=E0:=(i64_w _).trans E1;obtain⟨E3,H⟩:=iN H;obtain⟨E4,H⟩:=iO H;have E5:decide ((E0) < (l1.length:Int))=true:=dE E4;have E6:=E5;(try simp only[D0] at E6)
              clear E4;by_cases E7:(rd l0 r9) < (rd l1 (E0))
              ·rw[if_pos E7] at H;have E8:=dE E7;clear E7;obtain⟨E9,H⟩:=iO H;have F0:decide (C6 < (C4.length:Int))=true:=dE E9;have F1:=F0;(try simp only[D0] at F1)
               clear E9;obtain⟨F2,F3⟩:∃ y_:List Int,y_=(C4.set (C6:Int).toNat (wrap64 ((rd C4 C6)+1))):=⟨_,rfl⟩;replace H:(Azk.l2 k3 l1 F2 (rd l0 r9) l0 (l0.length:Int) r9 (r8.length:Int) E0)=some (b5,b6):=yE F3 H
               have F4:=aM F3;clear F3;have H':=aM H;clear H;obtain⟨F5,F6,F7,F8,F9⟩:=aI d8.out C6;cases F6
               replace F7:=hB HB F7;obtain⟨G0,G4,G5,G6,G7⟩:=aI d8.out (E0);obtain rfl:F5=G0:=(by injection G4)
               replace G5:=hB HB G5;obtain⟨G8,G9,H5,H6,H7⟩:=aI (Kd.R_reads' z2.out).2.2 C6;cases G9;have H8:0≤(C6:Int):=oE aS
               have H9:(C6:Int) < ((C4.length:Int):Int):=oE aS
               obtain⟨I0,I1,I2,I3,I4,I5,I6⟩:=Kd.R_form z2.out (by omega)
               (first|cases I2|(injection I2 with ea_ en_ ec_;(first|subst ea_|(injection ea_ with ea_;subst ea_));subst ec_;clear en_))
               have I7:=aM I3;have I8:=aM I6;clear I3 I4 I6;(first|simp only[add_plain] at H5|skip)
               obtain⟨I9,J0⟩:=Kd.R_celln 0 z2.out (C6:Int) H8 H9;replace H8:=eq_true H8;replace H9:=eq_true H9;have J1:=Kd.R_putg z2.out (C6:Int) (wrap64 ((rd C4 C6)+1));have fl_:True:=trivial;repeat((first|clear fl_|go_quiet (first|((with_reducible refine gate_store (t:=3) (p:=76) rfl ?_);(try(rw[drewN_self wr];generalize hq_:World.drewN wr _=wr;have n0_:=aM (Kd.R_at hq_ z2.out);have n1_:=aM (below_at hq_ HB.out);clear hq_ z2 HB;have z2:=n0_;have HB:=n1_;clear n0_ n1_;(try(obtain⟨I9,J0⟩:=Kd.R_celln 0 z2.out (C6:Int) (of_eq_true H8) (of_eq_true H9)));(try(have J1:=Kd.R_putg z2.out (C6:Int) (wrap64 ((rd C4 C6)+1))))));refine store_event (t:=3) (p:=76) (v:=?vo_w33) (w1:=(wr.setCell ⟨I0,(C6:Int).toNat,none⟩ (.int .i64 (wrap64 ((rd C4 C6)+1))))) ?hg ?ho ?hn ?hr ?_;(case ho=>rfl);(case hg=>rfl);(case hn=>rfl);(case hr=>first|(go_simp;done)|(go_simp;rfl));intro J2 hw;have hg:wr.grownBy J2 (some I0):=(by rw[hw];exact J1.2);have hp_:Kd.R (Kd.int .i64) 3 J2 w.heap.size (fun _=>True) (.slice (some ⟨I0,0,none⟩) C4.length C2) F2:=(by rw[hw,F4.out];exact J1.1);clear J1;replace z2:=aM (hp_);replace HB:=aM ((by rw[hw];exact below_set (HB.out) I7.out:Below w.heap.size w J2));clear hg hw hp_)));go_wp2_with (first|((with_reducible refine gate_store (t:=3) (p:=76) rfl ?_);(try(rw[drewN_self wr];generalize hq_:World.drewN wr _=wr;have n0_:=aM (Kd.R_at hq_ z2.out);have n1_:=aM (below_at hq_ HB.out);clear hq_ z2 HB;have z2:=n0_;have HB:=n1_;clear n0_ n1_;(try(obtain⟨I9,J0⟩:=Kd.R_celln 0 z2.out (C6:Int) (of_eq_true H8) (of_eq_true H9)));(try(have J1:=Kd.R_putg z2.out (C6:Int) (wrap64 ((rd C4 C6)+1))))));refine store_event (t:=3) (p:=76) (v:=?vo_w33) (w1:=(wr.setCell ⟨I0,(C6:Int).toNat,none⟩ (.int .i64 (wrap64 ((rd C4 C6)+1))))) ?hg ?ho ?hn ?hr ?_;(case ho=>rfl);(case hg=>rfl);(case hn=>rfl);(case hr=>first|(go_simp;done)|(go_simp;rfl));intro J2 hw;have hg:wr.grownBy J2 (some I0):=(by rw[hw];exact J1.2);have hp_:Kd.R (Kd.int .i64) 3 J2 w.heap.size (fun _=>True) (.slice (some ⟨I0,0,none⟩) C4.length C2) F2:=(by rw[hw,F4.out];exact J1.1);clear J1;replace z2:=aM (hp_);replace HB:=aM ((by rw[hw];exact below_set (HB.out) I7.out:Below w.heap.size w J2));clear hg hw hp_)))
               (try simp only[← D0])
               go_roundg k3
               case measure=>have:=g7.out;have:=z1.out;have:=C9.out;omega
               case rel=>exact⟨(F2),(E0),(by first|rfl|(simp;done)|(simp only[← E1] <;> (first|rfl|simp))|(simp [*];done)),H',⟨by have:=g7.out;have:=z1.out;have:=C9.out;omega⟩,⟨by(try simp only[D0]);(with_reducible repeat(first|apply Kd.R_alloc|apply Kd.R_drewN|apply Kd.R_drew));exact z2.out⟩,⟨pB⟩⟩
              ·rw[if_neg E7] at H;have E8:decide ((rd l0 r9) < (rd l1 (E0)))=false:=decide_eq_false E7;clear E7;have H':=aM H;clear H;obtain⟨F5,F6,F7,F8,F9⟩:=aI d8.out C6;cases F6
               replace F7:=hB HB F7;obtain⟨G0,G4,G5,G6,G7⟩:=aI d8.out (E0);obtain rfl:F5=G0:=(by injection G4)
               replace G5:=hB HB G5;go_wp2
               repeat(go_quiet (fail);try go_wp2)
               (try simp only[← D0])
               go_roundg k3
               case measure=>have:=g7.out;have:=z1.out;have:=C9.out;omega
               case rel=>exact⟨(C4),(E0),(by first|rfl|(simp;done)|(simp only[← E1] <;> (first|rfl|simp))|(simp [*];done)),H',⟨by have:=g7.out;have:=z1.out;have:=C9.out;omega⟩,⟨by(try simp only[D0]);(with_reducible repeat(first|apply Kd.R_alloc|apply Kd.R_drewN|apply Kd.R_drew));exact z2.out⟩,⟨pB⟩⟩
             ·rw[if_neg D8] at H;have D9:decide ((rd l1 C6)≤(rd l0 r9))=false:=decide_eq_false D8;clear D8;have H':=aM H;clear H;obtain⟨F5,F6,F7,F8,F9⟩:=aI d8.out C6;cases F6
              replace F7:=hB HB F7;go_wp2
              repeat(go_quiet (fail);try go_wp2)
              (try simp only[← D0])
              go_roundg k3
              case measure=>have:=g7.out;have:=z1.out;have:=C9.out;omega
              case rel=>exact⟨(C4),(wrap64 (C6+1)),sD,H',⟨by have:=g7.out;have:=z1.out;have:=C9.out;omega⟩,⟨by(try simp only[D0]);(with_reducible repeat(first|apply Kd.R_alloc|apply Kd.R_drewN|apply Kd.R_drew));exact z2.out⟩,⟨pB⟩⟩
            ·rw[if_neg D1] at H;have D2:decide (C6 < (r8.length:Int))=false:=decide_eq_false D1;have D3:=D2;(try simp only[D0] at D3)
             clear D1;have H':=aM H;clear H;go_wp2
             repeat(go_quiet (fail);try go_wp2)
             (try simp only[← D0])
             go_roundg k3
             case measure=>have:=g7.out;have:=z1.out;have:=C9.out;omega
             case rel=>exact⟨(C4),(wrap64 (r9+1)),sD,H',⟨by have:=g7.out;have:=z1.out;have:=C9.out;omega⟩,⟨by(try simp only[D0]);(with_reducible repeat(first|apply Kd.R_alloc|apply Kd.R_drewN|apply Kd.R_drew));exact z2.out⟩,⟨pB⟩⟩
         ·rw[if_neg z6] at H;have z7:decide (r9 < (l0.length:Int))=false:=decide_eq_false z6;clear z6;obtain⟨rfl,rfl⟩:=q2 H;go_wp2
          repeat(go_quiet (fail);try go_wp2)
          go_ret2
          exact⟨_,by first|rfl|(simp [errW_none,errW_some] <;> rfl)|(simp only[← m9];first|rfl|(simp [errW_none,errW_some] <;> rfl))|(simp [*,errW_none,errW_some] <;> rfl),rX z2.out,pB⟩
 ·rw[if_neg c4] at H;have e8:(e6 == 0)=false:=beq_eq_false_iff_ne.mpr c4;have e9:(e6 != 0)=true:=bne_iff_ne.mpr c4;obtain⟨rfl,rfl⟩:=q2 H;go_enter Try.func15,Try.ntmps15
  exact zz12_0

end Go.Proofs.Ytokkiljkgejnhaa.Print
