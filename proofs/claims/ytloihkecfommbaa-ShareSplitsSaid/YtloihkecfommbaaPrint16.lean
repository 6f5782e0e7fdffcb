import Derived.Test.YtloihkecfommbaaPrint0
namespace Go.Proofs.Ytloihkecfommbaa.Print
open Go.RowKit Go.Proofs.YtloihkecfommbaaW.PrintWords Go.Proofs.YtloihkecfommbaaW.PrintLast Go.Proofs.YtloihkecfommbaaW.PrintMore
attribute [local go_sem] max2_int min2_int max_two min_two max_three min_three max_four min_four
set_option linter.unusedVariables false
set_option maxRecDepth 100000
set_option maxHeartbeats 8000000
set_option linter.unusedSimpArgs false

mutual
def Bzw.j0:Nat→List Int→Int→Bool→Option (List Int)
 | 0,_,_,_=>none
 | k+1,x0,x1,x17=>if x17=true then(some x0) else(Bzw.l0 k x0 x1 ([]:List Int) 0)
def Bzw.l0:Nat→List Int→Int→List Int→Int→Option (List Int)
 | 0,_,_,_,_=>none
 | k+1,x0,x1,x5,x6=>if x6 < x1 then(if(x0.length:Int)=0 then(none) else(if 0≤(Int.tmod x6 (x0.length:Int)) then(if(Int.tmod x6 (x0.length:Int)) < (x0.length:Int) then(if x5.length < 17592186044416 then(Bzw.l0 k x0 x1 (x5 ++ [rd x0 (Int.tmod x6 (x0.length:Int))]) (wrap64 (x6+1))) else(none)) else(none)) else(none))) else(some x5)
end
def Bzw.f (k:Nat) (l0:List Int) (a1:Int):Option (List Int):=if a1 < 500 then(Bzw.j0 k l0 a1 true) else(if a1 > 520 then(Bzw.j0 k l0 a1 true) else(Bzw.j0 k l0 a1 ((l0.length:Int) == 0)))
theorem Bzw.mono_l:∀ k,(∀ y0 y1 y2,LeO (Bzw.j0 k y0 y1 y2) (Bzw.j0 (k+1) y0 y1 y2))∧(∀ y0 y1 y2 y3,LeO (Bzw.l0 k y0 y1 y2 y3) (Bzw.l0 (k+1) y0 y1 y2 y3))
 | 0=>⟨fun _ _ _ r h=>by simp [Bzw.j0] at h,fun _ _ _ _ r h=>by simp [Bzw.l0] at h⟩
 | k+1=>by
  obtain⟨ih0,ih1⟩:=Bzw.mono_l k;refine⟨?_,?_⟩
  ·intro y0 y1 y2;unfold Bzw.j0;with_reducible repeat' first|exact ih0 _ _ _|exact ih1 _ _ _ _|exact LeO.refl _|exact LeO.none _|refine LeO.ite ?_ ?_|refine LeO.bind ?_ (fun _=>?_)
  ·intro y0 y1 y2 y3;unfold Bzw.l0;with_reducible repeat' first|exact ih0 _ _ _|exact ih1 _ _ _ _|exact LeO.refl _|exact LeO.none _|refine LeO.ite ?_ ?_|refine LeO.bind ?_ (fun _=>?_)
theorem Bzw.mono:∀ a0 a1 k,LeO (Bzw.f k a0 a1) (Bzw.f (k+1) a0 a1):=by
 intro a0 a1 k;obtain⟨ih0,ih1⟩:=Bzw.mono_l k;unfold Bzw.f;with_reducible repeat' first|exact ih0 _ _ _|exact ih1 _ _ _ _|exact LeO.refl _|exact LeO.none _|refine LeO.ite ?_ ?_|refine LeO.bind ?_ (fun _=>?_)
theorem Bzw.calls (k:Nat) (P0_:Nat→Prop) (A0:Option Addr) (c0:Nat) (l0:List Int) (a1:Int) (r:List Int) (w:World) (hs0:Kd.V (Kd.int .i64) 3 w w.heap.size (fun k_=>P0_ k_) (.slice A0 l0.length c0) l0) (h:Bzw.f k l0 a1=some r) :
  Calls Try.prog 10 #[.slice A0 l0.length c0,.int .i64 a1] w fun e w'=>∃ v0_:Value,e=.returned (v0_)∧Kd.V (Kd.int .i64) 3 w' w.heap.size (fun k_=>(P0_ k_∨w.heap.size≤k_)) v0_ r∧Below w.heap.size w w':=by
 have HO0:=aM (show Kd.V (Kd.int .i64) 3 w w.heap.size (fun k_=>(P0_ k_∨w.heap.size≤k_)) (.slice A0 l0.length c0) l0 from Kd.V_mono hs0 (fun k_ hk=>.inl hk))
 have HB:=aM (Below.refl w.heap.size w);have H:(if a1 < 500 then(Bzw.j0 k l0 a1 true) else(if a1 > 520 then(Bzw.j0 k l0 a1 true) else(Bzw.j0 k l0 a1 ((l0.length:Int) == 0))))=some r:=h
 clear h;have HC3:=aM H;clear H;go_enter Try.func10,Try.ntmps10
 go_upto_region 1 with (fail)
 go_cut [17] (fun v17 wc=>∃ (kq:Nat) (x17_2:Bool),v17=.bool x17_2∧Aside0 (Bzw.j0 kq l0 a1 x17_2=some r)∧Aside0 (kq≤k)∧Aside0 (Kd.V (Kd.int .i64) 3 wc w.heap.size (fun k_=>(P0_ k_∨w.heap.size≤k_)) (.slice A0 l0.length c0) l0)∧Aside0 (Below w.heap.size w wc))
 case first =>
  have H:=HC3.out;clear HC3;by_cases c4:a1 < 500
  ·rw[if_pos c4] at H;have c4b0:decide (a1 < 500)=true:=dE c4;clear c4;(first|rw[c4b0]|(simp only[i64_w,i32_w];rw[c4b0])|skip)
   have H':=aM H;clear H;go_wp2
   go_meet
   case rel=>exact⟨_,(true),sD,H',⟨by first|omega|exact Nat.le_refl _⟩,⟨vX HO0.out⟩,⟨pB⟩⟩
  ·rw[if_neg c4] at H;have c4b0:decide (a1 < 500)=false:=decide_eq_false c4;clear c4;(first|rw[c4b0]|(simp only[i64_w,i32_w];rw[c4b0])|skip)
   by_cases c5:a1 > 520
   ·rw[if_pos c5] at H;have c5b0:decide (520 < a1)=true:=dE c5;clear c5;have H':=aM H;clear H;go_wp2
    go_meet
    case rel=>exact⟨_,(true),sD,H',⟨by first|omega|exact Nat.le_refl _⟩,⟨vX HO0.out⟩,⟨pB⟩⟩
   ·rw[if_neg c5] at H;have c5b0:decide (520 < a1)=false:=decide_eq_false c5;clear c5;have H':=aM H;clear H;go_wp2
    go_meet
    case rel=>exact⟨_,(((l0.length:Int) == 0)),sD,H',⟨by first|omega|exact Nat.le_refl _⟩,⟨vX HO0.out⟩,⟨pB⟩⟩
 case rest =>
  clear HC3;try clear c1
  try clear p2
  try clear c4
  try clear c4b0
  try clear c5
  try clear c5b0
  obtain⟨kq,x17_2,rfl,HA,HJ2,HO_0,HB⟩:=hcut;cases kq with
  | zero=>exact absurd HA.out (by simp [Bzw.j0])
  | succ kj2 =>
   have H:=HA.out;clear HA;simp only[Bzw.j0] at H;by_cases c6:x17_2=true
   ·subst c6;rw[if_pos rfl] at H;obtain rfl:=Option.some.inj H;go_wp2
    go_ret
    exact⟨_,eW,vX HO_0.out,pB⟩
   ·replace c6:=Bool.eq_false_iff.mpr c6;subst c6;rw[if_neg (show ¬ (false=true) by decide)] at H
    have H':=aM H;clear H;go_wp2
    go_loopg [5,6] kj2 (fun kq v5 v6 w'=>∃ (x5_2:List Int) (x6_2:Int),v6=.int .i64 x6_2∧Aside0 (Bzw.l0 kq l0 a1 x5_2 x6_2=some r)∧Aside0 (kq≤kj2)∧Aside0 (Kd.V (Kd.int .i64) 3 w' w.heap.size (fun k_=>(P0_ k_∨w.heap.size≤k_)∧some k_≠(v5:Value).ownBlock) (.slice A0 l0.length c0) l0)∧Aside0 (Kd.R (Kd.int .i64) 3 w' w.heap.size (fun k_=>(w.heap.size≤k_)) v5 x5_2)∧Aside0 (Below w.heap.size w w'))
    case atStart=>exact⟨(([]:List Int)),(0),sD,H',⟨Nat.le_refl _⟩,⟨by(with_reducible repeat(first|apply Kd.V_alloc|apply Kd.V_drewN|apply Kd.V_drew));exact Kd.V_mono HO_0.out (fun _ hk=>⟨hk,(by simp [Value.ownBlock])⟩)⟩,⟨by first|exact Kd.R_nil _ _ _ _ _|exact Kd.N_nil _ _ _ _ _|exact Kd.V_nil _ _ _ _ _|exact Kd.Q_nil _ _ _ _ _|exact Kd.S_nil _ _ _ _ _⟩,⟨pB⟩⟩
    case round =>
     clear H';try clear c1
     try clear p2
     try clear c4
     try clear c4b0
     try clear c5
     try clear c5b0
     try clear c6
     try clear p2
     obtain⟨x5_2,x6_2,rfl,HA,HK2,HO_0,HO_5,HB⟩:=hrel;cases gk with
     | zero=>exact absurd HA.out (by simp [Bzw.l0])
     | succ k2 =>
      have H:=HA.out;clear HA;simp only[Bzw.l0] at H;by_cases c7:x6_2 < a1
      ·rw[if_pos c7] at H;have c7b0:decide (x6_2 < a1)=true:=dE c7;clear c7;by_cases c8:(l0.length:Int)=0
       ·rw[if_pos c8] at H;exact absurd H (by simp)
       ·rw[if_neg c8] at H;have c8b0:((l0.length:Int) == 0)=false:=beq_eq_false_iff_ne.mpr c8;have c8b1:((l0.length:Int) != 0)=true:=bne_iff_ne.mpr c8;have c8b2:¬ (l0=[]):=fun h_=>c8 (by rw[h_];rfl)
        obtain⟨ji9,hji9⟩:∃ j_:Int,(Int.tmod x6_2 (l0.length:Int))=j_:=⟨_,rfl⟩;replace H:(if 0≤(ji9) then(if(ji9) < (l0.length:Int) then(if x5_2.length < 17592186044416 then(Bzw.l0 k2 l0 a1 (x5_2 ++ [rd l0 (ji9)]) (wrap64 (x6_2+1))) else(none)) else(none)) else(none))=some r:=by first|(rw[hji9] at H;exact H)|(simp only[hji9] at H ⊢;exact H)
        by_cases c10:0≤(ji9)
        ·rw[if_pos c10] at H;have c10b0:decide (0≤(ji9))=true:=dE c10;clear c10;by_cases c11:(ji9) < (l0.length:Int)
         ·rw[if_pos c11] at H;have c11b0:decide ((ji9) < (l0.length:Int))=true:=dE c11;clear c11;by_cases c12:x5_2.length < 17592186044416
          ·rw[if_pos c12] at H;have LMc12:=aM c12;clear c12;obtain⟨y315,hy315⟩:∃ y_:List Int,y_=(x5_2 ++ [rd l0 (ji9)]):=⟨_,rfl⟩;replace H:(Bzw.l0 k2 l0 a1 y315 (wrap64 (x6_2+1)))=some r:=by first|(rw[hy315];with_reducible exact H)|(have H2_:=(Option.bind_some _ _).symm.trans H;rw[hy315];with_reducible exact H2_)|(have H2_:=(Option.bind_some _ _).symm.trans H;with_reducible exact H2_)|with_reducible exact H|(rw[hy315];exact H)|exact H
           have Ny315:=aM hy315;clear hy315;have H':=aM H;clear H;have p314:0≤((ji9):Int):=oE aS
           have q314:(ji9) < (l0.length:Int):=oE aS
           obtain⟨ad314,e314,hx314_0⟩:=Kd.at_int (Kd.V_reads' HO_0.out).2.2 (ji9) p314 q314;cases e314
           replace p314:=eq_true p314;replace q314:=eq_true q314;go_wp2_with (first|((with_reducible refine gate_builtin (b:=.append) (xs:=#[.tmp 24,.tmp 32]) rfl ?_);(try(refine gate_guard (by rfl) ?_;dsimp only));at_builtin;refine Kd.R_append (Kd.int .i64) (w0:=w) w.heap.size rfl (.tmp 24) (.tmp 32) 22 3 (.int .i64 0) 8 rfl Try.underlying22 info3 rfl (by decide) (by omega) u5 x5_2 (rd l0 (ji9)) [.int .i64 (rd l0 (ji9))] (fun k_=>(w.heap.size≤k_)) (fun _=>False) rfl rfl ?aP (fun _ hk=>hk.elim) ?aF ?aO ?aB ?aS ?aL ?_;(case aP=>exact rfl);(case aB=>exact pB);(case aF=>exact(fun k_ hk=>(Nat.le_trans (below_size pB) hk)));(case aO=>exact(rX HO_5.out));(case aS=>exact(below_size pB));(case aL=>have:=LMc12.out;omega);intro v316 w13 ho hb hg hat;rw[← Ny315.out] at ho;have HO317:=aM (ho);replace HO_0:=aM (Kd.V_afterv (ok:=(fun k_=>(P0_ k_∨w.heap.size≤k_))) (vX HO_0.out) hg hat);replace HB:=aM (hb);clear HO_5;clear ho hb hg hat))
           go_roundg k2
           case measure=>have:=HJ2.out;have:=HK2.out;omega
           case rel=>exact⟨(y315),(wrap64 (x6_2+1)),sD,H',⟨by have:=HJ2.out;have:=HK2.out;omega⟩,⟨vX HO_0.out⟩,⟨rX HO317.out⟩,⟨pB⟩⟩
          ·rw[if_neg c12] at H;exact absurd H (by simp)
         ·rw[if_neg c11] at H;exact absurd H (by simp)
        ·rw[if_neg c10] at H;exact absurd H (by simp)
      ·rw[if_neg c7] at H;have c7b0:decide (x6_2 < a1)=false:=decide_eq_false c7;clear c7;obtain rfl:=Option.some.inj H;go_wp2
       go_ret
       exact⟨_,eW,Kd.V_mono (Kd.R_V (rX HO_5.out)) (fun k_ hk=>by first|exact⟨(.inr (hk.1)),hk.2⟩|exact(.inr (hk))),pB⟩

end Go.Proofs.Ytloihkecfommbaa.Print
