import Derived.Test.YtokkiljkgejnhaaPrint0
namespace Go.Proofs.Ytokkiljkgejnhaa.Print
open Go.RowKit Go.Proofs.YtokkiljkgejnhaaW.PrintWords Go.Proofs.YtokkiljkgejnhaaW.PrintLast Go.Proofs.YtokkiljkgejnhaaW.PrintMore
attribute [local go_sem] max2_int min2_int max_two min_two max_three min_three max_four min_four
set_option linter.unusedVariables false
set_option maxRecDepth 100000
set_option maxHeartbeats 8000000
set_option linter.unusedSimpArgs false

def Bzq.l0:Nat→List Int→Int→List Int→Int→Option (List Int)
 | 0,_,_,_,_=>none
 | k+1,x0,x1,x5,x6=>if x6 < (x0.length:Int) then(if x1=0 then(if 0≤x6 then(if x5.length < 17592186044416 then(Bzq.l0 k x0 x1 (x5 ++ [wrap64 (-(rd x0 x6))]) (wrap64 (x6+1))) else(none)) else(none)) else(if 0≤x6 then(if x5.length < 17592186044416 then(Bzq.l0 k x0 x1 (x5 ++ [wrap64 ((rd x0 x6)+x1)]) (wrap64 (x6+1))) else(none)) else(none))) else(some x5)
def Bzq.f (k:Nat) (l0:List Int) (a1:Int):Option (List Int):=Bzq.l0 k l0 a1 ([]:List Int) 0
theorem Bzq.mono_l:∀ k,(∀ y0 y1 y2 y3,LeO (Bzq.l0 k y0 y1 y2 y3) (Bzq.l0 (k+1) y0 y1 y2 y3))
 | 0=>fun _ _ _ _ r h=>by simp [Bzq.l0] at h
 | k+1=>by
  have ih0:=Bzq.mono_l k
  ·intro y0 y1 y2 y3;unfold Bzq.l0;with_reducible repeat' first|exact ih0 _ _ _ _|exact LeO.refl _|exact LeO.none _|refine LeO.ite ?_ ?_|refine LeO.bind ?_ (fun _=>?_)
theorem Bzq.mono:∀ a0 a1 k,LeO (Bzq.f k a0 a1) (Bzq.f (k+1) a0 a1):=by
 intro a0 a1 k;have ih0:=Bzq.mono_l k;unfold Bzq.f;with_reducible repeat' first|exact ih0 _ _ _ _|exact LeO.refl _|exact LeO.none _|refine LeO.ite ?_ ?_|refine LeO.bind ?_ (fun _=>?_)
theorem Bzq.calls (k:Nat) (A0:Option Addr) (c0:Nat) (l0:List Int) (a1:Int) (r:List Int) (w:World) (hr0:Kd.C (Kd.int .i64) w A0 l0.length l0) (hc0:l0.length≤c0) (h:Bzq.f k l0 a1=some r) :
  Calls Try.prog 22 #[.slice A0 l0.length c0,.int .i64 a1] w fun e w'=>∃ v0_:Value,e=.returned (v0_)∧Kd.R (Kd.int .i64) 3 w' w.heap.size (fun _=>True) v0_ r∧Below w.heap.size w w':=by
 have HR0:=aM hr0;have HC0:=aM hc0;clear hr0 hc0;have HB:=aM (Below.refl w.heap.size w);have H:(Bzq.l0 k l0 a1 ([]:List Int) 0)=some r:=h;clear h;have H':=aM H;clear H;go_enter Try.func22,Try.ntmps22
 go_wp2
 go_loopg [5,6] k (fun kq v5 v6 w'=>∃ (x5_1:List Int) (x6_1:Int),v6=.int .i64 x6_1∧Aside0 (Bzq.l0 kq l0 a1 x5_1 x6_1=some r)∧Aside0 (kq≤k)∧Aside0 (Kd.R (Kd.int .i64) 3 w' w.heap.size (fun _=>True) v5 x5_1)∧Aside0 (Below w.heap.size w w'))
 case atStart=>exact⟨(([]:List Int)),(0),sD,H',⟨Nat.le_refl _⟩,⟨by first|exact Kd.R_nil _ _ _ _ _|exact Kd.N_nil _ _ _ _ _|exact Kd.V_nil _ _ _ _ _|exact Kd.Q_nil _ _ _ _ _|exact Kd.S_nil _ _ _ _ _⟩,⟨pB⟩⟩
 case round =>
  clear H';try clear c2
  try clear p2
  obtain⟨x5_1,x6_1,rfl,HA,HK1,HO_5,HB⟩:=hrel;cases gk with
  | zero=>exact absurd HA.out (by simp [Bzq.l0])
  | succ k1 =>
   have H:=HA.out;clear HA;simp only[Bzq.l0] at H;by_cases c3:x6_1 < (l0.length:Int)
   ·rw[if_pos c3] at H;have c3b0:decide (x6_1 < (l0.length:Int))=true:=dE c3;clear c3;by_cases c4:a1=0
    ·rw[if_pos c4] at H;have c4b0:(a1 == 0)=true:=beq_iff_eq.mpr c4;have c4b1:(a1 != 0)=false:=bne_eq_false_iff_eq.mpr c4;clear c4;by_cases c5:0≤x6_1
     ·rw[if_pos c5] at H;have c5b0:decide (0≤x6_1)=true:=dE c5;clear c5;by_cases c6:x5_1.length < 17592186044416
      ·rw[if_pos c6] at H;have LMc6:=aM c6;clear c6;obtain⟨y888,hy888⟩:∃ y_:List Int,y_=(x5_1 ++ [wrap64 (-(rd l0 x6_1))]):=⟨_,rfl⟩;replace H:(Bzq.l0 k1 l0 a1 y888 (wrap64 (x6_1+1)))=some r:=by first|(rw[hy888];with_reducible exact H)|(have H2_:=(Option.bind_some _ _).symm.trans H;rw[hy888];with_reducible exact H2_)|(have H2_:=(Option.bind_some _ _).symm.trans H;with_reducible exact H2_)|with_reducible exact H|(rw[hy888];exact H)|exact H
       have Ny888:=aM hy888;clear hy888;have H':=aM H;clear H;have p887:0≤(x6_1:Int):=oE aS
       have q887:x6_1 < (l0.length:Int):=oE aS
       obtain⟨ad887,e887,hx887_0⟩:=Kd.at_int HR0.out x6_1 p887 q887;cases e887
       replace hx887_0:=(HB.out.cell (World.block_lt_of_cell? w _ hx887_0)).trans hx887_0;replace p887:=eq_true p887;replace q887:=eq_true q887;go_wp2_with (first|((with_reducible refine gate_builtin (b:=.append) (xs:=#[.tmp 15,.tmp 21]) rfl ?_);at_builtin;refine Kd.R_append (Kd.int .i64) (w0:=w) w.heap.size rfl (.tmp 15) (.tmp 21) 22 3 (.int .i64 0) 8 rfl Try.underlying22 info3 rfl (by decide) (by omega) u5 x5_1 (wrap64 (-(rd l0 x6_1))) [.int .i64 (wrap64 (-(rd l0 x6_1)))] (fun _=>True) (fun _=>False) rfl rfl ?aP (fun _ hk=>hk.elim) ?aF ?aO ?aB ?aS ?aL ?_;(case aP=>exact rfl);(case aB=>exact pB);(case aF=>exact(fun _ _=>trivial));(case aO=>exact(rX HO_5.out));(case aS=>exact(below_size pB));(case aL=>have:=LMc6.out;omega);intro v889 w7 ho hb hg hat;rw[← Ny888.out] at ho;have HO890:=aM (ho);replace HB:=aM (hb);clear HO_5;clear ho hb hg hat))
       go_roundg k1
       case measure=>have:=HK1.out;omega
       case rel=>exact⟨(y888),(wrap64 (x6_1+1)),sD,H',⟨by have:=HK1.out;omega⟩,⟨rX HO890.out⟩,⟨pB⟩⟩
      ·rw[if_neg c6] at H;exact absurd H (by simp)
     ·rw[if_neg c5] at H;exact absurd H (by simp)
    ·rw[if_neg c4] at H;have c4b0:(a1 == 0)=false:=beq_eq_false_iff_ne.mpr c4;have c4b1:(a1 != 0)=true:=bne_iff_ne.mpr c4;by_cases c8:0≤x6_1
     ·rw[if_pos c8] at H;have c8b0:decide (0≤x6_1)=true:=dE c8;clear c8;by_cases c9:x5_1.length < 17592186044416
      ·rw[if_pos c9] at H;have LMc9:=aM c9;clear c9;obtain⟨y892,hy892⟩:∃ y_:List Int,y_=(x5_1 ++ [wrap64 ((rd l0 x6_1)+a1)]):=⟨_,rfl⟩;replace H:(Bzq.l0 k1 l0 a1 y892 (wrap64 (x6_1+1)))=some r:=by first|(rw[hy892];with_reducible exact H)|(have H2_:=(Option.bind_some _ _).symm.trans H;rw[hy892];with_reducible exact H2_)|(have H2_:=(Option.bind_some _ _).symm.trans H;with_reducible exact H2_)|with_reducible exact H|(rw[hy892];exact H)|exact H
       have Ny892:=aM hy892;clear hy892;have H':=aM H;clear H;have p891:0≤(x6_1:Int):=oE aS
       have q891:x6_1 < (l0.length:Int):=oE aS
       obtain⟨ad891,e891,hx891_0⟩:=Kd.at_int HR0.out x6_1 p891 q891;cases e891
       replace hx891_0:=(HB.out.cell (World.block_lt_of_cell? w _ hx891_0)).trans hx891_0;replace p891:=eq_true p891;replace q891:=eq_true q891;go_wp2_with (first|((with_reducible refine gate_builtin (b:=.append) (xs:=#[.tmp 23,.tmp 30]) rfl ?_);at_builtin;refine Kd.R_append (Kd.int .i64) (w0:=w) w.heap.size rfl (.tmp 23) (.tmp 30) 22 3 (.int .i64 0) 8 rfl Try.underlying22 info3 rfl (by decide) (by omega) u5 x5_1 (wrap64 ((rd l0 x6_1)+a1)) [.int .i64 (wrap64 ((rd l0 x6_1)+a1))] (fun _=>True) (fun _=>False) rfl rfl ?aP (fun _ hk=>hk.elim) ?aF ?aO ?aB ?aS ?aL ?_;(case aP=>exact rfl);(case aB=>exact pB);(case aF=>exact(fun _ _=>trivial));(case aO=>exact(rX HO_5.out));(case aS=>exact(below_size pB));(case aL=>have:=LMc9.out;omega);intro v893 w10 ho hb hg hat;rw[← Ny892.out] at ho;have HO894:=aM (ho);replace HB:=aM (hb);clear HO_5;clear ho hb hg hat))
       go_roundg k1
       case measure=>have:=HK1.out;omega
       case rel=>exact⟨(y892),(wrap64 (x6_1+1)),sD,H',⟨by have:=HK1.out;omega⟩,⟨rX HO894.out⟩,⟨pB⟩⟩
      ·rw[if_neg c9] at H;exact absurd H (by simp)
     ·rw[if_neg c8] at H;exact absurd H (by simp)
   ·rw[if_neg c3] at H;have c3b0:decide (x6_1 < (l0.length:Int))=false:=decide_eq_false c3;clear c3;obtain rfl:=Option.some.inj H;go_wp2
    go_ret
    exact⟨_,eW,rX HO_5.out,pB⟩

end Go.Proofs.Ytokkiljkgejnhaa.Print
