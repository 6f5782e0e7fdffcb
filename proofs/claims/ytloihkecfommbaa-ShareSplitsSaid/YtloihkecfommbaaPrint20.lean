import Derived.Test.YtloihkecfommbaaPrint0
import Derived.Test.YtloihkecfommbaaPrint11
import Derived.Test.YtloihkecfommbaaPrint12
import Derived.Test.YtloihkecfommbaaPrint15
import Derived.Test.YtloihkecfommbaaPrint16
import Derived.Test.YtloihkecfommbaaPrint17
import Derived.Test.YtloihkecfommbaaPrint19
namespace Go.Proofs.Ytloihkecfommbaa.Print
open Go.RowKit Go.Proofs.YtloihkecfommbaaW.PrintWords Go.Proofs.YtloihkecfommbaaW.PrintLast Go.Proofs.YtloihkecfommbaaW.PrintMore
attribute [local go_sem] max2_int min2_int max_two min_two max_three min_three max_four min_four
set_option linter.unusedVariables false
set_option maxRecDepth 100000
set_option maxHeartbeats 8000000
set_option linter.unusedSimpArgs false

def Bzk.l0:Nat→Int→List Int→Int→List Int→Int→Int→Option (List Int × Int)
 | 0,_,_,_,_,_,_=>none
 | k+1,x0,x1,x6,x8,x9,x10=>if x10 < (x1.length:Int) then(if x6 > 0 then(if 0≤x10 then((Azb.f k (wrap64 (x9+(rd x1 x10))) x0 x6).bind fun bt346=>(if x10 < (x8.length:Int) then(Bzk.l0 k x0 x1 x6 (x8.set (x10:Int).toNat bt346.1) (wrap64 (x9+(rd x1 x10))) (wrap64 (x10+1))) else(none))) else(none)) else(some (x8,0))) else(some (x8,0))
def Bzk.f (k:Nat) (a0:Int) (l1:List Int):Option (List Int × Int):=(Azx.f k a0 l1).bind fun bt340=>(if bt340.2=0 then(if 0≤(l1.length:Int) then(if((l1.length:Int):Int).toNat≤35184372088832 then(Bzk.l0 k a0 l1 bt340.1 (List.replicate ((l1.length:Int):Int).toNat 0) 0 0) else(none)) else(none)) else(some (([]:List Int),bt340.2)))
theorem Bzk.mono_l:∀ k,(∀ y0 y1 y2 y3 y4 y5,LeO (Bzk.l0 k y0 y1 y2 y3 y4 y5) (Bzk.l0 (k+1) y0 y1 y2 y3 y4 y5))
 | 0=>fun _ _ _ _ _ _ r h=>by simp [Bzk.l0] at h
 | k+1=>by
  have ih0:=Bzk.mono_l k
  ·intro y0 y1 y2 y3 y4 y5;unfold Bzk.l0;with_reducible repeat' first|exact ih0 _ _ _ _ _ _|exact Azb.mono _ _ _ _|exact Azx.mono _ _ _|exact LeO.refl _|exact LeO.none _|refine LeO.ite ?_ ?_|refine LeO.bind ?_ (fun _=>?_)
theorem Bzk.mono:∀ a0 a1 k,LeO (Bzk.f k a0 a1) (Bzk.f (k+1) a0 a1):=by
 intro a0 a1 k;have ih0:=Bzk.mono_l k;unfold Bzk.f;with_reducible repeat' first|exact ih0 _ _ _ _ _ _|exact Azb.mono _ _ _ _|exact Azx.mono _ _ _|exact LeO.refl _|exact LeO.none _|refine LeO.ite ?_ ?_|refine LeO.bind ?_ (fun _=>?_)
theorem Bzk.calls (k:Nat) (a0:Int) (A1:Option Addr) (c1:Nat) (l1:List Int) (r1:List Int) (r2:Int) (w:World) (hr1:Kd.C (Kd.int .i64) w A1 l1.length l1) (hc1:l1.length≤c1) (h:Bzk.f k a0 l1=some (r1,r2)) :
  Calls Try.prog 14 #[.int .i64 a0,.slice A1 l1.length c1] w fun e w'=>∃ v0_:Value,e=.returned (.tuple #[v0_,.int .i64 r2])∧Kd.R (Kd.int .i64) 3 w' w.heap.size (fun _=>True) v0_ r1∧Below w.heap.size w w':=by
 have HR1:=aM hr1;have HC1:=aM hc1;clear hr1 hc1;have HB:=aM (Below.refl w.heap.size w);have H:((Azx.f k a0 l1).bind fun bt340=>(if bt340.2=0 then(if 0≤(l1.length:Int) then(if((l1.length:Int):Int).toNat≤35184372088832 then(Bzk.l0 k a0 l1 bt340.1 (List.replicate ((l1.length:Int):Int).toNat 0) 0 0) else(none)) else(none)) else(some (([]:List Int),bt340.2))))=some (r1,r2):=h
 clear h;replace H:=bS H;obtain⟨⟨t340,t341⟩,A30,H⟩:=H;(try dsimp only at H);have A3:=aM A30;clear A30;by_cases c4:t341=0
 ·rw[if_pos c4] at H;have c4b0:(t341 == 0)=true:=beq_iff_eq.mpr c4;have c4b1:(t341 != 0)=false:=bne_eq_false_iff_eq.mpr c4;clear c4;by_cases c5:0≤(l1.length:Int)
  ·rw[if_pos c5] at H;have c5b0:=eq_true c5;have c5b1:decide (0≤(l1.length:Int))=true:=dE c5;clear c5;by_cases c6:((l1.length:Int):Int).toNat≤35184372088832
   ·rw[if_pos c6] at H;have c6b0:=eq_true c6;have c6b1:decide (((l1.length:Int):Int).toNat≤35184372088832)=true:=dE c6;clear c6;obtain⟨y342,hy342⟩:∃ y_:List Int,y_=(List.replicate ((l1.length:Int):Int).toNat 0):=⟨_,rfl⟩;replace H:(Bzk.l0 k a0 l1 t340 y342 0 0)=some (r1,r2):=by first|(rw[hy342];with_reducible exact H)|(have H2_:=(Option.bind_some _ _).symm.trans H;rw[hy342];with_reducible exact H2_)|(have H2_:=(Option.bind_some _ _).symm.trans H;with_reducible exact H2_)|with_reducible exact H|(rw[hy342];exact H)|exact H
    have Ny342:=aM hy342;clear hy342;have H':=aM H;clear H;go_enter Try.func14,Try.ntmps14
    go_wp2_with (first|((with_reducible refine gate_callee (f:=27) rfl ?_);refine goesL_ (some 14) rfl rfl Try.func27 (by kernel_rfl) rfl #[.int .i64 a0,.slice A1 l1.length c1] rfl mA ?_;(with_reducible refine(Azx.calls k a0 _ _ l1 t340 t341 _ ?side1 ?side2 A3.out).mono ?_);(case side1=>exact cX HR1.out);(case side2=>exact HC1.out);rintro e w' ⟨rfl,⟨nd,rfl⟩⟩;refine⟨_,rfl,?_⟩)|((with_reducible refine gate_dst (N:=22) rfl ?_);refine Kd.R_make (Kd.int .i64) _ 3 rfl (N:=22) rfl 22 _ _ rfl (l1.length:Int) rfl rfl Try.underlying22 (.int .i64 0) 8 info3 rfl (by decide) (by omega) 0 (ok:=fun _=>True) (okp:=fun _=>True) rfl (fun _ hk=>hk) trivial (oE aS) (Nat.le_trans (Nat.mul_le_mul_right _ (oE aS:(l1.length:Int).toNat≤35184372088832)) (by omega)) (Below.refl _ _) (Nat.le_refl _) ?_;intro v343 w7 ho8 hb hg_ hnew_;clear hg_ hnew_;(first|rw[← Ny342.out] at ho8|(simp only[Int.reduceToNat] at ho8;rw[← Ny342.out] at ho8));have HO344:=aM (Kd.R_lower ho8 (below_size pB));replace HB:=aM (below_step pB hb);clear hb ho8))
    go_loopg [9,10] k (fun kq v9 v10 w'=>∃ (x8_1:List Int) (x9_1:Int) (x10_1:Int),v9=.int .i64 x9_1∧v10=.int .i64 x10_1∧Aside0 (Bzk.l0 kq a0 l1 t340 x8_1 x9_1 x10_1=some (r1,r2))∧Aside0 (kq≤k)∧Aside0 (Kd.R (Kd.int .i64) 3 w' w.heap.size (fun _=>True) v343 x8_1)∧Aside0 (Below w.heap.size w w'))
    case atStart=>exact⟨(y342),(0),(0),sD,sD,H',⟨Nat.le_refl _⟩,⟨rX HO344.out⟩,⟨pB⟩⟩
    case round =>
     clear H';try clear c1
     try clear c2
     try clear p2
     try clear c4
     try clear c4b0
     try clear c4b1
     try clear c5
     try clear c5b0
     try clear c5b1
     try clear c6
     try clear c6b0
     try clear c6b1
     obtain⟨x8_1,x9_1,x10_1,rfl,rfl,HA,HK1,HO_8,HB⟩:=hrel;cases gk with
     | zero=>exact absurd HA.out (by simp [Bzk.l0])
     | succ k1 =>
      have H:=HA.out;clear HA;simp only[Bzk.l0] at H;by_cases c9:x10_1 < (l1.length:Int)
      ·rw[if_pos c9] at H;have c9b0:decide (x10_1 < (l1.length:Int))=true:=dE c9;clear c9;by_cases c10:t340 > 0
       ·rw[if_pos c10] at H;have c10b0:decide (0 < t340)=true:=dE c10;clear c10;by_cases c11:0≤x10_1
        ·rw[if_pos c11] at H;have c11b0:decide (0≤x10_1)=true:=dE c11;clear c11;replace H:=bS H;obtain⟨⟨t346,t347⟩,A120,H⟩:=H;(try dsimp only at H);have A12:=aM A120;clear A120;by_cases c13:x10_1 < (x8_1.length:Int)
         ·rw[if_pos c13] at H;have c13b0:decide (x10_1 < (x8_1.length:Int))=true:=dE c13;clear c13;obtain⟨y348,hy348⟩:∃ y_:List Int,y_=(x8_1.set (x10_1:Int).toNat t346):=⟨_,rfl⟩;replace H:(Bzk.l0 k1 a0 l1 t340 y348 (wrap64 (x9_1+(rd l1 x10_1))) (wrap64 (x10_1+1)))=some (r1,r2):=by first|(rw[hy348];with_reducible exact H)|(have H2_:=(Option.bind_some _ _).symm.trans H;rw[hy348];with_reducible exact H2_)|(have H2_:=(Option.bind_some _ _).symm.trans H;with_reducible exact H2_)|with_reducible exact H|(rw[hy348];exact H)|exact H
          have Ny348:=aM hy348;clear hy348;have H':=aM H;clear H;have p345:0≤(x10_1:Int):=oE aS
          have q345:x10_1 < (l1.length:Int):=oE aS
          obtain⟨ad345,e345,hx345_0⟩:=Kd.at_int HR1.out x10_1 p345 q345;cases e345
          replace hx345_0:=(HB.out.cell (World.block_lt_of_cell? w _ hx345_0)).trans hx345_0;replace p345:=eq_true p345;replace q345:=eq_true q345;go_wp2_with (first|((with_reducible refine gate_callee (f:=28) rfl ?_);refine goesL_ (some 45) rfl rfl Try.func28 (by kernel_rfl) rfl #[.int .i64 (wrap64 (x9_1+(rd l1 x10_1))),.int .i64 a0,.int .i64 t340] rfl mA ?_;(with_reducible refine(Azb.calls k1 (wrap64 (x9_1+(rd l1 x10_1))) a0 t340 t346 t347 _ A12.out).mono ?_);rintro e w' ⟨rfl,⟨nd,rfl⟩⟩;refine⟨_,rfl,?_⟩;(try(rw[drewN_self wr];generalize hq_:World.drewN wr _=wr;have n0_:Aside0 (Kd.R (Kd.int .i64) 3 wr w.heap.size (fun _=>True) v343 x8_1):=⟨by rw[← hq_];exact(rX HO_8.out)⟩;have n1_:Aside0 (Below w.heap.size w wr):=⟨by rw[← hq_];exact pB⟩;clear HO_8 HB hq_;have HO_8:=n0_;have HB:=n1_;clear n0_ n1_));have p14:0≤(x10_1:Int):=oE aS;have q14:(x10_1:Int) < ((x8_1.length:Int):Int):=oE aS;obtain⟨go14,co14,eo14,gb14,gl14,cl14,HG14⟩:=Kd.R_form HO_8.out (by omega);(first|cases eo14|(injection eo14 with ea_ en_ ec_;(first|subst ea_|(injection ea_ with ea_;subst ea_));subst ec_;clear en_));have GB14:=aM gb14;have GG14:=aM HG14;clear gb14 gl14 HG14;obtain⟨hx14_0,hf14_0⟩:=Kd.R_celln 0 HO_8.out (x10_1:Int) p14 q14;replace p14:=eq_true p14;replace q14:=eq_true q14;obtain⟨hy15_,hz15_⟩:=Kd.R_celln 0 HO_8.out (x10_1:Int) (oE aS) (oE aS);have HP15:=Kd.R_putg HO_8.out (x10_1:Int) t346)|((with_reducible refine gate_store (t:=3) (p:=48) rfl ?_);refine store_event (t:=3) (p:=48) (v:=?vo_w16) (w1:=(wr.setCell ⟨go14,(x10_1:Int).toNat,none⟩ (.int .i64 t346))) ?hg ?ho ?hn ?hr ?_;(case ho=>rfl);(case hg=>rfl);(case hn=>rfl);(case hr=>first|(go_simp;done)|(go_simp;rfl));intro w16 hw;have hg:wr.grownBy w16 (some go14):=(by rw[hw];exact HP15.2);have hp_:Kd.R (Kd.int .i64) 3 w16 w.heap.size (fun _=>True) (.slice (some ⟨go14,0,none⟩) x8_1.length co14) y348:=(by rw[hw,Ny348.out];exact HP15.1);clear HP15;replace HO_8:=aM (hp_);replace HB:=aM ((by rw[hw];exact below_set (HB.out) GB14.out:Below w.heap.size w w16));clear hg hw hp_))
          go_roundg k1
          case measure=>have:=HK1.out;omega
          case rel=>exact⟨(y348),(wrap64 (x9_1+(rd l1 x10_1))),(wrap64 (x10_1+1)),sD,sD,H',⟨by have:=HK1.out;omega⟩,⟨rX HO_8.out⟩,⟨pB⟩⟩
         ·rw[if_neg c13] at H;exact absurd H (by simp)
        ·rw[if_neg c11] at H;exact absurd H (by simp)
       ·rw[if_neg c10] at H;have c10b0:decide (0 < t340)=false:=decide_eq_false c10;clear c10;simp only[Option.some.injEq,Prod.mk.injEq] at H;obtain⟨rfl,rfl⟩:=H;go_wp2
        go_ret2
        exact⟨_,eW,rX HO_8.out,pB⟩
      ·rw[if_neg c9] at H;have c9b0:decide (x10_1 < (l1.length:Int))=false:=decide_eq_false c9;clear c9;simp only[Option.some.injEq,Prod.mk.injEq] at H;obtain⟨rfl,rfl⟩:=H;go_wp2
       go_ret2
       exact⟨_,eW,rX HO_8.out,pB⟩
   ·rw[if_neg c6] at H;exact absurd H (by simp)
  ·rw[if_neg c5] at H;exact absurd H (by simp)
 ·rw[if_neg c4] at H;have c4b0:(t341 == 0)=false:=beq_eq_false_iff_ne.mpr c4;have c4b1:(t341 != 0)=true:=bne_iff_ne.mpr c4;simp only[Option.some.injEq,Prod.mk.injEq] at H;obtain⟨rfl,rfl⟩:=H;go_enter Try.func14,Try.ntmps14
  go_wp2_with (first|((with_reducible refine gate_callee (f:=27) rfl ?_);refine goesL_ (some 14) rfl rfl Try.func27 (by kernel_rfl) rfl #[.int .i64 a0,.slice A1 l1.length c1] rfl mA ?_;(with_reducible refine(Azx.calls k a0 _ _ l1 t340 t341 _ ?side1 ?side2 A3.out).mono ?_);(case side1=>exact cX HR1.out);(case side2=>exact HC1.out);rintro e w' ⟨rfl,⟨nd,rfl⟩⟩;refine⟨_,rfl,?_⟩))
  go_ret2
  exact⟨_,eW,by first|exact Kd.R_nil _ _ _ _ _|exact Kd.N_nil _ _ _ _ _|exact Kd.V_nil _ _ _ _ _|exact Kd.Q_nil _ _ _ _ _|exact Kd.S_nil _ _ _ _ _,pB⟩

def papermilllaw12_ShareSplits.f (k:Nat) (a0:Int) (l1:List Int) (a2:Int):Option (Bool):=if(l1.length:Int) > 60 then((Azp.f k).bind fun t349=>(some t349)) else((Bzw.f k l1 a2).bind fun t350=>((Azf.f k a0 t350).bind fun bt353=>((Azm.f k a0 t350).bind fun bt357=>((Czz.f k a0 t350).bind fun bt361=>((Bzk.f k a0 t350).bind fun bt365=>((Bzj.f k bt353.1 bt357.1).bind fun t369=>(if t369=true then(if bt353.2=bt357.2 then((Bzj.f k bt361.1 bt365.1).bind fun t370=>(if t370=true then(if bt361.2=bt365.2 then((Azp.f k).bind fun t371=>(some t371)) else(none)) else(none))) else(none)) else(none))))))))
theorem papermilllaw12_ShareSplits.mono:∀ a0 a1 a2 k,LeO (papermilllaw12_ShareSplits.f k a0 a1 a2) (papermilllaw12_ShareSplits.f (k+1) a0 a1 a2):=by
 intro a0 a1 a2 k;unfold papermilllaw12_ShareSplits.f;with_reducible repeat' first|exact Azp.mono _|exact Bzw.mono _ _ _|exact Bzk.mono _ _ _|exact Bzj.mono _ _ _|exact Azm.mono _ _ _|exact Czz.mono _ _ _|exact Azf.mono _ _ _|exact LeO.refl _|exact LeO.none _|refine LeO.ite ?_ ?_|refine LeO.bind ?_ (fun _=>?_)
theorem papermilllaw12_ShareSplits.calls (k:Nat) (a0:Int) (A1:Option Addr) (c1:Nat) (l1:List Int) (a2:Int) (r:Bool) (w:World) (hr1:Kd.C (Kd.int .i64) w A1 l1.length l1) (hc1:l1.length≤c1) (h:papermilllaw12_ShareSplits.f k a0 l1 a2=some r) :
  Calls Try.prog 3 #[.int .i64 a0,.slice A1 l1.length c1,.int .i64 a2] w fun e w'=>e=.returned (.bool r)∧Below w.heap.size w w':=by
 have HR1:=aM hr1;have HC1:=aM hc1;clear hr1 hc1;have HB:=aM (Below.refl w.heap.size w);have H:(if(l1.length:Int) > 60 then((Azp.f k).bind fun t349=>(some t349)) else((Bzw.f k l1 a2).bind fun t350=>((Azf.f k a0 t350).bind fun bt353=>((Azm.f k a0 t350).bind fun bt357=>((Czz.f k a0 t350).bind fun bt361=>((Bzk.f k a0 t350).bind fun bt365=>((Bzj.f k bt353.1 bt357.1).bind fun t369=>(if t369=true then(if bt353.2=bt357.2 then((Bzj.f k bt361.1 bt365.1).bind fun t370=>(if t370=true then(if bt361.2=bt365.2 then((Azp.f k).bind fun t371=>(some t371)) else(none)) else(none))) else(none)) else(none)))))))))=some r:=h
 clear h;by_cases c4:(l1.length:Int) > 60
 ·rw[if_pos c4] at H;have c4b0:decide (60 < (l1.length:Int))=true:=dE c4;have c4b1:decide (60 < l1.length)=true:=dE (by omega)
  clear c4;replace H:=bS H;obtain⟨t349,A50,H⟩:=H;replace H:(some t349)=some r:=H;have A5:=aM A50;clear A50;obtain rfl:=Option.some.inj H;go_enter Try.func3,Try.ntmps3
  go_wp2_with (first|((with_reducible refine gate_callee (f:=9) rfl ?_);refine goesL_ (some 19) rfl rfl Try.func9 (by kernel_rfl) rfl #[] rfl mA ?_;(with_reducible refine(Azp.calls k  t349 _ A5.out).mono ?_);rintro e w6 ⟨rfl,hb⟩;refine⟨_,rfl,?_⟩;replace HB:=aM (below_step pB hb);(try clear hb);(try clear hb2);(try clear hk);(try clear hi)))
  go_ret
  exact⟨eW,pB⟩
 ·rw[if_neg c4] at H;have c4b0:decide (60 < (l1.length:Int))=false:=decide_eq_false c4;have c4b1:decide (60 < l1.length)=false:=decide_eq_false (by omega)
  clear c4;replace H:=bS H;obtain⟨t350,A70,H⟩:=H;(try dsimp only at H);have A7:=aM A70;clear A70;replace H:=bS H;obtain⟨⟨t353,t354⟩,A80,H⟩:=H;(try dsimp only at H);have A8:=aM A80;clear A80;replace H:=bS H;obtain⟨⟨t357,t358⟩,A90,H⟩:=H;(try dsimp only at H);have A9:=aM A90;clear A90;replace H:=bS H;obtain⟨⟨t361,t362⟩,A100,H⟩:=H;(try dsimp only at H);have A10:=aM A100;clear A100;replace H:=bS H;obtain⟨⟨t365,t366⟩,A110,H⟩:=H;(try dsimp only at H);have A11:=aM A110;clear A110;replace H:=bS H;obtain⟨t369,A120,H⟩:=H;(try dsimp only at H);have A12:=aM A120;clear A120;by_cases c13:t369=true
  ·subst c13;rw[if_pos rfl] at H;by_cases c14:t354=t358
   ·rw[if_pos c14] at H;have c14b0:(t354 == t358)=true:=beq_iff_eq.mpr c14;have c14b1:(t354 != t358)=false:=bne_eq_false_iff_eq.mpr c14;clear c14;replace H:=bS H;obtain⟨t370,A150,H⟩:=H;(try dsimp only at H);have A15:=aM A150;clear A150;by_cases c16:t370=true
    ·subst c16;rw[if_pos rfl] at H;by_cases c17:t362=t366
     ·rw[if_pos c17] at H;have c17b0:(t362 == t366)=true:=beq_iff_eq.mpr c17;have c17b1:(t362 != t366)=false:=bne_eq_false_iff_eq.mpr c17;clear c17;replace H:=bS H;obtain⟨t371,A180,H⟩:=H;replace H:(some t371)=some r:=H;have A18:=aM A180;clear A180;obtain rfl:=Option.some.inj H;go_enter Try.func3,Try.ntmps3
      go_wp2_with (first|((with_reducible refine gate_callee (f:=10) rfl ?_);refine goesL_ (some 22) rfl rfl Try.func10 (by kernel_rfl) rfl #[.slice A1 l1.length c1,.int .i64 a2] rfl mA ?_;(with_reducible refine(Bzw.calls k (fun k_=>k_ < w.heap.size) _ _ l1 a2 t350 _ ?side1 A7.out).mono ?_);(case side1=>exact Kd.V_mk HC1.out (Kd.F_below (Kd.C_F (Kd.heap_int .i64) HR1.out) pB));rintro e w19 ⟨v351,rfl,ho0,hb⟩;refine⟨_,rfl,?_⟩;have HO352:=aM (Kd.V_lower (Kd.V_mono (ok':=fun k_=>True) ho0 (fun k_ hk_=>trivial)) (below_size pB));replace HB:=aM (below_step pB hb);(try clear hb);(try clear hb2);(try clear hk);(try clear hi);(try clear ho0);obtain⟨Ao20,co20,eo20⟩:=Kd.V_slice HO352.out;subst eo20)|((with_reducible refine gate_callee (f:=11) rfl ?_);refine goesL_ (some 26) rfl rfl Try.func11 (by kernel_rfl) rfl #[.int .i64 a0,.slice Ao20 t350.length co20] rfl mA ?_;(with_reducible refine(Azf.calls k a0 _ _ t350 t353 t354 _ ?side1 ?side2 A8.out).mono ?_);(case side1=>repeat(first|exact(Kd.V_reads' HO352.out).2.2|(with_reducible refine Kd.C_alloc ?_ _)|(with_reducible refine Kd.C_drewN ?_ _)|(with_reducible refine Kd.C_drew ?_)));(case side2=>exact(Kd.V_reads' HO352.out).2.1);rintro e w21 ⟨v355,rfl,ho0,hb⟩;refine⟨_,rfl,?_⟩;have HO356:=aM (Kd.R_lower ho0 (below_size pB));replace HO352:=aM (Kd.V_elder' (vX HO352.out) (Kd.R_base ho0) hb);replace HB:=aM (below_step pB hb);(try clear hb);(try clear hb2);(try clear hk);(try clear hi);(try clear ho0))|((with_reducible refine gate_callee (f:=12) rfl ?_);refine goesL_ (some 32) rfl rfl Try.func12 (by kernel_rfl) rfl #[.int .i64 a0,.slice Ao20 t350.length co20] rfl mA ?_;(with_reducible refine(Azm.calls k a0 _ _ t350 t357 t358 _ ?side1 ?side2 A9.out).mono ?_);(case side1=>repeat(first|exact(Kd.V_reads' HO352.out).2.2|(with_reducible refine Kd.C_alloc ?_ _)|(with_reducible refine Kd.C_drewN ?_ _)|(with_reducible refine Kd.C_drew ?_)));(case side2=>exact(Kd.V_reads' HO352.out).2.1);rintro e w22 ⟨v359,rfl,ho0,hb⟩;refine⟨_,rfl,?_⟩;have HO360:=aM (Kd.R_lower (Kd.R_new' ho0 (Kd.R_lt (rX HO356.out))) (below_size pB));replace HO352:=aM (Kd.V_elder' (vX HO352.out) (Kd.R_base ho0) hb);replace HO356:=aM (Kd.R_elder' (rX HO356.out) (Kd.R_base ho0) hb);replace HB:=aM (below_step pB hb);(try clear hb);(try clear hb2);(try clear hk);(try clear hi);(try clear ho0))|((with_reducible refine gate_callee (f:=13) rfl ?_);refine goesL_ (some 38) rfl rfl Try.func13 (by kernel_rfl) rfl #[.int .i64 a0,.slice Ao20 t350.length co20] rfl mA ?_;(with_reducible refine(Czz.calls k a0 _ _ t350 t361 t362 _ ?side1 ?side2 A10.out).mono ?_);(case side1=>repeat(first|exact(Kd.V_reads' HO352.out).2.2|(with_reducible refine Kd.C_alloc ?_ _)|(with_reducible refine Kd.C_drewN ?_ _)|(with_reducible refine Kd.C_drew ?_)));(case side2=>exact(Kd.V_reads' HO352.out).2.1);rintro e w23 ⟨v363,rfl,ho0,hb⟩;refine⟨_,rfl,?_⟩;have HO364:=aM (Kd.R_lower (Kd.R_new' (Kd.R_new' ho0 (Kd.R_lt (rX HO356.out))) (Kd.R_lt (rX HO360.out))) (below_size pB));replace HO352:=aM (Kd.V_elder' (vX HO352.out) (Kd.R_base ho0) hb);replace HO356:=aM (Kd.R_elder' (rX HO356.out) (Kd.R_base ho0) hb);replace HO360:=aM (Kd.R_elder' (rX HO360.out) (Kd.R_base ho0) hb);replace HB:=aM (below_step pB hb);(try clear hb);(try clear hb2);(try clear hk);(try clear hi);(try clear ho0))|((with_reducible refine gate_callee (f:=14) rfl ?_);refine goesL_ (some 44) rfl rfl Try.func14 (by kernel_rfl) rfl #[.int .i64 a0,.slice Ao20 t350.length co20] rfl mA ?_;(with_reducible refine(Bzk.calls k a0 _ _ t350 t365 t366 _ ?side1 ?side2 A11.out).mono ?_);(case side1=>repeat(first|exact(Kd.V_reads' HO352.out).2.2|(with_reducible refine Kd.C_alloc ?_ _)|(with_reducible refine Kd.C_drewN ?_ _)|(with_reducible refine Kd.C_drew ?_)));(case side2=>exact(Kd.V_reads' HO352.out).2.1);rintro e w24 ⟨v367,rfl,ho0,hb⟩;refine⟨_,rfl,?_⟩;have HO368:=aM (Kd.R_lower (Kd.R_new' (Kd.R_new' (Kd.R_new' ho0 (Kd.R_lt (rX HO356.out))) (Kd.R_lt (rX HO360.out))) (Kd.R_lt (rX HO364.out))) (below_size pB));replace HO352:=aM (Kd.V_elder' (vX HO352.out) (Kd.R_base ho0) hb);replace HO356:=aM (Kd.R_elder' (rX HO356.out) (Kd.R_base ho0) hb);replace HO360:=aM (Kd.R_elder' (rX HO360.out) (Kd.R_base ho0) hb);replace HO364:=aM (Kd.R_elder' (rX HO364.out) (Kd.R_base ho0) hb);replace HB:=aM (below_step pB hb);(try clear hb);(try clear hb2);(try clear hk);(try clear hi);(try clear ho0);obtain⟨Ao25,co25,eo25⟩:=Kd.R_slice HO356.out;subst eo25;obtain⟨Ao26,co26,eo26⟩:=Kd.R_slice HO360.out;subst eo26)|((with_reducible refine gate_callee (f:=15) rfl ?_);refine goesL_ (some 49) rfl rfl Try.func15 (by kernel_rfl) rfl #[.slice Ao25 t353.length co25,.slice Ao26 t357.length co26] rfl mA ?_;(with_reducible refine(Bzj.calls k _ _ t353 _ _ t357 true _ ?side1 ?side2 ?side3 ?side4 A12.out).mono ?_);(case side1=>repeat(first|exact(Kd.R_reads' HO356.out).2.2|(with_reducible refine Kd.C_alloc ?_ _)|(with_reducible refine Kd.C_drewN ?_ _)|(with_reducible refine Kd.C_drew ?_)));(case side2=>exact(Kd.R_reads' HO356.out).2.1);(case side3=>repeat(first|exact(Kd.R_reads' HO360.out).2.2|(with_reducible refine Kd.C_alloc ?_ _)|(with_reducible refine Kd.C_drewN ?_ _)|(with_reducible refine Kd.C_drew ?_)));(case side4=>exact(Kd.R_reads' HO360.out).2.1);rintro e w' ⟨rfl,⟨nd,rfl⟩⟩;refine⟨_,rfl,?_⟩;obtain⟨Ao27,co27,eo27⟩:=Kd.R_slice HO364.out;subst eo27;obtain⟨Ao28,co28,eo28⟩:=Kd.R_slice HO368.out;subst eo28)|(go_at_call 15;(with_reducible refine(Bzj.calls k _ _ t361 _ _ t365 true _ ?side1 ?side2 ?side3 ?side4 A15.out).mono ?_);(case side1=>repeat(first|exact(Kd.R_reads' HO364.out).2.2|(with_reducible refine Kd.C_alloc ?_ _)|(with_reducible refine Kd.C_drewN ?_ _)|(with_reducible refine Kd.C_drew ?_)));(case side2=>exact(Kd.R_reads' HO364.out).2.1);(case side3=>repeat(first|exact(Kd.R_reads' HO368.out).2.2|(with_reducible refine Kd.C_alloc ?_ _)|(with_reducible refine Kd.C_drewN ?_ _)|(with_reducible refine Kd.C_drew ?_)));(case side4=>exact(Kd.R_reads' HO368.out).2.1);rintro e w' ⟨rfl,⟨nd,rfl⟩⟩)|(go_at_call 9;(with_reducible refine(Azp.calls k  t371 _ A18.out).mono ?_);rintro e w29 ⟨rfl,hb⟩;replace HO352:=aM (Kd.V_below (vX HO352.out) hb);replace HO356:=aM (Kd.R_below (rX HO356.out) hb);replace HO360:=aM (Kd.R_below (rX HO360.out) hb);replace HO364:=aM (Kd.R_below (rX HO364.out) hb);replace HO368:=aM (Kd.R_below (rX HO368.out) hb);replace HB:=aM (below_step pB hb);(try clear hb);(try clear hb2);(try clear hk);(try clear hi)))
      go_ret
      exact⟨eW,pB⟩
     ·rw[if_neg c17] at H;exact absurd H (by simp)
    ·replace c16:=Bool.eq_false_iff.mpr c16;subst c16;rw[if_neg (show ¬ (false=true) by decide)] at H
     exact absurd H (by simp)
   ·rw[if_neg c14] at H;exact absurd H (by simp)
  ·replace c13:=Bool.eq_false_iff.mpr c13;subst c13;rw[if_neg (show ¬ (false=true) by decide)] at H
   exact absurd H (by simp)

/-- THE ONE PURE STATEMENT of papermilllaw12_ShareSplits: yours. -/
def papermilllaw12_ShareSplits.Pure:Prop:=∀ (a0:Int) (l1:List Int) (a2:Int),(Lit.int .i64 a0).wf=true→l1.length≤maxLen→l1.length * 8≤140737488351232→(∀ x ∈ l1,(Lit.int .i64 x).wf=true)→(Lit.int .i64 a2).wf=true→∃ k,papermilllaw12_ShareSplits.f k a0 l1 a2=some true
theorem papermilllaw12_ShareSplits.walk (P:papermilllaw12_ShareSplits.Pure) (a0:Int) (a1:Option Addr) (len1 cap1:Nat) (z1:List Int) (a2:Int) (w:World) (w0:(Lit.int .i64 a0).wf=true) (w1:(a1=none∧len1=0∧cap1=0∧z1=[])∨∃ x,a1=some x∧len1≤cap1∧cap1≤maxLen∧z1.length=cap1∧(∀ i,i < z1.length→w.cell? (x.add i)=some (.int .i64 (z1.getD i 0)))∧∀ n ∈ z1,(Lit.int .i64 n).wf=true) (y1:len1 * 8≤140737488351232) (w2:(Lit.int .i64 a2).wf=true) :
  Calls Try.prog 3 #[.int .i64 a0,.slice a1 len1 cap1,.int .i64 a2] w fun e w'=>e=.returned (.bool true)∧Below w.heap.size w w':=by
 obtain⟨l1,rfl,hr1,hm1,hw1,hc1⟩:=ReadsInt.ofRowC w1;obtain⟨k,h⟩:=P a0 l1 a2 w0 hm1 y1 hw1 w2;refine(papermilllaw12_ShareSplits.calls k a0 _ _ l1 a2 true w (Kd.C_of_reads (d:=(0:Int)) (h1:=fun _=>rfl) hr1) hc1 h).mono ?_
 rintro e w' ⟨rfl,hd⟩;exact⟨rfl,hd⟩

end Go.Proofs.Ytloihkecfommbaa.Print
