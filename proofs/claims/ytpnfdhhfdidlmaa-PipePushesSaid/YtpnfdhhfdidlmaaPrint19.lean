import Derived.Test.YtpnfdhhfdidlmaaPrint0
import Derived.Test.YtpnfdhhfdidlmaaPrint17
import Derived.Test.YtpnfdhhfdidlmaaPrint18
namespace Go.Proofs.Ytpnfdhhfdidlmaa.Print
open Go.RowKit Go.Proofs.YtpnfdhhfdidlmaaW.PrintWords Go.Proofs.YtpnfdhhfdidlmaaW.PrintLast Go.Proofs.YtpnfdhhfdidlmaaW.PrintMore
attribute [local go_sem] max2_int min2_int max_two min_two max_three min_three max_four min_four
set_option linter.unusedVariables false
set_option maxRecDepth 100000
set_option maxHeartbeats 8000000
set_option linter.unusedSimpArgs false

mutual
def Azf.j0:Nat→Bool→Int→List (List Int)→Option (Int)
 | 0,_,_,_=>none
 | k+1,x12,x388000,x388001=>if x12=true then(some 1) else(if(x388001.length:Int)=0 then(some 10) else(if(x388001.length:Int) > 256 then(some 8) else(Azf.l0 k 0 x388000 x388001)))
def Azf.l0:Nat→Int→Int→List (List Int)→Option (Int)
 | 0,_,_,_=>none
 | k+1,x3,x388000,x388001=>if x3 < (x388001.length:Int) then(if 0≤x3 then(if 0 < (x388001.length:Int) then((Czv.f k (rd_L1 x388001 x3) ((rd_L1 x388001 0).length:Int)).bind fun t391=>(if t391=0 then((Azp.f k (rd_L1 x388001 x3)).bind fun t393=>(if t393=0 then(some 10) else(Azf.l0 k (wrap64 (x3+1)) x388000 x388001))) else(some t391))) else(none)) else(none)) else((Czw.f k x388000 x388001).bind fun t388=>(if t388=x388000 then(some 0) else(some 39)))
end
def Azf.f (k:Nat) (a0_0:Int) (l0_1:List (List Int)):Option (Int):=if a0_0 < 1 then(Azf.j0 k true a0_0 l0_1) else(Azf.j0 k (decide (a0_0 > 1099511627776)) a0_0 l0_1)
theorem Azf.mono_l:∀ k,(∀ y0 y1 y2,LeO (Azf.j0 k y0 y1 y2) (Azf.j0 (k+1) y0 y1 y2))∧(∀ y0 y1 y2,LeO (Azf.l0 k y0 y1 y2) (Azf.l0 (k+1) y0 y1 y2))
 | 0=>⟨fun _ _ _ r h=>by simp [Azf.j0] at h,fun _ _ _ r h=>by simp [Azf.l0] at h⟩
 | k+1=>by
  obtain⟨ih0,ih1⟩:=Azf.mono_l k;refine⟨?_,?_⟩
  ·intro y0 y1 y2;unfold Azf.j0;with_reducible repeat' first|exact ih0 _ _ _|exact ih1 _ _ _|exact Czv.mono _ _ _|exact Azp.mono _ _|exact Czw.mono _ _ _|exact LeO.refl _|exact LeO.none _|refine LeO.ite ?_ ?_|refine LeO.bind ?_ (fun _=>?_)
  ·intro y0 y1 y2;unfold Azf.l0;with_reducible repeat' first|exact ih0 _ _ _|exact ih1 _ _ _|exact Czv.mono _ _ _|exact Azp.mono _ _|exact Czw.mono _ _ _|exact LeO.refl _|exact LeO.none _|refine LeO.ite ?_ ?_|refine LeO.bind ?_ (fun _=>?_)
theorem Azf.mono:∀ a0 a1 k,LeO (Azf.f k a0 a1) (Azf.f (k+1) a0 a1):=by
 intro a0 a1 k;obtain⟨ih0,ih1⟩:=Azf.mono_l k;unfold Azf.f;with_reducible repeat' first|exact ih0 _ _ _|exact ih1 _ _ _|exact Czv.mono _ _ _|exact Azp.mono _ _|exact Czw.mono _ _ _|exact LeO.refl _|exact LeO.none _|refine LeO.ite ?_ ?_|refine LeO.bind ?_ (fun _=>?_)
def Azf.T10:Bool × List (List Nat × List Nat):=(true,[([],[]),([0],[0]),([],[]),([1,2],[1,2]),([3],[3]),([],[]),([5],[5]),([6],[6]),([7],[7]),([8],[8]),([4,9],[4,9]),([10,10,0,1,2,3,4,5,6,7,8,9,10],[10])])
def Azf.B10:List Nat:=[0,1,0,7,15,0,32,96,224,480,1023,2047]
theorem Azf.tab10:rtab .any (opsOf Try.f14 10)=Azf.T10:=by kernel_rfl
theorem Azf.bits10:waitsOk Azf.T10.2 Azf.B10=true:=by kernel_rfl
theorem Azf.calls (k:Nat) (a0_0:Int) (A0_1:Option Addr) (c0_1:Nat) (l0_1:List (List Int)) (r:Int) (w:World) (hr0_1:Kd.C (Kd.slice 3 (Kd.int .i64)) w A0_1 l0_1.length l0_1) (hc0_1:l0_1.length≤c0_1) (h:Azf.f k a0_0 l0_1=some r) :
  Calls Try.prog 14 #[.agg #[.int .i64 a0_0,.slice A0_1 l0_1.length c0_1]] w fun e w'=>e=.returned (.int .i64 r)∧Below w.heap.size w w':=by
 have hu24:=Try.underlying24;have HR0_1:=aM hr0_1;have HC0_1:=aM hc0_1;clear hr0_1 hc0_1;have HB:=aM (Below.refl w.heap.size w);have H:(if a0_0 < 1 then(Azf.j0 k true a0_0 l0_1) else(Azf.j0 k (decide (a0_0 > 1099511627776)) a0_0 l0_1))=some r:=h
 clear h;have HC2:=aM H;clear H;go_enter Try.func14,Try.ntmps14
 go_upto_region 1 with (first|((with_reducible refine gate_dst (N:=1) rfl ?_);refine box_event ?hg (N:=1) ?hd (cs:=#[.int .i64 a0_0,.slice A0_1 l0_1.length c0_1]) (t:=24) ?hr ?_;(case hd=>rfl);(case hg=>rfl);(case hr=>first|(go_simp;done)|(go_simp;rfl));intro gb387 hg w3 hbox hb;have BK387:=aM (hbox);have GW387:=aM (gW hg:w.heap.size≤gb387);have GE387:=aM (gW hg:w.heap.size≤gb387);replace HB:=aM (below_step pB hb);clear hb hbox hg))
 (try simp only[Act.put,sA,sZ,sC])
 go_cut [12] (fun v12 wc=>∃ (kq:Nat) (x12_1:Bool),v12=.bool x12_1∧Aside0 (Azf.j0 kq x12_1 a0_0 l0_1=some r)∧Aside0 (kq≤k)∧Aside0 (wc.heap[gb387]?=some (.cells #[.int .i64 a0_0,(.slice A0_1 l0_1.length c0_1)] 24 (0,0)))∧Aside0 (Below w.heap.size w wc))
 case first =>
  have H:=HC2.out;clear HC2;by_cases c4:a0_0 < 1
  ·rw[if_pos c4] at H;have c4b0:decide (a0_0 < 1)=true:=dE c4;clear c4;(first|rw[c4b0]|(simp only[i64_w,i32_w];rw[c4b0])|skip)
   have H':=aM H;clear H;obtain⟨hcz5_0,hcz5_1,hfz5_0,hfz5_1⟩:=bk2 BK387;go_wp2
   go_meet
   case rel=>exact⟨_,(true),sD,H',⟨by first|omega|exact Nat.le_refl _⟩,⟨by(with_reducible repeat(first|refine blk_drewN ?_ _|refine blk_drew ?_|refine blk_alloc ?_ _));exact BK387.out⟩,⟨pB⟩⟩
  ·rw[if_neg c4] at H;have c4b0:decide (a0_0 < 1)=false:=decide_eq_false c4;clear c4;(first|rw[c4b0]|(simp only[i64_w,i32_w];rw[c4b0])|skip)
   have H':=aM H;clear H;obtain⟨hcz6_0,hcz6_1,hfz6_0,hfz6_1⟩:=bk2 BK387;go_wp2
   go_meet
   case rel=>exact⟨_,(decide (a0_0 > 1099511627776)),sD,H',⟨by first|omega|exact Nat.le_refl _⟩,⟨by(with_reducible repeat(first|refine blk_drewN ?_ _|refine blk_drew ?_|refine blk_alloc ?_ _));exact BK387.out⟩,⟨pB⟩⟩
 case rest =>
  clear HC2;try clear c1
  try clear p2
  try clear c4
  try clear c4b0
  try clear hcz5_0
  try clear hcz5_1
  try clear hcz6_0
  try clear hcz6_1
  try clear hfz5_0
  try clear hfz5_1
  try clear hfz6_0
  try clear hfz6_1
  obtain⟨kq,x12_1,rfl,HA,HJ1,BK387,HB⟩:=hcut;cases kq with
  | zero=>exact absurd HA.out (by simp [Azf.j0])
  | succ kj1 =>
   have H:=HA.out;clear HA;simp only[Azf.j0] at H;by_cases c7:x12_1=true
   ·subst c7;rw[if_pos rfl] at H;obtain rfl:=Option.some.inj H;go_wp2
    go_ret
    exact⟨eW,pB⟩
   ·replace c7:=Bool.eq_false_iff.mpr c7;subst c7;rw[if_neg (show ¬ (false=true) by decide)] at H
    by_cases c8:(l0_1.length:Int)=0
    ·rw[if_pos c8] at H;have c8b0:((l0_1.length:Int) == 0)=true:=beq_iff_eq.mpr c8;have c8b1:((l0_1.length:Int) != 0)=false:=bne_eq_false_iff_eq.mpr c8;clear c8;obtain rfl:=Option.some.inj H;obtain⟨hcz9_0,hcz9_1,hfz9_0,hfz9_1⟩:=bk2 BK387;go_wp2
     go_ret
     exact⟨eW,pB⟩
    ·rw[if_neg c8] at H;have c8b0:((l0_1.length:Int) == 0)=false:=beq_eq_false_iff_ne.mpr c8;have c8b1:((l0_1.length:Int) != 0)=true:=bne_iff_ne.mpr c8;have c8b2:¬ (l0_1=[]):=fun h_=>c8 (by rw[h_];rfl)
     by_cases c10:(l0_1.length:Int) > 256
     ·rw[if_pos c10] at H;have c10b0:decide (256 < (l0_1.length:Int))=true:=dE c10;have c10b1:decide (256 < l0_1.length)=true:=dE (by omega)
      clear c10;obtain rfl:=Option.some.inj H;obtain⟨hcz11_0,hcz11_1,hfz11_0,hfz11_1⟩:=bk2 BK387;go_wp2
      go_ret
      exact⟨eW,pB⟩
     ·rw[if_neg c10] at H;have c10b0:decide (256 < (l0_1.length:Int))=false:=decide_eq_false c10;have c10b1:decide (256 < l0_1.length)=false:=decide_eq_false (by omega)
      clear c10;have H':=aM H;clear H;obtain⟨hcz12_0,hcz12_1,hfz12_0,hfz12_1⟩:=bk2 BK387;go_wp2
      go_loopg [3] kj1 (fun kq v3 w'=>∃ (x3_2:Int),v3=.int .i64 x3_2∧Aside0 (Azf.l0 kq x3_2 a0_0 l0_1=some r)∧Aside0 (kq≤kj1)∧Aside0 (w'.heap[gb387]?=some (.cells #[.int .i64 a0_0,(.slice A0_1 l0_1.length c0_1)] 24 (0,0)))∧Aside0 (Below w.heap.size w w'))
      case atStart=>exact⟨(0),sD,H',⟨Nat.le_refl _⟩,⟨by(with_reducible repeat(first|refine blk_drewN ?_ _|refine blk_drew ?_|refine blk_alloc ?_ _));exact BK387.out⟩,⟨pB⟩⟩
      case round =>
       clear H';try clear c1
       try clear p2
       try clear c4
       try clear c4b0
       try clear c7
       try clear c8
       try clear c8b0
       try clear c8b1
       try clear c8b2
       try clear c10
       try clear c10b0
       try clear c10b1
       try clear hcz11_0
       try clear hcz11_1
       try clear hcz12_0
       try clear hcz12_1
       try clear hcz5_0
       try clear hcz5_1
       try clear hcz6_0
       try clear hcz6_1
       try clear hcz9_0
       try clear hcz9_1
       try clear hfz11_0
       try clear hfz11_1
       try clear hfz12_0
       try clear hfz12_1
       try clear hfz5_0
       try clear hfz5_1
       try clear hfz6_0
       try clear hfz6_1
       try clear hfz9_0
       try clear hfz9_1
       try clear p2
       obtain⟨x3_2,rfl,HA,HK2,BK387,HB⟩:=hrel;cases gk with
       | zero=>exact absurd HA.out (by simp [Azf.l0])
       | succ k2 =>
        have H:=HA.out;clear HA;simp only[Azf.l0] at H;by_cases c13:x3_2 < (l0_1.length:Int)
        ·rw[if_pos c13] at H;have c13b0:decide (x3_2 < (l0_1.length:Int))=true:=dE c13;clear c13;by_cases c14:0≤x3_2
         ·rw[if_pos c14] at H;have c14b0:decide (0≤x3_2)=true:=dE c14;clear c14;by_cases c15:0 < (l0_1.length:Int)
          ·rw[if_pos c15] at H;have c15b0:decide (0 < (l0_1.length:Int))=true:=dE c15;have c15b1:decide (0 < l0_1.length)=true:=dE (by omega)
           clear c15;replace H:=bS H;obtain⟨t391,A160,H⟩:=H;(try dsimp only at H);have A16:=aM A160;clear A160;by_cases c17:t391=0
           ·rw[if_pos c17] at H;have c17b0:(t391 == 0)=true:=beq_iff_eq.mpr c17;have c17b1:(t391 != 0)=false:=bne_eq_false_iff_eq.mpr c17;clear c17;replace H:=bS H;obtain⟨t393,A180,H⟩:=H;(try dsimp only at H);have A18:=aM A180;clear A180;by_cases c19:t393=0
            ·rw[if_pos c19] at H;have c19b0:(t393 == 0)=true:=beq_iff_eq.mpr c19;have c19b1:(t393 != 0)=false:=bne_eq_false_iff_eq.mpr c19;clear c19;obtain rfl:=Option.some.inj H;obtain⟨hcz20_0,hcz20_1,hfz20_0,hfz20_1⟩:=bk2 BK387;try go_wp2
             have n0_:=aM (blk_drew BK387.out);have n1_:=aM (below_drew1 HB.out);clear BK387;clear HB;have BK387:=n0_;have HB:=n1_;clear n0_ n1_;have p389:0≤(x3_2:Int):=oE aS
             have q389:x3_2 < (l0_1.length:Int):=oE aS
             obtain⟨ad389,A389_0,c389_0,e389,hx389_0,hl389_0,hi389_0⟩:=at_L1 HR0_1.out x3_2 p389 q389;have hw389_0:=hx389_0;cases e389
             replace hx389_0:=(HB.out.cell (World.block_lt_of_cell? w _ hx389_0)).trans hx389_0;have HR389_0:=aM hi389_0;have HC389_0:=aM hl389_0;clear hi389_0 hl389_0;replace p389:=eq_true p389;replace q389:=eq_true q389;have p390:0≤(0:Int):=(by omega)
             have q390:0 < (l0_1.length:Int):=oE aS
             obtain⟨ad390,A390_0,c390_0,e390,hx390_0,hl390_0,hi390_0⟩:=at_L1 HR0_1.out 0 p390 q390;have hw390_0:=hx390_0;(try rw[show((0:Int)).toNat=0 from rfl] at hw390_0)
             (try rw[show 0 * 1=0 from rfl] at hw390_0)
             (try rw[Addr.add_zero'] at hw390_0)
             obtain rfl:ad389=ad390:=(by injection e390)
             have qi390:(0 < l0_1.length)=True:=eq_true (by omega)
             (try rw[show((0:Int)).toNat=0 from rfl] at hx390_0)
             (try rw[Addr.add_zero'] at hx390_0)
             replace hx390_0:=(HB.out.cell (World.block_lt_of_cell? w _ hx390_0)).trans hx390_0;have HR390_0:=aM hi390_0;have HC390_0:=aM hl390_0;clear hi390_0 hl390_0;replace p390:=eq_true p390;replace q390:=eq_true q390;refine start_ (n:=12) (S:=fun w'=>w'.cell? ⟨gb387,0,none⟩=some (.int .i64 a0_0)∧w'.cell? ⟨gb387,1,none⟩=some (.slice (some ad389) l0_1.length c0_1)∧w'.cell? (ad389.add (x3_2).toNat)=some (.slice A389_0 (rd_L1 l0_1 x3_2).length c389_0)∧w'.cell? ad389=some (.slice A390_0 (rd_L1 l0_1 0).length c390_0)) (ds:=[]) #[false,false,false,false,false,false,false,false,false,false,false,false] (by kernel_rfl) rfl rfl ⟨(blk_cell BK387.out 0).trans rfl,(blk_cell BK387.out 1).trans rfl,((HB.out.cell (World.block_lt_of_cell? w _ hw389_0)).trans hw389_0),((HB.out.cell (World.block_lt_of_cell? w _ hw390_0)).trans hw390_0)⟩ (fun hHeld=>?_);refine with_tabW Azf.tab10 Azf.bits10 (fun HT_ HW_=>?_)
             generalize wr.drew=w21 at BK387 HB HR389_0 HR390_0 hx389_0 hx390_0 hHeld ⊢;refine pU (i:=0) (N:=some 28) HT_ #[true,false,false,false,false,false,false,false,false,false,false,false] ?_;refine pU (i:=2) (N:=some 30) HT_ #[true,false,true,false,false,false,false,false,false,false,false,false] ?_;refine pU (i:=5) (N:=some 33) HT_ #[true,false,true,false,false,true,false,false,false,false,false,false] ?_;refine take_ (i:=1) (N:=some 29) (v:=?_) (a':=?_) #[true,true,true,false,false,true,false,false,false,false,false,false] rfl rfl (take_ofW HT_.out HW_.out (by kernel_rfl)) (fun _ _ _ h=>h) (Or.inl ⟨by rfl,?_⟩) hHeld ?_ ?_
             rotate_left
             ·rintro w' ⟨s0,s1,s2,s3⟩;go_simp
              with_reducible rfl
             rotate_left
             ·simp only[Act.put,sA,sZ,sC,i64_w,i32_w];rfl
             refine pU (i:=3) (N:=some 31) HT_ #[true,true,true,true,false,true,false,false,false,false,false,false] ?_;refine take_ (i:=4) (N:=some 32) (v:=?_) (a':=?_) #[true,true,true,true,true,true,false,false,false,false,false,false] rfl rfl (take_ofW HT_.out HW_.out (by kernel_rfl)) (fun _ _ _ h=>h) (Or.inl ⟨by rfl,?_⟩) hHeld ?_ ?_
             rotate_left
             ·rintro w' ⟨s0,s1,s2,s3⟩;go_simp
              with_reducible rfl
             rotate_left
             ·simp only[Act.put,sA,sZ,sC,i64_w,i32_w];rfl
             refine take_ (i:=6) (N:=some 34) (v:=?_) (a':=?_) #[true,true,true,true,true,true,true,false,false,false,false,false] rfl rfl (take_ofW HT_.out HW_.out (by kernel_rfl)) (fun _ _ _ h=>h) (Or.inl ⟨by rfl,?_⟩) hHeld ?_ ?_
             rotate_left
             ·rintro w' ⟨s0,s1,s2,s3⟩;go_simp
              with_reducible rfl
             rotate_left
             ·simp only[Act.put,sA,sZ,sC,i64_w,i32_w];rfl
             refine pU (i:=7) (N:=some 35) HT_ #[true,true,true,true,true,true,true,true,false,false,false,false] ?_;refine take_ (i:=8) (N:=some 36) (v:=?_) (a':=?_) #[true,true,true,true,true,true,true,true,true,false,false,false] rfl rfl (take_ofW HT_.out HW_.out (by kernel_rfl)) (fun _ _ _ h=>h) (Or.inl ⟨by rfl,?_⟩) hHeld ?_ ?_
             rotate_left
             ·rintro w' ⟨s0,s1,s2,s3⟩;go_simp
              with_reducible rfl
             rotate_left
             ·simp only[Act.put,sA,sZ,sC,i64_w,i32_w];rfl
             refine pU (i:=9) (N:=some 37) HT_ #[true,true,true,true,true,true,true,true,true,true,false,false] ?_;refine one_ (i:=10) (N:=some 38) #[true,true,true,true,true,true,true,true,true,true,true,false] rfl rfl (one_of HT_.out (by kernel_rfl)) (by decide) (fun K hK=>?_)
             refine goes_ Try.func28 (by kernel_rfl) rfl #[.slice A389_0 (rd_L1 l0_1 x3_2).length c389_0,.int .i64 ((rd_L1 l0_1 0).length:Int)] (by rfl) rfl rfl mA ?_
             with_reducible refine(Czv.calls k2 _ _ (rd_L1 l0_1 x3_2) ((rd_L1 l0_1 0).length:Int) t391 _ ?side1 ?side2 A16.out).mono ?_
             (case side1=>exact cX (Kd.C_below HR389_0.out HB.out))
             (case side2=>exact HC389_0.out)
             rintro e w' ⟨rfl,⟨nd,rfl⟩⟩;refine⟨_,rfl,?_⟩;refine hK.out _ _ ⟨(blk_cell BK387.out 0).trans rfl,(blk_cell BK387.out 1).trans rfl,((HB.out.cell (World.block_lt_of_cell? w _ hw389_0)).trans hw389_0),((HB.out.cell (World.block_lt_of_cell? w _ hw390_0)).trans hw390_0)⟩ (fun hHeld=>?_)
             clear hK K;refine norm_ (a':=?_) ?_ ?_;rotate_left
             ·show Act.put _ (some 38) _=_
              simp only[Act.put,sA,sZ,sC,i64_w,i32_w];rfl
             refine pU (i:=11) (N:=some 4) HT_ #[true,true,true,true,true,true,true,true,true,true,true,true] ?_;refine done_ (done_of HT_.out (by kernel_rfl)) ?_
             obtain⟨hcz22_0,hcz22_1,hfz22_0,hfz22_1⟩:=bk2 BK387;have p392:0≤(x3_2:Int):=oE aS
             have q392:x3_2 < (l0_1.length:Int):=oE aS
             obtain⟨ad392,A392_0,c392_0,e392,hx392_0,hl392_0,hi392_0⟩:=at_L1 HR0_1.out x3_2 p392 q392;obtain rfl:ad389=ad392:=(by injection e392)
             replace hx392_0:=(HB.out.cell (World.block_lt_of_cell? w _ hx392_0)).trans hx392_0;have HR392_0:=aM hi392_0;have HC392_0:=aM hl392_0;clear hi392_0 hl392_0;replace p392:=eq_true p392;replace q392:=eq_true q392;have ea_:=Option.some.inj (hx389_0.symm.trans hx392_0);injection ea_ with ea_ en_ ec_
             subst ea_;subst ec_;clear en_;try go_wp2_with (first|((with_reducible refine gate_callee (f:=21) rfl ?_);refine goesL_ (some 47) rfl rfl Try.func21 (by kernel_rfl) rfl #[.slice A389_0 (rd_L1 l0_1 x3_2).length c389_0] rfl mA ?_;(with_reducible refine(Azp.calls k2 _ _ (rd_L1 l0_1 x3_2) t393 _ ?side1 ?side2 A18.out).mono ?_);(case side1=>repeat(first|exact(Kd.C_below HR392_0.out pB)|(with_reducible refine Kd.C_alloc ?_ _)|(with_reducible refine Kd.C_drewN ?_ _)|(with_reducible refine Kd.C_drew ?_)));(case side2=>exact HC392_0.out);rintro e w' ⟨rfl,⟨nd,rfl⟩⟩;refine⟨_,rfl,?_⟩))
             go_ret
             exact⟨eW,pB⟩
            ·rw[if_neg c19] at H;have c19b0:(t393 == 0)=false:=beq_eq_false_iff_ne.mpr c19;have c19b1:(t393 != 0)=true:=bne_iff_ne.mpr c19;have H':=aM H;clear H;obtain⟨hcz23_0,hcz23_1,hfz23_0,hfz23_1⟩:=bk2 BK387;try go_wp2
             have n0_:=aM (blk_drew BK387.out);have n1_:=aM (below_drew1 HB.out);clear BK387;clear HB;have BK387:=n0_;have HB:=n1_;clear n0_ n1_;have p389:0≤(x3_2:Int):=oE aS
             have q389:x3_2 < (l0_1.length:Int):=oE aS
             obtain⟨ad389,A389_0,c389_0,e389,hx389_0,hl389_0,hi389_0⟩:=at_L1 HR0_1.out x3_2 p389 q389;have hw389_0:=hx389_0;cases e389
             replace hx389_0:=(HB.out.cell (World.block_lt_of_cell? w _ hx389_0)).trans hx389_0;have HR389_0:=aM hi389_0;have HC389_0:=aM hl389_0;clear hi389_0 hl389_0;replace p389:=eq_true p389;replace q389:=eq_true q389;have p390:0≤(0:Int):=(by omega)
             have q390:0 < (l0_1.length:Int):=oE aS
             obtain⟨ad390,A390_0,c390_0,e390,hx390_0,hl390_0,hi390_0⟩:=at_L1 HR0_1.out 0 p390 q390;have hw390_0:=hx390_0;(try rw[show((0:Int)).toNat=0 from rfl] at hw390_0)
             (try rw[show 0 * 1=0 from rfl] at hw390_0)
             (try rw[Addr.add_zero'] at hw390_0)
             obtain rfl:ad389=ad390:=(by injection e390)
             have qi390:(0 < l0_1.length)=True:=eq_true (by omega)
             (try rw[show((0:Int)).toNat=0 from rfl] at hx390_0)
             (try rw[Addr.add_zero'] at hx390_0)
             replace hx390_0:=(HB.out.cell (World.block_lt_of_cell? w _ hx390_0)).trans hx390_0;have HR390_0:=aM hi390_0;have HC390_0:=aM hl390_0;clear hi390_0 hl390_0;replace p390:=eq_true p390;replace q390:=eq_true q390;refine start_ (n:=12) (S:=fun w'=>w'.cell? ⟨gb387,0,none⟩=some (.int .i64 a0_0)∧w'.cell? ⟨gb387,1,none⟩=some (.slice (some ad389) l0_1.length c0_1)∧w'.cell? (ad389.add (x3_2).toNat)=some (.slice A389_0 (rd_L1 l0_1 x3_2).length c389_0)∧w'.cell? ad389=some (.slice A390_0 (rd_L1 l0_1 0).length c390_0)) (ds:=[]) #[false,false,false,false,false,false,false,false,false,false,false,false] (by kernel_rfl) rfl rfl ⟨(blk_cell BK387.out 0).trans rfl,(blk_cell BK387.out 1).trans rfl,((HB.out.cell (World.block_lt_of_cell? w _ hw389_0)).trans hw389_0),((HB.out.cell (World.block_lt_of_cell? w _ hw390_0)).trans hw390_0)⟩ (fun hHeld=>?_);refine with_tabW Azf.tab10 Azf.bits10 (fun HT_ HW_=>?_)
             generalize wr.drew=w24 at BK387 HB HR389_0 HR390_0 hx389_0 hx390_0 hHeld ⊢;refine pU (i:=0) (N:=some 28) HT_ #[true,false,false,false,false,false,false,false,false,false,false,false] ?_;refine pU (i:=2) (N:=some 30) HT_ #[true,false,true,false,false,false,false,false,false,false,false,false] ?_;refine pU (i:=5) (N:=some 33) HT_ #[true,false,true,false,false,true,false,false,false,false,false,false] ?_;refine take_ (i:=1) (N:=some 29) (v:=?_) (a':=?_) #[true,true,true,false,false,true,false,false,false,false,false,false] rfl rfl (take_ofW HT_.out HW_.out (by kernel_rfl)) (fun _ _ _ h=>h) (Or.inl ⟨by rfl,?_⟩) hHeld ?_ ?_
             rotate_left
             ·rintro w' ⟨s0,s1,s2,s3⟩;go_simp
              with_reducible rfl
             rotate_left
             ·simp only[Act.put,sA,sZ,sC,i64_w,i32_w];rfl
             refine pU (i:=3) (N:=some 31) HT_ #[true,true,true,true,false,true,false,false,false,false,false,false] ?_;refine take_ (i:=4) (N:=some 32) (v:=?_) (a':=?_) #[true,true,true,true,true,true,false,false,false,false,false,false] rfl rfl (take_ofW HT_.out HW_.out (by kernel_rfl)) (fun _ _ _ h=>h) (Or.inl ⟨by rfl,?_⟩) hHeld ?_ ?_
             rotate_left
             ·rintro w' ⟨s0,s1,s2,s3⟩;go_simp
              with_reducible rfl
             rotate_left
             ·simp only[Act.put,sA,sZ,sC,i64_w,i32_w];rfl
             refine take_ (i:=6) (N:=some 34) (v:=?_) (a':=?_) #[true,true,true,true,true,true,true,false,false,false,false,false] rfl rfl (take_ofW HT_.out HW_.out (by kernel_rfl)) (fun _ _ _ h=>h) (Or.inl ⟨by rfl,?_⟩) hHeld ?_ ?_
             rotate_left
             ·rintro w' ⟨s0,s1,s2,s3⟩;go_simp
              with_reducible rfl
             rotate_left
             ·simp only[Act.put,sA,sZ,sC,i64_w,i32_w];rfl
             refine pU (i:=7) (N:=some 35) HT_ #[true,true,true,true,true,true,true,true,false,false,false,false] ?_;refine take_ (i:=8) (N:=some 36) (v:=?_) (a':=?_) #[true,true,true,true,true,true,true,true,true,false,false,false] rfl rfl (take_ofW HT_.out HW_.out (by kernel_rfl)) (fun _ _ _ h=>h) (Or.inl ⟨by rfl,?_⟩) hHeld ?_ ?_
             rotate_left
             ·rintro w' ⟨s0,s1,s2,s3⟩;go_simp
              with_reducible rfl
             rotate_left
             ·simp only[Act.put,sA,sZ,sC,i64_w,i32_w];rfl
             refine pU (i:=9) (N:=some 37) HT_ #[true,true,true,true,true,true,true,true,true,true,false,false] ?_;refine one_ (i:=10) (N:=some 38) #[true,true,true,true,true,true,true,true,true,true,true,false] rfl rfl (one_of HT_.out (by kernel_rfl)) (by decide) (fun K hK=>?_)
             refine goes_ Try.func28 (by kernel_rfl) rfl #[.slice A389_0 (rd_L1 l0_1 x3_2).length c389_0,.int .i64 ((rd_L1 l0_1 0).length:Int)] (by rfl) rfl rfl mA ?_
             with_reducible refine(Czv.calls k2 _ _ (rd_L1 l0_1 x3_2) ((rd_L1 l0_1 0).length:Int) t391 _ ?side1 ?side2 A16.out).mono ?_
             (case side1=>exact cX (Kd.C_below HR389_0.out HB.out))
             (case side2=>exact HC389_0.out)
             rintro e w' ⟨rfl,⟨nd,rfl⟩⟩;refine⟨_,rfl,?_⟩;refine hK.out _ _ ⟨(blk_cell BK387.out 0).trans rfl,(blk_cell BK387.out 1).trans rfl,((HB.out.cell (World.block_lt_of_cell? w _ hw389_0)).trans hw389_0),((HB.out.cell (World.block_lt_of_cell? w _ hw390_0)).trans hw390_0)⟩ (fun hHeld=>?_)
             clear hK K;refine norm_ (a':=?_) ?_ ?_;rotate_left
             ·show Act.put _ (some 38) _=_
              simp only[Act.put,sA,sZ,sC,i64_w,i32_w];rfl
             refine pU (i:=11) (N:=some 4) HT_ #[true,true,true,true,true,true,true,true,true,true,true,true] ?_;refine done_ (done_of HT_.out (by kernel_rfl)) ?_
             obtain⟨hcz25_0,hcz25_1,hfz25_0,hfz25_1⟩:=bk2 BK387;have p392:0≤(x3_2:Int):=oE aS
             have q392:x3_2 < (l0_1.length:Int):=oE aS
             obtain⟨ad392,A392_0,c392_0,e392,hx392_0,hl392_0,hi392_0⟩:=at_L1 HR0_1.out x3_2 p392 q392;obtain rfl:ad389=ad392:=(by injection e392)
             replace hx392_0:=(HB.out.cell (World.block_lt_of_cell? w _ hx392_0)).trans hx392_0;have HR392_0:=aM hi392_0;have HC392_0:=aM hl392_0;clear hi392_0 hl392_0;replace p392:=eq_true p392;replace q392:=eq_true q392;have ea_:=Option.some.inj (hx389_0.symm.trans hx392_0);injection ea_ with ea_ en_ ec_
             subst ea_;subst ec_;clear en_;try go_wp2_with (first|((with_reducible refine gate_callee (f:=21) rfl ?_);refine goesL_ (some 47) rfl rfl Try.func21 (by kernel_rfl) rfl #[.slice A389_0 (rd_L1 l0_1 x3_2).length c389_0] rfl mA ?_;(with_reducible refine(Azp.calls k2 _ _ (rd_L1 l0_1 x3_2) t393 _ ?side1 ?side2 A18.out).mono ?_);(case side1=>repeat(first|exact(Kd.C_below HR392_0.out pB)|(with_reducible refine Kd.C_alloc ?_ _)|(with_reducible refine Kd.C_drewN ?_ _)|(with_reducible refine Kd.C_drew ?_)));(case side2=>exact HC392_0.out);rintro e w' ⟨rfl,⟨nd,rfl⟩⟩;refine⟨_,rfl,?_⟩))
             go_roundg k2
             case measure=>have:=HJ1.out;have:=HK2.out;omega
             case rel=>exact⟨(wrap64 (x3_2+1)),sD,H',⟨by have:=HJ1.out;have:=HK2.out;omega⟩,⟨by(with_reducible repeat(first|refine blk_drewN ?_ _|refine blk_drew ?_|refine blk_alloc ?_ _));exact BK387.out⟩,⟨pB⟩⟩
           ·rw[if_neg c17] at H;have c17b0:(t391 == 0)=false:=beq_eq_false_iff_ne.mpr c17;have c17b1:(t391 != 0)=true:=bne_iff_ne.mpr c17;obtain rfl:=Option.some.inj H;obtain⟨hcz26_0,hcz26_1,hfz26_0,hfz26_1⟩:=bk2 BK387;try go_wp2
            have n0_:=aM (blk_drew BK387.out);have n1_:=aM (below_drew1 HB.out);clear BK387;clear HB;have BK387:=n0_;have HB:=n1_;clear n0_ n1_;have p389:0≤(x3_2:Int):=oE aS
            have q389:x3_2 < (l0_1.length:Int):=oE aS
            obtain⟨ad389,A389_0,c389_0,e389,hx389_0,hl389_0,hi389_0⟩:=at_L1 HR0_1.out x3_2 p389 q389;have hw389_0:=hx389_0;cases e389
            replace hx389_0:=(HB.out.cell (World.block_lt_of_cell? w _ hx389_0)).trans hx389_0;have HR389_0:=aM hi389_0;have HC389_0:=aM hl389_0;clear hi389_0 hl389_0;replace p389:=eq_true p389;replace q389:=eq_true q389;have p390:0≤(0:Int):=(by omega)
            have q390:0 < (l0_1.length:Int):=oE aS
            obtain⟨ad390,A390_0,c390_0,e390,hx390_0,hl390_0,hi390_0⟩:=at_L1 HR0_1.out 0 p390 q390;have hw390_0:=hx390_0;(try rw[show((0:Int)).toNat=0 from rfl] at hw390_0)
            (try rw[show 0 * 1=0 from rfl] at hw390_0)
            (try rw[Addr.add_zero'] at hw390_0)
            obtain rfl:ad389=ad390:=(by injection e390)
            have qi390:(0 < l0_1.length)=True:=eq_true (by omega)
            (try rw[show((0:Int)).toNat=0 from rfl] at hx390_0)
            (try rw[Addr.add_zero'] at hx390_0)
            replace hx390_0:=(HB.out.cell (World.block_lt_of_cell? w _ hx390_0)).trans hx390_0;have HR390_0:=aM hi390_0;have HC390_0:=aM hl390_0;clear hi390_0 hl390_0;replace p390:=eq_true p390;replace q390:=eq_true q390;refine start_ (n:=12) (S:=fun w'=>w'.cell? ⟨gb387,0,none⟩=some (.int .i64 a0_0)∧w'.cell? ⟨gb387,1,none⟩=some (.slice (some ad389) l0_1.length c0_1)∧w'.cell? (ad389.add (x3_2).toNat)=some (.slice A389_0 (rd_L1 l0_1 x3_2).length c389_0)∧w'.cell? ad389=some (.slice A390_0 (rd_L1 l0_1 0).length c390_0)) (ds:=[]) #[false,false,false,false,false,false,false,false,false,false,false,false] (by kernel_rfl) rfl rfl ⟨(blk_cell BK387.out 0).trans rfl,(blk_cell BK387.out 1).trans rfl,((HB.out.cell (World.block_lt_of_cell? w _ hw389_0)).trans hw389_0),((HB.out.cell (World.block_lt_of_cell? w _ hw390_0)).trans hw390_0)⟩ (fun hHeld=>?_);refine with_tabW Azf.tab10 Azf.bits10 (fun HT_ HW_=>?_)
            generalize wr.drew=w27 at BK387 HB HR389_0 HR390_0 hx389_0 hx390_0 hHeld ⊢;refine pU (i:=0) (N:=some 28) HT_ #[true,false,false,false,false,false,false,false,false,false,false,false] ?_;refine pU (i:=2) (N:=some 30) HT_ #[true,false,true,false,false,false,false,false,false,false,false,false] ?_;refine pU (i:=5) (N:=some 33) HT_ #[true,false,true,false,false,true,false,false,false,false,false,false] ?_;refine take_ (i:=1) (N:=some 29) (v:=?_) (a':=?_) #[true,true,true,false,false,true,false,false,false,false,false,false] rfl rfl (take_ofW HT_.out HW_.out (by kernel_rfl)) (fun _ _ _ h=>h) (Or.inl ⟨by rfl,?_⟩) hHeld ?_ ?_
            rotate_left
            ·rintro w' ⟨s0,s1,s2,s3⟩;go_simp
             with_reducible rfl
            rotate_left
            ·simp only[Act.put,sA,sZ,sC,i64_w,i32_w];rfl
            refine pU (i:=3) (N:=some 31) HT_ #[true,true,true,true,false,true,false,false,false,false,false,false] ?_;refine take_ (i:=4) (N:=some 32) (v:=?_) (a':=?_) #[true,true,true,true,true,true,false,false,false,false,false,false] rfl rfl (take_ofW HT_.out HW_.out (by kernel_rfl)) (fun _ _ _ h=>h) (Or.inl ⟨by rfl,?_⟩) hHeld ?_ ?_
            rotate_left
            ·rintro w' ⟨s0,s1,s2,s3⟩;go_simp
             with_reducible rfl
            rotate_left
            ·simp only[Act.put,sA,sZ,sC,i64_w,i32_w];rfl
            refine take_ (i:=6) (N:=some 34) (v:=?_) (a':=?_) #[true,true,true,true,true,true,true,false,false,false,false,false] rfl rfl (take_ofW HT_.out HW_.out (by kernel_rfl)) (fun _ _ _ h=>h) (Or.inl ⟨by rfl,?_⟩) hHeld ?_ ?_
            rotate_left
            ·rintro w' ⟨s0,s1,s2,s3⟩;go_simp
             with_reducible rfl
            rotate_left
            ·simp only[Act.put,sA,sZ,sC,i64_w,i32_w];rfl
            refine pU (i:=7) (N:=some 35) HT_ #[true,true,true,true,true,true,true,true,false,false,false,false] ?_;refine take_ (i:=8) (N:=some 36) (v:=?_) (a':=?_) #[true,true,true,true,true,true,true,true,true,false,false,false] rfl rfl (take_ofW HT_.out HW_.out (by kernel_rfl)) (fun _ _ _ h=>h) (Or.inl ⟨by rfl,?_⟩) hHeld ?_ ?_
            rotate_left
            ·rintro w' ⟨s0,s1,s2,s3⟩;go_simp
             with_reducible rfl
            rotate_left
            ·simp only[Act.put,sA,sZ,sC,i64_w,i32_w];rfl
            refine pU (i:=9) (N:=some 37) HT_ #[true,true,true,true,true,true,true,true,true,true,false,false] ?_;refine one_ (i:=10) (N:=some 38) #[true,true,true,true,true,true,true,true,true,true,true,false] rfl rfl (one_of HT_.out (by kernel_rfl)) (by decide) (fun K hK=>?_)
            refine goes_ Try.func28 (by kernel_rfl) rfl #[.slice A389_0 (rd_L1 l0_1 x3_2).length c389_0,.int .i64 ((rd_L1 l0_1 0).length:Int)] (by rfl) rfl rfl mA ?_
            with_reducible refine(Czv.calls k2 _ _ (rd_L1 l0_1 x3_2) ((rd_L1 l0_1 0).length:Int) t391 _ ?side1 ?side2 A16.out).mono ?_
            (case side1=>exact cX (Kd.C_below HR389_0.out HB.out))
            (case side2=>exact HC389_0.out)
            rintro e w' ⟨rfl,⟨nd,rfl⟩⟩;refine⟨_,rfl,?_⟩;refine hK.out _ _ ⟨(blk_cell BK387.out 0).trans rfl,(blk_cell BK387.out 1).trans rfl,((HB.out.cell (World.block_lt_of_cell? w _ hw389_0)).trans hw389_0),((HB.out.cell (World.block_lt_of_cell? w _ hw390_0)).trans hw390_0)⟩ (fun hHeld=>?_)
            clear hK K;refine norm_ (a':=?_) ?_ ?_;rotate_left
            ·show Act.put _ (some 38) _=_
             simp only[Act.put,sA,sZ,sC,i64_w,i32_w];rfl
            refine pU (i:=11) (N:=some 4) HT_ #[true,true,true,true,true,true,true,true,true,true,true,true] ?_;refine done_ (done_of HT_.out (by kernel_rfl)) ?_
            try go_wp2
            go_ret
            exact⟨eW,pB⟩
          ·rw[if_neg c15] at H;exact absurd H (by simp)
         ·rw[if_neg c14] at H;exact absurd H (by simp)
        ·rw[if_neg c13] at H;have c13b0:decide (x3_2 < (l0_1.length:Int))=false:=decide_eq_false c13;clear c13;replace H:=bS H;obtain⟨t388,A280,H⟩:=H;(try dsimp only at H);have A28:=aM A280;clear A280;by_cases c29:t388=a0_0
         ·rw[if_pos c29] at H;have c29b0:(t388 == a0_0)=true:=beq_iff_eq.mpr c29;have c29b1:(t388 != a0_0)=false:=bne_eq_false_iff_eq.mpr c29;clear c29;obtain rfl:=Option.some.inj H;obtain⟨hcz30_0,hcz30_1,hfz30_0,hfz30_1⟩:=bk2 BK387;try go_wp2
          have n0_:=aM (blk_drew BK387.out);have n1_:=aM (below_drew1 HB.out);clear BK387;clear HB;have BK387:=n0_;have HB:=n1_;clear n0_ n1_;refine start_ (n:=5) (S:=fun w'=>w'.cell? ⟨gb387,0,none⟩=some (.int .i64 a0_0)∧w'.cell? ⟨gb387,1,none⟩=some (.slice A0_1 l0_1.length c0_1)) (ds:=[]) #[false,false,false,false,false] (by kernel_rfl) rfl rfl ⟨(blk_cell BK387.out 0).trans rfl,(blk_cell BK387.out 1).trans rfl⟩ (fun hHeld=>?_)
          generalize wr.drew=w31 at BK387 HB hHeld ⊢;refine pure_ (i:=2) (N:=some 51) (v:=?_) (a':=?_) #[false,false,true,false,false] rfl rfl (by kernel_rfl) (fun _ _ _ h=>h) (Or.inl ⟨by rfl,?_⟩) ?_ ?_
          rotate_left
          ·intro w';go_simp
           with_reducible rfl
          rotate_left
          ·simp only[Act.put,sA,sZ,sC,i64_w,i32_w];rfl
          refine take_ (i:=0) (N:=some 49) (v:=?_) (a':=?_) #[true,false,true,false,false] rfl rfl (by kernel_rfl) (fun _ _ _ h=>h) (Or.inl ⟨by rfl,?_⟩) hHeld ?_ ?_
          rotate_left
          ·rintro w' ⟨s0,s1⟩;go_simp
           with_reducible rfl
          rotate_left
          ·simp only[Act.put,sA,sZ,sC,i64_w,i32_w];rfl
          refine take_ (i:=3) (N:=some 52) (v:=?_) (a':=?_) #[true,false,true,true,false] rfl rfl (by kernel_rfl) (fun _ _ _ h=>h) (Or.inl ⟨by rfl,?_⟩) hHeld ?_ ?_
          rotate_left
          ·rintro w' ⟨s0,s1⟩;go_simp
           with_reducible rfl
          rotate_left
          ·simp only[Act.put,sA,sZ,sC,i64_w,i32_w];rfl
          refine one_ (i:=1) (N:=some 50) #[true,true,true,true,false] rfl rfl (by kernel_rfl) (by decide) (fun K hK=>?_)
          refine goes_ Try.func29 (by kernel_rfl) rfl #[.agg #[.int .i64 a0_0,.slice A0_1 l0_1.length c0_1]] (by rfl) rfl rfl mA ?_
          with_reducible refine(Czw.calls k2 a0_0 _ _ l0_1 t388 _ ?side1 ?side2 A28.out).mono ?_
          (case side1=>exact cX (Kd.C_below HR0_1.out HB.out))
          (case side2=>exact HC0_1.out)
          rintro e w32 ⟨rfl,hb⟩;refine⟨_,rfl,?_⟩;have n0_:=aM (kB BK387 hb);have n1_:=aM (below_step pB hb);clear BK387;clear HB;have BK387:=n0_;have HB:=n1_;clear n0_ n1_;(try clear hb)
          (try clear hb2)
          (try clear hk)
          (try clear hi)
          refine hK.out _ _ ⟨(blk_cell BK387.out 0).trans rfl,(blk_cell BK387.out 1).trans rfl⟩ (fun hHeld=>?_)
          clear hK K;refine norm_ (a':=?_) ?_ ?_;rotate_left
          ·show Act.put _ (some 50) _=_
           simp only[Act.put,sA,sZ,sC,i64_w,i32_w];rfl
          refine pure_ (i:=4) (N:=some 53) (v:=?_) (a':=?_) #[true,true,true,true,true] rfl rfl (by kernel_rfl) (fun _ _ _ h=>h) (Or.inl ⟨by rfl,?_⟩) ?_ ?_
          rotate_left
          ·intro w';go_simp
           with_reducible rfl
          rotate_left
          ·simp only[Act.put,sA,sZ,sC,i64_w,i32_w];rfl
          refine done_ (by kernel_rfl) ?_
          try go_wp2
          go_ret
          exact⟨eW,pB⟩
         ·rw[if_neg c29] at H;have c29b0:(t388 == a0_0)=false:=beq_eq_false_iff_ne.mpr c29;have c29b1:(t388 != a0_0)=true:=bne_iff_ne.mpr c29;obtain rfl:=Option.some.inj H;obtain⟨hcz33_0,hcz33_1,hfz33_0,hfz33_1⟩:=bk2 BK387;try go_wp2
          have n0_:=aM (blk_drew BK387.out);have n1_:=aM (below_drew1 HB.out);clear BK387;clear HB;have BK387:=n0_;have HB:=n1_;clear n0_ n1_;refine start_ (n:=5) (S:=fun w'=>w'.cell? ⟨gb387,0,none⟩=some (.int .i64 a0_0)∧w'.cell? ⟨gb387,1,none⟩=some (.slice A0_1 l0_1.length c0_1)) (ds:=[]) #[false,false,false,false,false] (by kernel_rfl) rfl rfl ⟨(blk_cell BK387.out 0).trans rfl,(blk_cell BK387.out 1).trans rfl⟩ (fun hHeld=>?_)
          generalize wr.drew=w34 at BK387 HB hHeld ⊢;refine pure_ (i:=2) (N:=some 51) (v:=?_) (a':=?_) #[false,false,true,false,false] rfl rfl (by kernel_rfl) (fun _ _ _ h=>h) (Or.inl ⟨by rfl,?_⟩) ?_ ?_
          rotate_left
          ·intro w';go_simp
           with_reducible rfl
          rotate_left
          ·simp only[Act.put,sA,sZ,sC,i64_w,i32_w];rfl
          refine take_ (i:=0) (N:=some 49) (v:=?_) (a':=?_) #[true,false,true,false,false] rfl rfl (by kernel_rfl) (fun _ _ _ h=>h) (Or.inl ⟨by rfl,?_⟩) hHeld ?_ ?_
          rotate_left
          ·rintro w' ⟨s0,s1⟩;go_simp
           with_reducible rfl
          rotate_left
          ·simp only[Act.put,sA,sZ,sC,i64_w,i32_w];rfl
          refine take_ (i:=3) (N:=some 52) (v:=?_) (a':=?_) #[true,false,true,true,false] rfl rfl (by kernel_rfl) (fun _ _ _ h=>h) (Or.inl ⟨by rfl,?_⟩) hHeld ?_ ?_
          rotate_left
          ·rintro w' ⟨s0,s1⟩;go_simp
           with_reducible rfl
          rotate_left
          ·simp only[Act.put,sA,sZ,sC,i64_w,i32_w];rfl
          refine one_ (i:=1) (N:=some 50) #[true,true,true,true,false] rfl rfl (by kernel_rfl) (by decide) (fun K hK=>?_)
          refine goes_ Try.func29 (by kernel_rfl) rfl #[.agg #[.int .i64 a0_0,.slice A0_1 l0_1.length c0_1]] (by rfl) rfl rfl mA ?_
          with_reducible refine(Czw.calls k2 a0_0 _ _ l0_1 t388 _ ?side1 ?side2 A28.out).mono ?_
          (case side1=>exact cX (Kd.C_below HR0_1.out HB.out))
          (case side2=>exact HC0_1.out)
          rintro e w35 ⟨rfl,hb⟩;refine⟨_,rfl,?_⟩;have n0_:=aM (kB BK387 hb);have n1_:=aM (below_step pB hb);clear BK387;clear HB;have BK387:=n0_;have HB:=n1_;clear n0_ n1_;(try clear hb)
          (try clear hb2)
          (try clear hk)
          (try clear hi)
          refine hK.out _ _ ⟨(blk_cell BK387.out 0).trans rfl,(blk_cell BK387.out 1).trans rfl⟩ (fun hHeld=>?_)
          clear hK K;refine norm_ (a':=?_) ?_ ?_;rotate_left
          ·show Act.put _ (some 50) _=_
           simp only[Act.put,sA,sZ,sC,i64_w,i32_w];rfl
          refine pure_ (i:=4) (N:=some 53) (v:=?_) (a':=?_) #[true,true,true,true,true] rfl rfl (by kernel_rfl) (fun _ _ _ h=>h) (Or.inl ⟨by rfl,?_⟩) ?_ ?_
          rotate_left
          ·intro w';go_simp
           with_reducible rfl
          rotate_left
          ·simp only[Act.put,sA,sZ,sC,i64_w,i32_w];rfl
          refine done_ (by kernel_rfl) ?_
          try go_wp2
          go_ret
          exact⟨eW,pB⟩

end Go.Proofs.Ytpnfdhhfdidlmaa.Print
