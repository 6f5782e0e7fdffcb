import Derived.Test.YtnklckihalhlmaaPrint0
import Derived.Test.YtnklckihalhlmaaPrint39
namespace Go.Proofs.Ytnklckihalhlmaa.Print
open Go.RowKit Go.Proofs.YtnklckihalhlmaaW.PrintWords Go.Proofs.YtnklckihalhlmaaW.PrintLast Go.Proofs.YtnklckihalhlmaaW.PrintMore
attribute [local go_sem] max2_int min2_int max_two min_two max_three min_three max_four min_four
set_option linter.unusedVariables false
set_option maxRecDepth 100000
set_option maxHeartbeats 8000000
set_option linter.unusedSimpArgs false

def Azm.l0:Nat→List (S46)→Int→Int→Option (Int)
 | 0,_,_,_=>none
 | k+1,x0,x1,x5=>if 0≤(wrap64 (x5+1)) then(if(wrap64 (x5+1)) < (x0.length:Int) then(if((rd_T46 x0 (wrap64 (x5+1))).f0) < x1 then(Azm.l0 k x0 x1 (wrap64 (x5+1))) else(if 0≤x5 then(if x5 < (x0.length:Int) then((Bzz.f k (wrap64 (x1 - ((rd_T46 x0 x5).f0))) (wrap64 (((rd_T46 x0 (wrap64 (x5+1))).f1) - ((rd_T46 x0 x5).f1))) (wrap64 (((rd_T46 x0 (wrap64 (x5+1))).f0) - ((rd_T46 x0 x5).f0)))).bind fun t652=>(some (wrap64 (((rd_T46 x0 x5).f1)+t652)))) else(none)) else(none))) else(none)) else(none)
def Azm.f (k:Nat) (l0:List (S46)) (a1:Int):Option (Int):=Azm.l0 k l0 a1 0
theorem Azm.mono_l:∀ k,(∀ y0 y1 y2,LeO (Azm.l0 k y0 y1 y2) (Azm.l0 (k+1) y0 y1 y2))
 | 0=>fun _ _ _ r h=>by simp [Azm.l0] at h
 | k+1=>by
  have ih0:=Azm.mono_l k
  ·intro y0 y1 y2;unfold Azm.l0;with_reducible repeat' first|exact ih0 _ _ _|exact Bzz.mono _ _ _ _|exact LeO.refl _|exact LeO.none _|refine LeO.ite ?_ ?_|refine LeO.bind ?_ (fun _=>?_)
theorem Azm.mono:∀ a0 a1 k,LeO (Azm.f k a0 a1) (Azm.f (k+1) a0 a1):=by
 intro a0 a1 k;have ih0:=Azm.mono_l k;unfold Azm.f;with_reducible repeat' first|exact ih0 _ _ _|exact Bzz.mono _ _ _ _|exact LeO.refl _|exact LeO.none _|refine LeO.ite ?_ ?_|refine LeO.bind ?_ (fun _=>?_)
def Azm.T4:Bool × List (List Nat × List Nat):=(true,[([],[]),([],[]),([0,1],[0,1]),([2],[2]),([],[]),([],[]),([5],[5]),([4,6],[4,6]),([7],[7]),([],[]),([],[]),([9,3,0,1,2,3,9,10],[3,9]),([10,8,11,0,1,2,3,4,5,6,7,8,9,10,11],[8,10])])
def Azm.B4:List Nat:=[0,0,3,7,0,0,32,112,240,0,0,1551,4095]
theorem Azm.tab4:rtab .any (opsOf Try.f34 4)=Azm.T4:=by kernel_rfl
theorem Azm.bits4:waitsOk Azm.T4.2 Azm.B4=true:=by kernel_rfl
def Azm.T5:Bool × List (List Nat × List Nat):=(true,[([],[]),([0],[0]),([],[]),([],[]),([3],[3]),([2,4],[2,4]),([],[]),([6],[6]),([],[]),([8],[8]),([7,9],[7,9]),([],[]),([11],[11]),([],[]),([13],[13]),([12,14],[12,14]),([5,10,15],[5,10,15]),([1,16],[1,16]),([17,16,0,1,2,3,4,5,6,7,8,9,10,11,12,13,14,15,16,17],[17])])
def Azm.B5:List Nat:=[0,1,0,0,8,28,0,64,0,256,960,0,2048,0,8192,30720,65532,131071,262143]
theorem Azm.tab5:rtab .any (opsOf Try.f34 5)=Azm.T5:=by kernel_rfl
theorem Azm.bits5:waitsOk Azm.T5.2 Azm.B5=true:=by kernel_rfl
theorem Azm.calls (k:Nat) (A0:Option Addr) (c0:Nat) (l0:List (S46)) (a1:Int) (r:Int) (w:World) (hr0:Kd.C k46 w A0 l0.length l0) (hc0:l0.length≤c0) (h:Azm.f k l0 a1=some r) :
  Calls Try.prog 34 #[.slice A0 l0.length c0,.int .i64 a1] w fun e w'=>e=.returned (.int .i64 r)∧Below w.heap.size w w':=by
 have hu46:=Try.underlying46;have HR0:=aM hr0;have HC0:=aM hc0;clear hr0 hc0;have HB:=aM (Below.refl w.heap.size w);have H:(Azm.l0 k l0 a1 0)=some r:=h;clear h;have H':=aM H;clear H;go_enter Try.func34,Try.ntmps34
 go_wp2
 go_loopg [5] k (fun kq v5 w'=>∃ (x5_1:Int),v5=.int .i64 x5_1∧Aside0 (Azm.l0 kq l0 a1 x5_1=some r)∧Aside0 (kq≤k)∧Aside0 (Below w.heap.size w w'))
 case atStart=>exact⟨(0),sD,H',⟨Nat.le_refl _⟩,⟨pB⟩⟩
 case round =>
  clear H';try clear p2
  obtain⟨x5_1,rfl,HA,HK1,HB⟩:=hrel;cases gk with
  | zero=>exact absurd HA.out (by simp [Azm.l0])
  | succ k1 =>
   have H:=HA.out;clear HA;simp only[Azm.l0] at H;obtain⟨ji3,hji3⟩:∃ j_:Int,(wrap64 (x5_1+1))=j_:=⟨_,rfl⟩;replace H:(if 0≤(ji3) then(if(ji3) < (l0.length:Int) then(if((rd_T46 l0 (ji3)).f0) < a1 then(Azm.l0 k1 l0 a1 ji3) else(if 0≤x5_1 then(if x5_1 < (l0.length:Int) then((Bzz.f k1 (wrap64 (a1 - ((rd_T46 l0 x5_1).f0))) (wrap64 (((rd_T46 l0 (ji3)).f1) - ((rd_T46 l0 x5_1).f1))) (wrap64 (((rd_T46 l0 (ji3)).f0) - ((rd_T46 l0 x5_1).f0)))).bind fun t652=>(some (wrap64 (((rd_T46 l0 x5_1).f1)+t652)))) else(none)) else(none))) else(none)) else(none))=some r:=by first|(rw[hji3] at H;exact H)|(simp only[hji3] at H ⊢;exact H)
   have hji3w:(IntKind.i64.wrap (x5_1+1))=ji3:=(i64_w _).trans hji3;by_cases c4:0≤(ji3)
   ·rw[if_pos c4] at H;have c4b0:decide (0≤(ji3))=true:=dE c4;clear c4;by_cases c5:(ji3) < (l0.length:Int)
    ·rw[if_pos c5] at H;have c5b0:decide ((ji3) < (l0.length:Int))=true:=dE c5;clear c5;by_cases c6:((rd_T46 l0 (ji3)).f0) < a1
     ·rw[if_pos c6] at H;have c6b0:decide (((rd_T46 l0 (ji3)).f0) < a1)=true:=dE c6;clear c6;have H':=aM H;clear H;have p647:0≤((ji3):Int):=oE aS
      have q647:(ji3) < (l0.length:Int):=oE aS
      obtain⟨ad647,e647,hx647_0,hx647_1⟩:=at_T46 HR0.out (ji3) p647 q647;cases e647
      replace hx647_0:=(HB.out.cell (World.block_lt_of_cell? w _ hx647_0)).trans hx647_0;replace hx647_1:=(HB.out.cell (World.block_lt_of_cell? w _ hx647_1)).trans hx647_1;replace p647:=eq_true p647;replace q647:=eq_true q647;go_wp2
      go_roundg k1
      case measure=>have:=HK1.out;omega
      case rel=>exact⟨(ji3),(by first|rfl|(simp;done)|(simp only[← hji3] <;> (first|rfl|simp))|(simp [*];done)),H',⟨by have:=HK1.out;omega⟩,⟨pB⟩⟩
     ·rw[if_neg c6] at H;have c6b0:decide (((rd_T46 l0 (ji3)).f0) < a1)=false:=decide_eq_false c6;clear c6;by_cases c7:0≤x5_1
      ·rw[if_pos c7] at H;have c7b0:decide (0≤x5_1)=true:=dE c7;clear c7;by_cases c8:x5_1 < (l0.length:Int)
       ·rw[if_pos c8] at H;have c8b0:decide (x5_1 < (l0.length:Int))=true:=dE c8;clear c8;replace H:=bS H;obtain⟨t652,A90,H⟩:=H;replace H:(some (wrap64 (((rd_T46 l0 x5_1).f1)+t652)))=some r:=H;have A9:=aM A90;clear A90;obtain rfl:=Option.some.inj H;have p647:0≤((ji3):Int):=oE aS
        have q647:(ji3) < (l0.length:Int):=oE aS
        obtain⟨ad647,e647,hx647_0,hx647_1⟩:=at_T46 HR0.out (ji3) p647 q647;cases e647
        replace hx647_0:=(HB.out.cell (World.block_lt_of_cell? w _ hx647_0)).trans hx647_0;replace hx647_1:=(HB.out.cell (World.block_lt_of_cell? w _ hx647_1)).trans hx647_1;replace p647:=eq_true p647;replace q647:=eq_true q647;try go_wp2
        have n0_:=aM (below_drew1 HB.out);clear HB;have HB:=n0_;clear n0_;have p648:0≤(x5_1:Int):=oE aS
        have q648:x5_1 < (l0.length:Int):=oE aS
        obtain⟨ad648,e648,hx648_0,hx648_1⟩:=at_T46 HR0.out x5_1 p648 q648;have hw648_1:=hx648_1;have hw648_0:=hx648_0;obtain rfl:ad647=ad648:=(by injection e648)
        replace hx648_0:=(HB.out.cell (World.block_lt_of_cell? w _ hx648_0)).trans hx648_0;replace hx648_1:=(HB.out.cell (World.block_lt_of_cell? w _ hx648_1)).trans hx648_1;replace p648:=eq_true p648;replace q648:=eq_true q648;have p649:0≤((ji3):Int):=oE aS
        have q649:(ji3) < (l0.length:Int):=oE aS
        obtain⟨ad649,e649,hx649_0,hx649_1⟩:=at_T46 HR0.out (ji3) p649 q649;have hw649_1:=hx649_1;have hw649_0:=hx649_0;obtain rfl:ad647=ad649:=(by injection e649)
        replace hx649_0:=(HB.out.cell (World.block_lt_of_cell? w _ hx649_0)).trans hx649_0;replace hx649_1:=(HB.out.cell (World.block_lt_of_cell? w _ hx649_1)).trans hx649_1;replace p649:=eq_true p649;replace q649:=eq_true q649;refine start_ (n:=13) (S:=fun w'=>True) (ds:=[]) #[false,false,false,false,false,false,false,false,false,false,false,false,false] (by kernel_rfl) rfl rfl trivial (fun hHeld=>?_);refine with_tabW Azm.tab4 Azm.bits4 (fun HT_ HW_=>?_)
        generalize wr.drew=w10 at HB hx648_0 hx648_1 hx649_0 hx649_1 hHeld ⊢;refine pU (i:=0) (N:=some 18) HT_ #[true,false,false,false,false,false,false,false,false,false,false,false,false] ?_;refine pU (i:=1) (N:=some 19) HT_ #[true,true,false,false,false,false,false,false,false,false,false,false,false] ?_;refine pU (i:=4) (N:=some 22) HT_ #[true,true,false,false,true,false,false,false,false,false,false,false,false] ?_;refine pU (i:=5) (N:=some 23) HT_ #[true,true,false,false,true,true,false,false,false,false,false,false,false] ?_;refine inv_at [2,3,6,7,8,9,10,11,12] (fun a0_ b a w'=>∃ (gb650:Nat) (gb651:Nat) (m9_:Value) (m10_:Value),a=putSel a0_ b [(2,20,.pointer (some (ad647.add ((x5_1).toNat * 2)))),(3,21,.agg #[.int .i64 ((rd_T46 l0 x5_1).f0),.int .i64 ((rd_T46 l0 x5_1).f1)]),(6,24,.int .i64 ji3),(7,25,.pointer (some (ad647.add (((ji3)).toNat * 2)))),(8,26,.agg #[.int .i64 ((rd_T46 l0 (ji3)).f0),.int .i64 ((rd_T46 l0 (ji3)).f1)]),(9,6,m9_),(10,7,m10_)]∧(Below w.heap.size w w')∧(b 9=true→b 10=true→gb651≠gb650)∧(b 9=true→b 10=true→gb650≠gb651)∧(b 9=true→b 11=false→w'.heap[gb650]?=some (.cells #[.int .i64 0,.int .i64 0] 46 (0,0)))∧(b 9=true→w.heap.size≤gb650)∧(b 9=true→w.heap.size≤gb650)∧(b 10=true→b 12=false→w'.heap[gb651]?=some (.cells #[.int .i64 0,.int .i64 0] 46 (0,0)))∧(b 10=true→w.heap.size≤gb651)∧(b 10=true→w.heap.size≤gb651)∧(b 11=true→w'.heap[gb650]?=some (.cells #[.int .i64 ((rd_T46 l0 x5_1).f0),.int .i64 ((rd_T46 l0 x5_1).f1)] 46 (0,0)))∧(b 12=true→w'.heap[gb651]?=some (.cells #[.int .i64 ((rd_T46 l0 (ji3)).f0),.int .i64 ((rd_T46 l0 (ji3)).f1)] 46 (0,0)))∧(b 9=true→(m9_:Value)=.pointer (some ⟨gb650,0,none⟩))∧(b 10=true→(m10_:Value)=.pointer (some ⟨gb651,0,none⟩))) HT_.out HW_.out (by kernel_rfl) (by kernel_rfl) ?_ ?_ ?_
        ·exact⟨0,0,.bool false,.bool false,by simp only[putSel,Bool.false_eq_true,if_false],HB.out,fun h_=>absurd h_ (by decide),fun h_=>absurd h_ (by decide),fun h_=>absurd h_ (by decide),fun h_=>absurd h_ (by decide),fun h_=>absurd h_ (by decide),fun h_=>absurd h_ (by decide),fun h_=>absurd h_ (by decide),fun h_=>absurd h_ (by decide),fun h_=>absurd h_ (by decide),fun h_=>absurd h_ (by decide),fun h_=>absurd h_ (by decide),fun h_=>absurd h_ (by decide)⟩
        ·skip
         clear HB;refine steps_cons ?_ ?_
         ·rintro b a w' ⟨gb650,gb651,m9_,m10_,ha,Q_HB,Q_NB651_650,Q_NB650_651,Q_BK650,Q_GW650,Q_GE650,Q_BK651,Q_GW651,Q_GE651,Q_BK650_e11,Q_BK651_e12,Q_X9_,Q_X10_⟩ hb_ hon hoff;refine⟨_,rfl,fun K hK=>?_⟩
          have e18:a.tmps[18]?=some (.slice (some ad647) l0.length c0):=by rw[ha];exact(putSel_off rfl).trans rfl
          have e19:a.tmps[19]?=some (.int .i64 x5_1):=by rw[ha];exact(putSel_off rfl).trans rfl
          replace ha:=aM ha;have HB:=aM Q_HB;have hs0_:w'.cell? (ad647.add ((x5_1).toNat * 2))=some (.int .i64 ((rd_T46 l0 x5_1).f0)):=((HB.out.cell (World.block_lt_of_cell? w _ hw648_0)).trans hw648_0);have hs1_:w'.cell? ⟨(ad647.add ((x5_1).toNat * 2)).block,(ad647.add ((x5_1).toNat * 2)).off+1,none⟩=some (.int .i64 ((rd_T46 l0 x5_1).f1)):=((HB.out.cell (World.block_lt_of_cell? w _ hw648_1)).trans hw648_1);refine value_ (w1:=w') (v:=.pointer (some (ad647.add ((x5_1).toNat * 2)))) (by rfl) rfl ?_ ?_
          ·go_simp
           (try simp only[i64_w])
           try rfl
          refine hK.out _ _ ⟨gb650,gb651,m9_,m10_,(by rw[ha.out];exact putSel_upk 0 hb_ rfl rfl rfl),Q_HB,Q_NB651_650,Q_NB650_651,Q_BK650,Q_GW650,Q_GE650,Q_BK651,Q_GW651,Q_GE651,fun h0_=>absurd ((hoff 11 (by kernel_rfl)).symm.trans h0_) (by decide),fun h0_=>absurd ((hoff 12 (by kernel_rfl)).symm.trans h0_) (by decide),Q_X9_,Q_X10_⟩
         refine steps_cons ?_ ?_
         ·rintro b a w' ⟨gb650,gb651,m9_,m10_,ha,Q_HB,Q_NB651_650,Q_NB650_651,Q_BK650,Q_GW650,Q_GE650,Q_BK651,Q_GW651,Q_GE651,Q_BK650_e11,Q_BK651_e12,Q_X9_,Q_X10_⟩ hb_ hon hoff;refine⟨_,rfl,fun K hK=>?_⟩
          have e20:a.tmps[20]?=some (.pointer (some (ad647.add ((x5_1).toNat * 2)))):=by rw[ha];exact putSel_on (e:=(2,20,.pointer (some (ad647.add ((x5_1).toNat * 2))))) 0 rfl rfl (hon 2 (by kernel_rfl)) rfl
          replace ha:=aM ha;have HB:=aM Q_HB;have hs0_:w'.cell? (ad647.add ((x5_1).toNat * 2))=some (.int .i64 ((rd_T46 l0 x5_1).f0)):=((HB.out.cell (World.block_lt_of_cell? w _ hw648_0)).trans hw648_0);have hs1_:w'.cell? ⟨(ad647.add ((x5_1).toNat * 2)).block,(ad647.add ((x5_1).toNat * 2)).off+1,none⟩=some (.int .i64 ((rd_T46 l0 x5_1).f1)):=((HB.out.cell (World.block_lt_of_cell? w _ hw648_1)).trans hw648_1);refine value_ (w1:=w') (v:=.agg #[.int .i64 ((rd_T46 l0 x5_1).f0),.int .i64 ((rd_T46 l0 x5_1).f1)]) (by rfl) rfl ?_ ?_
          ·go_simp
           (try simp only[i64_w])
           try rfl
          refine hK.out _ _ ⟨gb650,gb651,m9_,m10_,(by rw[ha.out];exact putSel_upk 1 hb_ rfl rfl rfl),Q_HB,Q_NB651_650,Q_NB650_651,Q_BK650,Q_GW650,Q_GE650,Q_BK651,Q_GW651,Q_GE651,fun h0_=>absurd ((hoff 11 (by kernel_rfl)).symm.trans h0_) (by decide),fun h0_=>absurd ((hoff 12 (by kernel_rfl)).symm.trans h0_) (by decide),Q_X9_,Q_X10_⟩
         refine steps_cons ?_ ?_
         ·rintro b a w' ⟨gb650,gb651,m9_,m10_,ha,Q_HB,Q_NB651_650,Q_NB650_651,Q_BK650,Q_GW650,Q_GE650,Q_BK651,Q_GW651,Q_GE651,Q_BK650_e11,Q_BK651_e12,Q_X9_,Q_X10_⟩ hb_ hon hoff;refine⟨_,rfl,fun K hK=>?_⟩
          have e23:a.tmps[23]?=some (.int .i64 x5_1):=by rw[ha];exact(putSel_off rfl).trans rfl
          replace ha:=aM ha;have HB:=aM Q_HB;refine value_ (w1:=w') (v:=.int .i64 ji3) (by rfl) rfl ?_ ?_
          ·go_simp
           (try simp only[i64_w])
           try rfl
          refine hK.out _ _ ⟨gb650,gb651,m9_,m10_,(by rw[ha.out];exact putSel_upk 2 hb_ rfl rfl rfl),Q_HB,Q_NB651_650,Q_NB650_651,Q_BK650,Q_GW650,Q_GE650,Q_BK651,Q_GW651,Q_GE651,Q_BK650_e11,fun h0_=>absurd ((hoff 12 (by kernel_rfl)).symm.trans h0_) (by decide),Q_X9_,Q_X10_⟩
         refine steps_cons ?_ ?_
         ·rintro b a w' ⟨gb650,gb651,m9_,m10_,ha,Q_HB,Q_NB651_650,Q_NB650_651,Q_BK650,Q_GW650,Q_GE650,Q_BK651,Q_GW651,Q_GE651,Q_BK650_e11,Q_BK651_e12,Q_X9_,Q_X10_⟩ hb_ hon hoff;refine⟨_,rfl,fun K hK=>?_⟩
          have e22:a.tmps[22]?=some (.slice (some ad647) l0.length c0):=by rw[ha];exact(putSel_off rfl).trans rfl
          have e24:a.tmps[24]?=some (.int .i64 ji3):=by rw[ha];exact putSel_on (e:=(6,24,.int .i64 ji3)) 2 rfl rfl (hon 6 (by kernel_rfl)) rfl
          replace ha:=aM ha;have HB:=aM Q_HB;have hs2_:w'.cell? (ad647.add (((ji3)).toNat * 2))=some (.int .i64 ((rd_T46 l0 (ji3)).f0)):=((HB.out.cell (World.block_lt_of_cell? w _ hw649_0)).trans hw649_0);have hs3_:w'.cell? ⟨(ad647.add (((ji3)).toNat * 2)).block,(ad647.add (((ji3)).toNat * 2)).off+1,none⟩=some (.int .i64 ((rd_T46 l0 (ji3)).f1)):=((HB.out.cell (World.block_lt_of_cell? w _ hw649_1)).trans hw649_1);refine value_ (w1:=w') (v:=.pointer (some (ad647.add (((ji3)).toNat * 2)))) (by rfl) rfl ?_ ?_
          ·go_simp
           (try simp only[i64_w])
           try rfl
          refine hK.out _ _ ⟨gb650,gb651,m9_,m10_,(by rw[ha.out];exact putSel_upk 3 hb_ rfl rfl rfl),Q_HB,Q_NB651_650,Q_NB650_651,Q_BK650,Q_GW650,Q_GE650,Q_BK651,Q_GW651,Q_GE651,Q_BK650_e11,fun h0_=>absurd ((hoff 12 (by kernel_rfl)).symm.trans h0_) (by decide),Q_X9_,Q_X10_⟩
         refine steps_cons ?_ ?_
         ·rintro b a w' ⟨gb650,gb651,m9_,m10_,ha,Q_HB,Q_NB651_650,Q_NB650_651,Q_BK650,Q_GW650,Q_GE650,Q_BK651,Q_GW651,Q_GE651,Q_BK650_e11,Q_BK651_e12,Q_X9_,Q_X10_⟩ hb_ hon hoff;refine⟨_,rfl,fun K hK=>?_⟩
          have e25:a.tmps[25]?=some (.pointer (some (ad647.add (((ji3)).toNat * 2)))):=by rw[ha];exact putSel_on (e:=(7,25,.pointer (some (ad647.add (((ji3)).toNat * 2))))) 3 rfl rfl (hon 7 (by kernel_rfl)) rfl
          replace ha:=aM ha;have HB:=aM Q_HB;have hs2_:w'.cell? (ad647.add (((ji3)).toNat * 2))=some (.int .i64 ((rd_T46 l0 (ji3)).f0)):=((HB.out.cell (World.block_lt_of_cell? w _ hw649_0)).trans hw649_0);have hs3_:w'.cell? ⟨(ad647.add (((ji3)).toNat * 2)).block,(ad647.add (((ji3)).toNat * 2)).off+1,none⟩=some (.int .i64 ((rd_T46 l0 (ji3)).f1)):=((HB.out.cell (World.block_lt_of_cell? w _ hw649_1)).trans hw649_1);refine value_ (w1:=w') (v:=.agg #[.int .i64 ((rd_T46 l0 (ji3)).f0),.int .i64 ((rd_T46 l0 (ji3)).f1)]) (by rfl) rfl ?_ ?_
          ·go_simp
           (try simp only[i64_w])
           try rfl
          refine hK.out _ _ ⟨gb650,gb651,m9_,m10_,(by rw[ha.out];exact putSel_upk 4 hb_ rfl rfl rfl),Q_HB,Q_NB651_650,Q_NB650_651,Q_BK650,Q_GW650,Q_GE650,Q_BK651,Q_GW651,Q_GE651,Q_BK650_e11,fun h0_=>absurd ((hoff 12 (by kernel_rfl)).symm.trans h0_) (by decide),Q_X9_,Q_X10_⟩
         refine steps_cons ?_ ?_
         ·rintro b a w' ⟨gb650,gb651,m9_,m10_,ha,Q_HB,Q_NB651_650,Q_NB650_651,Q_BK650,Q_GW650,Q_GE650,Q_BK651,Q_GW651,Q_GE651,Q_BK650_e11,Q_BK651_e12,Q_X9_,Q_X10_⟩ hb_ hon hoff;refine⟨_,rfl,fun K hK=>?_⟩
          replace ha:=aM ha;have HB:=aM Q_HB;refine box_step ?hg (N:=6) ?hd (cs:=#[.int .i64 0,.int .i64 0]) (t:=46) ?hr ?_;(case hd=>rfl);(case hg=>rfl);(case hr=>first|(go_simp;done)|(go_simp;rfl))
          intro gb650 hg w11 hbox hb;have n0_:=aM (below_step pB hb);have n1_:=aM (hbox);have n2_:=aM (gW hg:w.heap.size≤gb650);have n3_:=aM (gW hg:w.heap.size≤gb650);have z_NB651_650:=fun(h0_:up b 9 9=true) (h1_:up b 9 10=true)=>(show gb651≠gb650 from(by first|exact nL hg BK651|(cases h12_:b 12 with|false=>exact nL hg ⟨Q_BK651 h1_ h12_⟩|true=>exact nL hg ⟨Q_BK651_e12 h12_⟩):gb651≠gb650))
          have z_NB650_651:=fun(h0_:up b 9 9=true) (h1_:up b 9 10=true)=>(show gb650≠gb651 from(by first|exact nG hg BK651|(cases h12_:b 12 with|false=>exact nG hg ⟨Q_BK651 h1_ h12_⟩|true=>exact nG hg ⟨Q_BK651_e12 h12_⟩):gb650≠gb651))
          have z_BK651:=fun(h0_:b 10=true) (h1_:b 12=false)=>(show w11.heap[gb651]?=some (.cells #[.int .i64 0,.int .i64 0] 46 (0,0)) from by first|exact(blk_below (g:=gb651) (o:=.cells #[.int .i64 0,.int .i64 0] 46 (0,0)) (by(with_reducible repeat(first|refine blk_drewN ?_ _|refine blk_drew ?_|refine blk_alloc ?_ _));exact(Q_BK651 h0_ h1_)) hb))
          clear HB;have HB:=n0_;have BK650:=n1_;have GW650:=n2_;have GE650:=n3_;clear n0_ n1_ n2_ n3_;clear hb hbox hg;refine hK.out _ _ ⟨gb650,gb651,(.pointer (some ⟨gb650,0,none⟩)),m10_,(by rw[ha.out];exact putSel_upk 5 hb_ rfl rfl rfl),pB,z_NB651_650,z_NB650_651,fun _ _=>(kW BK650),fun _=>GW650.out,fun _=>GE650.out,z_BK651,Q_GW651,Q_GE651,fun h0_=>absurd ((hoff 11 (by kernel_rfl)).symm.trans h0_) (by decide),fun h0_=>absurd ((hoff 12 (by kernel_rfl)).symm.trans h0_) (by decide),fun _=>rfl,Q_X10_⟩
         refine steps_cons ?_ ?_
         ·rintro b a w' ⟨gb650,gb651,m9_,m10_,ha,Q_HB,Q_NB651_650,Q_NB650_651,Q_BK650,Q_GW650,Q_GE650,Q_BK651,Q_GW651,Q_GE651,Q_BK650_e11,Q_BK651_e12,Q_X9_,Q_X10_⟩ hb_ hon hoff;refine⟨_,rfl,fun K hK=>?_⟩
          replace ha:=aM ha;have HB:=aM Q_HB;refine box_step ?hg (N:=7) ?hd (cs:=#[.int .i64 0,.int .i64 0]) (t:=46) ?hr ?_;(case hd=>rfl);(case hg=>rfl);(case hr=>first|(go_simp;done)|(go_simp;rfl))
          intro gb651 hg w11 hbox hb;have n0_:=aM (below_step pB hb);have n1_:=aM (hbox);have n2_:=aM (gW hg:w.heap.size≤gb651);have n3_:=aM (gW hg:w.heap.size≤gb651);have z_NB651_650:=fun(h0_:up b 10 9=true) (h1_:up b 10 10=true)=>(show gb651≠gb650 from(by first|exact nG hg BK650|(cases h12_:b 11 with|false=>exact nG hg ⟨Q_BK650 h0_ h12_⟩|true=>exact nG hg ⟨Q_BK650_e11 h12_⟩):gb651≠gb650))
          have z_NB650_651:=fun(h0_:up b 10 9=true) (h1_:up b 10 10=true)=>(show gb650≠gb651 from(by first|exact nL hg BK650|(cases h12_:b 11 with|false=>exact nL hg ⟨Q_BK650 h0_ h12_⟩|true=>exact nL hg ⟨Q_BK650_e11 h12_⟩):gb650≠gb651))
          have z_BK650:=fun(h0_:b 9=true) (h1_:b 11=false)=>(show w11.heap[gb650]?=some (.cells #[.int .i64 0,.int .i64 0] 46 (0,0)) from by first|exact(blk_below (g:=gb650) (o:=.cells #[.int .i64 0,.int .i64 0] 46 (0,0)) (by(with_reducible repeat(first|refine blk_drewN ?_ _|refine blk_drew ?_|refine blk_alloc ?_ _));exact(Q_BK650 h0_ h1_)) hb))
          clear HB;have HB:=n0_;have BK651:=n1_;have GW651:=n2_;have GE651:=n3_;clear n0_ n1_ n2_ n3_;clear hb hbox hg;refine hK.out _ _ ⟨gb650,gb651,m9_,(.pointer (some ⟨gb651,0,none⟩)),(by rw[ha.out];exact putSel_upk 6 hb_ rfl rfl rfl),pB,z_NB651_650,z_NB650_651,z_BK650,Q_GW650,Q_GE650,fun _ _=>(kW BK651),fun _=>GW651.out,fun _=>GE651.out,fun h0_=>absurd ((hoff 11 (by kernel_rfl)).symm.trans h0_) (by decide),fun h0_=>absurd ((hoff 12 (by kernel_rfl)).symm.trans h0_) (by decide),Q_X9_,fun _=>rfl⟩
         refine steps_cons ?_ ?_
         ·rintro b a w' ⟨gb650,gb651,m9_,m10_,ha,Q_HB,Q_NB651_650,Q_NB650_651,Q_BK650,Q_GW650,Q_GE650,Q_BK651,Q_GW651,Q_GE651,Q_BK650_e11,Q_BK651_e12,Q_X9_,Q_X10_⟩ hb_ hon hoff;refine⟨_,rfl,fun K hK=>?_⟩
          have e6:a.tmps[6]?=some (m9_):=by rw[ha];exact putSel_on (e:=(9,6,m9_)) 5 rfl rfl (hon 9 (by kernel_rfl)) rfl
          rw[Q_X9_ (hon 9 (by kernel_rfl))] at e6
          have e21:a.tmps[21]?=some (.agg #[.int .i64 ((rd_T46 l0 x5_1).f0),.int .i64 ((rd_T46 l0 x5_1).f1)]):=by rw[ha];exact putSel_on (e:=(3,21,.agg #[.int .i64 ((rd_T46 l0 x5_1).f0),.int .i64 ((rd_T46 l0 x5_1).f1)])) 1 rfl rfl (hon 3 (by kernel_rfl)) rfl
          replace ha:=aM ha;have HB:=aM Q_HB;have NB651_650:=aM (Q_NB651_650 (hon 9 (by kernel_rfl)) (hon 10 (by kernel_rfl)))
          have NB650_651:=aM (Q_NB650_651 (hon 9 (by kernel_rfl)) (hon 10 (by kernel_rfl)))
          have BK650:=aM (Q_BK650 (hon 9 (by kernel_rfl)) hb_)
          have GW650:=aM (Q_GW650 (hon 9 (by kernel_rfl)))
          have GE650:=aM (Q_GE650 (hon 9 (by kernel_rfl)))
          have BK651:=aM (Q_BK651 (hon 10 (by kernel_rfl)) (hoff 12 (by kernel_rfl)))
          have GW651:=aM (Q_GW651 (hon 10 (by kernel_rfl)))
          have GE651:=aM (Q_GE651 (hon 10 (by kernel_rfl)))
          have hs14:w'.cell? ⟨gb650,0,none⟩=some (.int .i64 0):=(blk_cell BK650.out 0).trans rfl;have hfs14:=blk_frozen BK650.out 0;have hns14_1:=NB651_650.out;have hms14_1:=NB650_651.out;have hs15:w'.cell? ⟨gb650,1,none⟩=some (.int .i64 0):=(blk_cell BK650.out 1).trans rfl;have hfs15:=blk_frozen BK650.out 1;have hns15_1:=NB651_650.out;have hms15_1:=NB650_651.out;refine skip_ (w1:=?_) (by rfl) rfl ?_ ?_
          rotate_left
          ·go_simp
           rfl
          refine hK.out _ _ ⟨gb650,gb651,m9_,m10_,(by rw[ha.out];exact putSel_none (v:=undef) rfl),pB,fun _ _=>NB651_650.out,fun _ _=>NB650_651.out,fun _ h1_=>absurd ((up_self b 11).symm.trans h1_) (by decide),fun _=>GW650.out,fun _=>GE650.out,fun _ _=>(by refine bD ?_;refine blk_far ?_ NB651_650.out _;refine bD ?_;refine blk_far ?_ NB651_650.out _;(with_reducible repeat(first|refine blk_drewN ?_ _|refine blk_drew ?_|refine blk_alloc ?_ _));exact BK651.out),fun _=>GW651.out,fun _=>GE651.out,fun _=>(by refine bD ?_;refine blk_put (cs:=#[.int .i64 ((rd_T46 l0 x5_1).f0),.int .i64 0]) ?_ 1 _ rfl;refine bD ?_;refine blk_put (cs:=#[.int .i64 0,.int .i64 0]) ?_ 0 _ rfl;(with_reducible repeat(first|refine blk_drewN ?_ _|refine blk_drew ?_|refine blk_alloc ?_ _));exact BK650.out),fun h0_=>absurd ((hoff 12 (by kernel_rfl)).symm.trans h0_) (by decide),Q_X9_,Q_X10_⟩
         refine steps_cons ?_ ?_
         ·rintro b a w' ⟨gb650,gb651,m9_,m10_,ha,Q_HB,Q_NB651_650,Q_NB650_651,Q_BK650,Q_GW650,Q_GE650,Q_BK651,Q_GW651,Q_GE651,Q_BK650_e11,Q_BK651_e12,Q_X9_,Q_X10_⟩ hb_ hon hoff;refine⟨_,rfl,fun K hK=>?_⟩
          have e7:a.tmps[7]?=some (m10_):=by rw[ha];exact putSel_on (e:=(10,7,m10_)) 6 rfl rfl (hon 10 (by kernel_rfl)) rfl
          rw[Q_X10_ (hon 10 (by kernel_rfl))] at e7
          have e26:a.tmps[26]?=some (.agg #[.int .i64 ((rd_T46 l0 (ji3)).f0),.int .i64 ((rd_T46 l0 (ji3)).f1)]):=by rw[ha];exact putSel_on (e:=(8,26,.agg #[.int .i64 ((rd_T46 l0 (ji3)).f0),.int .i64 ((rd_T46 l0 (ji3)).f1)])) 4 rfl rfl (hon 8 (by kernel_rfl)) rfl
          replace ha:=aM ha;have HB:=aM Q_HB;have NB651_650:=aM (Q_NB651_650 (hon 9 (by kernel_rfl)) (hon 10 (by kernel_rfl)))
          have NB650_651:=aM (Q_NB650_651 (hon 9 (by kernel_rfl)) (hon 10 (by kernel_rfl)))
          have GW650:=aM (Q_GW650 (hon 9 (by kernel_rfl)))
          have GE650:=aM (Q_GE650 (hon 9 (by kernel_rfl)))
          have BK651:=aM (Q_BK651 (hon 10 (by kernel_rfl)) hb_)
          have GW651:=aM (Q_GW651 (hon 10 (by kernel_rfl)))
          have GE651:=aM (Q_GE651 (hon 10 (by kernel_rfl)))
          have BK650:=aM (Q_BK650_e11 (hon 11 (by kernel_rfl)))
          have hs16:w'.cell? ⟨gb651,0,none⟩=some (.int .i64 0):=(blk_cell BK651.out 0).trans rfl;have hfs16:=blk_frozen BK651.out 0;have hns16_0:=NB650_651.out;have hms16_0:=NB651_650.out;have hs17:w'.cell? ⟨gb651,1,none⟩=some (.int .i64 0):=(blk_cell BK651.out 1).trans rfl;have hfs17:=blk_frozen BK651.out 1;have hns17_0:=NB650_651.out;have hms17_0:=NB651_650.out;refine skip_ (w1:=?_) (by rfl) rfl ?_ ?_
          rotate_left
          ·go_simp
           rfl
          refine hK.out _ _ ⟨gb650,gb651,m9_,m10_,(by rw[ha.out];exact putSel_none (v:=undef) rfl),pB,fun _ _=>NB651_650.out,fun _ _=>NB650_651.out,fun _ h1_=>absurd ((hon 11 (by kernel_rfl)).symm.trans h1_) (by decide),fun _=>GW650.out,fun _=>GE650.out,fun _ h1_=>absurd ((up_self b 12).symm.trans h1_) (by decide),fun _=>GW651.out,fun _=>GE651.out,fun _=>(by refine bD ?_;refine blk_far ?_ NB650_651.out _;refine bD ?_;refine blk_far ?_ NB650_651.out _;(with_reducible repeat(first|refine blk_drewN ?_ _|refine blk_drew ?_|refine blk_alloc ?_ _));exact BK650.out),fun _=>(by refine bD ?_;refine blk_put (cs:=#[.int .i64 ((rd_T46 l0 (ji3)).f0),.int .i64 0]) ?_ 1 _ rfl;refine bD ?_;refine blk_put (cs:=#[.int .i64 0,.int .i64 0]) ?_ 0 _ rfl;(with_reducible repeat(first|refine blk_drewN ?_ _|refine blk_drew ?_|refine blk_alloc ?_ _));exact BK651.out),Q_X9_,Q_X10_⟩
         exact steps_nil
        rintro b a w17 hall ⟨gb650,gb651,m9_,m10_,ha,Q_HB,Q_NB651_650,Q_NB650_651,Q_BK650,Q_GW650,Q_GE650,Q_BK651,Q_GW651,Q_GE651,Q_BK650_e11,Q_BK651_e12,Q_X9_,Q_X10_⟩;clear HB;have hb2_:=hall 2 (by kernel_rfl)
        have hb3_:=hall 3 (by kernel_rfl)
        have hb6_:=hall 6 (by kernel_rfl)
        have hb7_:=hall 7 (by kernel_rfl)
        have hb8_:=hall 8 (by kernel_rfl)
        have hb9_:=hall 9 (by kernel_rfl)
        have hb10_:=hall 10 (by kernel_rfl)
        have hb11_:=hall 11 (by kernel_rfl)
        have hb12_:=hall 12 (by kernel_rfl)
        subst ha;obtain rfl:=(Q_X9_ hb9_).symm;obtain rfl:=(Q_X10_ hb10_).symm;simp only[putSel,hb2_,hb3_,hb6_,hb7_,hb8_,hb9_,hb10_,hb11_,hb12_,if_true,Act.put,sA,sZ,sC];have HB:=aM Q_HB;clear Q_HB;have NB651_650:=aM (Q_NB651_650 hb9_ hb10_);clear Q_NB651_650;have NB650_651:=aM (Q_NB650_651 hb9_ hb10_);clear Q_NB650_651;clear Q_BK650;have GW650:=aM (Q_GW650 hb9_);clear Q_GW650;have GE650:=aM (Q_GE650 hb9_);clear Q_GE650;clear Q_BK651;have GW651:=aM (Q_GW651 hb10_);clear Q_GW651;have GE651:=aM (Q_GE651 hb10_);clear Q_GE651;have BK650:=aM (Q_BK650_e11 hb11_);clear Q_BK650_e11;have BK651:=aM (Q_BK651_e12 hb12_);clear Q_BK651_e12;clear hall hb2_ hb3_ hb6_ hb7_ hb8_ hb9_ hb10_ hb11_ hb12_;try go_wp2
        have n0_:=aM (blk_drew BK650.out);have n1_:=aM (blk_drew BK651.out);have n2_:=aM (below_drew1 HB.out);clear BK650;clear BK651;clear HB;have BK650:=n0_;have BK651:=n1_;have HB:=n2_;clear n0_ n1_ n2_;refine start_ (n:=19) (S:=fun w'=>w'.cell? ⟨gb650,0,none⟩=some (.int .i64 ((rd_T46 l0 x5_1).f0))∧w'.cell? ⟨gb650,1,none⟩=some (.int .i64 ((rd_T46 l0 x5_1).f1))∧w'.cell? ⟨gb651,0,none⟩=some (.int .i64 ((rd_T46 l0 (ji3)).f0))∧w'.cell? ⟨gb651,1,none⟩=some (.int .i64 ((rd_T46 l0 (ji3)).f1))) (ds:=[]) #[false,false,false,false,false,false,false,false,false,false,false,false,false,false,false,false,false,false,false] (by kernel_rfl) rfl rfl ⟨(blk_cell BK650.out 0).trans rfl,(blk_cell BK650.out 1).trans rfl,(blk_cell BK651.out 0).trans rfl,(blk_cell BK651.out 1).trans rfl⟩ (fun hHeld=>?_);refine with_tabW Azm.tab5 Azm.bits5 (fun HT_ HW_=>?_)
        generalize w17.drew=w18 at BK650 BK651 HB hHeld ⊢;refine pU (i:=0) (N:=some 27) HT_ #[true,false,false,false,false,false,false,false,false,false,false,false,false,false,false,false,false,false,false] ?_;refine pU (i:=2) (N:=some 29) HT_ #[true,false,true,false,false,false,false,false,false,false,false,false,false,false,false,false,false,false,false] ?_;refine pU (i:=3) (N:=some 30) HT_ #[true,false,true,true,false,false,false,false,false,false,false,false,false,false,false,false,false,false,false] ?_;refine pU (i:=6) (N:=some 33) HT_ #[true,false,true,true,false,false,true,false,false,false,false,false,false,false,false,false,false,false,false] ?_;refine pU (i:=8) (N:=some 35) HT_ #[true,false,true,true,false,false,true,false,true,false,false,false,false,false,false,false,false,false,false] ?_;refine pU (i:=11) (N:=some 38) HT_ #[true,false,true,true,false,false,true,false,true,false,false,true,false,false,false,false,false,false,false] ?_;refine pU (i:=13) (N:=some 40) HT_ #[true,false,true,true,false,false,true,false,true,false,false,true,false,true,false,false,false,false,false] ?_;refine take_ (i:=1) (N:=some 28) (v:=?_) (a':=?_) #[true,true,true,true,false,false,true,false,true,false,false,true,false,true,false,false,false,false,false] rfl rfl (take_ofW HT_.out HW_.out (by kernel_rfl)) (fun _ _ _ h=>h) (Or.inl ⟨by rfl,?_⟩) hHeld ?_ ?_
        rotate_left
        ·rintro w' ⟨s0,s1,s2,s3⟩;go_simp
         with_reducible rfl
        rotate_left
        ·simp only[Act.put,sA,sZ,sC,i64_w,i32_w];rfl
        refine take_ (i:=4) (N:=some 31) (v:=?_) (a':=?_) #[true,true,true,true,true,false,true,false,true,false,false,true,false,true,false,false,false,false,false] rfl rfl (take_ofW HT_.out HW_.out (by kernel_rfl)) (fun _ _ _ h=>h) (Or.inl ⟨by rfl,?_⟩) hHeld ?_ ?_
        rotate_left
        ·rintro w' ⟨s0,s1,s2,s3⟩;go_simp
         with_reducible rfl
        rotate_left
        ·simp only[Act.put,sA,sZ,sC,i64_w,i32_w];rfl
        refine pU (i:=5) (N:=some 32) HT_ #[true,true,true,true,true,true,true,false,true,false,false,true,false,true,false,false,false,false,false] ?_;refine take_ (i:=7) (N:=some 34) (v:=?_) (a':=?_) #[true,true,true,true,true,true,true,true,true,false,false,true,false,true,false,false,false,false,false] rfl rfl (take_ofW HT_.out HW_.out (by kernel_rfl)) (fun _ _ _ h=>h) (Or.inl ⟨by rfl,?_⟩) hHeld ?_ ?_
        rotate_left
        ·rintro w' ⟨s0,s1,s2,s3⟩;go_simp
         with_reducible rfl
        rotate_left
        ·simp only[Act.put,sA,sZ,sC,i64_w,i32_w];rfl
        refine take_ (i:=9) (N:=some 36) (v:=?_) (a':=?_) #[true,true,true,true,true,true,true,true,true,true,false,true,false,true,false,false,false,false,false] rfl rfl (take_ofW HT_.out HW_.out (by kernel_rfl)) (fun _ _ _ h=>h) (Or.inl ⟨by rfl,?_⟩) hHeld ?_ ?_
        rotate_left
        ·rintro w' ⟨s0,s1,s2,s3⟩;go_simp
         with_reducible rfl
        rotate_left
        ·simp only[Act.put,sA,sZ,sC,i64_w,i32_w];rfl
        refine pU (i:=10) (N:=some 37) HT_ #[true,true,true,true,true,true,true,true,true,true,true,true,false,true,false,false,false,false,false] ?_;refine take_ (i:=12) (N:=some 39) (v:=?_) (a':=?_) #[true,true,true,true,true,true,true,true,true,true,true,true,true,true,false,false,false,false,false] rfl rfl (take_ofW HT_.out HW_.out (by kernel_rfl)) (fun _ _ _ h=>h) (Or.inl ⟨by rfl,?_⟩) hHeld ?_ ?_
        rotate_left
        ·rintro w' ⟨s0,s1,s2,s3⟩;go_simp
         with_reducible rfl
        rotate_left
        ·simp only[Act.put,sA,sZ,sC,i64_w,i32_w];rfl
        refine take_ (i:=14) (N:=some 41) (v:=?_) (a':=?_) #[true,true,true,true,true,true,true,true,true,true,true,true,true,true,true,false,false,false,false] rfl rfl (take_ofW HT_.out HW_.out (by kernel_rfl)) (fun _ _ _ h=>h) (Or.inl ⟨by rfl,?_⟩) hHeld ?_ ?_
        rotate_left
        ·rintro w' ⟨s0,s1,s2,s3⟩;go_simp
         with_reducible rfl
        rotate_left
        ·simp only[Act.put,sA,sZ,sC,i64_w,i32_w];rfl
        refine pU (i:=15) (N:=some 42) HT_ #[true,true,true,true,true,true,true,true,true,true,true,true,true,true,true,true,false,false,false] ?_;refine one_ (i:=16) (N:=some 43) #[true,true,true,true,true,true,true,true,true,true,true,true,true,true,true,true,true,false,false] rfl rfl (one_of HT_.out (by kernel_rfl)) (by decide) (fun K hK=>?_)
        refine goes_ Try.func51 (by kernel_rfl) rfl #[.int .i64 (wrap64 (a1 - ((rd_T46 l0 x5_1).f0))),.int .i64 (wrap64 (((rd_T46 l0 (ji3)).f1) - ((rd_T46 l0 x5_1).f1))),.int .i64 (wrap64 (((rd_T46 l0 (ji3)).f0) - ((rd_T46 l0 x5_1).f0)))] (by rfl) rfl rfl (by(try simp only[List.map_toArray,List.map_cons,List.map_nil]);first|done|(simp only[hji3];rfl)|rfl|(simp only[List.length_drop,List.length_take];rfl)) ?_
        with_reducible refine(Bzz.calls k1 (wrap64 (a1 - ((rd_T46 l0 x5_1).f0))) (wrap64 (((rd_T46 l0 (ji3)).f1) - ((rd_T46 l0 x5_1).f1))) (wrap64 (((rd_T46 l0 (ji3)).f0) - ((rd_T46 l0 x5_1).f0))) t652 _ A9.out).mono ?_
        rintro e w' ⟨rfl,⟨nd,rfl⟩⟩;refine⟨_,rfl,?_⟩;refine hK.out _ _ ⟨(blk_cell BK650.out 0).trans rfl,(blk_cell BK650.out 1).trans rfl,(blk_cell BK651.out 0).trans rfl,(blk_cell BK651.out 1).trans rfl⟩ (fun hHeld=>?_)
        clear hK K;refine norm_ (a':=?_) ?_ ?_;rotate_left
        ·show Act.put _ (some 43) _=_
         simp only[Act.put,sA,sZ,sC,i64_w,i32_w];rfl
        refine pU (i:=17) (N:=some 44) HT_ #[true,true,true,true,true,true,true,true,true,true,true,true,true,true,true,true,true,true,false] ?_;refine pU (i:=18) (N:=some 4) HT_ #[true,true,true,true,true,true,true,true,true,true,true,true,true,true,true,true,true,true,true] ?_;refine done_ (done_of HT_.out (by kernel_rfl)) ?_
        try go_wp2
        go_ret
        exact⟨by first|rfl|(simp [errW_none,errW_some] <;> rfl)|(simp only[← hji3];first|rfl|(simp [errW_none,errW_some] <;> rfl))|(simp [*,errW_none,errW_some] <;> rfl),pB⟩
       ·rw[if_neg c8] at H;exact absurd H (by simp)
      ·rw[if_neg c7] at H;exact absurd H (by simp)
    ·rw[if_neg c5] at H;exact absurd H (by simp)
   ·rw[if_neg c4] at H;exact absurd H (by simp)

end Go.Proofs.Ytnklckihalhlmaa.Print
