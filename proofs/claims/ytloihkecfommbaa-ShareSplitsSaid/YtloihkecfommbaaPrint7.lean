import Derived.Test.YtloihkecfommbaaPrint0
namespace Go.Proofs.Ytloihkecfommbaa.Print
open Go.RowKit Go.Proofs.YtloihkecfommbaaW.PrintWords Go.Proofs.YtloihkecfommbaaW.PrintLast Go.Proofs.YtloihkecfommbaaW.PrintMore
attribute [local go_sem] max2_int min2_int max_two min_two max_three min_three max_four min_four
set_option linter.unusedVariables false
set_option maxRecDepth 100000
set_option maxHeartbeats 8000000
set_option linter.unusedSimpArgs false

def Azv.l0:Nat→List Int→Int→Int→Int→Int→Option (List Int)
 | 0,_,_,_,_,_=>none
 | k+1,x0,x1,x2,x3,x10=>if x10 < x3 then(if 0≤(wrap64 (x2+x10)) then(if(wrap64 (x2+x10)) < (x0.length:Int) then(if 0≤(wrap64 (x1+x10)) then(if(wrap64 (x1+x10)) < (x0.length:Int) then(Azv.l0 k ((x0.set ((wrap64 (x1+x10)):Int).toNat (rd x0 (wrap64 (x2+x10)))).set ((wrap64 (x2+x10)):Int).toNat (rd x0 (wrap64 (x1+x10)))) x1 x2 x3 (wrap64 (x10+1))) else(none)) else(none)) else(none)) else(none)) else(some x0)
def Azv.f (k:Nat) (l0:List Int) (a1:Int) (a2:Int) (a3:Int) (l4_0:List (List Int)):Option (List Int):=Azv.l0 k l0 a1 a2 a3 0
theorem Azv.mono_l:∀ k,(∀ y0 y1 y2 y3 y4,LeO (Azv.l0 k y0 y1 y2 y3 y4) (Azv.l0 (k+1) y0 y1 y2 y3 y4))
 | 0=>fun _ _ _ _ _ r h=>by simp [Azv.l0] at h
 | k+1=>by
  have ih0:=Azv.mono_l k
  ·intro y0 y1 y2 y3 y4;unfold Azv.l0;with_reducible repeat' first|exact ih0 _ _ _ _ _|exact LeO.refl _|exact LeO.none _|refine LeO.ite ?_ ?_|refine LeO.bind ?_ (fun _=>?_)
theorem Azv.mono:∀ a0 a1 a2 a3 a4 k,LeO (Azv.f k a0 a1 a2 a3 a4) (Azv.f (k+1) a0 a1 a2 a3 a4):=by
 intro a0 a1 a2 a3 a4 k;have ih0:=Azv.mono_l k;unfold Azv.f;with_reducible repeat' first|exact ih0 _ _ _ _ _|exact LeO.refl _|exact LeO.none _|refine LeO.ite ?_ ?_|refine LeO.bind ?_ (fun _=>?_)
def Azv.T3:Bool × List (List Nat × List Nat):=(true,[([],[]),([],[]),([],[]),([1,2],[1,2]),([],[]),([],[]),([],[]),([5,6],[5,6]),([],[]),([],[]),([],[]),([9,10],[9,10]),([8,11],[8,11]),([12],[12]),([],[]),([],[]),([],[]),([15,16],[15,16]),([14,17],[14,17]),([18],[18]),([0,3,0,1,2,3,8,9,10,11,12,13,19],[0,3]),([20,13,0,1,2,3,8,9,10,11,12,13,19],[13,20]),([4,7,0,1,2,3,4,5,6,7,8,9,10,11,12,13,14,15,16,17,18,19,20,21],[4,7]),([22,19,21,0,1,2,3,4,5,6,7,8,9,10,11,12,13,14,15,16,17,18,19,20,21],[19,22])])
def Azv.B3:List Nat:=[0,0,0,6,0,0,0,96,0,0,0,1536,3840,7936,0,0,0,98304,245760,507904,1048335,2096911,4194303,8388607]
theorem Azv.tab3:rtab .any (opsOf Try.f75 3)=Azv.T3:=by kernel_rfl
theorem Azv.bits3:waitsOk Azv.T3.2 Azv.B3=true:=by kernel_rfl
theorem Azv.calls (k:Nat) (P0_:Nat→Prop) (u9000_:Value) (l0:List Int) (a1:Int) (a2:Int) (a3:Int) (A4_0:Option Addr) (c4_0:Nat) (l4_0:List (List Int)) (r:List Int) (w0 w:World) (hB:Below w0.heap.size w0 w) (ho0:Kd.R (Kd.int .i64) 3 w w0.heap.size P0_ u9000_ l0) (hr4_0:∀ W_,Kept w W_ (fun k_=>P0_ k_)→Kd.C (Kd.slice 3 (Kd.int .i64)) W_ A4_0 l4_0.length l4_0) (hc4_0:l4_0.length≤c4_0) (h:Azv.f k l0 a1 a2 a3 l4_0=some r) :
  Calls Try.prog 75 #[u9000_,.int .i64 a1,.int .i64 a2,.int .i64 a3,.func (.func 26) #[] #[.pointer A4_0]] w fun e w'=>e=.returned (.tuple #[])∧Kd.R (Kd.int .i64) 3 w' w0.heap.size (fun k_=>(P0_ k_∨w.heap.size≤k_)) u9000_ r∧Below w0.heap.size w0 w'∧Kept w w' (fun k_=>P0_ k_):=by
 have HO0:=aM (show Kd.R (Kd.int .i64) 3 w w0.heap.size (fun k_=>(P0_ k_∨w.heap.size≤k_)) u9000_ l0 from Kd.R_mono ho0 (fun k_ hk=>(.inl hk)))
 have HR4_0:=aM hr4_0;have HC4_0:=aM hc4_0;clear hr4_0 hc4_0;have HK:=aM (Kept.refl w (fun k_=>P0_ k_))
 have HW0:=aM hB.size;have HB:=aM hB;clear hB;have H:(Azv.l0 k l0 a1 a2 a3 0)=some r:=h;clear h;have H':=aM H;clear H;go_enter Try.func75,Try.ntmps75
 go_wp2
 go_loopg [10] k (fun kq v10 w'=>∃ (x0_1:List Int) (x10_1:Int),v10=.int .i64 x10_1∧Aside0 (Azv.l0 kq x0_1 a1 a2 a3 x10_1=some r)∧Aside0 (kq≤k)∧Aside0 (Kd.R (Kd.int .i64) 3 w' w0.heap.size (fun k_=>(P0_ k_∨w.heap.size≤k_)) u9000_ x0_1)∧Aside0 (Kept w w' (fun k_=>P0_ k_))∧Aside0 (Below w0.heap.size w0 w'))
 case atStart=>exact⟨(l0),(0),sD,H',⟨Nat.le_refl _⟩,⟨rX HO0.out⟩,⟨kK HK⟩,⟨pB⟩⟩
 case round =>
  clear H';try clear p2
  try clear c4
  obtain⟨x0_1,x10_1,rfl,HA,HK1,HO_0,HK,HB⟩:=hrel;cases gk with
  | zero=>exact absurd HA.out (by simp [Azv.l0])
  | succ k1 =>
   have H:=HA.out;clear HA;simp only[Azv.l0] at H;by_cases c6:x10_1 < a3
   ·rw[if_pos c6] at H;have c6b0:decide (x10_1 < a3)=true:=dE c6;clear c6;obtain⟨ji7,hji7⟩:∃ j_:Int,(wrap64 (a2+x10_1))=j_:=⟨_,rfl⟩;replace H:(if 0≤(ji7) then(if(ji7) < (x0_1.length:Int) then(if 0≤(wrap64 (a1+x10_1)) then(if(wrap64 (a1+x10_1)) < (x0_1.length:Int) then(Azv.l0 k1 ((x0_1.set ((wrap64 (a1+x10_1)):Int).toNat (rd x0_1 (ji7))).set ((ji7):Int).toNat (rd x0_1 (wrap64 (a1+x10_1)))) a1 a2 a3 (wrap64 (x10_1+1))) else(none)) else(none)) else(none)) else(none))=some r:=by first|(rw[hji7] at H;exact H)|(simp only[hji7] at H ⊢;exact H)
    have hji7w:(IntKind.i64.wrap (a2+x10_1))=ji7:=(i64_w _).trans hji7;by_cases c8:0≤(ji7)
    ·rw[if_pos c8] at H;have c8b0:decide (0≤(ji7))=true:=dE c8;clear c8;by_cases c9:(ji7) < (x0_1.length:Int)
     ·rw[if_pos c9] at H;have c9b0:decide ((ji7) < (x0_1.length:Int))=true:=dE c9;clear c9;obtain⟨ji10,hji10⟩:∃ j_:Int,(wrap64 (a1+x10_1))=j_:=⟨_,rfl⟩;replace H:(if 0≤(ji10) then(if(ji10) < (x0_1.length:Int) then(Azv.l0 k1 ((x0_1.set ((ji10):Int).toNat (rd x0_1 (ji7))).set ((ji7):Int).toNat (rd x0_1 (ji10))) a1 a2 a3 (wrap64 (x10_1+1))) else(none)) else(none))=some r:=by first|(rw[hji10] at H;exact H)|(simp only[hji10] at H ⊢;exact H)
      have hji10w:(IntKind.i64.wrap (a1+x10_1))=ji10:=(i64_w _).trans hji10;by_cases c11:0≤(ji10)
      ·rw[if_pos c11] at H;have c11b0:decide (0≤(ji10))=true:=dE c11;clear c11;by_cases c12:(ji10) < (x0_1.length:Int)
       ·rw[if_pos c12] at H;have c12b0:decide ((ji10) < (x0_1.length:Int))=true:=dE c12;clear c12;obtain⟨y169,hy169⟩:∃ y_:List Int,y_=(x0_1.set ((ji10):Int).toNat (rd x0_1 (ji7))):=⟨_,rfl⟩;replace H:(Azv.l0 k1 (y169.set ((ji7):Int).toNat (rd x0_1 (ji10))) a1 a2 a3 (wrap64 (x10_1+1)))=some r:=by first|(rw[hy169];with_reducible exact H)|(have H2_:=(Option.bind_some _ _).symm.trans H;rw[hy169];with_reducible exact H2_)|(have H2_:=(Option.bind_some _ _).symm.trans H;with_reducible exact H2_)|with_reducible exact H|(rw[hy169];exact H)|exact H
        have Ny169:=aM hy169;clear hy169;obtain⟨y170,hy170⟩:∃ y_:List Int,y_=(y169.set ((ji7):Int).toNat (rd x0_1 (ji10))):=⟨_,rfl⟩;replace H:(Azv.l0 k1 y170 a1 a2 a3 (wrap64 (x10_1+1)))=some r:=by first|(rw[hy170];with_reducible exact H)|(have H2_:=(Option.bind_some _ _).symm.trans H;rw[hy170];with_reducible exact H2_)|(have H2_:=(Option.bind_some _ _).symm.trans H;with_reducible exact H2_)|with_reducible exact H|(rw[hy170];exact H)|exact H
        have Ny170:=aM hy170;clear hy170;have H':=aM H;clear H;try go_wp2
        have n0_:=aM (Kd.R_drew HO_0.out);have n1_:=aM (Kept.drew HK.out);have n2_:=aM (below_drew1 HB.out);clear HO_0;clear HK;clear HB;have HO_0:=n0_;have HK:=n1_;have HB:=n2_;clear n0_ n1_ n2_;obtain⟨Ao16,co16,eo16⟩:=Kd.R_slice HO_0.out;(first|subst eo16|(injection eo16 with f1_ f2_ f3_;have f4_:=f1_.symm;have f5_:=f3_.symm;clear f1_ f2_ f3_;subst f4_;subst f5_))
        have p167:0≤((ji7):Int):=oE aS
        have q167:(ji7) < (x0_1.length:Int):=oE aS
        obtain⟨ad167,e167,hx167_0⟩:=Kd.at_int (Kd.R_reads' HO_0.out).2.2 (ji7) p167 q167;cases e167
        replace p167:=eq_true p167;replace q167:=eq_true q167;have p168:0≤((ji10):Int):=oE aS
        have q168:(ji10) < (x0_1.length:Int):=oE aS
        obtain⟨ad168,e168,hx168_0⟩:=Kd.at_int (Kd.R_reads' HO_0.out).2.2 (ji10) p168 q168;obtain rfl:ad167=ad168:=(by injection e168)
        replace p168:=eq_true p168;replace q168:=eq_true q168;have p13:0≤((ji10):Int):=oE aS
        have q13:((ji10):Int) < ((x0_1.length:Int):Int):=oE aS
        obtain⟨go13,co13,eo13,gb13,gl13,cl13,HG13⟩:=Kd.R_form HO_0.out (by omega)
        (first|cases eo13|(injection eo13 with ea_ en_ ec_;(first|subst ea_|(injection ea_ with ea_;subst ea_));subst ec_;clear en_))
        have GB13:=aM gb13;have GG13:=aM HG13;clear gb13 gl13 HG13;have HMgo13:=aM (show(P0_ go13∨w.heap.size≤go13) from(HO_0.out.1 _ rfl))
        (first|simp only[add_plain] at hx167_0|skip)
        (first|simp only[add_plain] at hx168_0|skip)
        obtain⟨hx13_0,hf13_0⟩:=Kd.R_celln 0 HO_0.out ((ji10):Int) p13 q13;replace p13:=eq_true p13;replace q13:=eq_true q13;have HP17:=Kd.R_putn HO_0.out ((ji10):Int) (rd x0_1 (ji7));rw[← Ny169.out] at HP17;have HQ17:=aM HP17;clear HP17;have p14:0≤((ji7):Int):=oE aS
        have q14:((ji7):Int) < ((x0_1.length:Int):Int):=oE aS
        obtain⟨hx14_0,hf14_0⟩:=Kd.R_celln 0 HQ17.out ((ji7):Int) p14 q14;replace p14:=eq_true p14;replace q14:=eq_true q14;have HP18:=Kd.R_putn HQ17.out ((ji7):Int) (rd x0_1 (ji10));rw[← Ny170.out] at HP18;have HQ18:=aM HP18;clear HP18;refine start_ (n:=24) (S:=fun w'=>w'.cell? ⟨go13,((ji7)).toNat,none⟩=some (.int .i64 (rd x0_1 (ji7)))∧w'.cell? ⟨go13,((ji10)).toNat,none⟩=some (.int .i64 (rd x0_1 (ji10)))) (ds:=[21,23]) #[false,false,false,false,false,false,false,false,false,false,false,false,false,false,false,false,false,false,false,false,false,false,false,false] (by kernel_rfl) rfl rfl ⟨hx167_0,hx168_0⟩ (fun hHeld=>?_);refine with_tabW Azv.tab3 Azv.bits3 (fun HT_ HW_=>?_)
        generalize wr.drew=w15 at HO_0 HK HB GG13 HQ17 HQ18 hf13_0 hf14_0 hx13_0 hx14_0 hx167_0 hx168_0 hHeld ⊢;refine pU (i:=0) (N:=some 16) HT_ #[true,false,false,false,false,false,false,false,false,false,false,false,false,false,false,false,false,false,false,false,false,false,false,false] ?_;refine pU (i:=1) (N:=some 17) HT_ #[true,true,false,false,false,false,false,false,false,false,false,false,false,false,false,false,false,false,false,false,false,false,false,false] ?_;refine pU (i:=2) (N:=some 18) HT_ #[true,true,true,false,false,false,false,false,false,false,false,false,false,false,false,false,false,false,false,false,false,false,false,false] ?_;refine pU (i:=3) (N:=some 19) HT_ #[true,true,true,true,false,false,false,false,false,false,false,false,false,false,false,false,false,false,false,false,false,false,false,false] ?_;refine pU (i:=4) (N:=some 20) HT_ #[true,true,true,true,true,false,false,false,false,false,false,false,false,false,false,false,false,false,false,false,false,false,false,false] ?_;refine pU (i:=5) (N:=some 21) HT_ #[true,true,true,true,true,true,false,false,false,false,false,false,false,false,false,false,false,false,false,false,false,false,false,false] ?_;refine pU (i:=6) (N:=some 22) HT_ #[true,true,true,true,true,true,true,false,false,false,false,false,false,false,false,false,false,false,false,false,false,false,false,false] ?_;refine pU (i:=7) (N:=some 23) HT_ #[true,true,true,true,true,true,true,true,false,false,false,false,false,false,false,false,false,false,false,false,false,false,false,false] ?_;refine pU (i:=8) (N:=some 24) HT_ #[true,true,true,true,true,true,true,true,true,false,false,false,false,false,false,false,false,false,false,false,false,false,false,false] ?_;refine pU (i:=9) (N:=some 25) HT_ #[true,true,true,true,true,true,true,true,true,true,false,false,false,false,false,false,false,false,false,false,false,false,false,false] ?_;refine pU (i:=10) (N:=some 26) HT_ #[true,true,true,true,true,true,true,true,true,true,true,false,false,false,false,false,false,false,false,false,false,false,false,false] ?_;refine pU (i:=11) (N:=some 27) HT_ #[true,true,true,true,true,true,true,true,true,true,true,true,false,false,false,false,false,false,false,false,false,false,false,false] ?_;refine pU (i:=12) (N:=some 28) HT_ #[true,true,true,true,true,true,true,true,true,true,true,true,true,false,false,false,false,false,false,false,false,false,false,false] ?_;refine pU (i:=14) (N:=some 30) HT_ #[true,true,true,true,true,true,true,true,true,true,true,true,true,false,true,false,false,false,false,false,false,false,false,false] ?_;refine pU (i:=15) (N:=some 31) HT_ #[true,true,true,true,true,true,true,true,true,true,true,true,true,false,true,true,false,false,false,false,false,false,false,false] ?_;refine pU (i:=16) (N:=some 32) HT_ #[true,true,true,true,true,true,true,true,true,true,true,true,true,false,true,true,true,false,false,false,false,false,false,false] ?_;refine pU (i:=17) (N:=some 33) HT_ #[true,true,true,true,true,true,true,true,true,true,true,true,true,false,true,true,true,true,false,false,false,false,false,false] ?_;refine pU (i:=18) (N:=some 34) HT_ #[true,true,true,true,true,true,true,true,true,true,true,true,true,false,true,true,true,true,true,false,false,false,false,false] ?_;refine take_ (i:=13) (N:=some 29) (v:=?_) (a':=?_) #[true,true,true,true,true,true,true,true,true,true,true,true,true,true,true,true,true,true,true,false,false,false,false,false] rfl rfl (take_ofW HT_.out HW_.out (by kernel_rfl)) (fun _ _ _ h=>h) (Or.inl ⟨by rfl,?_⟩) hHeld ?_ ?_
        rotate_left
        ·rintro w' ⟨s0,s1⟩;go_simp
         with_reducible rfl
        rotate_left
        ·simp only[Act.put,sA,sZ,sC,i64_w,i32_w];rfl
        refine take_ (i:=19) (N:=some 35) (v:=?_) (a':=?_) #[true,true,true,true,true,true,true,true,true,true,true,true,true,true,true,true,true,true,true,true,false,false,false,false] rfl rfl (take_ofW HT_.out HW_.out (by kernel_rfl)) (fun _ _ _ h=>h) (Or.inl ⟨by rfl,?_⟩) hHeld ?_ ?_
        rotate_left
        ·rintro w' ⟨s0,s1⟩;go_simp
         with_reducible rfl
        rotate_left
        ·simp only[Act.put,sA,sZ,sC,i64_w,i32_w];rfl
        refine pU (i:=20) (N:=some 36) HT_ #[true,true,true,true,true,true,true,true,true,true,true,true,true,true,true,true,true,true,true,true,true,false,false,false] ?_;refine last_ (i:=21) (N:=none) #[true,true,true,true,true,true,true,true,true,true,true,true,true,true,true,true,true,true,true,true,true,true,false,false] rfl rfl (one_of HT_.out (by kernel_rfl)) (by decide) (fun K hK=>?_)
        refine skip_ (w1:=?_) (by rfl) rfl ?_ ?_
        rotate_left
        ·go_simp
         rfl
        refine hK.out _ _ ?_;clear hK K;refine pU (i:=22) (N:=some 37) HT_ #[true,true,true,true,true,true,true,true,true,true,true,true,true,true,true,true,true,true,true,true,true,true,true,false] ?_;refine last_ (i:=23) (N:=none) #[true,true,true,true,true,true,true,true,true,true,true,true,true,true,true,true,true,true,true,true,true,true,true,true] rfl rfl (one_of HT_.out (by kernel_rfl)) (by decide) (fun K hK=>?_)
        refine skip_ (w1:=?_) (by rfl) rfl ?_ ?_
        rotate_left
        ·go_simp
         rfl
        refine hK.out _ _ ?_;clear hK K;refine done_ (done_of HT_.out (by kernel_rfl)) ?_
        try go_wp2
        go_roundg k1
        case measure=>have:=HK1.out;omega
        case rel=>exact⟨(y170),(wrap64 (x10_1+1)),sD,H',⟨by have:=HK1.out;omega⟩,⟨rX HQ18.out⟩,⟨by repeat(first|(with_reducible first|exact HK.out|apply Kept.alloc|apply Kept.drewN|apply Kept.drew|refine Kept.setCell ?_ HMgo13.out _|refine Kept.setCell ?_ HMgo13.out _)|exact HK.out)⟩,⟨pB⟩⟩
       ·rw[if_neg c12] at H;exact absurd H (by simp)
      ·rw[if_neg c11] at H;exact absurd H (by simp)
     ·rw[if_neg c9] at H;exact absurd H (by simp)
    ·rw[if_neg c8] at H;exact absurd H (by simp)
   ·rw[if_neg c6] at H;have c6b0:decide (x10_1 < a3)=false:=decide_eq_false c6;clear c6;obtain rfl:=Option.some.inj H;go_wp2
    first|go_end0|((try simp only[Exit.inBlock,Exit.then]);refine bodyPost_ret (results_none rfl _ _ _) rfl ?_)
    exact⟨eW,rX HO_0.out,pB,kK HK⟩


def Azk.l0:Nat→List Int→Int→Int→Int→List (List Int)→Option (List Int)
 | 0,_,_,_,_,_=>none
 | k+1,x0,x2,x10,x11,x940=>if x10=x11 then((Azv.f k x0 (wrap64 (x2 - x10)) x2 x10 x940).bind fun t171=>(some t171)) else(if x10 > x11 then((Azv.f k x0 (wrap64 (x2 - x10)) x2 x11 x940).bind fun t172=>(Azk.l0 k t172 x2 (wrap64 (x10 - x11)) x11 x940)) else((Azv.f k x0 (wrap64 (x2 - x10)) (wrap64 ((wrap64 (x2+x11)) - x10)) x10 x940).bind fun t173=>(Azk.l0 k t173 x2 x10 (wrap64 (x11 - x10)) x940)))
def Azk.f (k:Nat) (l0:List Int) (a1:Int) (a2:Int) (a3:Int) (l4_0:List (List Int)):Option (List Int):=Azk.l0 k l0 a2 (wrap64 (a2 - a1)) (wrap64 (a3 - a2)) l4_0
theorem Azk.mono_l:∀ k,(∀ y0 y1 y2 y3 y4,LeO (Azk.l0 k y0 y1 y2 y3 y4) (Azk.l0 (k+1) y0 y1 y2 y3 y4))
 | 0=>fun _ _ _ _ _ r h=>by simp [Azk.l0] at h
 | k+1=>by
  have ih0:=Azk.mono_l k
  ·intro y0 y1 y2 y3 y4;unfold Azk.l0;with_reducible repeat' first|exact ih0 _ _ _ _ _|exact Azv.mono _ _ _ _ _ _|exact LeO.refl _|exact LeO.none _|refine LeO.ite ?_ ?_|refine LeO.bind ?_ (fun _=>?_)
theorem Azk.mono:∀ a0 a1 a2 a3 a4 k,LeO (Azk.f k a0 a1 a2 a3 a4) (Azk.f (k+1) a0 a1 a2 a3 a4):=by
 intro a0 a1 a2 a3 a4 k;have ih0:=Azk.mono_l k;unfold Azk.f;with_reducible repeat' first|exact ih0 _ _ _ _ _|exact Azv.mono _ _ _ _ _ _|exact LeO.refl _|exact LeO.none _|refine LeO.ite ?_ ?_|refine LeO.bind ?_ (fun _=>?_)
theorem Azk.calls (k:Nat) (P0_:Nat→Prop) (u9000_:Value) (l0:List Int) (a1:Int) (a2:Int) (a3:Int) (A4_0:Option Addr) (c4_0:Nat) (l4_0:List (List Int)) (r:List Int) (w0 w:World) (hB:Below w0.heap.size w0 w) (ho0:Kd.R (Kd.int .i64) 3 w w0.heap.size P0_ u9000_ l0) (hr4_0:∀ W_,Kept w W_ (fun k_=>P0_ k_)→Kd.C (Kd.slice 3 (Kd.int .i64)) W_ A4_0 l4_0.length l4_0) (hc4_0:l4_0.length≤c4_0) (h:Azk.f k l0 a1 a2 a3 l4_0=some r) :
  Calls Try.prog 68 #[u9000_,.int .i64 a1,.int .i64 a2,.int .i64 a3,.func (.func 26) #[] #[.pointer A4_0]] w fun e w'=>e=.returned (.tuple #[])∧Kd.R (Kd.int .i64) 3 w' w0.heap.size (fun k_=>(P0_ k_∨w.heap.size≤k_)) u9000_ r∧Below w0.heap.size w0 w'∧Kept w w' (fun k_=>P0_ k_):=by
 have HO0:=aM (show Kd.R (Kd.int .i64) 3 w w0.heap.size (fun k_=>(P0_ k_∨w.heap.size≤k_)) u9000_ l0 from Kd.R_mono ho0 (fun k_ hk=>(.inl hk)))
 have HR4_0:=aM hr4_0;have HC4_0:=aM hc4_0;clear hr4_0 hc4_0;have HK:=aM (Kept.refl w (fun k_=>P0_ k_))
 have HW0:=aM hB.size;have HB:=aM hB;clear hB;have H:(Azk.l0 k l0 a2 (wrap64 (a2 - a1)) (wrap64 (a3 - a2)) l4_0)=some r:=h;clear h;have H':=aM H;clear H;go_enter Try.func68,Try.ntmps68
 go_wp2
 go_loopg [10,11] k (fun kq v10 v11 w'=>∃ (x0_1:List Int) (x10_1:Int) (x11_1:Int),v10=.int .i64 x10_1∧v11=.int .i64 x11_1∧Aside0 (Azk.l0 kq x0_1 a2 x10_1 x11_1 l4_0=some r)∧Aside0 (kq≤k)∧Aside0 (Kd.R (Kd.int .i64) 3 w' w0.heap.size (fun k_=>(P0_ k_∨w.heap.size≤k_)) u9000_ x0_1)∧Aside0 (Kept w w' (fun k_=>P0_ k_))∧Aside0 (Below w0.heap.size w0 w'))
 case atStart=>exact⟨(l0),(wrap64 (a2 - a1)),(wrap64 (a3 - a2)),sD,sD,H',⟨Nat.le_refl _⟩,⟨rX HO0.out⟩,⟨kK HK⟩,⟨pB⟩⟩
 case round =>
  clear H';try clear p2
  try clear c4
  obtain⟨x0_1,x10_1,x11_1,rfl,rfl,HA,HK1,HO_0,HK,HB⟩:=hrel;cases gk with
  | zero=>exact absurd HA.out (by simp [Azk.l0])
  | succ k1 =>
   have H:=HA.out;clear HA;simp only[Azk.l0] at H;by_cases c6:x10_1=x11_1
   ·rw[if_pos c6] at H;have c6b0:(x10_1 == x11_1)=true:=beq_iff_eq.mpr c6;have c6b1:(x10_1 != x11_1)=false:=bne_eq_false_iff_eq.mpr c6;clear c6;replace H:=bS H;obtain⟨t171,A70,H⟩:=H;replace H:(some t171)=some r:=H;have A7:=aM A70;clear A70;obtain rfl:=Option.some.inj H;obtain⟨Ao8,co8,eo8⟩:=Kd.R_slice HO_0.out;subst eo8;go_wp2_with (first|((with_reducible refine gate_callee (f:=75) rfl ?_);refine goesL_ (some 57) rfl rfl Try.func75 (by kernel_rfl) rfl #[.slice Ao8 x0_1.length co8,.int .i64 (wrap64 (a2 - x10_1)),.int .i64 a2,.int .i64 x10_1,.func (.func 26) #[] #[.pointer A4_0]] rfl mA ?_;(with_reducible refine(Azv.calls k1 (fun k_=>some k_=(.slice Ao8 x0_1.length co8:Value).ownBlock) (.slice Ao8 x0_1.length co8) x0_1 (wrap64 (a2 - x10_1)) a2 x10_1 _ c4_0 l4_0 t171 w0 _ ?side1 ?side2 ?side3 ?side4 A7.out).mono ?_);(case side1=>repeat(first|(with_reducible first|exact HB.out|apply below_alloc|apply pw_below_drewN|apply below_drew1)|exact HB.out));(case side2=>exact Kd.R_tight rfl HO_0.out);(case side3=>exact Kd.C_kept_call HR4_0.out (kK HK) (fun k_ hs_=>(fun e_=>(HO_0.out.1 k_ e_.symm)) hs_));(case side4=>exact HC4_0.out);rintro e w9 ⟨rfl,hy0,hb,hkp⟩;refine⟨_,rfl,?_⟩;replace HK:=aM (Kept.then_ (S:=(fun k_=>P0_ k_)) (kK HK) hkp (fun k_ hs_=>(fun e_=>(HO_0.out.1 k_ e_.symm)) hs_));replace HO_0:=aM (Kd.R_reok rfl hy0 (fun k_ e_=>HO_0.out.1 k_ e_));replace HB:=aM (hb);(try clear hb);(try clear hkp);(try clear hy0)))
    first|go_end0|((try simp only[Exit.inBlock,Exit.then]);refine bodyPost_ret (results_none rfl _ _ _) rfl ?_)
    exact⟨eW,rX HO_0.out,pB,kK HK⟩
   ·rw[if_neg c6] at H;have c6b0:(x10_1 == x11_1)=false:=beq_eq_false_iff_ne.mpr c6;have c6b1:(x10_1 != x11_1)=true:=bne_iff_ne.mpr c6;by_cases c10:x10_1 > x11_1
    ·rw[if_pos c10] at H;have c10b0:decide (x11_1 < x10_1)=true:=dE c10;clear c10;replace H:=bS H;obtain⟨t172,A110,H⟩:=H;(try dsimp only at H);have A11:=aM A110;clear A110;have H':=aM H;clear H;obtain⟨Ao12,co12,eo12⟩:=Kd.R_slice HO_0.out;subst eo12;go_wp2_with (first|((with_reducible refine gate_callee (f:=75) rfl ?_);refine goesL_ (some 31) rfl rfl Try.func75 (by kernel_rfl) rfl #[.slice Ao12 x0_1.length co12,.int .i64 (wrap64 (a2 - x10_1)),.int .i64 a2,.int .i64 x11_1,.func (.func 26) #[] #[.pointer A4_0]] rfl mA ?_;(with_reducible refine(Azv.calls k1 (fun k_=>some k_=(.slice Ao12 x0_1.length co12:Value).ownBlock) (.slice Ao12 x0_1.length co12) x0_1 (wrap64 (a2 - x10_1)) a2 x11_1 _ c4_0 l4_0 t172 w0 _ ?side1 ?side2 ?side3 ?side4 A11.out).mono ?_);(case side1=>repeat(first|(with_reducible first|exact HB.out|apply below_alloc|apply pw_below_drewN|apply below_drew1)|exact HB.out));(case side2=>exact Kd.R_tight rfl HO_0.out);(case side3=>exact Kd.C_kept_call HR4_0.out (kK HK) (fun k_ hs_=>(fun e_=>(HO_0.out.1 k_ e_.symm)) hs_));(case side4=>exact HC4_0.out);rintro e w13 ⟨rfl,hy0,hb,hkp⟩;refine⟨_,rfl,?_⟩;replace HK:=aM (Kept.then_ (S:=(fun k_=>P0_ k_)) (kK HK) hkp (fun k_ hs_=>(fun e_=>(HO_0.out.1 k_ e_.symm)) hs_));replace HO_0:=aM (Kd.R_reok rfl hy0 (fun k_ e_=>HO_0.out.1 k_ e_));replace HB:=aM (hb);(try clear hb);(try clear hkp);(try clear hy0)))
     go_roundg k1
     case measure=>have:=HK1.out;omega
     case rel=>exact⟨(t172),(wrap64 (x10_1 - x11_1)),(x11_1),sD,sD,H',⟨by have:=HK1.out;omega⟩,⟨rX HO_0.out⟩,⟨kK HK⟩,⟨pB⟩⟩
    ·rw[if_neg c10] at H;have c10b0:decide (x11_1 < x10_1)=false:=decide_eq_false c10;clear c10;replace H:=bS H;obtain⟨t173,A140,H⟩:=H;(try dsimp only at H);have A14:=aM A140;clear A140;have H':=aM H;clear H;obtain⟨Ao15,co15,eo15⟩:=Kd.R_slice HO_0.out;subst eo15;go_wp2_with (first|((with_reducible refine gate_callee (f:=75) rfl ?_);refine goesL_ (some 46) rfl rfl Try.func75 (by kernel_rfl) rfl #[.slice Ao15 x0_1.length co15,.int .i64 (wrap64 (a2 - x10_1)),.int .i64 (wrap64 ((wrap64 (a2+x11_1)) - x10_1)),.int .i64 x10_1,.func (.func 26) #[] #[.pointer A4_0]] rfl mA ?_;(with_reducible refine(Azv.calls k1 (fun k_=>some k_=(.slice Ao15 x0_1.length co15:Value).ownBlock) (.slice Ao15 x0_1.length co15) x0_1 (wrap64 (a2 - x10_1)) (wrap64 ((wrap64 (a2+x11_1)) - x10_1)) x10_1 _ c4_0 l4_0 t173 w0 _ ?side1 ?side2 ?side3 ?side4 A14.out).mono ?_);(case side1=>repeat(first|(with_reducible first|exact HB.out|apply below_alloc|apply pw_below_drewN|apply below_drew1)|exact HB.out));(case side2=>exact Kd.R_tight rfl HO_0.out);(case side3=>exact Kd.C_kept_call HR4_0.out (kK HK) (fun k_ hs_=>(fun e_=>(HO_0.out.1 k_ e_.symm)) hs_));(case side4=>exact HC4_0.out);rintro e w16 ⟨rfl,hy0,hb,hkp⟩;refine⟨_,rfl,?_⟩;replace HK:=aM (Kept.then_ (S:=(fun k_=>P0_ k_)) (kK HK) hkp (fun k_ hs_=>(fun e_=>(HO_0.out.1 k_ e_.symm)) hs_));replace HO_0:=aM (Kd.R_reok rfl hy0 (fun k_ e_=>HO_0.out.1 k_ e_));replace HB:=aM (hb);(try clear hb);(try clear hkp);(try clear hy0)))
     go_roundg k1
     case measure=>have:=HK1.out;omega
     case rel=>exact⟨(t173),(x10_1),(wrap64 (x11_1 - x10_1)),sD,sD,H',⟨by have:=HK1.out;omega⟩,⟨rX HO_0.out⟩,⟨kK HK⟩,⟨pB⟩⟩

end Go.Proofs.Ytloihkecfommbaa.Print
