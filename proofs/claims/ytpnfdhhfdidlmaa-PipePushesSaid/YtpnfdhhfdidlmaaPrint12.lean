import Derived.Test.YtpnfdhhfdidlmaaPrint0
import Derived.Test.YtpnfdhhfdidlmaaPrint11
namespace Go.Proofs.Ytpnfdhhfdidlmaa.Print
open Go.RowKit Go.Proofs.YtpnfdhhfdidlmaaW.PrintWords Go.Proofs.YtpnfdhhfdidlmaaW.PrintLast Go.Proofs.YtpnfdhhfdidlmaaW.PrintMore
attribute [local go_sem] max2_int min2_int max_two min_two max_three min_three max_four min_four
set_option linter.unusedVariables false
set_option maxRecDepth 100000
set_option maxHeartbeats 8000000
set_option linter.unusedSimpArgs false

mutual
def Azz.l0:Nat→List Int→Int→Int→Int→List (List Int)→Option (List Int)
 | 0,_,_,_,_,_=>none
 | k+1,x0,x1,x2,x8,x930=>if x8 < x2 then(Azz.l1 k x0 x1 x2 x8 x8 x930) else(some x0)
def Azz.l1:Nat→List Int→Int→Int→Int→Int→List (List Int)→Option (List Int)
 | 0,_,_,_,_,_,_=>none
 | k+1,x0,x1,x2,x8,x9,x930=>if x9 > x1 then(if 0≤x9 then(if x9 < (x0.length:Int) then(if 0≤(wrap64 (x9 - 1)) then(if(wrap64 (x9 - 1)) < (x0.length:Int) then((Dzp.f (rd x0 x9) (rd x0 (wrap64 (x9 - 1))) x930).bind fun t181=>(if t181 < 0 then(Azz.l1 k ((x0.set (x9:Int).toNat (rd x0 (wrap64 (x9 - 1)))).set ((wrap64 (x9 - 1)):Int).toNat (rd x0 x9)) x1 x2 x8 (wrap64 (x9 - 1)) x930) else(Azz.l0 k x0 x1 x2 (wrap64 (x8+1)) x930))) else(none)) else(none)) else(none)) else(none)) else(Azz.l0 k x0 x1 x2 (wrap64 (x8+1)) x930)
end
def Azz.f (k:Nat) (l0:List Int) (a1:Int) (a2:Int) (l3_0:List (List Int)):Option (List Int):=Azz.l0 k l0 a1 a2 (wrap64 (a1+1)) l3_0
theorem Azz.mono_l:∀ k,(∀ y0 y1 y2 y3 y4,LeO (Azz.l0 k y0 y1 y2 y3 y4) (Azz.l0 (k+1) y0 y1 y2 y3 y4))∧(∀ y0 y1 y2 y3 y4 y5,LeO (Azz.l1 k y0 y1 y2 y3 y4 y5) (Azz.l1 (k+1) y0 y1 y2 y3 y4 y5))
 | 0=>⟨fun _ _ _ _ _ r h=>by simp [Azz.l0] at h,fun _ _ _ _ _ _ r h=>by simp [Azz.l1] at h⟩
 | k+1=>by
  obtain⟨ih0,ih1⟩:=Azz.mono_l k;refine⟨?_,?_⟩
  ·intro y0 y1 y2 y3 y4;unfold Azz.l0;with_reducible repeat' first|exact ih0 _ _ _ _ _|exact ih1 _ _ _ _ _ _|exact LeO.refl _|exact LeO.none _|refine LeO.ite ?_ ?_|refine LeO.bind ?_ (fun _=>?_)
  ·intro y0 y1 y2 y3 y4 y5;unfold Azz.l1;with_reducible repeat' first|exact ih0 _ _ _ _ _|exact ih1 _ _ _ _ _ _|exact LeO.refl _|exact LeO.none _|refine LeO.ite ?_ ?_|refine LeO.bind ?_ (fun _=>?_)
theorem Azz.mono:∀ a0 a1 a2 a3 k,LeO (Azz.f k a0 a1 a2 a3) (Azz.f (k+1) a0 a1 a2 a3):=by
 intro a0 a1 a2 a3 k;obtain⟨ih0,ih1⟩:=Azz.mono_l k;unfold Azz.f;with_reducible repeat' first|exact ih0 _ _ _ _ _|exact ih1 _ _ _ _ _ _|exact LeO.refl _|exact LeO.none _|refine LeO.ite ?_ ?_|refine LeO.bind ?_ (fun _=>?_)
def Azz.T4:Bool × List (List Nat × List Nat):=(true,[([],[]),([],[]),([0,1],[0,1]),([2],[2]),([3],[3]),([3],[3]),([3],[3]),([5,6,3],[3,5,6]),([7,3],[3,7]),([3],[3]),([3],[3]),([10,3],[3,10]),([9,11,3],[3,9,11]),([12,3],[3,12]),([4,8,13,3,3],[3,4,8,13]),([14,3],[3,14]),([3,15],[3,15])])
def Azz.B4:List Nat:=[0,0,3,7,15,15,15,111,239,15,15,1039,3599,7695,16383,32767,65535]
theorem Azz.tab4:rtab .any (opsOf Try.f60 4)=Azz.T4:=by kernel_rfl
theorem Azz.bits4:waitsOk Azz.T4.2 Azz.B4=true:=by kernel_rfl
def Azz.T6:Bool × List (List Nat × List Nat):=(true,[([],[]),([],[]),([],[]),([],[]),([3],[3]),([],[]),([],[]),([6],[6]),([5,7],[5,7]),([8],[8]),([],[]),([],[]),([10,11],[10,11]),([12],[12]),([0,1,0,1,5,6,7,8,9,13],[0,1]),([14,9,0,1,5,6,7,8,9,13],[9,14]),([2,4,0,1,2,3,4,5,6,7,8,9,10,11,12,13,14,15],[2,4]),([16,13,15,0,1,2,3,4,5,6,7,8,9,10,11,12,13,14,15],[13,16])])
def Azz.B6:List Nat:=[0,0,0,0,8,0,0,64,224,480,0,0,3072,7168,16355,32739,65535,131071]
theorem Azz.tab6:rtab .any (opsOf Try.f60 6)=Azz.T6:=by kernel_rfl
theorem Azz.bits6:waitsOk Azz.T6.2 Azz.B6=true:=by kernel_rfl
theorem Azz.calls (k:Nat) (P0_:Nat→Prop) (u9000_:Value) (l0:List Int) (a1:Int) (a2:Int) (A3_0:Option Addr) (c3_0:Nat) (l3_0:List (List Int)) (r:List Int) (w0 w:World) (hB:Below w0.heap.size w0 w) (ho0:Kd.R (Kd.int .i64) 3 w w0.heap.size P0_ u9000_ l0) (hr3_0:∀ W_,Kept w W_ (fun k_=>P0_ k_)→Kd.C (Kd.slice 3 (Kd.int .i64)) W_ A3_0 l3_0.length l3_0) (hc3_0:l3_0.length≤c3_0) (h:Azz.f k l0 a1 a2 l3_0=some r) :
  Calls Try.prog 60 #[u9000_,.int .i64 a1,.int .i64 a2,.func (.func 41) #[] #[.pointer A3_0]] w fun e w'=>e=.returned (.tuple #[])∧Kd.R (Kd.int .i64) 3 w' w0.heap.size (fun k_=>(P0_ k_∨w.heap.size≤k_)) u9000_ r∧Below w0.heap.size w0 w'∧Kept w w' (fun k_=>P0_ k_):=by
 have HO0:=aM (show Kd.R (Kd.int .i64) 3 w w0.heap.size (fun k_=>(P0_ k_∨w.heap.size≤k_)) u9000_ l0 from Kd.R_mono ho0 (fun k_ hk=>(.inl hk)))
 have HR3_0:=aM hr3_0;have HC3_0:=aM hc3_0;clear hr3_0 hc3_0;have HK:=aM (Kept.refl w (fun k_=>P0_ k_))
 have HW0:=aM hB.size;have HB:=aM hB;clear hB;have H:(Azz.l0 k l0 a1 a2 (wrap64 (a1+1)) l3_0)=some r:=h;clear h;have H':=aM H;clear H;go_enter Try.func60,Try.ntmps60
 go_wp2
 go_loopg [8] k (fun kq v8 w'=>∃ (x0_1:List Int) (x8_1:Int),v8=.int .i64 x8_1∧Aside0 (Azz.l0 kq x0_1 a1 a2 x8_1 l3_0=some r)∧Aside0 (kq≤k)∧Aside0 (Kd.R (Kd.int .i64) 3 w' w0.heap.size (fun k_=>(P0_ k_∨w.heap.size≤k_)) u9000_ x0_1)∧Aside0 (Kept w w' (fun k_=>P0_ k_))∧Aside0 (Below w0.heap.size w0 w'))
 case atStart=>exact⟨(l0),(wrap64 (a1+1)),sD,H',⟨Nat.le_refl _⟩,⟨rX HO0.out⟩,⟨kK HK⟩,⟨pB⟩⟩
 case round =>
  clear H';try clear p2
  try clear c3
  obtain⟨x0_1,x8_1,rfl,HA,HK1,HO_0,HK,HB⟩:=hrel;cases gk with
  | zero=>exact absurd HA.out (by simp [Azz.l0])
  | succ k1 =>
   have H:=HA.out;clear HA;simp only[Azz.l0] at H;by_cases c5:x8_1 < a2
   ·rw[if_pos c5] at H;have c5b0:decide (x8_1 < a2)=true:=dE c5;clear c5;have H':=aM H;clear H;go_wp2
    go_loopg [9] k1 (fun kq v9 w'=>∃ (x0_2:List Int) (x9_2:Int),v9=.int .i64 x9_2∧Aside0 (Azz.l1 kq x0_2 a1 a2 x8_1 x9_2 l3_0=some r)∧Aside0 (kq≤k1)∧Aside0 (Kd.R (Kd.int .i64) 3 w' w0.heap.size (fun k_=>(P0_ k_∨w.heap.size≤k_)) u9000_ x0_2)∧Aside0 (Kept w w' (fun k_=>P0_ k_))∧Aside0 (Below w0.heap.size w0 w'))
    case atStart=>exact⟨(x0_1),(x8_1),sD,H',⟨Nat.le_refl _⟩,⟨rX HO_0.out⟩,⟨kK HK⟩,⟨pB⟩⟩
    case round =>
     clear H';try clear p2
     try clear c3
     try clear c5
     try clear c5b0
     try clear p2
     obtain⟨x0_2,x9_2,rfl,HA,HK2,HO_0,HK,HB⟩:=hrel;cases gk with
     | zero=>exact absurd HA.out (by simp [Azz.l1])
     | succ k2 =>
      have H:=HA.out;clear HA;simp only[Azz.l1] at H;by_cases c6:x9_2 > a1
      ·rw[if_pos c6] at H;have c6b0:decide (a1 < x9_2)=true:=dE c6;clear c6;by_cases c7:0≤x9_2
       ·rw[if_pos c7] at H;have c7b0:decide (0≤x9_2)=true:=dE c7;clear c7;by_cases c8:x9_2 < (x0_2.length:Int)
        ·rw[if_pos c8] at H;have c8b0:decide (x9_2 < (x0_2.length:Int))=true:=dE c8;clear c8;obtain⟨ji9,hji9⟩:∃ j_:Int,(wrap64 (x9_2 - 1))=j_:=⟨_,rfl⟩;replace H:(if 0≤(ji9) then(if(ji9) < (x0_2.length:Int) then((Dzp.f (rd x0_2 x9_2) (rd x0_2 (ji9)) l3_0).bind fun t181=>(if t181 < 0 then(Azz.l1 k2 ((x0_2.set (x9_2:Int).toNat (rd x0_2 (ji9))).set ((ji9):Int).toNat (rd x0_2 x9_2)) a1 a2 x8_1 ji9 l3_0) else(Azz.l0 k2 x0_2 a1 a2 (wrap64 (x8_1+1)) l3_0))) else(none)) else(none))=some r:=by first|(rw[hji9] at H;exact H)|(simp only[hji9] at H ⊢;exact H)
         have hji9w:(IntKind.i64.wrap (x9_2 - 1))=ji9:=(i64_w _).trans hji9;by_cases c10:0≤(ji9)
         ·rw[if_pos c10] at H;have c10b0:decide (0≤(ji9))=true:=dE c10;clear c10;by_cases c11:(ji9) < (x0_2.length:Int)
          ·rw[if_pos c11] at H;have c11b0:decide ((ji9) < (x0_2.length:Int))=true:=dE c11;clear c11;replace H:=bS H;obtain⟨t181,A120,H⟩:=H;(try dsimp only at H);have A12:=aM A120;clear A120;by_cases c13:t181 < 0
           ·rw[if_pos c13] at H;have c13b0:decide (t181 < 0)=true:=dE c13;clear c13;obtain⟨y184,hy184⟩:∃ y_:List Int,y_=(x0_2.set (x9_2:Int).toNat (rd x0_2 (ji9))):=⟨_,rfl⟩;replace H:(Azz.l1 k2 (y184.set ((ji9):Int).toNat (rd x0_2 x9_2)) a1 a2 x8_1 ji9 l3_0)=some r:=by first|(rw[hy184];with_reducible exact H)|(have H2_:=(Option.bind_some _ _).symm.trans H;rw[hy184];with_reducible exact H2_)|(have H2_:=(Option.bind_some _ _).symm.trans H;with_reducible exact H2_)|with_reducible exact H|(rw[hy184];exact H)|exact H
            have Ny184:=aM hy184;clear hy184;obtain⟨y185,hy185⟩:∃ y_:List Int,y_=(y184.set ((ji9):Int).toNat (rd x0_2 x9_2)):=⟨_,rfl⟩;replace H:(Azz.l1 k2 y185 a1 a2 x8_1 ji9 l3_0)=some r:=by first|(rw[hy185];with_reducible exact H)|(have H2_:=(Option.bind_some _ _).symm.trans H;rw[hy185];with_reducible exact H2_)|(have H2_:=(Option.bind_some _ _).symm.trans H;with_reducible exact H2_)|with_reducible exact H|(rw[hy185];exact H)|exact H
            have Ny185:=aM hy185;clear hy185;have H':=aM H;clear H;try go_wp2
            have n0_:=aM (Kd.R_drew HO_0.out);have n1_:=aM (Kept.drew HK.out);have n2_:=aM (below_drew1 HB.out);clear HO_0;clear HK;clear HB;have HO_0:=n0_;have HK:=n1_;have HB:=n2_;clear n0_ n1_ n2_;obtain⟨Ao17,co17,eo17⟩:=Kd.R_slice HO_0.out;(first|subst eo17|(injection eo17 with f1_ f2_ f3_;have f4_:=f1_.symm;have f5_:=f3_.symm;clear f1_ f2_ f3_;subst f4_;subst f5_))
            have p179:0≤(x9_2:Int):=oE aS
            have q179:x9_2 < (x0_2.length:Int):=oE aS
            obtain⟨ad179,e179,hx179_0⟩:=Kd.at_int (Kd.R_reads' HO_0.out).2.2 x9_2 p179 q179;cases e179
            replace p179:=eq_true p179;replace q179:=eq_true q179;have p180:0≤((ji9):Int):=oE aS
            have q180:(ji9) < (x0_2.length:Int):=oE aS
            obtain⟨ad180,e180,hx180_0⟩:=Kd.at_int (Kd.R_reads' HO_0.out).2.2 (ji9) p180 q180;obtain rfl:ad179=ad180:=(by injection e180)
            replace p180:=eq_true p180;replace q180:=eq_true q180;refine start_ (n:=17) (S:=fun w'=>w'.cell? (ad179.add (x9_2).toNat)=some (.int .i64 (rd x0_2 x9_2))∧w'.cell? (ad179.add ((ji9)).toNat)=some (.int .i64 (rd x0_2 (ji9)))) (ds:=[]) #[false,false,false,false,false,false,false,false,false,false,false,false,false,false,false,false,false] (by kernel_rfl) rfl rfl ⟨hx179_0,hx180_0⟩ (fun hHeld=>?_);refine with_tabW Azz.tab4 Azz.bits4 (fun HT_ HW_=>?_)
            generalize wr.drew=w16 at HO_0 HK HB hx179_0 hx180_0 hHeld ⊢;refine pU (i:=0) (N:=some 18) HT_ #[true,false,false,false,false,false,false,false,false,false,false,false,false,false,false,false,false] ?_;refine pU (i:=1) (N:=some 19) HT_ #[true,true,false,false,false,false,false,false,false,false,false,false,false,false,false,false,false] ?_;refine pU (i:=2) (N:=some 20) HT_ #[true,true,true,false,false,false,false,false,false,false,false,false,false,false,false,false,false] ?_;refine pU (i:=3) (N:=some 21) HT_ #[true,true,true,true,false,false,false,false,false,false,false,false,false,false,false,false,false] ?_;refine pU (i:=4) (N:=some 22) HT_ #[true,true,true,true,true,false,false,false,false,false,false,false,false,false,false,false,false] ?_;refine pU (i:=5) (N:=some 23) HT_ #[true,true,true,true,true,true,false,false,false,false,false,false,false,false,false,false,false] ?_;refine pU (i:=6) (N:=some 24) HT_ #[true,true,true,true,true,true,true,false,false,false,false,false,false,false,false,false,false] ?_;refine pU (i:=7) (N:=some 25) HT_ #[true,true,true,true,true,true,true,true,false,false,false,false,false,false,false,false,false] ?_;refine pU (i:=9) (N:=some 27) HT_ #[true,true,true,true,true,true,true,true,false,true,false,false,false,false,false,false,false] ?_;refine pU (i:=10) (N:=some 28) HT_ #[true,true,true,true,true,true,true,true,false,true,true,false,false,false,false,false,false] ?_;refine pU (i:=11) (N:=some 29) HT_ #[true,true,true,true,true,true,true,true,false,true,true,true,false,false,false,false,false] ?_;refine pU (i:=12) (N:=some 30) HT_ #[true,true,true,true,true,true,true,true,false,true,true,true,true,false,false,false,false] ?_;refine take_ (i:=8) (N:=some 26) (v:=?_) (a':=?_) #[true,true,true,true,true,true,true,true,true,true,true,true,true,false,false,false,false] rfl rfl (take_ofW HT_.out HW_.out (by kernel_rfl)) (fun _ _ _ h=>h) (Or.inl ⟨by rfl,?_⟩) hHeld ?_ ?_
            rotate_left
            ·rintro w' ⟨s0,s1⟩;go_simp
             with_reducible rfl
            rotate_left
            ·simp only[Act.put,sA,sZ,sC,i64_w,i32_w];rfl
            refine take_ (i:=13) (N:=some 31) (v:=?_) (a':=?_) #[true,true,true,true,true,true,true,true,true,true,true,true,true,true,false,false,false] rfl rfl (take_ofW HT_.out HW_.out (by kernel_rfl)) (fun _ _ _ h=>h) (Or.inl ⟨by rfl,?_⟩) hHeld ?_ ?_
            rotate_left
            ·rintro w' ⟨s0,s1⟩;go_simp
             with_reducible rfl
            rotate_left
            ·simp only[Act.put,sA,sZ,sC,i64_w,i32_w];rfl
            refine one_ (i:=14) (N:=some 32) #[true,true,true,true,true,true,true,true,true,true,true,true,true,true,true,false,false] rfl rfl (one_of HT_.out (by kernel_rfl)) (by decide) (fun K hK=>?_)
            refine goesv_ Try.func41 (by kernel_rfl) rfl #[.int .i64 (rd x0_2 x9_2),.int .i64 (rd x0_2 (ji9)),.pointer A3_0] (by rfl) rfl rfl (by(try simp only[List.map_toArray,List.map_cons,List.map_nil]);first|done|(simp only[hji9];rfl)|rfl|(simp only[List.length_drop,List.length_take];rfl)) ?_
            with_reducible refine(Dzp.calls (rd x0_2 x9_2) (rd x0_2 (ji9)) _ c3_0 l3_0 t181 _ ?side1 ?side2 A12.out).mono ?_
            (case side1=>exact Kd.C_kept_now HR3_0.out (kK HK))
            (case side2=>exact HC3_0.out)
            rintro e w' ⟨rfl,⟨nd,rfl⟩⟩;refine⟨_,rfl,?_⟩;refine hK.out _ _ ⟨hHeld.1,hHeld.2⟩ (fun hHeld=>?_)
            clear hK K;refine norm_ (a':=?_) ?_ ?_;rotate_left
            ·show Act.put _ (some 32) _=_
             simp only[Act.put,sA,sZ,sC,i64_w,i32_w];rfl
            refine pU (i:=15) (N:=some 33) HT_ #[true,true,true,true,true,true,true,true,true,true,true,true,true,true,true,true,false] ?_;refine pU (i:=16) (N:=some 34) HT_ #[true,true,true,true,true,true,true,true,true,true,true,true,true,true,true,true,true] ?_;refine done_ (done_of HT_.out (by kernel_rfl)) ?_
            try go_wp2
            (try(rw[drewN_self w16];generalize hq_:World.drewN w16 _=w16;have n0_:Aside0 (Kd.R (Kd.int .i64) 3 w16 w0.heap.size (fun k_=>(P0_ k_∨w.heap.size≤k_)) (.slice (some ad179) x0_2.length co17) x0_2):=⟨by rw[← hq_];exact(rX HO_0.out)⟩;have n1_:Aside0 (Kept w w16 (fun k_=>P0_ k_)):=⟨by rw[← hq_];exact(kK HK)⟩;have n2_:Aside0 (Below w0.heap.size w0 w16):=⟨by rw[← hq_];exact pB⟩;clear HO_0 HK HB hq_;have HO_0:=n0_;have HK:=n1_;have HB:=n2_;clear n0_ n1_ n2_))
            have n0_:=aM (Kd.R_drew HO_0.out);have n1_:=aM (Kept.drew HK.out);have n2_:=aM (below_drew1 HB.out);clear HO_0;clear HK;clear HB;have HO_0:=n0_;have HK:=n1_;have HB:=n2_;clear n0_ n1_ n2_;have p182:0≤((ji9):Int):=oE aS
            have q182:(ji9) < (x0_2.length:Int):=oE aS
            obtain⟨ad182,e182,hx182_0⟩:=Kd.at_int (Kd.R_reads' HO_0.out).2.2 (ji9) p182 q182;obtain rfl:ad179=ad182:=(by injection e182)
            replace p182:=eq_true p182;replace q182:=eq_true q182;have p183:0≤(x9_2:Int):=oE aS
            have q183:x9_2 < (x0_2.length:Int):=oE aS
            obtain⟨ad183,e183,hx183_0⟩:=Kd.at_int (Kd.R_reads' HO_0.out).2.2 x9_2 p183 q183;obtain rfl:ad179=ad183:=(by injection e183)
            replace p183:=eq_true p183;replace q183:=eq_true q183;have p14:0≤(x9_2:Int):=oE aS
            have q14:(x9_2:Int) < ((x0_2.length:Int):Int):=oE aS
            obtain⟨go14,co14,eo14,gb14,gl14,cl14,HG14⟩:=Kd.R_form HO_0.out (by omega)
            (first|cases eo14|(injection eo14 with ea_ en_ ec_;(first|subst ea_|(injection ea_ with ea_;subst ea_));subst ec_;clear en_))
            have GB14:=aM gb14;have GG14:=aM HG14;clear gb14 gl14 HG14;have HMgo14:=aM (show(P0_ go14∨w.heap.size≤go14) from(HO_0.out.1 _ rfl))
            (first|simp only[add_plain] at hx179_0|skip)
            (first|simp only[add_plain] at hx180_0|skip)
            (first|simp only[add_plain] at hx182_0|skip)
            (first|simp only[add_plain] at hx183_0|skip)
            obtain⟨hx14_0,hf14_0⟩:=Kd.R_celln 0 HO_0.out (x9_2:Int) p14 q14;replace p14:=eq_true p14;replace q14:=eq_true q14;have HP19:=Kd.R_putn HO_0.out (x9_2:Int) (rd x0_2 (ji9));rw[← Ny184.out] at HP19;have HQ19:=aM HP19;clear HP19;have p15:0≤((ji9):Int):=oE aS
            have q15:((ji9):Int) < ((x0_2.length:Int):Int):=oE aS
            obtain⟨hx15_0,hf15_0⟩:=Kd.R_celln 0 HQ19.out ((ji9):Int) p15 q15;replace p15:=eq_true p15;replace q15:=eq_true q15;have HP20:=Kd.R_putn HQ19.out ((ji9):Int) (rd x0_2 x9_2);rw[← Ny185.out] at HP20;have HQ20:=aM HP20;clear HP20;refine start_ (n:=18) (S:=fun w'=>w'.cell? ⟨go14,((ji9)).toNat,none⟩=some (.int .i64 (rd x0_2 (ji9)))∧w'.cell? ⟨go14,(x9_2).toNat,none⟩=some (.int .i64 (rd x0_2 x9_2))) (ds:=[15,17]) #[false,false,false,false,false,false,false,false,false,false,false,false,false,false,false,false,false,false] (by kernel_rfl) rfl rfl ⟨hx182_0,hx183_0⟩ (fun hHeld=>?_);refine with_tabW Azz.tab6 Azz.bits6 (fun HT_ HW_=>?_)
            generalize w16.drew=w18 at HO_0 HK HB GG14 HQ19 HQ20 hf14_0 hf15_0 hx14_0 hx15_0 hx179_0 hx180_0 hx182_0 hx183_0 hHeld ⊢;refine pU (i:=0) (N:=some 37) HT_ #[true,false,false,false,false,false,false,false,false,false,false,false,false,false,false,false,false,false] ?_;refine pU (i:=1) (N:=some 38) HT_ #[true,true,false,false,false,false,false,false,false,false,false,false,false,false,false,false,false,false] ?_;refine pU (i:=2) (N:=some 39) HT_ #[true,true,true,false,false,false,false,false,false,false,false,false,false,false,false,false,false,false] ?_;refine pU (i:=3) (N:=some 40) HT_ #[true,true,true,true,false,false,false,false,false,false,false,false,false,false,false,false,false,false] ?_;refine pU (i:=4) (N:=some 41) HT_ #[true,true,true,true,true,false,false,false,false,false,false,false,false,false,false,false,false,false] ?_;refine pU (i:=5) (N:=some 42) HT_ #[true,true,true,true,true,true,false,false,false,false,false,false,false,false,false,false,false,false] ?_;refine pU (i:=6) (N:=some 43) HT_ #[true,true,true,true,true,true,true,false,false,false,false,false,false,false,false,false,false,false] ?_;refine pU (i:=7) (N:=some 44) HT_ #[true,true,true,true,true,true,true,true,false,false,false,false,false,false,false,false,false,false] ?_;refine pU (i:=8) (N:=some 45) HT_ #[true,true,true,true,true,true,true,true,true,false,false,false,false,false,false,false,false,false] ?_;refine pU (i:=10) (N:=some 47) HT_ #[true,true,true,true,true,true,true,true,true,false,true,false,false,false,false,false,false,false] ?_;refine pU (i:=11) (N:=some 48) HT_ #[true,true,true,true,true,true,true,true,true,false,true,true,false,false,false,false,false,false] ?_;refine pU (i:=12) (N:=some 49) HT_ #[true,true,true,true,true,true,true,true,true,false,true,true,true,false,false,false,false,false] ?_;refine take_ (i:=9) (N:=some 46) (v:=?_) (a':=?_) #[true,true,true,true,true,true,true,true,true,true,true,true,true,false,false,false,false,false] rfl rfl (take_ofW HT_.out HW_.out (by kernel_rfl)) (fun _ _ _ h=>h) (Or.inl ⟨by rfl,?_⟩) hHeld ?_ ?_
            rotate_left
            ·rintro w' ⟨s0,s1⟩;go_simp
             with_reducible rfl
            rotate_left
            ·simp only[Act.put,sA,sZ,sC,i64_w,i32_w];rfl
            refine take_ (i:=13) (N:=some 50) (v:=?_) (a':=?_) #[true,true,true,true,true,true,true,true,true,true,true,true,true,true,false,false,false,false] rfl rfl (take_ofW HT_.out HW_.out (by kernel_rfl)) (fun _ _ _ h=>h) (Or.inl ⟨by rfl,?_⟩) hHeld ?_ ?_
            rotate_left
            ·rintro w' ⟨s0,s1⟩;go_simp
             with_reducible rfl
            rotate_left
            ·simp only[Act.put,sA,sZ,sC,i64_w,i32_w];rfl
            refine pU (i:=14) (N:=some 51) HT_ #[true,true,true,true,true,true,true,true,true,true,true,true,true,true,true,false,false,false] ?_;refine last_ (i:=15) (N:=none) #[true,true,true,true,true,true,true,true,true,true,true,true,true,true,true,true,false,false] rfl rfl (one_of HT_.out (by kernel_rfl)) (by decide) (fun K hK=>?_)
            refine skip_ (w1:=?_) (by rfl) rfl ?_ ?_
            rotate_left
            ·go_simp
             rfl
            refine hK.out _ _ ?_;clear hK K;refine pU (i:=16) (N:=some 52) HT_ #[true,true,true,true,true,true,true,true,true,true,true,true,true,true,true,true,true,false] ?_;refine last_ (i:=17) (N:=none) #[true,true,true,true,true,true,true,true,true,true,true,true,true,true,true,true,true,true] rfl rfl (one_of HT_.out (by kernel_rfl)) (by decide) (fun K hK=>?_)
            refine skip_ (w1:=?_) (by rfl) rfl ?_ ?_
            rotate_left
            ·go_simp
             rfl
            refine hK.out _ _ ?_;clear hK K;refine done_ (done_of HT_.out (by kernel_rfl)) ?_
            try go_wp2
            go_roundg k2
            case measure=>have:=HK1.out;have:=HK2.out;omega
            case rel=>exact⟨(y185),(ji9),(by first|rfl|(simp;done)|(simp only[← hji9] <;> (first|rfl|simp))|(simp [*];done)),H',⟨by have:=HK1.out;have:=HK2.out;omega⟩,⟨rX HQ20.out⟩,⟨by repeat(first|(with_reducible first|exact HK.out|apply Kept.alloc|apply Kept.drewN|apply Kept.drew|refine Kept.setCell ?_ HMgo14.out _|refine Kept.setCell ?_ HMgo14.out _)|exact HK.out)⟩,⟨pB⟩⟩
           ·rw[if_neg c13] at H;have c13b0:decide (t181 < 0)=false:=decide_eq_false c13;clear c13;have H':=aM H;clear H;try go_wp2
            have n0_:=aM (Kd.R_drew HO_0.out);have n1_:=aM (Kept.drew HK.out);have n2_:=aM (below_drew1 HB.out);clear HO_0;clear HK;clear HB;have HO_0:=n0_;have HK:=n1_;have HB:=n2_;clear n0_ n1_ n2_;obtain⟨Ao22,co22,eo22⟩:=Kd.R_slice HO_0.out;(first|subst eo22|(injection eo22 with f1_ f2_ f3_;have f4_:=f1_.symm;have f5_:=f3_.symm;clear f1_ f2_ f3_;subst f4_;subst f5_))
            have p179:0≤(x9_2:Int):=oE aS
            have q179:x9_2 < (x0_2.length:Int):=oE aS
            obtain⟨ad179,e179,hx179_0⟩:=Kd.at_int (Kd.R_reads' HO_0.out).2.2 x9_2 p179 q179;cases e179
            replace p179:=eq_true p179;replace q179:=eq_true q179;have p180:0≤((ji9):Int):=oE aS
            have q180:(ji9) < (x0_2.length:Int):=oE aS
            obtain⟨ad180,e180,hx180_0⟩:=Kd.at_int (Kd.R_reads' HO_0.out).2.2 (ji9) p180 q180;obtain rfl:ad179=ad180:=(by injection e180)
            replace p180:=eq_true p180;replace q180:=eq_true q180;refine start_ (n:=17) (S:=fun w'=>w'.cell? (ad179.add (x9_2).toNat)=some (.int .i64 (rd x0_2 x9_2))∧w'.cell? (ad179.add ((ji9)).toNat)=some (.int .i64 (rd x0_2 (ji9)))) (ds:=[]) #[false,false,false,false,false,false,false,false,false,false,false,false,false,false,false,false,false] (by kernel_rfl) rfl rfl ⟨hx179_0,hx180_0⟩ (fun hHeld=>?_);refine with_tabW Azz.tab4 Azz.bits4 (fun HT_ HW_=>?_)
            generalize wr.drew=w21 at HO_0 HK HB hx179_0 hx180_0 hHeld ⊢;refine pU (i:=0) (N:=some 18) HT_ #[true,false,false,false,false,false,false,false,false,false,false,false,false,false,false,false,false] ?_;refine pU (i:=1) (N:=some 19) HT_ #[true,true,false,false,false,false,false,false,false,false,false,false,false,false,false,false,false] ?_;refine pU (i:=2) (N:=some 20) HT_ #[true,true,true,false,false,false,false,false,false,false,false,false,false,false,false,false,false] ?_;refine pU (i:=3) (N:=some 21) HT_ #[true,true,true,true,false,false,false,false,false,false,false,false,false,false,false,false,false] ?_;refine pU (i:=4) (N:=some 22) HT_ #[true,true,true,true,true,false,false,false,false,false,false,false,false,false,false,false,false] ?_;refine pU (i:=5) (N:=some 23) HT_ #[true,true,true,true,true,true,false,false,false,false,false,false,false,false,false,false,false] ?_;refine pU (i:=6) (N:=some 24) HT_ #[true,true,true,true,true,true,true,false,false,false,false,false,false,false,false,false,false] ?_;refine pU (i:=7) (N:=some 25) HT_ #[true,true,true,true,true,true,true,true,false,false,false,false,false,false,false,false,false] ?_;refine pU (i:=9) (N:=some 27) HT_ #[true,true,true,true,true,true,true,true,false,true,false,false,false,false,false,false,false] ?_;refine pU (i:=10) (N:=some 28) HT_ #[true,true,true,true,true,true,true,true,false,true,true,false,false,false,false,false,false] ?_;refine pU (i:=11) (N:=some 29) HT_ #[true,true,true,true,true,true,true,true,false,true,true,true,false,false,false,false,false] ?_;refine pU (i:=12) (N:=some 30) HT_ #[true,true,true,true,true,true,true,true,false,true,true,true,true,false,false,false,false] ?_;refine take_ (i:=8) (N:=some 26) (v:=?_) (a':=?_) #[true,true,true,true,true,true,true,true,true,true,true,true,true,false,false,false,false] rfl rfl (take_ofW HT_.out HW_.out (by kernel_rfl)) (fun _ _ _ h=>h) (Or.inl ⟨by rfl,?_⟩) hHeld ?_ ?_
            rotate_left
            ·rintro w' ⟨s0,s1⟩;go_simp
             with_reducible rfl
            rotate_left
            ·simp only[Act.put,sA,sZ,sC,i64_w,i32_w];rfl
            refine take_ (i:=13) (N:=some 31) (v:=?_) (a':=?_) #[true,true,true,true,true,true,true,true,true,true,true,true,true,true,false,false,false] rfl rfl (take_ofW HT_.out HW_.out (by kernel_rfl)) (fun _ _ _ h=>h) (Or.inl ⟨by rfl,?_⟩) hHeld ?_ ?_
            rotate_left
            ·rintro w' ⟨s0,s1⟩;go_simp
             with_reducible rfl
            rotate_left
            ·simp only[Act.put,sA,sZ,sC,i64_w,i32_w];rfl
            refine one_ (i:=14) (N:=some 32) #[true,true,true,true,true,true,true,true,true,true,true,true,true,true,true,false,false] rfl rfl (one_of HT_.out (by kernel_rfl)) (by decide) (fun K hK=>?_)
            refine goesv_ Try.func41 (by kernel_rfl) rfl #[.int .i64 (rd x0_2 x9_2),.int .i64 (rd x0_2 (ji9)),.pointer A3_0] (by rfl) rfl rfl (by(try simp only[List.map_toArray,List.map_cons,List.map_nil]);first|done|(simp only[hji9];rfl)|rfl|(simp only[List.length_drop,List.length_take];rfl)) ?_
            with_reducible refine(Dzp.calls (rd x0_2 x9_2) (rd x0_2 (ji9)) _ c3_0 l3_0 t181 _ ?side1 ?side2 A12.out).mono ?_
            (case side1=>exact Kd.C_kept_now HR3_0.out (kK HK))
            (case side2=>exact HC3_0.out)
            rintro e w' ⟨rfl,⟨nd,rfl⟩⟩;refine⟨_,rfl,?_⟩;refine hK.out _ _ ⟨hHeld.1,hHeld.2⟩ (fun hHeld=>?_)
            clear hK K;refine norm_ (a':=?_) ?_ ?_;rotate_left
            ·show Act.put _ (some 32) _=_
             simp only[Act.put,sA,sZ,sC,i64_w,i32_w];rfl
            refine pU (i:=15) (N:=some 33) HT_ #[true,true,true,true,true,true,true,true,true,true,true,true,true,true,true,true,false] ?_;refine pU (i:=16) (N:=some 34) HT_ #[true,true,true,true,true,true,true,true,true,true,true,true,true,true,true,true,true] ?_;refine done_ (done_of HT_.out (by kernel_rfl)) ?_
            try go_wp2
            go_roundg k2
            case measure=>have:=HK1.out;have:=HK2.out;omega
            case rel=>exact⟨(x0_2),(wrap64 (x8_1+1)),sD,H',⟨by have:=HK1.out;have:=HK2.out;omega⟩,⟨rX HO_0.out⟩,⟨kK HK⟩,⟨pB⟩⟩
          ·rw[if_neg c11] at H;exact absurd H (by simp)
         ·rw[if_neg c10] at H;exact absurd H (by simp)
        ·rw[if_neg c8] at H;exact absurd H (by simp)
       ·rw[if_neg c7] at H;exact absurd H (by simp)
      ·rw[if_neg c6] at H;have c6b0:decide (a1 < x9_2)=false:=decide_eq_false c6;clear c6;have H':=aM H;clear H;try go_wp2
       have n0_:=aM (Kd.R_drew HO_0.out);have n1_:=aM (Kept.drew HK.out);have n2_:=aM (below_drew1 HB.out);clear HO_0;clear HK;clear HB;have HO_0:=n0_;have HK:=n1_;have HB:=n2_;clear n0_ n1_ n2_;refine start_ (n:=17) (S:=fun w'=>True) (ds:=[]) #[false,false,false,false,false,false,false,false,false,false,false,false,false,false,false,false,false] (by kernel_rfl) rfl rfl trivial (fun hHeld=>?_);refine with_tabW Azz.tab4 Azz.bits4 (fun HT_ HW_=>?_)
       generalize wr.drew=w23 at HO_0 HK HB hHeld ⊢;refine pU (i:=0) (N:=some 18) HT_ #[true,false,false,false,false,false,false,false,false,false,false,false,false,false,false,false,false] ?_;refine pU (i:=1) (N:=some 19) HT_ #[true,true,false,false,false,false,false,false,false,false,false,false,false,false,false,false,false] ?_;refine pU (i:=2) (N:=some 20) HT_ #[true,true,true,false,false,false,false,false,false,false,false,false,false,false,false,false,false] ?_;refine pU (i:=3) (N:=some 21) HT_ #[true,true,true,true,false,false,false,false,false,false,false,false,false,false,false,false,false] ?_;refine pure_ (i:=4) (N:=some 22) (v:=undef) (a':=?_) #[true,true,true,true,true,false,false,false,false,false,false,false,false,false,false,false,false] rfl rfl (any_of HT_.out (by kernel_rfl)) (fun _ _ _ h=>h) (Or.inr ⟨by rfl,rfl⟩) ?_ ?_
       rotate_left
       ·simp only[Act.put,sA,sZ,sC,i64_w,i32_w];rfl
       refine pure_ (i:=5) (N:=some 23) (v:=undef) (a':=?_) #[true,true,true,true,true,true,false,false,false,false,false,false,false,false,false,false,false] rfl rfl (any_of HT_.out (by kernel_rfl)) (fun _ _ _ h=>h) (Or.inr ⟨by rfl,rfl⟩) ?_ ?_
       rotate_left
       ·simp only[Act.put,sA,sZ,sC,i64_w,i32_w];rfl
       refine pure_ (i:=6) (N:=some 24) (v:=undef) (a':=?_) #[true,true,true,true,true,true,true,false,false,false,false,false,false,false,false,false,false] rfl rfl (any_of HT_.out (by kernel_rfl)) (fun _ _ _ h=>h) (Or.inr ⟨by rfl,rfl⟩) ?_ ?_
       rotate_left
       ·simp only[Act.put,sA,sZ,sC,i64_w,i32_w];rfl
       refine pure_ (i:=7) (N:=some 25) (v:=undef) (a':=?_) #[true,true,true,true,true,true,true,true,false,false,false,false,false,false,false,false,false] rfl rfl (any_of HT_.out (by kernel_rfl)) (fun _ _ _ h=>h) (Or.inr ⟨by rfl,rfl⟩) ?_ ?_
       rotate_left
       ·simp only[Act.put,sA,sZ,sC,i64_w,i32_w];rfl
       refine pure_ (i:=8) (N:=some 26) (v:=undef) (a':=?_) #[true,true,true,true,true,true,true,true,true,false,false,false,false,false,false,false,false] rfl rfl (any_of HT_.out (by kernel_rfl)) (fun _ _ _ h=>h) (Or.inr ⟨by rfl,rfl⟩) ?_ ?_
       rotate_left
       ·simp only[Act.put,sA,sZ,sC,i64_w,i32_w];rfl
       refine pure_ (i:=9) (N:=some 27) (v:=undef) (a':=?_) #[true,true,true,true,true,true,true,true,true,true,false,false,false,false,false,false,false] rfl rfl (any_of HT_.out (by kernel_rfl)) (fun _ _ _ h=>h) (Or.inr ⟨by rfl,rfl⟩) ?_ ?_
       rotate_left
       ·simp only[Act.put,sA,sZ,sC,i64_w,i32_w];rfl
       refine pure_ (i:=10) (N:=some 28) (v:=undef) (a':=?_) #[true,true,true,true,true,true,true,true,true,true,true,false,false,false,false,false,false] rfl rfl (any_of HT_.out (by kernel_rfl)) (fun _ _ _ h=>h) (Or.inr ⟨by rfl,rfl⟩) ?_ ?_
       rotate_left
       ·simp only[Act.put,sA,sZ,sC,i64_w,i32_w];rfl
       refine pure_ (i:=11) (N:=some 29) (v:=undef) (a':=?_) #[true,true,true,true,true,true,true,true,true,true,true,true,false,false,false,false,false] rfl rfl (any_of HT_.out (by kernel_rfl)) (fun _ _ _ h=>h) (Or.inr ⟨by rfl,rfl⟩) ?_ ?_
       rotate_left
       ·simp only[Act.put,sA,sZ,sC,i64_w,i32_w];rfl
       refine pure_ (i:=12) (N:=some 30) (v:=undef) (a':=?_) #[true,true,true,true,true,true,true,true,true,true,true,true,true,false,false,false,false] rfl rfl (any_of HT_.out (by kernel_rfl)) (fun _ _ _ h=>h) (Or.inr ⟨by rfl,rfl⟩) ?_ ?_
       rotate_left
       ·simp only[Act.put,sA,sZ,sC,i64_w,i32_w];rfl
       refine pure_ (i:=13) (N:=some 31) (v:=undef) (a':=?_) #[true,true,true,true,true,true,true,true,true,true,true,true,true,true,false,false,false] rfl rfl (any_of HT_.out (by kernel_rfl)) (fun _ _ _ h=>h) (Or.inr ⟨by rfl,rfl⟩) ?_ ?_
       rotate_left
       ·simp only[Act.put,sA,sZ,sC,i64_w,i32_w];rfl
       refine pure_ (i:=14) (N:=some 32) (v:=undef) (a':=?_) #[true,true,true,true,true,true,true,true,true,true,true,true,true,true,true,false,false] rfl rfl (any_of HT_.out (by kernel_rfl)) (fun _ _ _ h=>h) (Or.inr ⟨by rfl,rfl⟩) ?_ ?_
       rotate_left
       ·simp only[Act.put,sA,sZ,sC,i64_w,i32_w];rfl
       refine pure_ (i:=15) (N:=some 33) (v:=undef) (a':=?_) #[true,true,true,true,true,true,true,true,true,true,true,true,true,true,true,true,false] rfl rfl (any_of HT_.out (by kernel_rfl)) (fun _ _ _ h=>h) (Or.inr ⟨by rfl,rfl⟩) ?_ ?_
       rotate_left
       ·simp only[Act.put,sA,sZ,sC,i64_w,i32_w];rfl
       refine pU (i:=16) (N:=some 34) HT_ #[true,true,true,true,true,true,true,true,true,true,true,true,true,true,true,true,true] ?_;refine done_ (done_of HT_.out (by kernel_rfl)) ?_
       try go_wp2
       go_roundg k2
       case measure=>have:=HK1.out;have:=HK2.out;omega
       case rel=>exact⟨(x0_2),(wrap64 (x8_1+1)),sD,H',⟨by have:=HK1.out;have:=HK2.out;omega⟩,⟨rX HO_0.out⟩,⟨kK HK⟩,⟨pB⟩⟩
   ·rw[if_neg c5] at H;have c5b0:decide (x8_1 < a2)=false:=decide_eq_false c5;clear c5;obtain rfl:=Option.some.inj H;go_wp2
    first|go_end0|((try simp only[Exit.inBlock,Exit.then]);refine bodyPost_ret (results_none rfl _ _ _) rfl ?_)
    exact⟨eW,rX HO_0.out,pB,kK HK⟩

end Go.Proofs.Ytpnfdhhfdidlmaa.Print
