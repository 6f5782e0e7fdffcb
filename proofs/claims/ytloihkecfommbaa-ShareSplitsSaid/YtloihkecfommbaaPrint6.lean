import Derived.Test.YtloihkecfommbaaPrint0
import Derived.Test.YtloihkecfommbaaPrint5
namespace Go.Proofs.Ytloihkecfommbaa.Print
open Go.RowKit Go.Proofs.YtloihkecfommbaaW.PrintWords Go.Proofs.YtloihkecfommbaaW.PrintLast Go.Proofs.YtloihkecfommbaaW.PrintMore
attribute [local go_sem] max2_int min2_int max_two min_two max_three min_three max_four min_four
set_option linter.unusedVariables false
set_option maxRecDepth 100000
set_option maxHeartbeats 8000000
set_option linter.unusedSimpArgs false

mutual
def Azq.l0:Nat→List Int→Int→Int→Int→List (List Int)→Option (List Int)
 | 0,_,_,_,_,_=>none
 | k+1,x0,x1,x2,x8,x930=>if x8 < x2 then(Azq.l1 k x0 x1 x2 x8 x8 x930) else(some x0)
def Azq.l1:Nat→List Int→Int→Int→Int→Int→List (List Int)→Option (List Int)
 | 0,_,_,_,_,_,_=>none
 | k+1,x0,x1,x2,x8,x9,x930=>if x9 > x1 then(if 0≤x9 then(if x9 < (x0.length:Int) then(if 0≤(wrap64 (x9 - 1)) then(if(wrap64 (x9 - 1)) < (x0.length:Int) then((Czj.f (rd x0 x9) (rd x0 (wrap64 (x9 - 1))) x930).bind fun t143=>(if t143 < 0 then(Azq.l1 k ((x0.set (x9:Int).toNat (rd x0 (wrap64 (x9 - 1)))).set ((wrap64 (x9 - 1)):Int).toNat (rd x0 x9)) x1 x2 x8 (wrap64 (x9 - 1)) x930) else(Azq.l0 k x0 x1 x2 (wrap64 (x8+1)) x930))) else(none)) else(none)) else(none)) else(none)) else(Azq.l0 k x0 x1 x2 (wrap64 (x8+1)) x930)
end
def Azq.f (k:Nat) (l0:List Int) (a1:Int) (a2:Int) (l3_0:List (List Int)):Option (List Int):=Azq.l0 k l0 a1 a2 (wrap64 (a1+1)) l3_0
theorem Azq.mono_l:∀ k,(∀ y0 y1 y2 y3 y4,LeO (Azq.l0 k y0 y1 y2 y3 y4) (Azq.l0 (k+1) y0 y1 y2 y3 y4))∧(∀ y0 y1 y2 y3 y4 y5,LeO (Azq.l1 k y0 y1 y2 y3 y4 y5) (Azq.l1 (k+1) y0 y1 y2 y3 y4 y5))
 | 0=>⟨fun _ _ _ _ _ r h=>by simp [Azq.l0] at h,fun _ _ _ _ _ _ r h=>by simp [Azq.l1] at h⟩
 | k+1=>by
  obtain⟨ih0,ih1⟩:=Azq.mono_l k;refine⟨?_,?_⟩
  ·intro y0 y1 y2 y3 y4;unfold Azq.l0;with_reducible repeat' first|exact ih0 _ _ _ _ _|exact ih1 _ _ _ _ _ _|exact LeO.refl _|exact LeO.none _|refine LeO.ite ?_ ?_|refine LeO.bind ?_ (fun _=>?_)
  ·intro y0 y1 y2 y3 y4 y5;unfold Azq.l1;with_reducible repeat' first|exact ih0 _ _ _ _ _|exact ih1 _ _ _ _ _ _|exact LeO.refl _|exact LeO.none _|refine LeO.ite ?_ ?_|refine LeO.bind ?_ (fun _=>?_)
theorem Azq.mono:∀ a0 a1 a2 a3 k,LeO (Azq.f k a0 a1 a2 a3) (Azq.f (k+1) a0 a1 a2 a3):=by
 intro a0 a1 a2 a3 k;obtain⟨ih0,ih1⟩:=Azq.mono_l k;unfold Azq.f;with_reducible repeat' first|exact ih0 _ _ _ _ _|exact ih1 _ _ _ _ _ _|exact LeO.refl _|exact LeO.none _|refine LeO.ite ?_ ?_|refine LeO.bind ?_ (fun _=>?_)
def Azq.T4:Bool × List (List Nat × List Nat):=(true,[([],[]),([],[]),([0,1],[0,1]),([2],[2]),([3],[3]),([3],[3]),([3],[3]),([5,6,3],[3,5,6]),([7,3],[3,7]),([3],[3]),([3],[3]),([10,3],[3,10]),([9,11,3],[3,9,11]),([12,3],[3,12]),([4,8,13,3,3],[3,4,8,13]),([14,3],[3,14]),([3,15],[3,15])])
def Azq.B4:List Nat:=[0,0,3,7,15,15,15,111,239,15,15,1039,3599,7695,16383,32767,65535]
theorem Azq.tab4:rtab .any (opsOf Try.f57 4)=Azq.T4:=by kernel_rfl
theorem Azq.bits4:waitsOk Azq.T4.2 Azq.B4=true:=by kernel_rfl
def Azq.T6:Bool × List (List Nat × List Nat):=(true,[([],[]),([],[]),([],[]),([],[]),([3],[3]),([],[]),([],[]),([6],[6]),([5,7],[5,7]),([8],[8]),([],[]),([],[]),([10,11],[10,11]),([12],[12]),([0,1,0,1,5,6,7,8,9,13],[0,1]),([14,9,0,1,5,6,7,8,9,13],[9,14]),([2,4,0,1,2,3,4,5,6,7,8,9,10,11,12,13,14,15],[2,4]),([16,13,15,0,1,2,3,4,5,6,7,8,9,10,11,12,13,14,15],[13,16])])
def Azq.B6:List Nat:=[0,0,0,0,8,0,0,64,224,480,0,0,3072,7168,16355,32739,65535,131071]
theorem Azq.tab6:rtab .any (opsOf Try.f57 6)=Azq.T6:=by kernel_rfl
theorem Azq.bits6:waitsOk Azq.T6.2 Azq.B6=true:=by kernel_rfl
theorem Azq.calls (k:Nat) (P0_:Nat→Prop) (u9000_:Value) (l0:List Int) (a1:Int) (a2:Int) (A3_0:Option Addr) (c3_0:Nat) (l3_0:List (List Int)) (r:List Int) (w0 w:World) (hB:Below w0.heap.size w0 w) (ho0:Kd.R (Kd.int .i64) 3 w w0.heap.size P0_ u9000_ l0) (hr3_0:∀ W_,Kept w W_ (fun k_=>P0_ k_)→Kd.C (Kd.slice 3 (Kd.int .i64)) W_ A3_0 l3_0.length l3_0) (hc3_0:l3_0.length≤c3_0) (h:Azq.f k l0 a1 a2 l3_0=some r) :
  Calls Try.prog 57 #[u9000_,.int .i64 a1,.int .i64 a2,.func (.func 26) #[] #[.pointer A3_0]] w fun e w'=>e=.returned (.tuple #[])∧Kd.R (Kd.int .i64) 3 w' w0.heap.size (fun k_=>(P0_ k_∨w.heap.size≤k_)) u9000_ r∧Below w0.heap.size w0 w'∧Kept w w' (fun k_=>P0_ k_):=by
 have HO0:=aM (show Kd.R (Kd.int .i64) 3 w w0.heap.size (fun k_=>(P0_ k_∨w.heap.size≤k_)) u9000_ l0 from Kd.R_mono ho0 (fun k_ hk=>(.inl hk)))
 have HR3_0:=aM hr3_0;have HC3_0:=aM hc3_0;clear hr3_0 hc3_0;have HK:=aM (Kept.refl w (fun k_=>P0_ k_))
 have HW0:=aM hB.size;have HB:=aM hB;clear hB;have H:(Azq.l0 k l0 a1 a2 (wrap64 (a1+1)) l3_0)=some r:=h;clear h;have H':=aM H;clear H;go_enter Try.func57,Try.ntmps57
 go_wp2
 go_loopg [8] k (fun kq v8 w'=>∃ (x0_1:List Int) (x8_1:Int),v8=.int .i64 x8_1∧Aside0 (Azq.l0 kq x0_1 a1 a2 x8_1 l3_0=some r)∧Aside0 (kq≤k)∧Aside0 (Kd.R (Kd.int .i64) 3 w' w0.heap.size (fun k_=>(P0_ k_∨w.heap.size≤k_)) u9000_ x0_1)∧Aside0 (Kept w w' (fun k_=>P0_ k_))∧Aside0 (Below w0.heap.size w0 w'))
 case atStart=>exact⟨(l0),(wrap64 (a1+1)),sD,H',⟨Nat.le_refl _⟩,⟨rX HO0.out⟩,⟨kK HK⟩,⟨pB⟩⟩
 case round =>
  clear H';try clear p2
  try clear c3
  obtain⟨x0_1,x8_1,rfl,HA,HK1,HO_0,HK,HB⟩:=hrel;cases gk with
  | zero=>exact absurd HA.out (by simp [Azq.l0])
  | succ k1 =>
   have H:=HA.out;clear HA;simp only[Azq.l0] at H;by_cases c5:x8_1 < a2
   ·rw[if_pos c5] at H;have c5b0:decide (x8_1 < a2)=true:=dE c5;clear c5;have H':=aM H;clear H;go_wp2
    go_loopg [9] k1 (fun kq v9 w'=>∃ (x0_2:List Int) (x9_2:Int),v9=.int .i64 x9_2∧Aside0 (Azq.l1 kq x0_2 a1 a2 x8_1 x9_2 l3_0=some r)∧Aside0 (kq≤k1)∧Aside0 (Kd.R (Kd.int .i64) 3 w' w0.heap.size (fun k_=>(P0_ k_∨w.heap.size≤k_)) u9000_ x0_2)∧Aside0 (Kept w w' (fun k_=>P0_ k_))∧Aside0 (Below w0.heap.size w0 w'))
    case atStart=>exact⟨(x0_1),(x8_1),sD,H',⟨Nat.le_refl _⟩,⟨rX HO_0.out⟩,⟨kK HK⟩,⟨pB⟩⟩
    case round =>
     clear H';try clear p2
     try clear c3
     try clear c5
     try clear c5b0
     try clear p2
     obtain⟨x0_2,x9_2,rfl,HA,HK2,HO_0,HK,HB⟩:=hrel;cases gk with
     | zero=>exact absurd HA.out (by simp [Azq.l1])
     | succ k2 =>
      have H:=HA.out;clear HA;simp only[Azq.l1] at H;by_cases c6:x9_2 > a1
      ·rw[if_pos c6] at H;have c6b0:decide (a1 < x9_2)=true:=dE c6;clear c6;by_cases c7:0≤x9_2
       ·rw[if_pos c7] at H;have c7b0:decide (0≤x9_2)=true:=dE c7;clear c7;by_cases c8:x9_2 < (x0_2.length:Int)
        ·rw[if_pos c8] at H;have c8b0:decide (x9_2 < (x0_2.length:Int))=true:=dE c8;clear c8;obtain⟨ji9,hji9⟩:∃ j_:Int,(wrap64 (x9_2 - 1))=j_:=⟨_,rfl⟩;replace H:(if 0≤(ji9) then(if(ji9) < (x0_2.length:Int) then((Czj.f (rd x0_2 x9_2) (rd x0_2 (ji9)) l3_0).bind fun t143=>(if t143 < 0 then(Azq.l1 k2 ((x0_2.set (x9_2:Int).toNat (rd x0_2 (ji9))).set ((ji9):Int).toNat (rd x0_2 x9_2)) a1 a2 x8_1 ji9 l3_0) else(Azq.l0 k2 x0_2 a1 a2 (wrap64 (x8_1+1)) l3_0))) else(none)) else(none))=some r:=by first|(rw[hji9] at H;exact H)|(simp only[hji9] at H ⊢;exact H)
         have hji9w:(IntKind.i64.wrap (x9_2 - 1))=ji9:=(i64_w _).trans hji9;by_cases c10:0≤(ji9)
         ·rw[if_pos c10] at H;have c10b0:decide (0≤(ji9))=true:=dE c10;clear c10;by_cases c11:(ji9) < (x0_2.length:Int)
          ·rw[if_pos c11] at H;have c11b0:decide ((ji9) < (x0_2.length:Int))=true:=dE c11;clear c11;replace H:=bS H;obtain⟨t143,A120,H⟩:=H;(try dsimp only at H);have A12:=aM A120;clear A120;by_cases c13:t143 < 0
           ·rw[if_pos c13] at H;have c13b0:decide (t143 < 0)=true:=dE c13;clear c13;obtain⟨y146,hy146⟩:∃ y_:List Int,y_=(x0_2.set (x9_2:Int).toNat (rd x0_2 (ji9))):=⟨_,rfl⟩;replace H:(Azq.l1 k2 (y146.set ((ji9):Int).toNat (rd x0_2 x9_2)) a1 a2 x8_1 ji9 l3_0)=some r:=by first|(rw[hy146];with_reducible exact H)|(have H2_:=(Option.bind_some _ _).symm.trans H;rw[hy146];with_reducible exact H2_)|(have H2_:=(Option.bind_some _ _).symm.trans H;with_reducible exact H2_)|with_reducible exact H|(rw[hy146];exact H)|exact H
            have Ny146:=aM hy146;clear hy146;obtain⟨y147,hy147⟩:∃ y_:List Int,y_=(y146.set ((ji9):Int).toNat (rd x0_2 x9_2)):=⟨_,rfl⟩;replace H:(Azq.l1 k2 y147 a1 a2 x8_1 ji9 l3_0)=some r:=by first|(rw[hy147];with_reducible exact H)|(have H2_:=(Option.bind_some _ _).symm.trans H;rw[hy147];with_reducible exact H2_)|(have H2_:=(Option.bind_some _ _).symm.trans H;with_reducible exact H2_)|with_reducible exact H|(rw[hy147];exact H)|exact H
            have Ny147:=aM hy147;clear hy147;have H':=aM H;clear H;try go_wp2
            have n0_:=aM (Kd.R_drew HO_0.out);have n1_:=aM (Kept.drew HK.out);have n2_:=aM (below_drew1 HB.out);clear HO_0;clear HK;clear HB;have HO_0:=n0_;have HK:=n1_;have HB:=n2_;clear n0_ n1_ n2_;obtain⟨Ao17,co17,eo17⟩:=Kd.R_slice HO_0.out;(first|subst eo17|(injection eo17 with f1_ f2_ f3_;have f4_:=f1_.symm;have f5_:=f3_.symm;clear f1_ f2_ f3_;subst f4_;subst f5_))
            have p141:0≤(x9_2:Int):=oE aS
            have q141:x9_2 < (x0_2.length:Int):=oE aS
            obtain⟨ad141,e141,hx141_0⟩:=Kd.at_int (Kd.R_reads' HO_0.out).2.2 x9_2 p141 q141;cases e141
            replace p141:=eq_true p141;replace q141:=eq_true q141;have p142:0≤((ji9):Int):=oE aS
            have q142:(ji9) < (x0_2.length:Int):=oE aS
            obtain⟨ad142,e142,hx142_0⟩:=Kd.at_int (Kd.R_reads' HO_0.out).2.2 (ji9) p142 q142;obtain rfl:ad141=ad142:=(by injection e142)
            replace p142:=eq_true p142;replace q142:=eq_true q142;refine start_ (n:=17) (S:=fun w'=>w'.cell? (ad141.add (x9_2).toNat)=some (.int .i64 (rd x0_2 x9_2))∧w'.cell? (ad141.add ((ji9)).toNat)=some (.int .i64 (rd x0_2 (ji9)))) (ds:=[]) #[false,false,false,false,false,false,false,false,false,false,false,false,false,false,false,false,false] (by kernel_rfl) rfl rfl ⟨hx141_0,hx142_0⟩ (fun hHeld=>?_);refine with_tabW Azq.tab4 Azq.bits4 (fun HT_ HW_=>?_)
            generalize wr.drew=w16 at HO_0 HK HB hx141_0 hx142_0 hHeld ⊢;refine pU (i:=0) (N:=some 18) HT_ #[true,false,false,false,false,false,false,false,false,false,false,false,false,false,false,false,false] ?_;refine pU (i:=1) (N:=some 19) HT_ #[true,true,false,false,false,false,false,false,false,false,false,false,false,false,false,false,false] ?_;refine pU (i:=2) (N:=some 20) HT_ #[true,true,true,false,false,false,false,false,false,false,false,false,false,false,false,false,false] ?_;refine pU (i:=3) (N:=some 21) HT_ #[true,true,true,true,false,false,false,false,false,false,false,false,false,false,false,false,false] ?_;refine pU (i:=4) (N:=some 22) HT_ #[true,true,true,true,true,false,false,false,false,false,false,false,false,false,false,false,false] ?_;refine pU (i:=5) (N:=some 23) HT_ #[true,true,true,true,true,true,false,false,false,false,false,false,false,false,false,false,false] ?_;refine pU (i:=6) (N:=some 24) HT_ #[true,true,true,true,true,true,true,false,false,false,false,false,false,false,false,false,false] ?_;refine pU (i:=7) (N:=some 25) HT_ #[true,true,true,true,true,true,true,true,false,false,false,false,false,false,false,false,false] ?_;refine pU (i:=9) (N:=some 27) HT_ #[true,true,true,true,true,true,true,true,false,true,false,false,false,false,false,false,false] ?_;refine pU (i:=10) (N:=some 28) HT_ #[true,true,true,true,true,true,true,true,false,true,true,false,false,false,false,false,false] ?_;refine pU (i:=11) (N:=some 29) HT_ #[true,true,true,true,true,true,true,true,false,true,true,true,false,false,false,false,false] ?_;refine pU (i:=12) (N:=some 30) HT_ #[true,true,true,true,true,true,true,true,false,true,true,true,true,false,false,false,false] ?_;refine take_ (i:=8) (N:=some 26) (v:=?_) (a':=?_) #[true,true,true,true,true,true,true,true,true,true,true,true,true,false,false,false,false] rfl rfl (take_ofW HT_.out HW_.out (by kernel_rfl)) (fun _ _ _ h=>h) (Or.inl ⟨by rfl,?_⟩) hHeld ?_ ?_
            rotate_left
            ·rintro w' ⟨s0,s1⟩;go_simp
             with_reducible rfl
            rotate_left
            ·simp only[Act.put,sA,sZ,sC,i64_w,i32_w];rfl
            refine take_ (i:=13) (N:=some 31) (v:=?_) (a':=?_) #[true,true,true,true,true,true,true,true,true,true,true,true,true,true,false,false,false] rfl rfl (take_ofW HT_.out HW_.out (by kernel_rfl)) (fun _ _ _ h=>h) (Or.inl ⟨by rfl,?_⟩) hHeld ?_ ?_
            rotate_left
            ·rintro w' ⟨s0,s1⟩;go_simp
             with_reducible rfl
            rotate_left
            ·simp only[Act.put,sA,sZ,sC,i64_w,i32_w];rfl
            refine one_ (i:=14) (N:=some 32) #[true,true,true,true,true,true,true,true,true,true,true,true,true,true,true,false,false] rfl rfl (one_of HT_.out (by kernel_rfl)) (by decide) (fun K hK=>?_)
            refine goesv_ Try.func26 (by kernel_rfl) rfl #[.int .i64 (rd x0_2 x9_2),.int .i64 (rd x0_2 (ji9)),.pointer A3_0] (by rfl) rfl rfl (by(try simp only[List.map_toArray,List.map_cons,List.map_nil]);first|done|(simp only[hji9];rfl)|rfl|(simp only[List.length_drop,List.length_take];rfl)) ?_
            with_reducible refine(Czj.calls (rd x0_2 x9_2) (rd x0_2 (ji9)) _ c3_0 l3_0 t143 _ ?side1 ?side2 A12.out).mono ?_
            (case side1=>exact Kd.C_kept_now HR3_0.out (kK HK))
            (case side2=>exact HC3_0.out)
            rintro e w' ⟨rfl,⟨nd,rfl⟩⟩;refine⟨_,rfl,?_⟩;refine hK.out _ _ ⟨hHeld.1,hHeld.2⟩ (fun hHeld=>?_)
            clear hK K;refine norm_ (a':=?_) ?_ ?_;rotate_left
            ·show Act.put _ (some 32) _=_
             simp only[Act.put,sA,sZ,sC,i64_w,i32_w];rfl
            refine pU (i:=15) (N:=some 33) HT_ #[true,true,true,true,true,true,true,true,true,true,true,true,true,true,true,true,false] ?_;refine pU (i:=16) (N:=some 34) HT_ #[true,true,true,true,true,true,true,true,true,true,true,true,true,true,true,true,true] ?_;refine done_ (done_of HT_.out (by kernel_rfl)) ?_
            try go_wp2
            (try(rw[drewN_self w16];generalize hq_:World.drewN w16 _=w16;have n0_:Aside0 (Kd.R (Kd.int .i64) 3 w16 w0.heap.size (fun k_=>(P0_ k_∨w.heap.size≤k_)) (.slice (some ad141) x0_2.length co17) x0_2):=⟨by rw[← hq_];exact(rX HO_0.out)⟩;have n1_:Aside0 (Kept w w16 (fun k_=>P0_ k_)):=⟨by rw[← hq_];exact(kK HK)⟩;have n2_:Aside0 (Below w0.heap.size w0 w16):=⟨by rw[← hq_];exact pB⟩;clear HO_0 HK HB hq_;have HO_0:=n0_;have HK:=n1_;have HB:=n2_;clear n0_ n1_ n2_))
            have n0_:=aM (Kd.R_drew HO_0.out);have n1_:=aM (Kept.drew HK.out);have n2_:=aM (below_drew1 HB.out);clear HO_0;clear HK;clear HB;have HO_0:=n0_;have HK:=n1_;have HB:=n2_;clear n0_ n1_ n2_;have p144:0≤((ji9):Int):=oE aS
            have q144:(ji9) < (x0_2.length:Int):=oE aS
            obtain⟨ad144,e144,hx144_0⟩:=Kd.at_int (Kd.R_reads' HO_0.out).2.2 (ji9) p144 q144;obtain rfl:ad141=ad144:=(by injection e144)
            replace p144:=eq_true p144;replace q144:=eq_true q144;have p145:0≤(x9_2:Int):=oE aS
            have q145:x9_2 < (x0_2.length:Int):=oE aS
            obtain⟨ad145,e145,hx145_0⟩:=Kd.at_int (Kd.R_reads' HO_0.out).2.2 x9_2 p145 q145;obtain rfl:ad141=ad145:=(by injection e145)
            replace p145:=eq_true p145;replace q145:=eq_true q145;have p14:0≤(x9_2:Int):=oE aS
            have q14:(x9_2:Int) < ((x0_2.length:Int):Int):=oE aS
            obtain⟨go14,co14,eo14,gb14,gl14,cl14,HG14⟩:=Kd.R_form HO_0.out (by omega)
            (first|cases eo14|(injection eo14 with ea_ en_ ec_;(first|subst ea_|(injection ea_ with ea_;subst ea_));subst ec_;clear en_))
            have GB14:=aM gb14;have GG14:=aM HG14;clear gb14 gl14 HG14;have HMgo14:=aM (show(P0_ go14∨w.heap.size≤go14) from(HO_0.out.1 _ rfl))
            (first|simp only[add_plain] at hx141_0|skip)
            (first|simp only[add_plain] at hx142_0|skip)
            (first|simp only[add_plain] at hx144_0|skip)
            (first|simp only[add_plain] at hx145_0|skip)
            obtain⟨hx14_0,hf14_0⟩:=Kd.R_celln 0 HO_0.out (x9_2:Int) p14 q14;replace p14:=eq_true p14;replace q14:=eq_true q14;have HP19:=Kd.R_putn HO_0.out (x9_2:Int) (rd x0_2 (ji9));rw[← Ny146.out] at HP19;have HQ19:=aM HP19;clear HP19;have p15:0≤((ji9):Int):=oE aS
            have q15:((ji9):Int) < ((x0_2.length:Int):Int):=oE aS
            obtain⟨hx15_0,hf15_0⟩:=Kd.R_celln 0 HQ19.out ((ji9):Int) p15 q15;replace p15:=eq_true p15;replace q15:=eq_true q15;have HP20:=Kd.R_putn HQ19.out ((ji9):Int) (rd x0_2 x9_2);rw[← Ny147.out] at HP20;have HQ20:=aM HP20;clear HP20;refine start_ (n:=18) (S:=fun w'=>w'.cell? ⟨go14,((ji9)).toNat,none⟩=some (.int .i64 (rd x0_2 (ji9)))∧w'.cell? ⟨go14,(x9_2).toNat,none⟩=some (.int .i64 (rd x0_2 x9_2))) (ds:=[15,17]) #[false,false,false,false,false,false,false,false,false,false,false,false,false,false,false,false,false,false] (by kernel_rfl) rfl rfl ⟨hx144_0,hx145_0⟩ (fun hHeld=>?_);refine with_tabW Azq.tab6 Azq.bits6 (fun HT_ HW_=>?_)
            generalize w16.drew=w18 at HO_0 HK HB GG14 HQ19 HQ20 hf14_0 hf15_0 hx141_0 hx142_0 hx144_0 hx145_0 hx14_0 hx15_0 hHeld ⊢;refine pU (i:=0) (N:=some 37) HT_ #[true,false,false,false,false,false,false,false,false,false,false,false,false,false,false,false,false,false] ?_;refine pU (i:=1) (N:=some 38) HT_ #[true,true,false,false,false,false,false,false,false,false,false,false,false,false,false,false,false,false] ?_;refine pU (i:=2) (N:=some 39) HT_ #[true,true,true,false,false,false,false,false,false,false,false,false,false,false,false,false,false,false] ?_;refine pU (i:=3) (N:=some 40) HT_ #[true,true,true,true,false,false,false,false,false,false,false,false,false,false,false,false,false,false] ?_;refine pU (i:=4) (N:=some 41) HT_ #[true,true,true,true,true,false,false,false,false,false,false,false,false,false,false,false,false,false] ?_;refine pU (i:=5) (N:=some 42) HT_ #[true,true,true,true,true,true,false,false,false,false,false,false,false,false,false,false,false,false] ?_;refine pU (i:=6) (N:=some 43) HT_ #[true,true,true,true,true,true,true,false,false,false,false,false,false,false,false,false,false,false] ?_;refine pU (i:=7) (N:=some 44) HT_ #[true,true,true,true,true,true,true,true,false,false,false,false,false,false,false,false,false,false] ?_;refine pU (i:=8) (N:=some 45) HT_ #[true,true,true,true,true,true,true,true,true,false,false,false,false,false,false,false,false,false] ?_;refine pU (i:=10) (N:=some 47) HT_ #[true,true,true,true,true,true,true,true,true,false,true,false,false,false,false,false,false,false] ?_;refine pU (i:=11) (N:=some 48) HT_ #[true,true,true,true,true,true,true,true,true,false,true,true,false,false,false,false,false,false] ?_;refine pU (i:=12) (N:=some 49) HT_ #[true,true,true,true,true,true,true,true,true,false,true,true,true,false,false,false,false,false] ?_;refine take_ (i:=9) (N:=some 46) (v:=?_) (a':=?_) #[true,true,true,true,true,true,true,true,true,true,true,true,true,false,false,false,false,false] rfl rfl (take_ofW HT_.out HW_.out (by kernel_rfl)) (fun _ _ _ h=>h) (Or.inl ⟨by rfl,?_⟩) hHeld ?_ ?_
            rotate_left
            ·rintro w' ⟨s0,s1⟩;go_simp
             with_reducible rfl
            rotate_left
            ·simp only[Act.put,sA,sZ,sC,i64_w,i32_w];rfl
            refine take_ (i:=13) (N:=some 50) (v:=?_) (a':=?_) #[true,true,true,true,true,true,true,true,true,true,true,true,true,true,false,false,false,false] rfl rfl (take_ofW HT_.out HW_.out (by kernel_rfl)) (fun _ _ _ h=>h) (Or.inl ⟨by rfl,?_⟩) hHeld ?_ ?_
            rotate_left
            ·rintro w' ⟨s0,s1⟩;go_simp
             with_reducible rfl
            rotate_left
            ·simp only[Act.put,sA,sZ,sC,i64_w,i32_w];rfl
            refine pU (i:=14) (N:=some 51) HT_ #[true,true,true,true,true,true,true,true,true,true,true,true,true,true,true,false,false,false] ?_;refine last_ (i:=15) (N:=none) #[true,true,true,true,true,true,true,true,true,true,true,true,true,true,true,true,false,false] rfl rfl (one_of HT_.out (by kernel_rfl)) (by decide) (fun K hK=>?_)
            refine skip_ (w1:=?_) (by rfl) rfl ?_ ?_
            rotate_left
            ·go_simp
             rfl
            refine hK.out _ _ ?_;clear hK K;refine pU (i:=16) (N:=some 52) HT_ #[true,true,true,true,true,true,true,true,true,true,true,true,true,true,true,true,true,false] ?_;refine last_ (i:=17) (N:=none) #[true,true,true,true,true,true,true,true,true,true,true,true,true,true,true,true,true,true] rfl rfl (one_of HT_.out (by kernel_rfl)) (by decide) (fun K hK=>?_)
            refine skip_ (w1:=?_) (by rfl) rfl ?_ ?_
            rotate_left
            ·go_simp
             rfl
            refine hK.out _ _ ?_;clear hK K;refine done_ (done_of HT_.out (by kernel_rfl)) ?_
            try go_wp2
            go_roundg k2
            case measure=>have:=HK1.out;have:=HK2.out;omega
            case rel=>exact⟨(y147),(ji9),(by first|rfl|(simp;done)|(simp only[← hji9] <;> (first|rfl|simp))|(simp [*];done)),H',⟨by have:=HK1.out;have:=HK2.out;omega⟩,⟨rX HQ20.out⟩,⟨by repeat(first|(with_reducible first|exact HK.out|apply Kept.alloc|apply Kept.drewN|apply Kept.drew|refine Kept.setCell ?_ HMgo14.out _|refine Kept.setCell ?_ HMgo14.out _)|exact HK.out)⟩,⟨pB⟩⟩
           ·rw[if_neg c13] at H;have c13b0:decide (t143 < 0)=false:=decide_eq_false c13;clear c13;have H':=aM H;clear H;try go_wp2
            have n0_:=aM (Kd.R_drew HO_0.out);have n1_:=aM (Kept.drew HK.out);have n2_:=aM (below_drew1 HB.out);clear HO_0;clear HK;clear HB;have HO_0:=n0_;have HK:=n1_;have HB:=n2_;clear n0_ n1_ n2_;obtain⟨Ao22,co22,eo22⟩:=Kd.R_slice HO_0.out;(first|subst eo22|(injection eo22 with f1_ f2_ f3_;have f4_:=f1_.symm;have f5_:=f3_.symm;clear f1_ f2_ f3_;subst f4_;subst f5_))
            have p141:0≤(x9_2:Int):=oE aS
            have q141:x9_2 < (x0_2.length:Int):=oE aS
            obtain⟨ad141,e141,hx141_0⟩:=Kd.at_int (Kd.R_reads' HO_0.out).2.2 x9_2 p141 q141;cases e141
            replace p141:=eq_true p141;replace q141:=eq_true q141;have p142:0≤((ji9):Int):=oE aS
            have q142:(ji9) < (x0_2.length:Int):=oE aS
            obtain⟨ad142,e142,hx142_0⟩:=Kd.at_int (Kd.R_reads' HO_0.out).2.2 (ji9) p142 q142;obtain rfl:ad141=ad142:=(by injection e142)
            replace p142:=eq_true p142;replace q142:=eq_true q142;refine start_ (n:=17) (S:=fun w'=>w'.cell? (ad141.add (x9_2).toNat)=some (.int .i64 (rd x0_2 x9_2))∧w'.cell? (ad141.add ((ji9)).toNat)=some (.int .i64 (rd x0_2 (ji9)))) (ds:=[]) #[false,false,false,false,false,false,false,false,false,false,false,false,false,false,false,false,false] (by kernel_rfl) rfl rfl ⟨hx141_0,hx142_0⟩ (fun hHeld=>?_);refine with_tabW Azq.tab4 Azq.bits4 (fun HT_ HW_=>?_)
            generalize wr.drew=w21 at HO_0 HK HB hx141_0 hx142_0 hHeld ⊢;refine pU (i:=0) (N:=some 18) HT_ #[true,false,false,false,false,false,false,false,false,false,false,false,false,false,false,false,false] ?_;refine pU (i:=1) (N:=some 19) HT_ #[true,true,false,false,false,false,false,false,false,false,false,false,false,false,false,false,false] ?_;refine pU (i:=2) (N:=some 20) HT_ #[true,true,true,false,false,false,false,false,false,false,false,false,false,false,false,false,false] ?_;refine pU (i:=3) (N:=some 21) HT_ #[true,true,true,true,false,false,false,false,false,false,false,false,false,false,false,false,false] ?_;refine pU (i:=4) (N:=some 22) HT_ #[true,true,true,true,true,false,false,false,false,false,false,false,false,false,false,false,false] ?_;refine pU (i:=5) (N:=some 23) HT_ #[true,true,true,true,true,true,false,false,false,false,false,false,false,false,false,false,false] ?_;refine pU (i:=6) (N:=some 24) HT_ #[true,true,true,true,true,true,true,false,false,false,false,false,false,false,false,false,false] ?_;refine pU (i:=7) (N:=some 25) HT_ #[true,true,true,true,true,true,true,true,false,false,false,false,false,false,false,false,false] ?_;refine pU (i:=9) (N:=some 27) HT_ #[true,true,true,true,true,true,true,true,false,true,false,false,false,false,false,false,false] ?_;refine pU (i:=10) (N:=some 28) HT_ #[true,true,true,true,true,true,true,true,false,true,true,false,false,false,false,false,false] ?_;refine pU (i:=11) (N:=some 29) HT_ #[true,true,true,true,true,true,true,true,false,true,true,true,false,false,false,false,false] ?_;refine pU (i:=12) (N:=some 30) HT_ #[true,true,true,true,true,true,true,true,false,true,true,true,true,false,false,false,false] ?_;refine take_ (i:=8) (N:=some 26) (v:=?_) (a':=?_) #[true,true,true,true,true,true,true,true,true,true,true,true,true,false,false,false,false] rfl rfl (take_ofW HT_.out HW_.out (by kernel_rfl)) (fun _ _ _ h=>h) (Or.inl ⟨by rfl,?_⟩) hHeld ?_ ?_
            rotate_left
            ·rintro w' ⟨s0,s1⟩;go_simp
             with_reducible rfl
            rotate_left
            ·simp only[Act.put,sA,sZ,sC,i64_w,i32_w];rfl
            refine take_ (i:=13) (N:=some 31) (v:=?_) (a':=?_) #[true,true,true,true,true,true,true,true,true,true,true,true,true,true,false,false,false] rfl rfl (take_ofW HT_.out HW_.out (by kernel_rfl)) (fun _ _ _ h=>h) (Or.inl ⟨by rfl,?_⟩) hHeld ?_ ?_
            rotate_left
            ·rintro w' ⟨s0,s1⟩;go_simp
             with_reducible rfl
            rotate_left
            ·simp only[Act.put,sA,sZ,sC,i64_w,i32_w];rfl
            refine one_ (i:=14) (N:=some 32) #[true,true,true,true,true,true,true,true,true,true,true,true,true,true,true,false,false] rfl rfl (one_of HT_.out (by kernel_rfl)) (by decide) (fun K hK=>?_)
            refine goesv_ Try.func26 (by kernel_rfl) rfl #[.int .i64 (rd x0_2 x9_2),.int .i64 (rd x0_2 (ji9)),.pointer A3_0] (by rfl) rfl rfl (by(try simp only[List.map_toArray,List.map_cons,List.map_nil]);first|done|(simp only[hji9];rfl)|rfl|(simp only[List.length_drop,List.length_take];rfl)) ?_
            with_reducible refine(Czj.calls (rd x0_2 x9_2) (rd x0_2 (ji9)) _ c3_0 l3_0 t143 _ ?side1 ?side2 A12.out).mono ?_
            (case side1=>exact Kd.C_kept_now HR3_0.out (kK HK))
            (case side2=>exact HC3_0.out)
            rintro e w' ⟨rfl,⟨nd,rfl⟩⟩;refine⟨_,rfl,?_⟩;refine hK.out _ _ ⟨hHeld.1,hHeld.2⟩ (fun hHeld=>?_)
            clear hK K;refine norm_ (a':=?_) ?_ ?_;rotate_left
            ·show Act.put _ (some 32) _=_
             simp only[Act.put,sA,sZ,sC,i64_w,i32_w];rfl
            refine pU (i:=15) (N:=some 33) HT_ #[true,true,true,true,true,true,true,true,true,true,true,true,true,true,true,true,false] ?_;refine pU (i:=16) (N:=some 34) HT_ #[true,true,true,true,true,true,true,true,true,true,true,true,true,true,true,true,true] ?_;refine done_ (done_of HT_.out (by kernel_rfl)) ?_
            try go_wp2
            go_roundg k2
            case measure=>have:=HK1.out;have:=HK2.out;omega
            case rel=>exact⟨(x0_2),(wrap64 (x8_1+1)),sD,H',⟨by have:=HK1.out;have:=HK2.out;omega⟩,⟨rX HO_0.out⟩,⟨kK HK⟩,⟨pB⟩⟩
          ·rw[if_neg c11] at H;exact absurd H (by simp)
         ·rw[if_neg c10] at H;exact absurd H (by simp)
        ·rw[if_neg c8] at H;exact absurd H (by simp)
       ·rw[if_neg c7] at H;exact absurd H (by simp)
      ·rw[if_neg c6] at H;have c6b0:decide (a1 < x9_2)=false:=decide_eq_false c6;clear c6;have H':=aM H;clear H;try go_wp2
       have n0_:=aM (Kd.R_drew HO_0.out);have n1_:=aM (Kept.drew HK.out);have n2_:=aM (below_drew1 HB.out);clear HO_0;clear HK;clear HB;have HO_0:=n0_;have HK:=n1_;have HB:=n2_;clear n0_ n1_ n2_;refine start_ (n:=17) (S:=fun w'=>True) (ds:=[]) #[false,false,false,false,false,false,false,false,false,false,false,false,false,false,false,false,false] (by kernel_rfl) rfl rfl trivial (fun hHeld=>?_);refine with_tabW Azq.tab4 Azq.bits4 (fun HT_ HW_=>?_)
       generalize wr.drew=w23 at HO_0 HK HB hHeld ⊢;refine pU (i:=0) (N:=some 18) HT_ #[true,false,false,false,false,false,false,false,false,false,false,false,false,false,false,false,false] ?_;refine pU (i:=1) (N:=some 19) HT_ #[true,true,false,false,false,false,false,false,false,false,false,false,false,false,false,false,false] ?_;refine pU (i:=2) (N:=some 20) HT_ #[true,true,true,false,false,false,false,false,false,false,false,false,false,false,false,false,false] ?_;refine pU (i:=3) (N:=some 21) HT_ #[true,true,true,true,false,false,false,false,false,false,false,false,false,false,false,false,false] ?_;refine pure_ (i:=4) (N:=some 22) (v:=undef) (a':=?_) #[true,true,true,true,true,false,false,false,false,false,false,false,false,false,false,false,false] rfl rfl (any_of HT_.out (by kernel_rfl)) (fun _ _ _ h=>h) (Or.inr ⟨by rfl,rfl⟩) ?_ ?_
       rotate_left
       ·simp only[Act.put,sA,sZ,sC,i64_w,i32_w];rfl
       refine pure_ (i:=5) (N:=some 23) (v:=undef) (a':=?_) #[true,true,true,true,true,true,false,false,false,false,false,false,false,false,false,false,false] rfl rfl (any_of HT_.out (by kernel_rfl)) (fun _ _ _ h=>h) (Or.inr ⟨by rfl,rfl⟩) ?_ ?_
       rotate_left
       ·simp only[Act.put,sA,sZ,sC,i64_w,i32_w];rfl
       refine pure_ (i:=6) (N:=some 24) (v:=undef) (a':=?_) #[true,true,true,true,true,true,true,false,false,false,false,false,false,false,false,false,false] rfl rfl (any_of HT_.out (by kernel_rfl)) (fun _ _ _ h=>h) (Or.inr ⟨by rfl,rfl⟩) ?_ ?_
       rotate_left
       ·simp only[Act.put,sA,sZ,sC,i64_w,i32_w];rfl
       refine pure_ (i:=7) (N:=some 25) (v:=undef) (a':=?_) #[true,true,true,true,true,true,true,true,false,false,false,false,false,false,false,false,false] rfl rfl (any_of HT_.out (by kernel_rfl)) (fun _ _ _ h=>h) (Or.inr ⟨by rfl,rfl⟩) ?_ ?_
       rotate_left
       ·simp only[Act.put,sA,sZ,sC,i64_w,i32_w];rfl
       refine pure_ (i:=8) (N:=some 26) (v:=undef) (a':=?_) #[true,true,true,true,true,true,true,true,true,false,false,false,false,false,false,false,false] rfl rfl (any_of HT_.out (by kernel_rfl)) (fun _ _ _ h=>h) (Or.inr ⟨by rfl,rfl⟩) ?_ ?_
       rotate_left
       ·simp only[Act.put,sA,sZ,sC,i64_w,i32_w];rfl
       refine pure_ (i:=9) (N:=some 27) (v:=undef) (a':=?_) #[true,true,true,true,true,true,true,true,true,true,false,false,false,false,false,false,false] rfl rfl (any_of HT_.out (by kernel_rfl)) (fun _ _ _ h=>h) (Or.inr ⟨by rfl,rfl⟩) ?_ ?_
       rotate_left
       ·simp only[Act.put,sA,sZ,sC,i64_w,i32_w];rfl
       refine pure_ (i:=10) (N:=some 28) (v:=undef) (a':=?_) #[true,true,true,true,true,true,true,true,true,true,true,false,false,false,false,false,false] rfl rfl (any_of HT_.out (by kernel_rfl)) (fun _ _ _ h=>h) (Or.inr ⟨by rfl,rfl⟩) ?_ ?_
       rotate_left
       ·simp only[Act.put,sA,sZ,sC,i64_w,i32_w];rfl
       refine pure_ (i:=11) (N:=some 29) (v:=undef) (a':=?_) #[true,true,true,true,true,true,true,true,true,true,true,true,false,false,false,false,false] rfl rfl (any_of HT_.out (by kernel_rfl)) (fun _ _ _ h=>h) (Or.inr ⟨by rfl,rfl⟩) ?_ ?_
       rotate_left
       ·simp only[Act.put,sA,sZ,sC,i64_w,i32_w];rfl
       refine pure_ (i:=12) (N:=some 30) (v:=undef) (a':=?_) #[true,true,true,true,true,true,true,true,true,true,true,true,true,false,false,false,false] rfl rfl (any_of HT_.out (by kernel_rfl)) (fun _ _ _ h=>h) (Or.inr ⟨by rfl,rfl⟩) ?_ ?_
       rotate_left
       ·simp only[Act.put,sA,sZ,sC,i64_w,i32_w];rfl
       refine pure_ (i:=13) (N:=some 31) (v:=undef) (a':=?_) #[true,true,true,true,true,true,true,true,true,true,true,true,true,true,false,false,false] rfl rfl (any_of HT_.out (by kernel_rfl)) (fun _ _ _ h=>h) (Or.inr ⟨by rfl,rfl⟩) ?_ ?_
       rotate_left
       ·simp only[Act.put,sA,sZ,sC,i64_w,i32_w];rfl
       refine pure_ (i:=14) (N:=some 32) (v:=undef) (a':=?_) #[true,true,true,true,true,true,true,true,true,true,true,true,true,true,true,false,false] rfl rfl (any_of HT_.out (by kernel_rfl)) (fun _ _ _ h=>h) (Or.inr ⟨by rfl,rfl⟩) ?_ ?_
       rotate_left
       ·simp only[Act.put,sA,sZ,sC,i64_w,i32_w];rfl
       refine pure_ (i:=15) (N:=some 33) (v:=undef) (a':=?_) #[true,true,true,true,true,true,true,true,true,true,true,true,true,true,true,true,false] rfl rfl (any_of HT_.out (by kernel_rfl)) (fun _ _ _ h=>h) (Or.inr ⟨by rfl,rfl⟩) ?_ ?_
       rotate_left
       ·simp only[Act.put,sA,sZ,sC,i64_w,i32_w];rfl
       refine pU (i:=16) (N:=some 34) HT_ #[true,true,true,true,true,true,true,true,true,true,true,true,true,true,true,true,true] ?_;refine done_ (done_of HT_.out (by kernel_rfl)) ?_
       try go_wp2
       go_roundg k2
       case measure=>have:=HK1.out;have:=HK2.out;omega
       case rel=>exact⟨(x0_2),(wrap64 (x8_1+1)),sD,H',⟨by have:=HK1.out;have:=HK2.out;omega⟩,⟨rX HO_0.out⟩,⟨kK HK⟩,⟨pB⟩⟩
   ·rw[if_neg c5] at H;have c5b0:decide (x8_1 < a2)=false:=decide_eq_false c5;clear c5;obtain rfl:=Option.some.inj H;go_wp2
    first|go_end0|((try simp only[Exit.inBlock,Exit.then]);refine bodyPost_ret (results_none rfl _ _ _) rfl ?_)
    exact⟨eW,rX HO_0.out,pB,kK HK⟩

end Go.Proofs.Ytloihkecfommbaa.Print
