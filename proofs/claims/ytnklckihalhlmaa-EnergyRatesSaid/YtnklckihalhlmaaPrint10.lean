import Derived.Test.YtnklckihalhlmaaPrint0
import Derived.Test.YtnklckihalhlmaaPrint8
namespace Go.Proofs.Ytnklckihalhlmaa.Print
open Go.RowKit Go.Proofs.YtnklckihalhlmaaW.PrintWords Go.Proofs.YtnklckihalhlmaaW.PrintLast Go.Proofs.YtnklckihalhlmaaW.PrintMore
attribute [local go_sem] max2_int min2_int max_two min_two max_three min_three max_four min_four
set_option linter.unusedVariables false
set_option maxRecDepth 100000
set_option maxHeartbeats 8000000
set_option linter.unusedSimpArgs false

mutual
def Azz.l0:Nat→List Int→Int→Int→Int→List (List Int)→Option (List Int)
 | 0,_,_,_,_,_=>none
 | k+1,x0,x1,x2,x8,x930=>if x8 < x2 then(Azz.l1 k x0 x1 x2 x8 x8 x930) else(some x0)
def Azz.l1:Nat→List Int→Int→Int→Int→Int→List (List Int)→Option (List Int)
 | 0,_,_,_,_,_,_=>none
 | k+1,x0,x1,x2,x8,x9,x930=>if x9 > x1 then(if 0≤x9 then(if x9 < (x0.length:Int) then(if 0≤(wrap64 (x9 - 1)) then(if(wrap64 (x9 - 1)) < (x0.length:Int) then((Gzv.f (rd x0 x9) (rd x0 (wrap64 (x9 - 1))) x930).bind fun t165=>(if t165 < 0 then(Azz.l1 k ((x0.set (x9:Int).toNat (rd x0 (wrap64 (x9 - 1)))).set ((wrap64 (x9 - 1)):Int).toNat (rd x0 x9)) x1 x2 x8 (wrap64 (x9 - 1)) x930) else(Azz.l0 k x0 x1 x2 (wrap64 (x8+1)) x930))) else(none)) else(none)) else(none)) else(none)) else(Azz.l0 k x0 x1 x2 (wrap64 (x8+1)) x930)
end
def Azz.f (k:Nat) (l0:List Int) (a1:Int) (a2:Int) (l3_0:List (List Int)):Option (List Int):=Azz.l0 k l0 a1 a2 (wrap64 (a1+1)) l3_0
theorem Azz.mono_l:∀ k,(∀ y0 y1 y2 y3 y4,LeO (Azz.l0 k y0 y1 y2 y3 y4) (Azz.l0 (k+1) y0 y1 y2 y3 y4))∧(∀ y0 y1 y2 y3 y4 y5,LeO (Azz.l1 k y0 y1 y2 y3 y4 y5) (Azz.l1 (k+1) y0 y1 y2 y3 y4 y5))
 | 0=>⟨fun _ _ _ _ _ r h=>by simp [Azz.l0] at h,fun _ _ _ _ _ _ r h=>by simp [Azz.l1] at h⟩
 | k+1=>by
  obtain⟨ih0,ih1⟩:=Azz.mono_l k;refine⟨?_,?_⟩
  ·intro y0 y1 y2 y3 y4;unfold Azz.l0;exact mM
  ·intro y0 y1 y2 y3 y4 y5;unfold Azz.l1;exact mM
theorem Azz.mono:∀ a0 a1 a2 a3 k,LeO (Azz.f k a0 a1 a2 a3) (Azz.f (k+1) a0 a1 a2 a3):=by
 intro a0 a1 a2 a3 k;obtain⟨ih0,ih1⟩:=Azz.mono_l k;unfold Azz.f;exact mM
def Azz.T4:Bool × List (List Nat × List Nat):=(true,[([],[]),([],[]),([0,1],[0,1]),([2],[2]),([3],[3]),([3],[3]),([3],[3]),([5,6,3],[3,5,6]),([7,3],[3,7]),([3],[3]),([3],[3]),([10,3],[3,10]),([9,11,3],[3,9,11]),([12,3],[3,12]),([4,8,13,3,3],[3,4,8,13]),([14,3],[3,14]),([3,15],[3,15])])
def Azz.B4:List Nat:=[0,0,3,7,15,15,15,111,239,15,15,1039,3599,7695,16383,32767,65535]
theorem Azz.tab4:rtab .any (opsOf Try.f88 4)=Azz.T4:=by kernel_rfl
theorem Azz.bits4:waitsOk Azz.T4.2 Azz.B4=true:=by kernel_rfl
def Azz.T6:Bool × List (List Nat × List Nat):=(true,[([],[]),([],[]),([],[]),([],[]),([3],[3]),([],[]),([],[]),([6],[6]),([5,7],[5,7]),([8],[8]),([],[]),([],[]),([10,11],[10,11]),([12],[12]),([0,1,0,1,5,6,7,8,9,13],[0,1]),([14,9,0,1,5,6,7,8,9,13],[9,14]),([2,4,0,1,2,3,4,5,6,7,8,9,10,11,12,13,14,15],[2,4]),([16,13,15,0,1,2,3,4,5,6,7,8,9,10,11,12,13,14,15],[13,16])])
def Azz.B6:List Nat:=[0,0,0,0,8,0,0,64,224,480,0,0,3072,7168,16355,32739,65535,131071]
theorem Azz.tab6:rtab .any (opsOf Try.f88 6)=Azz.T6:=by kernel_rfl
theorem Azz.bits6:waitsOk Azz.T6.2 Azz.B6=true:=by kernel_rfl
theorem Azz.calls (k:Nat) (P0_:Nat→Prop) (u9000_:Value) (l0:List Int) (a1:Int) (a2:Int) (A3_0:Option Addr) (c3_0:Nat) (l3_0:List (List Int)) (r:List Int) (w0 w:World) (hB:Below w0.heap.size w0 w) (ho0:Kd.R (Kd.int .i64) 3 w w0.heap.size P0_ u9000_ l0) (hr3_0:∀ W_,Kept w W_ (fun k_=>P0_ k_)→Kd.C (Kd.slice 3 (Kd.int .i64)) W_ A3_0 l3_0.length l3_0) (hc3_0:l3_0.length≤c3_0) (h:Azz.f k l0 a1 a2 l3_0=some r) :
  Calls Try.prog 88 #[u9000_,.int .i64 a1,.int .i64 a2,.func (.func 55) #[] #[.pointer A3_0]] w fun e w'=>e=.returned (.tuple #[])∧Kd.R (Kd.int .i64) 3 w' w0.heap.size (fun k_=>(P0_ k_∨w.heap.size≤k_)) u9000_ r∧Below w0.heap.size w0 w'∧Kept w w' (fun k_=>P0_ k_):=by
 have HO0:=aM (show Kd.R (Kd.int .i64) 3 w w0.heap.size (fun k_=>(P0_ k_∨w.heap.size≤k_)) u9000_ l0 from Kd.R_mono ho0 (fun k_ hk=>(.inl hk)))
 have HR3_0:=aM hr3_0;have HC3_0:=aM hc3_0;clear hr3_0 hc3_0;have HK:=aM (Kept.refl w (fun k_=>P0_ k_))
 have HW0:=aM hB.size;have HB:=aM hB;clear hB;have H:(Azz.l0 k l0 a1 a2 (wrap64 (a1+1)) l3_0)=some r:=h;clear h;have H':=aM H;clear H;go_enter Try.func88,Try.ntmps88
 go_wp2
 go_loopg [8] k (fun kq v8 w'=>∃ (x0_1:List Int) (x8_1:Int),v8=.int .i64 x8_1∧Aside0 (Azz.l0 kq x0_1 a1 a2 x8_1 l3_0=some r)∧Aside0 (kq≤k)∧Aside0 (Kd.R (Kd.int .i64) 3 w' w0.heap.size (fun k_=>(P0_ k_∨w.heap.size≤k_)) u9000_ x0_1)∧Aside0 (Kept w w' (fun k_=>P0_ k_))∧Aside0 (Below w0.heap.size w0 w'))
 case atStart=>exact⟨(l0),(wrap64 (a1+1)),sD,H',⟨Nat.le_refl _⟩,⟨rX HO0.out⟩,⟨kK HK⟩,⟨pB⟩⟩
 case round =>
  clear H';try clear p2
  try clear c3
  obtain⟨x0_1,x8_1,rfl,HA,HK1,HO_0,HK,HB⟩:=hrel;cases gk with
  | zero=>exact absurd HA.out (by simp [Azz.l0])
  | succ k1 =>
   have H:=HA.out;clear HA;simp only[Azz.l0] at H;by_cases c5:x8_1 < a2
   ·rw[if_pos c5] at H;have c5b0:=dE c5;clear c5;have H':=aM H;clear H;go_wp2
    go_loopg [9] k1 (fun kq v9 w'=>∃ (x0_2:List Int) (x9_2:Int),v9=.int .i64 x9_2∧Aside0 (Azz.l1 kq x0_2 a1 a2 x8_1 x9_2 l3_0=some r)∧Aside0 (kq≤k1)∧Aside0 (Kd.R (Kd.int .i64) 3 w' w0.heap.size (fun k_=>(P0_ k_∨w.heap.size≤k_)) u9000_ x0_2)∧Aside0 (Kept w w' (fun k_=>P0_ k_))∧Aside0 (Below w0.heap.size w0 w'))
    case atStart=>exact⟨(x0_1),(x8_1),sD,H',⟨Nat.le_refl _⟩,⟨rX HO_0.out⟩,⟨kK HK⟩,⟨pB⟩⟩
    case round =>
     clear H';try clear p2
     try clear c3
     try clear c5
     try clear c5b0
     try clear p2
     obtain⟨x0_2,x9_2,rfl,HA,HK2,HO_0,HK,HB⟩:=hrel;cases gk with
     | zero=>exact absurd HA.out (by simp [Azz.l1])
     | succ k2 =>
      have H:=HA.out;clear HA;simp only[Azz.l1] at H;by_cases c6:x9_2 > a1
      ·rw[if_pos c6] at H;have c6b0:decide (a1 < x9_2)=true:=dE c6;clear c6;obtain⟨c7b0,H⟩:=iN H;obtain⟨c8b0,H⟩:=iN H;obtain⟨ji9,hji9⟩:∃ j_:Int,(wrap64 (x9_2 - 1))=j_:=⟨_,rfl⟩;replace H:(if 0≤(ji9) then(if(ji9) < (x0_2.length:Int) then((Gzv.f (rd x0_2 x9_2) (rd x0_2 (ji9)) l3_0).bind fun t165=>(if t165 < 0 then(Azz.l1 k2 ((x0_2.set (x9_2:Int).toNat (rd x0_2 (ji9))).set ((ji9):Int).toNat (rd x0_2 x9_2)) a1 a2 x8_1 ji9 l3_0) else(Azz.l0 k2 x0_2 a1 a2 (wrap64 (x8_1+1)) l3_0))) else(none)) else(none))=some r:=by first|(rw[hji9] at H;exact H)|(simp only[hji9] at H ⊢;exact H)
       have hji9w:(IntKind.i64.wrap (x9_2 - 1))=ji9:=(i64_w _).trans hji9;obtain⟨c10b0,H⟩:=iN H;obtain⟨c11b0,H⟩:=iN H;obtain⟨t165,A12,H⟩:=bT H;(try dsimp only at H);by_cases c13:t165 < 0
       ·rw[if_pos c13] at H;have c13b0:=dE c13;clear c13;obtain⟨y168,hy168⟩:∃ y_:List Int,y_=(x0_2.set (x9_2:Int).toNat (rd x0_2 (ji9))):=⟨_,rfl⟩;replace H:(Azz.l1 k2 (y168.set ((ji9):Int).toNat (rd x0_2 x9_2)) a1 a2 x8_1 ji9 l3_0)=some r:=yE hy168 H
        have Ny168:=aM hy168;clear hy168;obtain⟨y169,hy169⟩:∃ y_:List Int,y_=(y168.set ((ji9):Int).toNat (rd x0_2 x9_2)):=⟨_,rfl⟩;replace H:(Azz.l1 k2 y169 a1 a2 x8_1 ji9 l3_0)=some r:=yE hy169 H
        have Ny169:=aM hy169;clear hy169;have H':=aM H;clear H;try go_wp2
        have n0_:=aM (Kd.R_drew HO_0.out);have n1_:=aM (Kept.drew HK.out);have n2_:=aM (below_drew1 HB.out);clear HO_0;clear HK;clear HB;have HO_0:=n0_;have HK:=n1_;have HB:=n2_;clear n0_ n1_ n2_;obtain⟨Ao17,co17,eo17⟩:=Kd.R_slice HO_0.out;(first|subst eo17|(injection eo17 with f1_ f2_ f3_;have f4_:=f1_.symm;have f5_:=f3_.symm;clear f1_ f2_ f3_;subst f4_;subst f5_))
        obtain⟨ad163,e163,hx163_0,p163,q163⟩:=aI (Kd.R_reads' HO_0.out).2.2 x9_2;cases e163;obtain⟨ad164,e164,hx164_0,p164,q164⟩:=aI (Kd.R_reads' HO_0.out).2.2 (ji9);obtain rfl:ad163=ad164:=(by injection e164);refine start_ (n:=17) (S:=fun w'=>w'.cell? (ad163.add (x9_2).toNat)=some (.int .i64 (rd x0_2 x9_2))∧w'.cell? (ad163.add ((ji9)).toNat)=some (.int .i64 (rd x0_2 (ji9)))) (ds:=[]) (bA 17 0) (by kernel_rfl) rfl rfl ⟨hx163_0,hx164_0⟩ (fun hHeld=>?_);refine with_tabW Azz.tab4 Azz.bits4 (fun HT_ HW_=>?_)
        generalize wr.drew=w16 at HO_0 HK HB hx163_0 hx164_0 hHeld ⊢;refine pS 0 18 HT_ ?_;refine pS 1 19 HT_ ?_;refine pS 2 20 HT_ ?_;refine pS 3 21 HT_ ?_;refine pS 4 22 HT_ ?_;refine pS 5 23 HT_ ?_;refine pS 6 24 HT_ ?_;refine pS 7 25 HT_ ?_;refine pS 9 27 HT_ ?_;refine pS 10 28 HT_ ?_;refine pS 11 29 HT_ ?_;refine pS 12 30 HT_ ?_;refine tU 8 26 HT_ HW_ hHeld ?_;refine tU 13 31 HT_ HW_ hHeld ?_;refine oU 14 (some 32) HT_ fun K hK=>?_
        refine goesv_ Try.func55 (by kernel_rfl) rfl #[.int .i64 (rd x0_2 x9_2),.int .i64 (rd x0_2 (ji9)),.pointer A3_0] (by rfl) rfl rfl (by(try simp only[List.map_toArray,List.map_cons,List.map_nil]);first|done|(simp only[hji9];rfl)|rfl|(simp only[List.length_drop,List.length_take];rfl)) ?_
        with_reducible refine(Gzv.calls (rd x0_2 x9_2) (rd x0_2 (ji9)) _ c3_0 l3_0 t165 _ ?side1 ?side2 A12.out).mono ?_
        (case side1=>exact Kd.C_kept_now HR3_0.out (kK HK))
        (case side2=>exact HC3_0.out)
        rintro e w' ⟨rfl,⟨nd,rfl⟩⟩;refine⟨_,rfl,?_⟩;refine hK.out _ _ ⟨hHeld.1,hHeld.2⟩ (fun hHeld=>?_)
        clear hK K;refine nm 32 ?_;refine pS 15 33 HT_ ?_;refine pS 16 34 HT_ ?_;refine done_ (done_of HT_.out (by kernel_rfl)) ?_
        try go_wp2
        (try(rw[drewN_self w16];generalize hq_:World.drewN w16 _=w16;have n0_:Aside0 (Kd.R (Kd.int .i64) 3 w16 w0.heap.size (fun k_=>(P0_ k_∨w.heap.size≤k_)) (.slice (some ad163) x0_2.length co17) x0_2):=⟨by rw[← hq_];exact(rX HO_0.out)⟩;have n1_:Aside0 (Kept w w16 (fun k_=>P0_ k_)):=⟨by rw[← hq_];exact(kK HK)⟩;have n2_:Aside0 (Below w0.heap.size w0 w16):=⟨by rw[← hq_];exact pB⟩;clear HO_0 HK HB hq_;have HO_0:=n0_;have HK:=n1_;have HB:=n2_;clear n0_ n1_ n2_))
        have n0_:=aM (Kd.R_drew HO_0.out);have n1_:=aM (Kept.drew HK.out);have n2_:=aM (below_drew1 HB.out);clear HO_0;clear HK;clear HB;have HO_0:=n0_;have HK:=n1_;have HB:=n2_;clear n0_ n1_ n2_;obtain⟨ad166,e166,hx166_0,p166,q166⟩:=aI (Kd.R_reads' HO_0.out).2.2 (ji9);obtain rfl:ad163=ad166:=(by injection e166);obtain⟨ad167,e167,hx167_0,p167,q167⟩:=aI (Kd.R_reads' HO_0.out).2.2 x9_2;obtain rfl:ad163=ad167:=(by injection e167);have p14:0≤(x9_2:Int):=oE aS
        have q14:(x9_2:Int) < ((x0_2.length:Int):Int):=oE aS
        obtain⟨go14,co14,eo14,gb14,gl14,cl14,HG14⟩:=Kd.R_form HO_0.out (by omega)
        (first|cases eo14|(injection eo14 with ea_ en_ ec_;(first|subst ea_|(injection ea_ with ea_;subst ea_));subst ec_;clear en_))
        have GB14:=aM gb14;have GG14:=aM HG14;clear gb14 gl14 HG14;have HMgo14:=aM (show(P0_ go14∨w.heap.size≤go14) from(HO_0.out.1 _ rfl))
        (first|simp only[add_plain] at hx163_0|skip)
        (first|simp only[add_plain] at hx164_0|skip)
        (first|simp only[add_plain] at hx166_0|skip)
        (first|simp only[add_plain] at hx167_0|skip)
        obtain⟨hx14_0,hf14_0⟩:=Kd.R_celln 0 HO_0.out (x9_2:Int) p14 q14;replace p14:=eq_true p14;replace q14:=eq_true q14;have HP19:=Kd.R_putn HO_0.out (x9_2:Int) (rd x0_2 (ji9));rw[← Ny168.out] at HP19;have HQ19:=aM HP19;clear HP19;obtain⟨hx15_0,hf15_0⟩:=Kd.R_celln 0 HQ19.out ((ji9):Int) (oE aS) (oE aS);have p15:=eT ((ji9));have q15:=eU ((ji9)) x0_2.length;have HP20:=Kd.R_putn HQ19.out ((ji9):Int) (rd x0_2 x9_2);rw[← Ny169.out] at HP20;have HQ20:=aM HP20;clear HP20;refine start_ (n:=18) (S:=fun w'=>w'.cell? ⟨go14,((ji9)).toNat,none⟩=some (.int .i64 (rd x0_2 (ji9)))∧w'.cell? ⟨go14,(x9_2).toNat,none⟩=some (.int .i64 (rd x0_2 x9_2))) (ds:=[15,17]) (bA 18 0) (by kernel_rfl) rfl rfl ⟨hx166_0,hx167_0⟩ (fun hHeld=>?_);refine with_tabW Azz.tab6 Azz.bits6 (fun HT_ HW_=>?_)
        generalize w16.drew=w18 at HO_0 HK HB GG14 HQ19 HQ20 hf14_0 hf15_0 hx14_0 hx15_0 hx163_0 hx164_0 hx166_0 hx167_0 hHeld ⊢;refine pS 0 37 HT_ ?_;refine pS 1 38 HT_ ?_;refine pS 2 39 HT_ ?_;refine pS 3 40 HT_ ?_;refine pS 4 41 HT_ ?_;refine pS 5 42 HT_ ?_;refine pS 6 43 HT_ ?_;refine pS 7 44 HT_ ?_;refine pS 8 45 HT_ ?_;refine pS 10 47 HT_ ?_;refine pS 11 48 HT_ ?_;refine pS 12 49 HT_ ?_;refine tU 9 46 HT_ HW_ hHeld ?_;refine tU 13 50 HT_ HW_ hHeld ?_;refine pS 14 51 HT_ ?_;refine lU 15 none HT_ fun K hK=>?_
        refine skip_ (w1:=?_) (by rfl) rfl ?_ ?_
        rotate_left
        ·go_simp
         rfl
        refine hK.out _ _ ?_;clear hK K;refine pS 16 52 HT_ ?_;refine lU 17 none HT_ fun K hK=>?_
        refine skip_ (w1:=?_) (by rfl) rfl ?_ ?_
        rotate_left
        ·go_simp
         rfl
        refine hK.out _ _ ?_;clear hK K;refine done_ (done_of HT_.out (by kernel_rfl)) ?_
        try go_wp2
        go_roundg k2
        case measure=>have:=HK1.out;have:=HK2.out;omega
        case rel=>exact⟨(y169),(ji9),(by first|rfl|(simp;done)|(simp only[← hji9] <;> (first|rfl|simp))|(simp [*];done)),H',⟨by have:=HK1.out;have:=HK2.out;omega⟩,⟨rX HQ20.out⟩,⟨by repeat(first|(with_reducible first|exact HK.out|apply Kept.alloc|apply Kept.drewN|apply Kept.drew|refine Kept.setCell ?_ HMgo14.out _|refine Kept.setCell ?_ HMgo14.out _)|exact HK.out)⟩,⟨pB⟩⟩
       ·rw[if_neg c13] at H;have c13b0:decide (t165 < 0)=false:=decide_eq_false c13;clear c13;have H':=aM H;clear H;try go_wp2
        have n0_:=aM (Kd.R_drew HO_0.out);have n1_:=aM (Kept.drew HK.out);have n2_:=aM (below_drew1 HB.out);clear HO_0;clear HK;clear HB;have HO_0:=n0_;have HK:=n1_;have HB:=n2_;clear n0_ n1_ n2_;obtain⟨Ao22,co22,eo22⟩:=Kd.R_slice HO_0.out;(first|subst eo22|(injection eo22 with f1_ f2_ f3_;have f4_:=f1_.symm;have f5_:=f3_.symm;clear f1_ f2_ f3_;subst f4_;subst f5_))
        obtain⟨ad163,e163,hx163_0,p163,q163⟩:=aI (Kd.R_reads' HO_0.out).2.2 x9_2;cases e163;obtain⟨ad164,e164,hx164_0,p164,q164⟩:=aI (Kd.R_reads' HO_0.out).2.2 (ji9);obtain rfl:ad163=ad164:=(by injection e164);refine start_ (n:=17) (S:=fun w'=>w'.cell? (ad163.add (x9_2).toNat)=some (.int .i64 (rd x0_2 x9_2))∧w'.cell? (ad163.add ((ji9)).toNat)=some (.int .i64 (rd x0_2 (ji9)))) (ds:=[]) (bA 17 0) (by kernel_rfl) rfl rfl ⟨hx163_0,hx164_0⟩ (fun hHeld=>?_);refine with_tabW Azz.tab4 Azz.bits4 (fun HT_ HW_=>?_)
        generalize wr.drew=w21 at HO_0 HK HB hx163_0 hx164_0 hHeld ⊢;refine pS 0 18 HT_ ?_;refine pS 1 19 HT_ ?_;refine pS 2 20 HT_ ?_;refine pS 3 21 HT_ ?_;refine pS 4 22 HT_ ?_;refine pS 5 23 HT_ ?_;refine pS 6 24 HT_ ?_;refine pS 7 25 HT_ ?_;refine pS 9 27 HT_ ?_;refine pS 10 28 HT_ ?_;refine pS 11 29 HT_ ?_;refine pS 12 30 HT_ ?_;refine tU 8 26 HT_ HW_ hHeld ?_;refine tU 13 31 HT_ HW_ hHeld ?_;refine oU 14 (some 32) HT_ fun K hK=>?_
        refine goesv_ Try.func55 (by kernel_rfl) rfl #[.int .i64 (rd x0_2 x9_2),.int .i64 (rd x0_2 (ji9)),.pointer A3_0] (by rfl) rfl rfl (by(try simp only[List.map_toArray,List.map_cons,List.map_nil]);first|done|(simp only[hji9];rfl)|rfl|(simp only[List.length_drop,List.length_take];rfl)) ?_
        with_reducible refine(Gzv.calls (rd x0_2 x9_2) (rd x0_2 (ji9)) _ c3_0 l3_0 t165 _ ?side1 ?side2 A12.out).mono ?_
        (case side1=>exact Kd.C_kept_now HR3_0.out (kK HK))
        (case side2=>exact HC3_0.out)
        rintro e w' ⟨rfl,⟨nd,rfl⟩⟩;refine⟨_,rfl,?_⟩;refine hK.out _ _ ⟨hHeld.1,hHeld.2⟩ (fun hHeld=>?_)
        clear hK K;refine nm 32 ?_;refine pS 15 33 HT_ ?_;refine pS 16 34 HT_ ?_;refine done_ (done_of HT_.out (by kernel_rfl)) ?_
        try go_wp2
        go_roundg k2
        case measure=>have:=HK1.out;have:=HK2.out;omega
        case rel=>exact⟨(x0_2),(wrap64 (x8_1+1)),sD,H',⟨by have:=HK1.out;have:=HK2.out;omega⟩,⟨rX HO_0.out⟩,⟨kK HK⟩,⟨pB⟩⟩
      ·rw[if_neg c6] at H;have c6b0:decide (a1 < x9_2)=false:=decide_eq_false c6;clear c6;have H':=aM H;clear H;try go_wp2
       have n0_:=aM (Kd.R_drew HO_0.out);have n1_:=aM (Kept.drew HK.out);have n2_:=aM (below_drew1 HB.out);clear HO_0;clear HK;clear HB;have HO_0:=n0_;have HK:=n1_;have HB:=n2_;clear n0_ n1_ n2_;refine start_ (n:=17) (S:=fun w'=>True) (ds:=[]) (bA 17 0) (by kernel_rfl) rfl rfl trivial (fun hHeld=>?_);refine with_tabW Azz.tab4 Azz.bits4 (fun HT_ HW_=>?_)
       generalize wr.drew=w23 at HO_0 HK HB hHeld ⊢;refine pS 0 18 HT_ ?_;refine pS 1 19 HT_ ?_;refine pS 2 20 HT_ ?_;refine pS 3 21 HT_ ?_;refine pN 4 22 HT_ ?_;refine pN 5 23 HT_ ?_;refine pN 6 24 HT_ ?_;refine pN 7 25 HT_ ?_;refine pN 8 26 HT_ ?_;refine pN 9 27 HT_ ?_;refine pN 10 28 HT_ ?_;refine pN 11 29 HT_ ?_;refine pN 12 30 HT_ ?_;refine pN 13 31 HT_ ?_;refine pN 14 32 HT_ ?_;refine pN 15 33 HT_ ?_;refine pS 16 34 HT_ ?_;refine done_ (done_of HT_.out (by kernel_rfl)) ?_
       try go_wp2
       go_roundg k2
       case measure=>have:=HK1.out;have:=HK2.out;omega
       case rel=>exact⟨(x0_2),(wrap64 (x8_1+1)),sD,H',⟨by have:=HK1.out;have:=HK2.out;omega⟩,⟨rX HO_0.out⟩,⟨kK HK⟩,⟨pB⟩⟩
   ·rw[if_neg c5] at H;have c5b0:decide (x8_1 < a2)=false:=decide_eq_false c5;clear c5;obtain rfl:=Option.some.inj H;go_wp2
    first|go_end0|((try simp only[Exit.inBlock,Exit.then]);refine bodyPost_ret (results_none rfl _ _ _) rfl ?_)
    exact⟨eW,rX HO_0.out,pB,kK HK⟩

end Go.Proofs.Ytnklckihalhlmaa.Print
