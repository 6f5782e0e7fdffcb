import Derived.Test.YtokkiljkgejnhaaGreatPrint0
import Derived.Test.YtokkiljkgejnhaaGreatPrint14
import Derived.Test.YtokkiljkgejnhaaGreatPrint10
namespace Go.Proofs.YtokkiljkgejnhaaGreat.Print
open Go.RowKit Go.Proofs.YtokkiljkgejnhaaGreatW.PrintWords Go.Proofs.YtokkiljkgejnhaaGreatW.PrintLast Go.Proofs.YtokkiljkgejnhaaGreatW.PrintMore
attribute [local go_sem] max2_int min2_int max_two min_two max_three min_three max_four min_four
set_option linter.unusedVariables false
set_option maxRecDepth 100000
set_option maxHeartbeats 8000000
set_option linter.unusedSimpArgs false

def Hzx.f  : Option (List Int):=some (([1]:List Int))
theorem Hzx.calls  (r:List Int) (w:World) (h:Hzx.f  = some r) :
  Calls Tryz.prog 46 #[] w fun e w'=>∃ v0_:Value,e=.returned (v0_)∧Kd.R (Kd.int .i64) 3 w' w.heap.size (fun _=>True) v0_ r∧Below w.heap.size w w':=by
 have HB:=aM (Below.refl w.heap.size w);have H:(some (([1]:List Int)))=some r:=h;clear h;obtain⟨a6,a7⟩:∃ y_:List Int,y_=(([1]:List Int)):=⟨_,rfl⟩;replace H:(some a6)=some r:=yE a7 H
 have a8:=aM a7;clear a7;obtain rfl:=Option.some.inj H;go_enter Tryz.func46,Tryz.ntmps46
 go_wp2_with (first|((with_reducible refine gd 1 rfl ?_);refine iL 1 [1] ?_;intro b4 b5 b6 hb;replace b6:=rY a8 b6;have b7:=rL b6;replace HB:=bB hb;clear hb b6))
 go_ret
 exact⟨_,eW,rX b7.out,pB⟩

mutual
def Ezp.j0:Nat→List Int→List Int→Bool→Option (List Int × Int)
 | 0,_,_,_=>none
 | k+1,x0,x1,x17=>if x17=true then(some (([]:List Int),3)) else((Gzv.f x0 (wrap64 ((mx (x0.length:Int) (x1.length:Int))+1))).bind fun t323=>(Ezp.l0 k x1 t323 0 (t323.length:Int) 0))
def Ezp.l0:Nat→List Int→List Int→Int→Int→Int→Option (List Int × Int)
 | 0,_,_,_,_,_=>none
 | k+1,x1,x6,x7,x27,x28=>if x28 < x27 then(if 0≤x28 then(if x28 < (x6.length:Int) then(if x28 < (x1.length:Int) then(Ezp.l0 k x1 (x6.set (x28:Int).toNat (Int.tmod (wrap64 ((wrap64 ((rd x6 x28)+x7))+(rd x1 x28))) 1000000000)) (wrap64 (Int.tdiv (wrap64 ((wrap64 ((rd x6 x28)+x7))+(rd x1 x28))) 1000000000)) x27 (wrap64 (x28+1))) else(Ezp.l0 k x1 (x6.set (x28:Int).toNat (Int.tmod (wrap64 ((rd x6 x28)+x7)) 1000000000)) (wrap64 (Int.tdiv (wrap64 ((rd x6 x28)+x7)) 1000000000)) x27 (wrap64 (x28+1)))) else(none)) else(none)) else((Fzp.f k x6).bind fun bt330=>(some (bt330.1,bt330.2)))
end
def Ezp.f (k:Nat) (l0:List Int) (l1:List Int):Option (List Int × Int):=(Azy.f k l0).bind fun t321=>(if t321=true then((Azy.f k l1).bind fun t322=>(Ezp.j0 k l0 l1 (!t322))) else(Ezp.j0 k l0 l1 true))
theorem Ezp.mono_l:∀ k,(∀ a6 a7 a8,LeO (Ezp.j0 k a6 a7 a8) (Ezp.j0 (k+1) a6 a7 a8))∧(∀ a6 a7 a8 b4 b5,LeO (Ezp.l0 k a6 a7 a8 b4 b5) (Ezp.l0 (k+1) a6 a7 a8 b4 b5))
 | 0=>⟨fun _ _ _ r h=>by simp [Ezp.j0] at h,fun _ _ _ _ _ r h=>by simp [Ezp.l0] at h⟩
 | k+1=>by
  obtain⟨ih0,ih1⟩:=Ezp.mono_l k;have i0:=@Azy.mono;have i1:=@Fzp.mono;refine⟨?_,?_⟩
  ·intro a6 a7 a8;unfold Ezp.j0;exact mM
  ·intro a6 a7 a8 b4 b5;unfold Ezp.l0;exact mM
theorem Ezp.mono:∀ a6 a7 k,LeO (Ezp.f k a6 a7) (Ezp.f (k+1) a6 a7):=by
 intro a6 a7 k;obtain⟨ih0,ih1⟩:=Ezp.mono_l k;unfold Ezp.f;have i0:=@Azy.mono;have i1:=@Fzp.mono;exact mM
theorem Ezp.calls (k:Nat) (a6:Option Addr) (a7:Nat) (l0:List Int) (a8:Option Addr) (b4:Nat) (l1:List Int) (b5:List Int) (b6:Int) (w:World) (b7:Kd.C (Kd.int .i64) w a6 l0.length l0) (b8:l0.length≤a7) (b9:Kd.C (Kd.int .i64) w a8 l1.length l1) (d0:l1.length≤b4) (h:Ezp.f k l0 l1=some (b5,b6)) :
  Calls Tryz.prog 66 #[.slice a6 l0.length a7,.slice a8 l1.length b4] w fun e w'=>∃ v0_:Value,e=.returned (.tuple #[v0_,.int .i64 b6])∧Kd.R (Kd.int .i64) 3 w' w.heap.size (fun _=>True) v0_ b5∧Below w.heap.size w w':=by
 have d6:=aM b7;have d7:=aM b8;clear b7 b8;have d8:=aM b9;have d9:=aM d0;clear b9 d0;have HB:=aM (Below.refl w.heap.size w);have H:((Azy.f k l0).bind fun e6=>(if e6=true then((Azy.f k l1).bind fun e7=>(Ezp.j0 k l0 l1 (!e7))) else(Ezp.j0 k l0 l1 true)))=some (b5,b6):=h
 clear h;have e8:=aM H;clear H;go_enter Tryz.func66,Tryz.ntmps66
 go_upto_region 1 with (fail)
 go_cut [17] (fun e9 wc=>∃ (kq:Nat) (f3:Bool),e9=.bool f3∧Aside0 (Ezp.j0 kq l0 l1 f3=some (b5,b6))∧Aside0 (kq≤k)∧Aside0 (Below w.heap.size w wc))
 case first =>
  have H:=e8.out;clear e8;obtain⟨e6,f4,H⟩:=bT H;(try dsimp only at H);by_cases c5:e6=true
  ·subst c5;rw[if_pos rfl] at H;obtain⟨e7,f6,H⟩:=bT H;(try dsimp only at H);have H':=aM H;clear H;go_wp2_with (first|((with_reducible refine gc 78 rfl ?_);refine gC 78 (some 11) Tryz.func78 #[.slice a6 l0.length a7] ?_;(with_reducible refine(Azy.calls k _ _ l0 true _ ?_ ?_ f4.out).mono ?_);exact cB d6;exact d7.out;rintro e w' ⟨rfl,⟨nd,rfl⟩⟩;refine⟨_,rfl,?_⟩)|(go_at_call 78;(with_reducible refine(Azy.calls k _ _ l1 e7 _ ?_ ?_ f6.out).mono ?_);exact cB d8;exact d9.out;rintro e w' ⟨rfl,⟨nd,rfl⟩⟩))
   go_meet
   case rel=>exact⟨_,(!e7),sD,H',⟨by first|omega|exact Nat.le_refl _⟩,⟨pB⟩⟩
  ·obtain rfl:=bN c5;rw[if_neg nF] at H
   have H':=aM H;clear H;go_wp2_with (first|((with_reducible refine gc 78 rfl ?_);refine gC 78 (some 11) Tryz.func78 #[.slice a6 l0.length a7] ?_;(with_reducible refine(Azy.calls k _ _ l0 false _ ?_ ?_ f4.out).mono ?_);exact cB d6;exact d7.out;rintro e w' ⟨rfl,⟨nd,rfl⟩⟩;refine⟨_,rfl,?_⟩))
   go_meet
   case rel=>exact⟨_,(true),sD,H',⟨by first|omega|exact Nat.le_refl _⟩,⟨pB⟩⟩
 case rest =>
  clear e8;try clear b4
  obtain⟨kq,f3,rfl,HA,f9,HB⟩:=hcut;cases kq with
  | zero=>exact absurd HA.out (by simp [Ezp.j0])
  | succ g4 =>
   have H:=HA.out;clear HA;simp only[Ezp.j0] at H;by_cases c7:f3=true
   ·subst c7;rw[if_pos rfl] at H;obtain⟨rfl,rfl⟩:=q2 H;go_wp2
    go_ret2
    exact⟨_,eW,nK,pB⟩
   ·obtain rfl:=bN c7;rw[if_neg nF] at H
    obtain⟨g5,g6⟩:∃ j_:Int,(mx (l0.length:Int) (l1.length:Int))=j_:=⟨_,rfl⟩;replace H:((Gzv.f l0 (wrap64 ((g5)+1))).bind fun g7=>(Ezp.l0 g4 l1 g7 0 (g7.length:Int) 0))=some (b5,b6):=by first|(rw[g6] at H;exact H)|(simp only[g6] at H ⊢;exact H)
    have g8:(if(l0.length:Int) < (l1.length:Int) then(l1.length:Int) else(l0.length:Int))=g5:=g6
    have g9:(if l0.length < l1.length then(l1.length:Int) else(l0.length:Int))=g5:=by rw[← g8];simp only[Int.ofNat_lt]
    obtain⟨g7,j3,H⟩:=bT H;(try dsimp only at H);have H':=aM H;clear H;go_wp2_with (first|((with_reducible refine gate_callee (f:=81) rfl ?_);refine goesL_ (some 25) rfl rfl Tryz.func81 (by kernel_rfl) rfl #[.slice a6 l0.length a7,.int .i64 (wrap64 ((g5)+1))] rfl (by(try simp only[List.map_toArray,List.map_cons,List.map_nil]);first|done|(simp only[g6];rfl)|rfl|(simp only[List.length_drop,List.length_take];rfl)) ?_;(with_reducible refine(Gzv.calls _ _ l0 (wrap64 ((g5)+1)) g7 _ ?_ ?_ j3.out).mono ?_);exact cB d6;exact d7.out;rintro e j4 ⟨j5,rfl,j6,hb⟩;refine⟨_,rfl,?_⟩;have j7:=rL j6;replace HB:=bB hb;clear hb j6;obtain⟨j8,j9,rfl⟩:=Kd.R_slice j7.out))
    go_loopg [7,28] g4 (fun kq l5 l6 w'=>∃ (l7:List Int) (l8:Int) (l9:Int),l5=.int .i64 l8∧l6=.int .i64 l9∧Aside0 (Ezp.l0 kq l1 l7 l8 (g7.length:Int) l9=some (b5,b6))∧Aside0 (kq≤g4)∧Aside0 (Kd.R (Kd.int .i64) 3 w' w.heap.size (fun _=>True) (.slice j8 g7.length j9) l7)∧Aside0 (Below w.heap.size w w'))
    case atStart=>exact⟨(g7),(0),(0),sD,sD,H',⟨Nat.le_refl _⟩,⟨rX j7.out⟩,⟨pB⟩⟩
    case round =>
     clear H';try clear b4
     obtain⟨l7,l8,l9,rfl,rfl,HA,m0,m3,HB⟩:=hrel;have m4:=(Kd.R_reads' m3.out).1;rw[m4] at m3;(try simp only[m4])
     cases gk with
     | zero=>exact absurd HA.out (by simp [Ezp.l0])
     | succ k2 =>
      have H:=HA.out;clear HA;simp only[Ezp.l0] at H;by_cases m5:l9 < (g7.length:Int)
      ·rw[if_pos m5] at H;have m6:=dE m5;have m7:=m6;(try simp only[m4] at m7)
       clear m5;obtain⟨m8,H⟩:=iN H;obtain⟨m9,H⟩:=iO H;have n0:decide (l9 < (l7.length:Int))=true:=dE m9;have n6:=n0;(try simp only[m4] at n6)
       clear m9;by_cases n7:l9 < (l1.length:Int)
       ·rw[if_pos n7] at H;have n8:=dE n7;have n9:=n8;(try simp only[m4] at n9)
        clear n7;obtain⟨o0,o8⟩:∃ y_:List Int,y_=(l7.set (l9:Int).toNat (Int.tmod (wrap64 ((wrap64 ((rd l7 l9)+l8))+(rd l1 l9))) 1000000000)):=⟨_,rfl⟩;replace H:(Ezp.l0 k2 l1 o0 (wrap64 (Int.tdiv (wrap64 ((wrap64 ((rd l7 l9)+l8))+(rd l1 l9))) 1000000000)) (g7.length:Int) (wrap64 (l9+1)))=some (b5,b6):=yE o8 H
        have o9:=aM o8;clear o8;have H':=aM H;clear H;obtain⟨p0,p3,p4,p5,r5⟩:=aI (Kd.R_reads' m3.out).2.2 l9;cases p3;obtain⟨r6,r7,r8,r9,t6⟩:=aI d8.out l9;cases r7
        replace r8:=hB HB r8;have t7:0≤(l9:Int):=oE aS
        have t8:(l9:Int) < ((l7.length:Int):Int):=oE aS
        obtain⟨z1,z2,z6,z7,z8,B0,B5⟩:=Kd.R_form m3.out (by omega)
        (first|cases z6|(injection z6 with ea_ en_ ec_;(first|subst ea_|(injection ea_ with ea_;subst ea_));subst ec_;clear en_))
        have B6:=aM z7;have B8:=aM B5;clear z7 z8 B5;(first|simp only[add_plain] at p4|skip)
        obtain⟨B9,C0⟩:=Kd.R_celln 0 m3.out (l9:Int) t7 t8;replace t7:=eq_true t7;replace t8:=eq_true t8;have C1:=Kd.R_putg m3.out (l9:Int) (Int.tmod (wrap64 ((wrap64 ((rd l7 l9)+l8))+(rd l1 l9))) 1000000000);go_wp2_with (first|((with_reducible refine gate_store (t:=3) (p:=53) rfl ?_);refine store_event (t:=3) (p:=53) (v:=?vo_w18) (w1:=(wr.setCell ⟨z1,(l9:Int).toNat,none⟩ (.int .i64 (Int.tmod (wrap64 ((wrap64 ((rd l7 l9)+l8))+(rd l1 l9))) 1000000000)))) ?hg ?ho ?hn ?hr ?_;(case ho=>rfl);(case hg=>rfl);(case hn=>rfl);(case hr=>first|(go_simp;done)|(go_simp;rfl));intro C2 hw;have hg:wr.grownBy C2 (some z1):=(by rw[hw];exact C1.2);have hp_:Kd.R (Kd.int .i64) 3 C2 w.heap.size (fun _=>True) (.slice (some ⟨z1,0,none⟩) l7.length j9) o0:=(by rw[hw,o9.out];exact C1.1);clear C1;replace m3:=aM (hp_);replace HB:=aM ((by rw[hw];exact below_set (HB.out) B6.out:Below w.heap.size w C2));clear hg hw hp_))
        (try simp only[← m4])
        go_roundg k2
        case measure=>have:=f9.out;have:=m0.out;omega
        case rel=>exact⟨(o0),(wrap64 (Int.tdiv (wrap64 ((wrap64 ((rd l7 l9)+l8))+(rd l1 l9))) 1000000000)),(wrap64 (l9+1)),sD,sD,H',⟨by have:=f9.out;have:=m0.out;omega⟩,⟨by(try simp only[m4]);(with_reducible repeat(first|apply Kd.R_alloc|apply Kd.R_drewN|apply Kd.R_drew));exact m3.out⟩,⟨pB⟩⟩
       ·rw[if_neg n7] at H;have n8:decide (l9 < (l1.length:Int))=false:=decide_eq_false n7;have n9:=n8;(try simp only[m4] at n9)
        clear n7;obtain⟨C3,C4⟩:∃ y_:List Int,y_=(l7.set (l9:Int).toNat (Int.tmod (wrap64 ((rd l7 l9)+l8)) 1000000000)):=⟨_,rfl⟩;replace H:(Ezp.l0 k2 l1 C3 (wrap64 (Int.tdiv (wrap64 ((rd l7 l9)+l8)) 1000000000)) (g7.length:Int) (wrap64 (l9+1)))=some (b5,b6):=yE C4 H
        have C6:=aM C4;clear C4;have H':=aM H;clear H;obtain⟨p0,p3,p4,p5,r5⟩:=aI (Kd.R_reads' m3.out).2.2 l9;cases p3;have C7:0≤(l9:Int):=oE aS
        have C8:(l9:Int) < ((l7.length:Int):Int):=oE aS
        obtain⟨C9,D0,D1,D2,D3,D4,D5⟩:=Kd.R_form m3.out (by omega)
        (first|cases D1|(injection D1 with ea_ en_ ec_;(first|subst ea_|(injection ea_ with ea_;subst ea_));subst ec_;clear en_))
        have D6:=aM D2;have D7:=aM D5;clear D2 D3 D5;(first|simp only[add_plain] at p4|skip)
        obtain⟨D8,D9⟩:=Kd.R_celln 0 m3.out (l9:Int) C7 C8;replace C7:=eq_true C7;replace C8:=eq_true C8;have E0:=Kd.R_putg m3.out (l9:Int) (Int.tmod (wrap64 ((rd l7 l9)+l8)) 1000000000);go_wp2_with (first|((with_reducible refine gate_store (t:=3) (p:=53) rfl ?_);refine store_event (t:=3) (p:=53) (v:=?vo_w21) (w1:=(wr.setCell ⟨C9,(l9:Int).toNat,none⟩ (.int .i64 (Int.tmod (wrap64 ((rd l7 l9)+l8)) 1000000000)))) ?hg ?ho ?hn ?hr ?_;(case ho=>rfl);(case hg=>rfl);(case hn=>rfl);(case hr=>first|(go_simp;done)|(go_simp;rfl));intro E1 hw;have hg:wr.grownBy E1 (some C9):=(by rw[hw];exact E0.2);have hp_:Kd.R (Kd.int .i64) 3 E1 w.heap.size (fun _=>True) (.slice (some ⟨C9,0,none⟩) l7.length j9) C3:=(by rw[hw,C6.out];exact E0.1);clear E0;replace m3:=aM (hp_);replace HB:=aM ((by rw[hw];exact below_set (HB.out) D6.out:Below w.heap.size w E1));clear hg hw hp_))
        (try simp only[← m4])
        go_roundg k2
        case measure=>have:=f9.out;have:=m0.out;omega
        case rel=>exact⟨(C3),(wrap64 (Int.tdiv (wrap64 ((rd l7 l9)+l8)) 1000000000)),(wrap64 (l9+1)),sD,sD,H',⟨by have:=f9.out;have:=m0.out;omega⟩,⟨by(try simp only[m4]);(with_reducible repeat(first|apply Kd.R_alloc|apply Kd.R_drewN|apply Kd.R_drew));exact m3.out⟩,⟨pB⟩⟩
      ·rw[if_neg m5] at H;have m6:decide (l9 < (g7.length:Int))=false:=decide_eq_false m5;have m7:=m6;(try simp only[m4] at m7)
       clear m5;replace H:=bS H;obtain⟨⟨E2,E3⟩,E4,H⟩:=H;replace H:(some (E2,E3))=some (b5,b6):=H;have E5:=aM E4;clear E4;obtain⟨rfl,rfl⟩:=q2 H;go_wp2_with (first|((with_reducible refine gc 84 rfl ?_);refine gC 84 (some 56) Tryz.func84 #[.slice j8 l7.length j9] ?_;(with_reducible refine(Fzp.calls k2 (fun k_=>some k_=(.slice j8 l7.length j9:Value).ownBlock) (.slice j8 l7.length j9) l7 E2 E3 w _ ?_ ?_ E5.out).mono ?_);exact pB;exact Kd.R_tight rfl m3.out;rintro e E6 ⟨E7,rfl,j6,hb,hkp⟩;refine⟨_,rfl,?_⟩;have E8:=aM (Kd.R_mono (ok':=fun k_=>True) j6 (fun k_ hk_=>trivial));replace HB:=aM (hb);clear m3 hb hkp j6))
       go_ret2
       exact⟨_,by first|rfl|(simp [errW_none,errW_some] <;> rfl)|(simp only[← g6];first|rfl|(simp [errW_none,errW_some] <;> rfl))|(simp [*,errW_none,errW_some] <;> rfl),rX E8.out,pB⟩


def Hzj.f (k:Nat) (l0:List Int) (l1:List Int):Option (Int × Int):=(Azy.f k l0).bind fun t334=>(if t334=true then((Azy.f k l1).bind fun t335=>(if t335=true then((Dzy.f k l0 l1).bind fun t336=>(some (t336,0))) else(some (0,3)))) else(some (0,3)))
theorem Hzj.mono:∀ a6 a7 k,LeO (Hzj.f k a6 a7) (Hzj.f (k+1) a6 a7):=by
 intro a6 a7 k;unfold Hzj.f;have i0:=@Azy.mono;have i1:=@Dzy.mono;exact mM
theorem Hzj.calls (k:Nat) (a6:Option Addr) (a7:Nat) (l0:List Int) (a8:Option Addr) (b4:Nat) (l1:List Int) (b5:Int) (b6:Int) (w:World) (b7:Kd.C (Kd.int .i64) w a6 l0.length l0) (b8:l0.length≤a7) (b9:Kd.C (Kd.int .i64) w a8 l1.length l1) (d0:l1.length≤b4) (h:Hzj.f k l0 l1=some (b5,b6)) :
  Calls Tryz.prog 67 #[.slice a6 l0.length a7,.slice a8 l1.length b4] w fun e w'=>e=.returned (.tuple #[.int .i64 b5,.int .i64 b6])∧Drawn0 w w':=by
 have d6:=aM b7;have d7:=aM b8;clear b7 b8;have d8:=aM b9;have d9:=aM d0;clear b9 d0;have H:((Azy.f k l0).bind fun e6=>(if e6=true then((Azy.f k l1).bind fun e7=>(if e7=true then((Dzy.f k l0 l1).bind fun e8=>(some (e8,0))) else(some (0,3)))) else(some (0,3))))=some (b5,b6):=h
 clear h;obtain⟨e6,e9,H⟩:=bT H;(try dsimp only at H);by_cases c4:e6=true
 ·subst c4;rw[if_pos rfl] at H;obtain⟨e7,f3,H⟩:=bT H;(try dsimp only at H);by_cases c6:e7=true
  ·subst c6;rw[if_pos rfl] at H;replace H:=bS H;obtain⟨e8,f4,H⟩:=H;replace H:(some (e8,0))=some (b5,b6):=H;have f6:=aM f4;clear f4;obtain⟨rfl,rfl⟩:=q2 H;go_enter Tryz.func67,Tryz.ntmps67
   go_wp2_with (first|((with_reducible refine gc 78 rfl ?_);refine gC 78 (some 7) Tryz.func78 #[.slice a6 l0.length a7] ?_;(with_reducible refine(Azy.calls k _ _ l0 true _ ?_ ?_ e9.out).mono ?_);exact cX d6.out;exact d7.out;rintro e w' ⟨rfl,⟨nd,rfl⟩⟩;refine⟨_,rfl,?_⟩)|(go_at_call 78;(with_reducible refine(Azy.calls k _ _ l1 true _ ?_ ?_ f3.out).mono ?_);exact cX d8.out;exact d9.out;rintro e w' ⟨rfl,⟨nd,rfl⟩⟩)|((with_reducible refine gc 85 rfl ?_);refine gC 85 (some 16) Tryz.func85 #[.slice a6 l0.length a7,.slice a8 l1.length b4] ?_;(with_reducible refine(Dzy.calls k _ _ l0 _ _ l1 e8 _ ?_ ?_ ?_ ?_ f6.out).mono ?_);exact cX d6.out;exact d7.out;exact cX d8.out;exact d9.out;rintro e w' ⟨rfl,⟨nd,rfl⟩⟩;refine⟨_,rfl,?_⟩))
   go_ret2
   exact⟨sD,dR⟩
  ·obtain rfl:=bN c6;rw[if_neg nF] at H
   obtain⟨rfl,rfl⟩:=q2 H;go_enter Tryz.func67,Tryz.ntmps67
   go_wp2_with (first|((with_reducible refine gc 78 rfl ?_);refine gC 78 (some 7) Tryz.func78 #[.slice a6 l0.length a7] ?_;(with_reducible refine(Azy.calls k _ _ l0 true _ ?_ ?_ e9.out).mono ?_);exact cX d6.out;exact d7.out;rintro e w' ⟨rfl,⟨nd,rfl⟩⟩;refine⟨_,rfl,?_⟩)|(go_at_call 78;(with_reducible refine(Azy.calls k _ _ l1 false _ ?_ ?_ f3.out).mono ?_);exact cX d8.out;exact d9.out;rintro e w' ⟨rfl,⟨nd,rfl⟩⟩))
   go_ret2
   exact⟨sD,dR⟩
 ·obtain rfl:=bN c4;rw[if_neg nF] at H
  obtain⟨rfl,rfl⟩:=q2 H;go_enter Tryz.func67,Tryz.ntmps67
  go_wp2_with (first|((with_reducible refine gc 78 rfl ?_);refine gC 78 (some 7) Tryz.func78 #[.slice a6 l0.length a7] ?_;(with_reducible refine(Azy.calls k _ _ l0 false _ ?_ ?_ e9.out).mono ?_);exact cX d6.out;exact d7.out;rintro e w' ⟨rfl,⟨nd,rfl⟩⟩;refine⟨_,rfl,?_⟩))
  go_ret2
  exact⟨sD,dR⟩


mutual
def Ezv.j0:Nat→List Int→List Int→Bool→Option (List Int × Int)
 | 0,_,_,_=>none
 | k+1,x0,x1,x17=>if x17=true then(some (([]:List Int),3)) else((Dzy.f k x0 x1).bind fun t339=>(if t339 < 0 then(some (([]:List Int),1)) else((Gzv.f x0 (x0.length:Int)).bind fun t340=>(Ezv.l0 k x1 t340 0 (t340.length:Int) 0))))
def Ezv.l0:Nat→List Int→List Int→Int→Int→Int→Option (List Int × Int)
 | 0,_,_,_,_,_=>none
 | k+1,x1,x6,x7,x27,x28=>if x28 < x27 then(if 0≤x28 then(if x28 < (x6.length:Int) then(if x28 < (x1.length:Int) then(if(wrap64 ((wrap64 ((rd x6 x28) - x7)) - (rd x1 x28))) < 0 then(Ezv.l0 k x1 (x6.set (x28:Int).toNat (wrap64 ((wrap64 ((wrap64 ((rd x6 x28) - x7)) - (rd x1 x28)))+1000000000))) 1 x27 (wrap64 (x28+1))) else(Ezv.l0 k x1 (x6.set (x28:Int).toNat (wrap64 ((wrap64 ((rd x6 x28) - x7)) - (rd x1 x28)))) 0 x27 (wrap64 (x28+1)))) else(if(wrap64 ((rd x6 x28) - x7)) < 0 then(Ezv.l0 k x1 (x6.set (x28:Int).toNat (wrap64 ((wrap64 ((rd x6 x28) - x7))+1000000000))) 1 x27 (wrap64 (x28+1))) else(Ezv.l0 k x1 (x6.set (x28:Int).toNat (wrap64 ((rd x6 x28) - x7))) 0 x27 (wrap64 (x28+1))))) else(none)) else(none)) else((Bzf.f k x6).bind fun t343=>(some (t343,0)))
end
def Ezv.f (k:Nat) (l0:List Int) (l1:List Int):Option (List Int × Int):=(Azy.f k l0).bind fun t337=>(if t337=true then((Azy.f k l1).bind fun t338=>(Ezv.j0 k l0 l1 (!t338))) else(Ezv.j0 k l0 l1 true))
theorem Ezv.mono_l:∀ k,(∀ a6 a7 a8,LeO (Ezv.j0 k a6 a7 a8) (Ezv.j0 (k+1) a6 a7 a8))∧(∀ a6 a7 a8 b4 b5,LeO (Ezv.l0 k a6 a7 a8 b4 b5) (Ezv.l0 (k+1) a6 a7 a8 b4 b5))
 | 0=>⟨fun _ _ _ r h=>by simp [Ezv.j0] at h,fun _ _ _ _ _ r h=>by simp [Ezv.l0] at h⟩
 | k+1=>by
  obtain⟨ih0,ih1⟩:=Ezv.mono_l k;have i0:=@Azy.mono;have i1:=@Dzy.mono;have i2:=@Bzf.mono;refine⟨?_,?_⟩
  ·intro a6 a7 a8;unfold Ezv.j0;exact mM
  ·intro a6 a7 a8 b4 b5;unfold Ezv.l0;exact mM
theorem Ezv.mono:∀ a6 a7 k,LeO (Ezv.f k a6 a7) (Ezv.f (k+1) a6 a7):=by
 intro a6 a7 k;obtain⟨ih0,ih1⟩:=Ezv.mono_l k;unfold Ezv.f;have i0:=@Azy.mono;have i1:=@Dzy.mono;have i2:=@Bzf.mono;exact mM
theorem Ezv.calls (k:Nat) (a6:Option Addr) (a7:Nat) (l0:List Int) (a8:Option Addr) (b4:Nat) (l1:List Int) (b5:List Int) (b6:Int) (w:World) (b7:Kd.C (Kd.int .i64) w a6 l0.length l0) (b8:l0.length≤a7) (b9:Kd.C (Kd.int .i64) w a8 l1.length l1) (d0:l1.length≤b4) (h:Ezv.f k l0 l1=some (b5,b6)) :
  Calls Tryz.prog 68 #[.slice a6 l0.length a7,.slice a8 l1.length b4] w fun e w'=>∃ v0_:Value,e=.returned (.tuple #[v0_,.int .i64 b6])∧Kd.R (Kd.int .i64) 3 w' w.heap.size (fun _=>True) v0_ b5∧Below w.heap.size w w':=by
 have d6:=aM b7;have d7:=aM b8;clear b7 b8;have d8:=aM b9;have d9:=aM d0;clear b9 d0;have HB:=aM (Below.refl w.heap.size w);have H:((Azy.f k l0).bind fun e6=>(if e6=true then((Azy.f k l1).bind fun e7=>(Ezv.j0 k l0 l1 (!e7))) else(Ezv.j0 k l0 l1 true)))=some (b5,b6):=h
 clear h;have e8:=aM H;clear H;go_enter Tryz.func68,Tryz.ntmps68
 go_upto_region 1 with (fail)
 go_cut [17] (fun e9 wc=>∃ (kq:Nat) (f3:Bool),e9=.bool f3∧Aside0 (Ezv.j0 kq l0 l1 f3=some (b5,b6))∧Aside0 (kq≤k)∧Aside0 (Below w.heap.size w wc))
 case first =>
  have H:=e8.out;clear e8;obtain⟨e6,f4,H⟩:=bT H;(try dsimp only at H);by_cases c5:e6=true
  ·subst c5;rw[if_pos rfl] at H;obtain⟨e7,f6,H⟩:=bT H;(try dsimp only at H);have H':=aM H;clear H;go_wp2_with (first|((with_reducible refine gc 78 rfl ?_);refine gC 78 (some 11) Tryz.func78 #[.slice a6 l0.length a7] ?_;(with_reducible refine(Azy.calls k _ _ l0 true _ ?_ ?_ f4.out).mono ?_);exact cB d6;exact d7.out;rintro e w' ⟨rfl,⟨nd,rfl⟩⟩;refine⟨_,rfl,?_⟩)|(go_at_call 78;(with_reducible refine(Azy.calls k _ _ l1 e7 _ ?_ ?_ f6.out).mono ?_);exact cB d8;exact d9.out;rintro e w' ⟨rfl,⟨nd,rfl⟩⟩))
   go_meet
   case rel=>exact⟨_,(!e7),sD,H',⟨by first|omega|exact Nat.le_refl _⟩,⟨pB⟩⟩
  ·obtain rfl:=bN c5;rw[if_neg nF] at H
   have H':=aM H;clear H;go_wp2_with (first|((with_reducible refine gc 78 rfl ?_);refine gC 78 (some 11) Tryz.func78 #[.slice a6 l0.length a7] ?_;(with_reducible refine(Azy.calls k _ _ l0 false _ ?_ ?_ f4.out).mono ?_);exact cB d6;exact d7.out;rintro e w' ⟨rfl,⟨nd,rfl⟩⟩;refine⟨_,rfl,?_⟩))
   go_meet
   case rel=>exact⟨_,(true),sD,H',⟨by first|omega|exact Nat.le_refl _⟩,⟨pB⟩⟩
 case rest =>
  clear e8;try clear b4
  obtain⟨kq,f3,rfl,HA,f9,HB⟩:=hcut;cases kq with
  | zero=>exact absurd HA.out (by simp [Ezv.j0])
  | succ g4 =>
   have H:=HA.out;clear HA;simp only[Ezv.j0] at H;by_cases c7:f3=true
   ·subst c7;rw[if_pos rfl] at H;obtain⟨rfl,rfl⟩:=q2 H;go_wp2
    go_ret2
    exact⟨_,eW,nK,pB⟩
   ·obtain rfl:=bN c7;rw[if_neg nF] at H
    obtain⟨g5,g6,H⟩:=bT H;(try dsimp only at H);by_cases c9:g5 < 0
    ·rw[if_pos c9] at H;have g7:=dE c9;clear c9;obtain⟨rfl,rfl⟩:=q2 H;go_wp2_with (first|((with_reducible refine gc 85 rfl ?_);refine gC 85 (some 20) Tryz.func85 #[.slice a6 l0.length a7,.slice a8 l1.length b4] ?_;(with_reducible refine(Dzy.calls g4 _ _ l0 _ _ l1 g5 _ ?_ ?_ ?_ ?_ g6.out).mono ?_);exact cB d6;exact d7.out;exact cB d8;exact d9.out;rintro e w' ⟨rfl,⟨nd,rfl⟩⟩;refine⟨_,rfl,?_⟩))
     go_ret2
     exact⟨_,eW,nK,pB⟩
    ·rw[if_neg c9] at H;have g7:decide (g5 < 0)=false:=decide_eq_false c9;clear c9;obtain⟨g8,g9,H⟩:=bT H;(try dsimp only at H);have H':=aM H;clear H;go_wp2_with (first|((with_reducible refine gc 85 rfl ?_);refine gC 85 (some 20) Tryz.func85 #[.slice a6 l0.length a7,.slice a8 l1.length b4] ?_;(with_reducible refine(Dzy.calls g4 _ _ l0 _ _ l1 g5 _ ?_ ?_ ?_ ?_ g6.out).mono ?_);exact cB d6;exact d7.out;exact cB d8;exact d9.out;rintro e w' ⟨rfl,⟨nd,rfl⟩⟩;refine⟨_,rfl,?_⟩)|((with_reducible refine gc 81 rfl ?_);refine gC 81 (some 25) Tryz.func81 #[.slice a6 l0.length a7,.int .i64 (l0.length:Int)] ?_;(with_reducible refine(Gzv.calls _ _ l0 (l0.length:Int) g8 _ ?_ ?_ g9.out).mono ?_);exact cB d6;exact d7.out;rintro e j3 ⟨j4,rfl,j5,hb⟩;refine⟨_,rfl,?_⟩;have j6:=rL j5;replace HB:=bB hb;clear hb j5;obtain⟨j7,j8,rfl⟩:=Kd.R_slice j6.out))
     go_loopg [7,28] g4 (fun kq j9 l5 w'=>∃ (l6:List Int) (l7:Int) (l8:Int),j9=.int .i64 l7∧l5=.int .i64 l8∧Aside0 (Ezv.l0 kq l1 l6 l7 (g8.length:Int) l8=some (b5,b6))∧Aside0 (kq≤g4)∧Aside0 (Kd.R (Kd.int .i64) 3 w' w.heap.size (fun _=>True) (.slice j7 g8.length j8) l6)∧Aside0 (Below w.heap.size w w'))
     case atStart=>exact⟨(g8),(0),(0),sD,sD,H',⟨Nat.le_refl _⟩,⟨rX j6.out⟩,⟨pB⟩⟩
     case round =>
      clear H';try clear b4
      obtain⟨l6,l7,l8,rfl,rfl,HA,l9,m0,HB⟩:=hrel;have m3:=(Kd.R_reads' m0.out).1;rw[m3] at m0;(try simp only[m3])
      cases gk with
      | zero=>exact absurd HA.out (by simp [Ezv.l0])
      | succ k2 =>
       have H:=HA.out;clear HA;simp only[Ezv.l0] at H;by_cases m4:l8 < (g8.length:Int)
       ·rw[if_pos m4] at H;have m5:=dE m4;have m6:=m5;(try simp only[m3] at m6)
        clear m4;obtain⟨m7,H⟩:=iN H;obtain⟨m8,H⟩:=iO H;have m9:decide (l8 < (l6.length:Int))=true:=dE m8;have n0:=m9;(try simp only[m3] at n0)
        clear m8;by_cases n6:l8 < (l1.length:Int)
        ·rw[if_pos n6] at H;have n7:=dE n6;have n8:=n7;(try simp only[m3] at n8)
         clear n6;by_cases n9:(wrap64 ((wrap64 ((rd l6 l8) - l7)) - (rd l1 l8))) < 0
         ·rw[if_pos n9] at H;have o0:decide ((wrap64 ((wrap64 ((rd l6 l8) - l7)) - (rd l1 l8))) < 0)=true:=dE n9;have o8:decide ((IntKind.i64.wrap ((IntKind.i64.wrap ((rd l6 l8) - l7)) - (rd l1 l8))) < 0)=true:=by have h_:=o0;first|exact h_|(simp only[i64_w];exact h_)
          clear n9;obtain⟨o9,p0⟩:∃ y_:List Int,y_=(l6.set (l8:Int).toNat (wrap64 ((wrap64 ((wrap64 ((rd l6 l8) - l7)) - (rd l1 l8)))+1000000000))):=⟨_,rfl⟩;replace H:(Ezv.l0 k2 l1 o9 1 (g8.length:Int) (wrap64 (l8+1)))=some (b5,b6):=yE p0 H
          have p3:=aM p0;clear p0;have H':=aM H;clear H;obtain⟨p4,p5,r5,r6,r7⟩:=aI (Kd.R_reads' m0.out).2.2 l8;cases p5;obtain⟨r8,r9,t6,t7,t8⟩:=aI d8.out l8;cases r9
          replace t6:=hB HB t6;have z1:0≤(l8:Int):=oE aS
          have z2:(l8:Int) < ((l6.length:Int):Int):=oE aS
          obtain⟨z6,z7,z8,B0,B5,B6,B8⟩:=Kd.R_form m0.out (by omega)
          (first|cases z8|(injection z8 with ea_ en_ ec_;(first|subst ea_|(injection ea_ with ea_;subst ea_));subst ec_;clear en_))
          have B9:=aM B0;have C0:=aM B8;clear B0 B5 B8;(first|simp only[add_plain] at r5|skip)
          obtain⟨C1,C2⟩:=Kd.R_celln 0 m0.out (l8:Int) z1 z2;replace z1:=eq_true z1;replace z2:=eq_true z2;have C3:=Kd.R_putg m0.out (l8:Int) (wrap64 ((wrap64 ((wrap64 ((rd l6 l8) - l7)) - (rd l1 l8)))+1000000000));go_wp2_with (first|((with_reducible refine gate_store (t:=3) (p:=54) rfl ?_);refine store_event (t:=3) (p:=54) (v:=?vo_w20) (w1:=(wr.setCell ⟨z6,(l8:Int).toNat,none⟩ (.int .i64 (wrap64 ((wrap64 ((wrap64 ((rd l6 l8) - l7)) - (rd l1 l8)))+1000000000))))) ?hg ?ho ?hn ?hr ?_;(case ho=>rfl);(case hg=>rfl);(case hn=>rfl);(case hr=>first|(go_simp;done)|(go_simp;rfl));intro C4 hw;have hg:wr.grownBy C4 (some z6):=(by rw[hw];exact C3.2);have hp_:Kd.R (Kd.int .i64) 3 C4 w.heap.size (fun _=>True) (.slice (some ⟨z6,0,none⟩) l6.length j8) o9:=(by rw[hw,p3.out];exact C3.1);clear C3;replace m0:=aM (hp_);replace HB:=aM ((by rw[hw];exact below_set (HB.out) B9.out:Below w.heap.size w C4));clear hg hw hp_))
          (try simp only[← m3])
          go_roundg k2
          case measure=>have:=f9.out;have:=l9.out;omega
          case rel=>exact⟨(o9),(1),(wrap64 (l8+1)),sD,sD,H',⟨by have:=f9.out;have:=l9.out;omega⟩,⟨by(try simp only[m3]);(with_reducible repeat(first|apply Kd.R_alloc|apply Kd.R_drewN|apply Kd.R_drew));exact m0.out⟩,⟨pB⟩⟩
         ·rw[if_neg n9] at H;have o0:decide ((wrap64 ((wrap64 ((rd l6 l8) - l7)) - (rd l1 l8))) < 0)=false:=decide_eq_false n9;have o8:decide ((IntKind.i64.wrap ((IntKind.i64.wrap ((rd l6 l8) - l7)) - (rd l1 l8))) < 0)=false:=by have h_:=o0;first|exact h_|(simp only[i64_w];exact h_)
          clear n9;obtain⟨C6,C7⟩:∃ y_:List Int,y_=(l6.set (l8:Int).toNat (wrap64 ((wrap64 ((rd l6 l8) - l7)) - (rd l1 l8)))):=⟨_,rfl⟩;replace H:(Ezv.l0 k2 l1 C6 0 (g8.length:Int) (wrap64 (l8+1)))=some (b5,b6):=yE C7 H
          have C8:=aM C7;clear C7;have H':=aM H;clear H;obtain⟨p4,p5,r5,r6,r7⟩:=aI (Kd.R_reads' m0.out).2.2 l8;cases p5;obtain⟨r8,r9,t6,t7,t8⟩:=aI d8.out l8;cases r9
          replace t6:=hB HB t6;have C9:0≤(l8:Int):=oE aS
          have D0:(l8:Int) < ((l6.length:Int):Int):=oE aS
          obtain⟨D1,D2,D3,D4,D5,D6,D7⟩:=Kd.R_form m0.out (by omega)
          (first|cases D3|(injection D3 with ea_ en_ ec_;(first|subst ea_|(injection ea_ with ea_;subst ea_));subst ec_;clear en_))
          have D8:=aM D4;have D9:=aM D7;clear D4 D5 D7;(first|simp only[add_plain] at r5|skip)
          obtain⟨E0,E1⟩:=Kd.R_celln 0 m0.out (l8:Int) C9 D0;replace C9:=eq_true C9;replace D0:=eq_true D0;have E2:=Kd.R_putg m0.out (l8:Int) (wrap64 ((wrap64 ((rd l6 l8) - l7)) - (rd l1 l8)));go_wp2_with (first|((with_reducible refine gate_store (t:=3) (p:=54) rfl ?_);refine store_event (t:=3) (p:=54) (v:=?vo_w23) (w1:=(wr.setCell ⟨D1,(l8:Int).toNat,none⟩ (.int .i64 (wrap64 ((wrap64 ((rd l6 l8) - l7)) - (rd l1 l8)))))) ?hg ?ho ?hn ?hr ?_;(case ho=>rfl);(case hg=>rfl);(case hn=>rfl);(case hr=>first|(go_simp;done)|(go_simp;rfl));intro E3 hw;have hg:wr.grownBy E3 (some D1):=(by rw[hw];exact E2.2);have hp_:Kd.R (Kd.int .i64) 3 E3 w.heap.size (fun _=>True) (.slice (some ⟨D1,0,none⟩) l6.length j8) C6:=(by rw[hw,C8.out];exact E2.1);clear E2;replace m0:=aM (hp_);replace HB:=aM ((by rw[hw];exact below_set (HB.out) D8.out:Below w.heap.size w E3));clear hg hw hp_))
          (try simp only[← m3])
          go_roundg k2
          case measure=>have:=f9.out;have:=l9.out;omega
          case rel=>exact⟨(C6),(0),(wrap64 (l8+1)),sD,sD,H',⟨by have:=f9.out;have:=l9.out;omega⟩,⟨by(try simp only[m3]);(with_reducible repeat(first|apply Kd.R_alloc|apply Kd.R_drewN|apply Kd.R_drew));exact m0.out⟩,⟨pB⟩⟩
        ·rw[if_neg n6] at H;have n7:decide (l8 < (l1.length:Int))=false:=decide_eq_false n6;have n8:=n7;(try simp only[m3] at n8)
         clear n6;by_cases E4:(wrap64 ((rd l6 l8) - l7)) < 0
         ·rw[if_pos E4] at H;have E5:decide ((wrap64 ((rd l6 l8) - l7)) < 0)=true:=dE E4;have E6:decide ((IntKind.i64.wrap ((rd l6 l8) - l7)) < 0)=true:=by have h_:=E5;first|exact h_|(simp only[i64_w];exact h_)
          clear E4;obtain⟨E7,E8⟩:∃ y_:List Int,y_=(l6.set (l8:Int).toNat (wrap64 ((wrap64 ((rd l6 l8) - l7))+1000000000))):=⟨_,rfl⟩;replace H:(Ezv.l0 k2 l1 E7 1 (g8.length:Int) (wrap64 (l8+1)))=some (b5,b6):=yE E8 H
          have E9:=aM E8;clear E8;have H':=aM H;clear H;obtain⟨p4,p5,r5,r6,r7⟩:=aI (Kd.R_reads' m0.out).2.2 l8;cases p5;have F0:0≤(l8:Int):=oE aS
          have F1:(l8:Int) < ((l6.length:Int):Int):=oE aS
          obtain⟨F2,F3,F4,F5,F6,F7,F8⟩:=Kd.R_form m0.out (by omega)
          (first|cases F4|(injection F4 with ea_ en_ ec_;(first|subst ea_|(injection ea_ with ea_;subst ea_));subst ec_;clear en_))
          have F9:=aM F5;have G0:=aM F8;clear F5 F6 F8;(first|simp only[add_plain] at r5|skip)
          obtain⟨G4,G5⟩:=Kd.R_celln 0 m0.out (l8:Int) F0 F1;replace F0:=eq_true F0;replace F1:=eq_true F1;have G6:=Kd.R_putg m0.out (l8:Int) (wrap64 ((wrap64 ((rd l6 l8) - l7))+1000000000));go_wp2_with (first|((with_reducible refine gate_store (t:=3) (p:=54) rfl ?_);refine store_event (t:=3) (p:=54) (v:=?vo_w27) (w1:=(wr.setCell ⟨F2,(l8:Int).toNat,none⟩ (.int .i64 (wrap64 ((wrap64 ((rd l6 l8) - l7))+1000000000))))) ?hg ?ho ?hn ?hr ?_;(case ho=>rfl);(case hg=>rfl);(case hn=>rfl);(case hr=>first|(go_simp;done)|(go_simp;rfl));intro G7 hw;have hg:wr.grownBy G7 (some F2):=(by rw[hw];exact G6.2);have hp_:Kd.R (Kd.int .i64) 3 G7 w.heap.size (fun _=>True) (.slice (some ⟨F2,0,none⟩) l6.length j8) E7:=(by rw[hw,E9.out];exact G6.1);clear G6;replace m0:=aM (hp_);replace HB:=aM ((by rw[hw];exact below_set (HB.out) F9.out:Below w.heap.size w G7));clear hg hw hp_))
          (try simp only[← m3])
          go_roundg k2
          case measure=>have:=f9.out;have:=l9.out;omega
          case rel=>exact⟨(E7),(1),(wrap64 (l8+1)),sD,sD,H',⟨by have:=f9.out;have:=l9.out;omega⟩,⟨by(try simp only[m3]);(with_reducible repeat(first|apply Kd.R_alloc|apply Kd.R_drewN|apply Kd.R_drew));exact m0.out⟩,⟨pB⟩⟩
         ·rw[if_neg E4] at H;have E5:decide ((wrap64 ((rd l6 l8) - l7)) < 0)=false:=decide_eq_false E4;have E6:decide ((IntKind.i64.wrap ((rd l6 l8) - l7)) < 0)=false:=by have h_:=E5;first|exact h_|(simp only[i64_w];exact h_)
          clear E4;obtain⟨G8,G9⟩:∃ y_:List Int,y_=(l6.set (l8:Int).toNat (wrap64 ((rd l6 l8) - l7))):=⟨_,rfl⟩;replace H:(Ezv.l0 k2 l1 G8 0 (g8.length:Int) (wrap64 (l8+1)))=some (b5,b6):=yE G9 H
          have H5:=aM G9;clear G9;have H':=aM H;clear H;obtain⟨p4,p5,r5,r6,r7⟩:=aI (Kd.R_reads' m0.out).2.2 l8;cases p5;have H6:0≤(l8:Int):=oE aS
          have H7:(l8:Int) < ((l6.length:Int):Int):=oE aS
          obtain⟨H8,H9,I0,I1,I2,I3,I4⟩:=Kd.R_form m0.out (by omega)
          (first|cases I0|(injection I0 with ea_ en_ ec_;(first|subst ea_|(injection ea_ with ea_;subst ea_));subst ec_;clear en_))
          have I5:=aM I1;have I6:=aM I4;clear I1 I2 I4;(first|simp only[add_plain] at r5|skip)
          obtain⟨I7,I8⟩:=Kd.R_celln 0 m0.out (l8:Int) H6 H7;replace H6:=eq_true H6;replace H7:=eq_true H7;have I9:=Kd.R_putg m0.out (l8:Int) (wrap64 ((rd l6 l8) - l7));go_wp2_with (first|((with_reducible refine gate_store (t:=3) (p:=54) rfl ?_);refine store_event (t:=3) (p:=54) (v:=?vo_w30) (w1:=(wr.setCell ⟨H8,(l8:Int).toNat,none⟩ (.int .i64 (wrap64 ((rd l6 l8) - l7))))) ?hg ?ho ?hn ?hr ?_;(case ho=>rfl);(case hg=>rfl);(case hn=>rfl);(case hr=>first|(go_simp;done)|(go_simp;rfl));intro J0 hw;have hg:wr.grownBy J0 (some H8):=(by rw[hw];exact I9.2);have hp_:Kd.R (Kd.int .i64) 3 J0 w.heap.size (fun _=>True) (.slice (some ⟨H8,0,none⟩) l6.length j8) G8:=(by rw[hw,H5.out];exact I9.1);clear I9;replace m0:=aM (hp_);replace HB:=aM ((by rw[hw];exact below_set (HB.out) I5.out:Below w.heap.size w J0));clear hg hw hp_))
          (try simp only[← m3])
          go_roundg k2
          case measure=>have:=f9.out;have:=l9.out;omega
          case rel=>exact⟨(G8),(0),(wrap64 (l8+1)),sD,sD,H',⟨by have:=f9.out;have:=l9.out;omega⟩,⟨by(try simp only[m3]);(with_reducible repeat(first|apply Kd.R_alloc|apply Kd.R_drewN|apply Kd.R_drew));exact m0.out⟩,⟨pB⟩⟩
       ·rw[if_neg m4] at H;have m5:decide (l8 < (g8.length:Int))=false:=decide_eq_false m4;have m6:=m5;(try simp only[m3] at m6)
        clear m4;replace H:=bS H;obtain⟨J1,J2,H⟩:=H;replace H:(some (J1,0))=some (b5,b6):=H;have J3:=aM J2;clear J2;obtain⟨rfl,rfl⟩:=q2 H;go_wp2_with (first|((with_reducible refine gc 80 rfl ?_);refine gC 80 (some 57) Tryz.func80 #[.slice j7 l6.length j8] ?_;(with_reducible refine(Bzf.calls k2 (fun k_=>some k_=(.slice j7 l6.length j8:Value).ownBlock) (.slice j7 l6.length j8) l6 J1 w _ ?_ ?_ J3.out).mono ?_);exact pB;exact Kd.R_tight rfl m0.out;rintro e J4 ⟨J5,rfl,j5,hb,hkp⟩;refine⟨_,rfl,?_⟩;have J6:=aM (Kd.R_mono (ok':=fun k_=>True) j5 (fun k_ hk_=>trivial));replace HB:=aM (hb);clear m0 hb hkp j5))
        go_ret2
        exact⟨_,eW,rX J6.out,pB⟩




/-- What the last step of Add computes: the sign,the sum,the error. -/
def Gzb.f (k:Nat) (na nb:Bool) (x y:List Int):Option (Bool × List Int × Int) :=
 if na=nb then(Ezp.f k x y).bind fun t=>some (na,t.1,t.2) else(Hzj.f k x y).bind fun c=>if c.1 < 0 then(Ezv.f k y x).bind fun t=>some (nb,t.1,t.2) else(Ezv.f k x y).bind fun t=>some (na,t.1,t.2)
theorem Gzb.mono:∀ a6 a7 a8 b4 k,LeO (Gzb.f k a6 a7 a8 b4) (Gzb.f (k+1) a6 a7 a8 b4):=by
 intro a6 a7 a8 b4 k;unfold Gzb.f;exact LeO.ite (LeO.bind (Ezp.mono _ _ k) (fun _=>LeO.refl _)) (LeO.bind (Hzj.mono _ _ k) (fun _=>LeO.ite (LeO.bind (Ezv.mono _ _ k) (fun _=>LeO.refl _)) (LeO.bind (Ezv.mono _ _ k) (fun _=>LeO.refl _))))
def AddS (gx gy gs gn:Nat):Nat→Prop:=fun k_=>k_=gx∨k_=gy∨k_=gs∨k_=gn
theorem Gzb.calls (k B:Nat) (ga gb gx gy gs gn:Nat) (na nb:Bool) (ua1 ua2 ub1 ub2:Value) (Ax:Option Addr) (cx:Nat) (x:List Int) (Ay:Option Addr) (cy:Nat) (y:List Int) (vs:Value) (a6:Bool) (a7:List Int) (a8:Int) (b4 w:World) (hB:Below B b4 w)
  (ha:w.heap[ga]?=some (.cells #[.bool na,ua1,ua2] 26 (0,0))) (hb:w.heap[gb]?=some (.cells #[.bool nb,ub1,ub2] 26 (0,0))) (hx:w.heap[gx]?=some (.cells #[.slice Ax x.length cx] 24 (0,0))) (hy:w.heap[gy]?=some (.cells #[.slice Ay y.length cy] 24 (0,0))) (hs:w.heap[gs]?=some (.cells #[vs] 24 (0,0))) (hn:w.heap[gn]?=some (.cells #[.bool na] 4 (0,0)))
  (nxy:gx≠gy) (nsx:gs≠gx) (nsy:gs≠gy) (bx:B≤gx) (bY:B≤gy) (bs:B≤gs) (bn:B≤gn)
  (hrx:∀ W_,Kept w W_ (AddS gx gy gs gn)→Kd.C (Kd.int .i64) W_ Ax x.length x) (hcx:x.length≤cx) (hry:∀ W_,Kept w W_ (AddS gx gy gs gn)→Kd.C (Kd.int .i64) W_ Ay y.length y) (hcy:y.length≤cy) (h:Gzb.f k na nb x y=some (a6,a7,a8)) :
  Calls Tryz.prog 65 #[.pointer (some ⟨ga,0,none⟩),.pointer (some ⟨gb,0,none⟩),.pointer (some ⟨gx,0,none⟩),.pointer (some ⟨gy,0,none⟩),.pointer (some ⟨gs,0,none⟩),.pointer (some ⟨gn,0,none⟩)] w fun e W'=>∃ v:Value,e=.returned (.int .i64 a8)∧W'.heap[gn]?=some (.cells #[.bool a6] 4 (0,0))∧W'.heap[gs]?=some (.cells #[v] 24 (0,0))∧Kd.R (Kd.int .i64) 3 W' w.heap.size (fun _=>True) v a7∧Kept w W' (AddS gx gy gs gn)∧Below B b4 W':=by
 have nsn:=blk_ne hs hn (by decide)
 have nxn:=blk_ne hx hn (by decide)
 have nyn:=blk_ne hy hn (by decide)
 have nas:=blk_ne ha hs (by decide)
 have nbs:=blk_ne hb hs (by decide)
 have nbx:=blk_ne hb hx (by decide)
 have nby:=blk_ne hb hy (by decide)
 have lx:=blk_lt hx;have ly:=blk_lt hy;have ls:=blk_lt hs;have ln:=blk_lt hn;have HBB:=aM hB;have HX:=aM hx;have HY:=aM hy;have HS:=aM hs;have HN:=aM hn;have HA:=aM ha;have HBb:=aM hb;have HRX:=aM hrx;have HRY:=aM hry;have HCX:=aM hcx;have HCY:=aM hcy;obtain⟨hczA_0,hczA_1,hczA_2,hfzA_0,hfzA_1,hfzA_2⟩:=bk3 HA;obtain⟨hczB_0,hczB_1,hczB_2,hfzB_0,hfzB_1,hfzB_2⟩:=bk3 HBb;obtain⟨hczX,hfzX⟩:=bk1 HX;obtain⟨hczY,hfzY⟩:=bk1 HY;obtain⟨hczS,hfzS⟩:=bk1 HS;obtain⟨hczN,hfzN⟩:=bk1 HN;clear hB hx hy hs hn ha hb hrx hry hcx hcy;have HKK:=aM (Kept.refl w (AddS gx gy gs gn));unfold Gzb.f at h;by_cases b5:na=nb
 ·subst b5;rw[if_pos rfl,Option.bind_eq_some_iff] at h;obtain⟨⟨t,b6⟩,ht,h⟩:=h;simp only[Option.some.injEq,Prod.mk.injEq] at h;obtain⟨rfl,rfl,rfl⟩:=h;have HT:=aM ht;clear ht;have b7:(na == na)=true:=by simp
  go_enter Tryz.func65,Tryz.ntmps65
  go_wp2_with (first|((with_reducible refine gc 66 rfl ?_);refine gC 66 (some 18) Tryz.func66 #[.slice Ax x.length cx,.slice Ay y.length cy] ?_;(with_reducible refine(Ezp.calls k _ _ x _ _ y t b6 _ ?_ ?_ ?_ ?_ HT.out).mono ?_);exact HRX.out _ HKK.out;exact HCX.out;exact HRY.out _ HKK.out;exact HCY.out;rintro e b8 ⟨b9,rfl,d0,hb⟩;refine⟨_,rfl,?_⟩;obtain⟨Ao_,co_,eo_⟩:=Kd.R_slice d0;subst eo_;have HO:=aM d0;have HS1:=kb HS hb;have HN1:=kb HN hb;obtain⟨hczS1,hfzS1⟩:=bk1 HS1;have d6:=aM hb;clear hb d0))
  go_ret
  refine⟨_,rfl,blk_far (p:=⟨gs,0,none⟩) HN1.out (Ne.symm nsn) _,blk_put HS1.out 0 _ rfl,?_,kept_far d6.out (Nat.le_refl _) (.inr (.inr (.inl rfl))) _,below_far HBB.out (Nat.le_trans bs (Nat.le_of_lt ls)) d6.out bs _⟩;exact Kd.R_mono (Kd.R_far (p:=⟨gs,0,none⟩) (ok:=fun k_=>w.heap.size≤k_) (Kd.R_reok rfl HO.out (fun k_ hk_=>Kd.R_base HO.out k_ hk_)) (fun k_ hk_ e_=>by have e_:k_=gs:=e_;omega) _) (fun _ _=>trivial)
 ·rw[if_neg b5,Option.bind_eq_some_iff] at h;obtain⟨⟨cv,ce⟩,hcv,h⟩:=h;by_cases d7:cv < 0
  ·rw[if_pos d7,Option.bind_eq_some_iff] at h;obtain⟨⟨t,b6⟩,ht,h⟩:=h;simp only[Option.some.injEq,Prod.mk.injEq] at h;obtain⟨rfl,rfl,rfl⟩:=h;have HT:=aM ht;have HCV:=aM hcv;clear ht hcv;have b7:(na == nb)=false:=by simpa using b5
   have d8:decide (cv < 0)=true:=dE d7;go_enter Tryz.func65,Tryz.ntmps65
   go_wp2_with (first|((with_reducible refine gc 67 rfl ?_);refine gC 67 (some 25) Tryz.func67 #[.slice Ax x.length cx,.slice Ay y.length cy] ?_;(with_reducible refine(Hzj.calls k _ _ x _ _ y cv ce _ ?_ ?_ ?_ ?_ HCV.out).mono ?_);exact HRX.out _ HKK.out;exact HCX.out;exact HRY.out _ HKK.out;exact HCY.out;rintro e d9 ⟨rfl,e6⟩;have hb:=e6.below;clear e6;refine⟨_,rfl,?_⟩;replace HA:=kb HA hb;replace HBb:=kb HBb hb;replace HX:=kb HX hb;replace HY:=kb HY hb;replace HS:=kb HS hb;replace HN:=kb HN hb;replace HKK:=aM (kept_trans HKK.out (show Kept _ d9 (AddS gx gy gs gn) from⟨hb.size,fun i hi _=>hb.block i hi⟩));replace HBB:=aM (HBB.out.trans (hb.mono (Nat.le_trans bs (Nat.le_of_lt ls))));have HLE:=aM hb.size;clear hczX hczY hfzX hfzY hczS hfzS hczN hfzN;obtain⟨hczX,hfzX⟩:=bk1 HX;obtain⟨hczY,hfzY⟩:=bk1 HY;clear hb))
   have HXd:=aM (blk_drew HX.out);have HYd:=aM (blk_drew HY.out);have HSd:=aM (blk_drew HS.out);have HNd:=aM (blk_drew HN.out);have HBd:=aM (blk_drew HBb.out);have HKd:=aM (show Kept w d9.drew (AddS gx gy gs gn) from HKK.out)
   have HBBd:=aM (below_drew1 HBB.out);have HLd:=aM (show w.heap.size≤d9.drew.heap.size from HLE.out)
   refine start_ (n:=7) (S:=fun W=>W.cell? ⟨gb,0,none⟩=some (.bool nb)) (ds:=[]) (bA 7 0) (by kernel_rfl) rfl rfl ((blk_cell HBd.out 0).trans rfl) (fun hHeld=>?_)
   clear HX HY HS HN HBb HKK HBB HLE hczX hfzX hczY hfzY;generalize d9.drew=wd at HXd HYd HSd HNd HBd HKd HBBd HLd hHeld ⊢;obtain⟨hczX,hfzX⟩:=bk1 HXd;obtain⟨hczY,hfzY⟩:=bk1 HYd;obtain⟨hczN,hfzN⟩:=bk1 HNd;refine pure_ (i:=2) (N:=some 32) (v:=?_) (a':=?_) (bA 7 4) rfl rfl (by kernel_rfl) (fun _ _ _ h=>h) (Or.inl ⟨by rfl,?_⟩) ?_ ?_
   rotate_left
   ·intro w';go_simp
    with_reducible rfl
   rotate_left
   ·simp only[Act.put,sA,sZ,sC,i64_w,i32_w];rfl
   refine take_ (i:=3) (N:=some 33) (v:=?_) (a':=?_) (bA 7 12) rfl rfl (by kernel_rfl) (fun _ _ _ h=>h) (Or.inl ⟨by rfl,?_⟩) hHeld ?_ ?_
   rotate_left
   ·intro w' e7;go_simp
    with_reducible rfl
   rotate_left
   ·simp only[Act.put,sA,sZ,sC,i64_w,i32_w];rfl
   refine two_ (i:=0) (j:=1) (Ni:=some 30) (Nj:=some 31) (bA 7 13) (bA 7 14) rfl rfl rfl rfl (by kernel_rfl) (by decide) (by decide) (fun K hK=>?_) (fun K hK=>?_)
   refine value_ (v:=?_) (w1:=wd) (by rfl) rfl ?_ ?_
   rotate_left
   ·go_simp
    rfl
   refine hK.out _ _ hHeld (fun _=>?_)
   clear hK K;refine nm 30 ?_;refine one_ (i:=1) (N:=some 31) (bA 7 15) rfl rfl (by kernel_rfl) (by decide) (fun K hK=>?_)
   refine value_ (v:=?_) (w1:=wd) (by rfl) rfl ?_ ?_
   rotate_left
   ·go_simp
    rfl
   refine hK.out _ _ hHeld (fun _=>?_)
   clear hK K;refine nm 31 ?_;rotate_left
   refine value_ (v:=?_) (w1:=wd) (by rfl) rfl ?_ ?_
   rotate_left
   ·go_simp
    rfl
   refine hK.out _ _ hHeld (fun _=>?_)
   clear hK K;refine nm 31 ?_;refine one_ (i:=0) (N:=some 30) (bA 7 15) rfl rfl (by kernel_rfl) (by decide) (fun K hK=>?_)
   refine value_ (v:=?_) (w1:=wd) (by rfl) rfl ?_ ?_
   rotate_left
   ·go_simp
    rfl
   refine hK.out _ _ hHeld (fun _=>?_)
   clear hK K;refine nm 30 ?_;all_goals
    refine one_ (i:=4) (N:=none) (bA 7 31) rfl rfl (by kernel_rfl) (by decide) (fun K hK=>?_)
    refine skip_ (w1:=?_) (by rfl) rfl ?_ ?_
    rotate_left
    ·go_simp
     rfl
    have hH4:(wd.setCell ⟨gx,0,none⟩ (.slice Ay y.length cy)).cell? ⟨gb,0,none⟩=some (.bool nb):=(cell_far nbx _).trans hHeld;refine hK.out _ _ hH4 (fun _=>?_)
    clear hK K;have hfzY4:(wd.setCell ⟨gx,0,none⟩ (.slice Ay y.length cy)).frozen? ⟨gy,0,none⟩=false:=blk_frozen (blk_far (p:=⟨gx,0,none⟩) HYd.out (Ne.symm nxy) _) 0;have hczY4:(wd.setCell ⟨gx,0,none⟩ (.slice Ay y.length cy)).cell? ⟨gy,0,none⟩=some (.slice Ay y.length cy):=(cell_far (Ne.symm nxy) _).trans hczY;refine one_ (i:=5) (N:=none) (bA 7 63) rfl rfl (by kernel_rfl) (by decide) (fun K hK=>?_)
    refine skip_ (w1:=?_) (by rfl) rfl ?_ ?_
    rotate_left
    ·go_simp
     rfl
    refine hK.out _ _ ((cell_far nby _).trans hH4) (fun _=>?_)
    clear hK K;have hfzN5:((wd.setCell ⟨gx,0,none⟩ (.slice Ay y.length cy)).setCell ⟨gy,0,none⟩ (.slice Ax x.length cx)).frozen? ⟨gn,0,none⟩=false:=blk_frozen (blk_far (p:=⟨gy,0,none⟩) (blk_far (p:=⟨gx,0,none⟩) HNd.out (Ne.symm nxn) _) (Ne.symm nyn) _) 0;have hczN5:((wd.setCell ⟨gx,0,none⟩ (.slice Ay y.length cy)).setCell ⟨gy,0,none⟩ (.slice Ax x.length cx)).cell? ⟨gn,0,none⟩=some (.bool na):=(cell_far (Ne.symm nyn) _).trans ((cell_far (Ne.symm nxn) _).trans hczN);refine one_ (i:=6) (N:=none) (bA 7 127) rfl rfl (by kernel_rfl) (by decide) (fun K hK=>?_)
    refine skip_ (w1:=?_) (by rfl) rfl ?_ ?_
    rotate_left
    ·go_simp
     rfl
    have nbn:gb≠gn:=blk_ne HBd.out HNd.out (by decide)
    refine hK.out _ _ ((cell_far nbn _).trans ((cell_far nby _).trans hH4)) (fun _=>?_)
    clear hK K;refine done_ (by kernel_rfl) ?_
    have HX:=aM (blk_far (p:=⟨gn,0,none⟩) (blk_far (p:=⟨gy,0,none⟩) (blk_put HXd.out 0 (.slice Ay y.length cy) rfl) nxy (.slice Ax x.length cx)) nxn (.bool nb));have HY:=aM (blk_far (p:=⟨gn,0,none⟩) (blk_put (blk_far (p:=⟨gx,0,none⟩) HYd.out (Ne.symm nxy) (.slice Ay y.length cy)) 0 (.slice Ax x.length cx) rfl) nyn (.bool nb));have HN:=aM (blk_put (blk_far (p:=⟨gy,0,none⟩) (blk_far (p:=⟨gx,0,none⟩) HNd.out (Ne.symm nxn) (.slice Ay y.length cy)) (Ne.symm nyn) (.slice Ax x.length cx)) 0 (.bool nb) rfl);have HS:=aM (blk_far (p:=⟨gn,0,none⟩) (blk_far (p:=⟨gy,0,none⟩) (blk_far (p:=⟨gx,0,none⟩) HSd.out nsx (.slice Ay y.length cy)) nsy (.slice Ax x.length cx)) nsn (.bool nb));have HKK:=aM (((HKd.out.setCell (p:=⟨gx,0,none⟩) (.inl (.inl rfl)) (.slice Ay y.length cy)).setCell (p:=⟨gy,0,none⟩) (.inl (.inr (.inl rfl))) (.slice Ax x.length cx)).setCell (p:=⟨gn,0,none⟩) (.inl (.inr (.inr (.inr rfl)))) (.bool nb));have HBB:=aM (((HBBd.out.setCell (p:=⟨gx,0,none⟩) bx (.slice Ay y.length cy)).setCell (p:=⟨gy,0,none⟩) bY (.slice Ax x.length cx)).setCell (p:=⟨gn,0,none⟩) bn (.bool nb));have HLE:=aM (show w.heap.size≤(((wd.setCell ⟨gx,0,none⟩ (.slice Ay y.length cy)).setCell ⟨gy,0,none⟩ (.slice Ax x.length cx)).setCell ⟨gn,0,none⟩ (.bool nb)).heap.size from HKK.out.1)
    clear HXd HYd HSd HNd HBd HKd HBBd HLd hHeld hczX hfzX hczY hfzY hczN hfzN hH4 hfzY4 hczY4 hfzN5 hczN5 nbn;generalize (((wd.setCell ⟨gx,0,none⟩ (.slice Ay y.length cy)).setCell ⟨gy,0,none⟩ (.slice Ax x.length cx)).setCell ⟨gn,0,none⟩ (.bool nb))=wq at HX HY HN HS HKK HBB HLE ⊢;obtain⟨hczX,hfzX⟩:=bk1 HX;obtain⟨hczY,hfzY⟩:=bk1 HY;go_wp2_with (first|((with_reducible refine gc 68 rfl ?_);refine gC 68 (some 37) Tryz.func68 #[.slice Ay y.length cy,.slice Ax x.length cx] ?_;(with_reducible refine(Ezv.calls k _ _ y _ _ x t b6 _ ?_ ?_ ?_ ?_ HT.out).mono ?_);exact HRY.out _ HKK.out;exact HCY.out;exact HRX.out _ HKK.out;exact HCX.out;rintro e b8 ⟨b9,rfl,d0,hb⟩;refine⟨_,rfl,?_⟩;obtain⟨Ao_,co_,eo_⟩:=Kd.R_slice d0;subst eo_;have HO:=aM d0;have HS1:=kb HS hb;have HN1:=kb HN hb;obtain⟨hczS1,hfzS1⟩:=bk1 HS1;have d6:=aM hb;clear hb d0))
    go_ret
    have hle9:=HLE.out;refine⟨_,rfl,blk_far (p:=⟨gs,0,none⟩) HN1.out (Ne.symm nsn) _,blk_put HS1.out 0 _ rfl,?_,kept_trans HKK.out (kept_far d6.out (Nat.le_refl _) (.inr (.inr (.inl rfl))) _),below_far HBB.out (Nat.le_trans (Nat.le_trans bs (Nat.le_of_lt ls)) hle9) d6.out bs _⟩;exact Kd.R_lower (Kd.R_mono (Kd.R_far (p:=⟨gs,0,none⟩) (ok:=fun k_=>wq.heap.size≤k_) (Kd.R_reok rfl HO.out (fun k_ hk_=>Kd.R_base HO.out k_ hk_)) (fun k_ hk_ e_=>by have e_:k_=gs:=e_;omega) _) (fun _ _=>trivial)) hle9
  rw[if_neg d7,Option.bind_eq_some_iff] at h;obtain⟨⟨t,b6⟩,ht,h⟩:=h;simp only[Option.some.injEq,Prod.mk.injEq] at h;obtain⟨rfl,rfl,rfl⟩:=h;have HT:=aM ht;have HCV:=aM hcv;clear ht hcv;have b7:(na == nb)=false:=by simpa using b5
  have d8:decide (cv < 0)=false:=decide_eq_false d7;go_enter Tryz.func65,Tryz.ntmps65
  go_wp2_with (first|((with_reducible refine gc 67 rfl ?_);refine gC 67 (some 25) Tryz.func67 #[.slice Ax x.length cx,.slice Ay y.length cy] ?_;(with_reducible refine(Hzj.calls k _ _ x _ _ y cv ce _ ?_ ?_ ?_ ?_ HCV.out).mono ?_);exact HRX.out _ HKK.out;exact HCX.out;exact HRY.out _ HKK.out;exact HCY.out;rintro e d9 ⟨rfl,e6⟩;have hb:=e6.below;clear e6;refine⟨_,rfl,?_⟩;replace HA:=kb HA hb;replace HBb:=kb HBb hb;replace HX:=kb HX hb;replace HY:=kb HY hb;replace HS:=kb HS hb;replace HN:=kb HN hb;replace HKK:=aM (kept_trans HKK.out (show Kept _ d9 (AddS gx gy gs gn) from⟨hb.size,fun i hi _=>hb.block i hi⟩));replace HBB:=aM (HBB.out.trans (hb.mono (Nat.le_trans bs (Nat.le_of_lt ls))));have HLE:=aM hb.size;clear hczX hczY hfzX hfzY hczS hfzS hczN hfzN;obtain⟨hczX,hfzX⟩:=bk1 HX;obtain⟨hczY,hfzY⟩:=bk1 HY;clear hb)|((with_reducible refine gc 68 rfl ?_);refine gC 68 (some 37) Tryz.func68 #[.slice Ax x.length cx,.slice Ay y.length cy] ?_;(with_reducible refine(Ezv.calls k _ _ x _ _ y t b6 _ ?_ ?_ ?_ ?_ HT.out).mono ?_);exact HRX.out _ HKK.out;exact HCX.out;exact HRY.out _ HKK.out;exact HCY.out;rintro e b8 ⟨b9,rfl,d0,hb⟩;refine⟨_,rfl,?_⟩;obtain⟨Ao_,co_,eo_⟩:=Kd.R_slice d0;subst eo_;have HO:=aM d0;have HS1:=kb HS hb;have HN1:=kb HN hb;obtain⟨hczS1,hfzS1⟩:=bk1 HS1;have d6:=aM hb;clear hb d0))
  go_ret
  have hle9:=HLE.out;refine⟨rfl,blk_far (p:=⟨gs,0,none⟩) HN1.out (Ne.symm nsn) _,_,blk_put HS1.out 0 _ rfl,?_,kept_trans HKK.out (kept_far d6.out (Nat.le_refl _) (.inr (.inr (.inl rfl))) _),below_far HBB.out (Nat.le_trans (Nat.le_trans bs (Nat.le_of_lt ls)) hle9) d6.out bs _⟩;exact Kd.R_lower (Kd.R_mono (Kd.R_far (p:=⟨gs,0,none⟩) (ok:=fun k_=>d9.heap.size≤k_) (Kd.R_reok rfl HO.out (fun k_ hk_=>Kd.R_base HO.out k_ hk_)) (fun k_ hk_ e_=>by have e_:k_=gs:=e_;omega) _) (fun _ _=>trivial)) hle9
/-- A variable that holds a row of its own. -/
structure Bx_ (W:World) (N g:Nat) (v:Value) (x:List Int):Prop where
 cell:W.heap[g]?=some (.cells #[v] 24 (0,0))
 row:Kd.R (Kd.int .i64) 3 W N (fun k_=>N≤k_) v x
theorem Bx_.step {W W1:World} {N g g':Nat} {v u:Value} {x:List Int} (h:Bx_ W N g v x) (hb:Below W.heap.size W W1) (hne:g≠g') (hlt:g' < N):Bx_ (W1.setCell ⟨g',0,none⟩ u) N g v x :=
 ⟨blk_far (p:=⟨g',0,none⟩) (blk_below h.cell hb) hne u,Kd.R_far (p:=⟨g',0,none⟩) (Kd.R_below h.row hb) (fun k_ hk_ e_=>by have e_:k_=g':=e_;omega) u⟩
theorem Bx_.new {W W1:World} {N g:Nat} {v o:Value} {x:List Int} (hg:W1.heap[g]?=some (.cells #[o] 24 (0,0))) (h:Kd.R (Kd.int .i64) 3 W1 W.heap.size (fun _=>True) v x) (hN:N≤W.heap.size) (hlt:g < N):Bx_ (W1.setCell ⟨g,0,none⟩ v) N g v x :=
 ⟨blk_put hg 0 v rfl,Kd.R_far (p:=⟨g,0,none⟩) (Kd.R_lower (Kd.R_reok rfl h (fun k_ hk_=>Nat.le_trans hN (Kd.R_base h k_ hk_))) hN) (fun k_ hk_ e_=>by have e_:k_=g:=e_;omega) v⟩
theorem Bx_.kept {W W1:World} {N g:Nat} {v:Value} {x:List Int} {S:Nat→Prop} (h:Bx_ W N g v x) (hk:Kept W W1 S) (hg:¬ S g) (hS:∀ k,N≤k→¬ S k):Bx_ W1 N g v x :=
 ⟨blk_kept h.cell hk hg,Kd.R_mono (Kd.R_keptB h.row hk hS) (fun _ hk_=>hk_.1)⟩
theorem Bx_.reads {W W1:World} {N g n c:Nat} {A:Option Addr} {x:List Int} {S:Nat→Prop} (h:Bx_ W N g (.slice A n c) x) (hk:Kept W W1 S) (hS:∀ k,N≤k→¬ S k):Kd.C (Kd.int .i64) W1 A x.length x:=(Kd.R_reads' (Kd.R_keptB h.row hk hS)).2.2
def Gzq.f (k:Nat) (na nb:Bool) (aP aQ bP bQ:List Int):Option (Int × Bool × List Int × List Int) :=
 (Czf.f k aP bQ).bind fun x=>if x.2=0 then(Czf.f k bP aQ).bind fun y=>if y.2=0 then(Czf.f k aQ bQ).bind fun q=>if q.2=0 then(Gzb.f k na nb x.1 y.1).bind fun t=>some (t.2.2,t.1,t.2.1,q.1) else some (q.2,na,([]:List Int),([]:List Int)) else some (y.2,na,([]:List Int),([]:List Int)) else some (x.2,na,([]:List Int),([]:List Int))
theorem Gzq.mono:∀ a6 a7 a8 b4 b5 b6 k,LeO (Gzq.f k a6 a7 a8 b4 b5 b6) (Gzq.f (k+1) a6 a7 a8 b4 b5 b6):=by
 intro a6 a7 a8 b4 b5 b6 k;unfold Gzq.f;exact LeO.bind (Czf.mono _ _ k) (fun _=>LeO.ite (LeO.bind (Czf.mono _ _ k) (fun _=>LeO.ite (LeO.bind (Czf.mono _ _ k) (fun _=>LeO.ite (LeO.bind (Gzb.mono _ _ _ _ k) (fun _=>LeO.refl _)) (LeO.refl _))) (LeO.refl _))) (LeO.refl _))
def AddS5 (gx gy gq gs gn:Nat):Nat→Prop:=fun k_=>k_=gx∨k_=gy∨k_=gq∨k_=gs∨k_=gn
/-- What the four steps leave. -/
structure Fin4 (B:Nat) (w0 w W:World) (gx gy gq gs gn:Nat) (r:Int) (neg:Bool) (sum q:List Int):Prop where
 kept:Kept w W (AddS5 gx gy gq gs gn)
 below:Below B w0 W
 fin:r=0→∃ vs vq:Value,W.heap[gn]?=some (.cells #[.bool neg] 4 (0,0))∧Bx_ W w.heap.size gs vs sum∧Bx_ W w.heap.size gq vq q
set_option maxHeartbeats 4000000 in
theorem Gzq.calls (k B a6 a7 a8 ga gb gx gy gq gs gn:Nat) (na nb:Bool) (ua1 ua2 ub1 ub2:Value) (AaP:Option Addr) (caP:Nat) (aP:List Int) (AaQ:Option Addr) (caQ:Nat) (aQ:List Int) (AbP:Option Addr) (cbP:Nat) (bP:List Int) (AbQ:Option Addr) (cbQ:Nat) (bQ:List Int) (b4:Int) (b5:Bool) (b6 b7:List Int) (g cg:Nat) (b8 w:World) (hB:Below B b8 w)
  (hg:w.heap[g]?=some (.cells #[.func (.func (thkFn 63 a6).1) #[] (thkFn 63 a6).2,.func (.func (thkFn 63 a7).1) #[] (thkFn 63 a7).2,.func (.func (thkFn 63 a8).1) #[] (thkFn 63 a8).2,.func (.func 65) #[] #[.pointer (some ⟨ga,0,none⟩),.pointer (some ⟨gb,0,none⟩),.pointer (some ⟨gx,0,none⟩),.pointer (some ⟨gy,0,none⟩),.pointer (some ⟨gs,0,none⟩),.pointer (some ⟨gn,0,none⟩)]] 62 (0,0)))
  (b9:Thk w a6 gx AaP aP.length caP AbQ bQ.length cbQ) (d0:Thk w a7 gy AbP bP.length cbP AaQ aQ.length caQ) (d6:Thk w a8 gq AaQ aQ.length caQ AbQ bQ.length cbQ)
  (ha:w.heap[ga]?=some (.cells #[.bool na,ua1,ua2] 26 (0,0))) (hb:w.heap[gb]?=some (.cells #[.bool nb,ub1,ub2] 26 (0,0)))
  (hx:w.heap[gx]?=some (.cells #[.slice none 0 0] 24 (0,0))) (hy:w.heap[gy]?=some (.cells #[.slice none 0 0] 24 (0,0))) (hq:w.heap[gq]?=some (.cells #[.slice none 0 0] 24 (0,0))) (hs:w.heap[gs]?=some (.cells #[.slice none 0 0] 24 (0,0))) (hn:w.heap[gn]?=some (.cells #[.bool na] 4 (0,0)))
  (o1:gx < gy) (o2:gy < gq) (o3:gq < gs) (o4:gs < gn) (o5:gn < a6) (o6:a6+2 < a7) (o7:a7+2 < a8) (hBx:B≤gx)
  (d7:∀ W_,Kept w W_ (AddS5 gx gy gq gs gn)→Kd.C (Kd.int .i64) W_ AaP aP.length aP) (d8:aP.length≤caP) (d9:∀ W_,Kept w W_ (AddS5 gx gy gq gs gn)→Kd.C (Kd.int .i64) W_ AaQ aQ.length aQ) (e6:aQ.length≤caQ)
  (e7:∀ W_,Kept w W_ (AddS5 gx gy gq gs gn)→Kd.C (Kd.int .i64) W_ AbP bP.length bP) (e8:bP.length≤cbP) (e9:∀ W_,Kept w W_ (AddS5 gx gy gq gs gn)→Kd.C (Kd.int .i64) W_ AbQ bQ.length bQ) (f3:bQ.length≤cbQ)
  (h:Gzq.f k na nb aP aQ bP bQ=some (b4,b5,b6,b7)) :
  Calls Tryz.prog 44 #[.slice (some ⟨g,0,none⟩) 4 cg] w fun e w'=>e=.returned (.int .i64 b4)∧Fin4 B b8 w w' gx gy gq gs gn b4 b5 b6 b7:=by
 have hfn:∃ fn,Tryz.prog.funcs[63]?=some fn∧(fn.name == "runtime.NumGoroutine")=false∧fn.body.isSome=true:=⟨_,Tryz.func63,by kernel_rfl,rfl⟩
 have hfn1:∃ fn,Tryz.prog.funcs[65]?=some fn∧(fn.name == "runtime.NumGoroutine")=false∧fn.body.isSome=true:=⟨_,Tryz.func65,by kernel_rfl,rfl⟩
 have lx:=blk_lt hx;have ly:=blk_lt hy;have lq:=blk_lt hq;have ls:=blk_lt hs;have ln:=blk_lt hn;have f4:=blk_ne hg hx (by decide)
 have f6:=blk_ne hg hn (by decide)
 have f9:=blk_ne hg hy (by decide)
 have g4:=blk_ne hg hq (by decide)
 have g5:=blk_ne hg hs (by decide)
 have g6:=blk_ne ha hx (by decide)
 have g7:=blk_ne ha hy (by decide)
 have g8:=blk_ne ha hq (by decide)
 have g9:=blk_ne ha hs (by decide)
 have j3:=blk_ne ha hn (by decide)
 have d1:=blk_ne hb hx (by decide)
 have d2:=blk_ne hb hy (by decide)
 have d3:=blk_ne hb hq (by decide)
 have d4:=blk_ne hb hs (by decide)
 have d5:=blk_ne hb hn (by decide)
 have nS:∀ i,i≠gx→i≠gy→i≠gq→i≠gs→i≠gn→¬ AddS5 gx gy gq gs gn i:=fun i j4 j5 j6 j7 j8 j9=>by
  unfold AddS5 at j9;omega
 have far:∀ (W:World) (i:Nat) (o:Obj),Kept w W (AddS5 gx gy gq gs gn)→i≠gx→i≠gy→i≠gq→i≠gs→i≠gn→w.heap[i]?=some o→W.heap[i]?=some o:=fun W i o hk j4 j5 j6 j7 j8 ho=>blk_kept ho hk (nS i j4 j5 j6 j7 j8)
 have thk:∀ (W:World) (b gp:Nat) (A A':Option Addr) (n c n' c':Nat),Kept w W (AddS5 gx gy gq gs gn)→gn < b→Thk w b gp A n c A' n' c'→Thk W b gp A n c A' n' c':=fun W b gp A A' n c n' c' hk hb hT =>
  ⟨far W b _ hk (by omega) (by omega) (by omega) (by omega) (by omega) hT.tp,far W (b+1) _ hk (by omega) (by omega) (by omega) (by omega) (by omega) hT.fa,far W (b+2) _ hk (by omega) (by omega) (by omega) (by omega) (by omega) hT.fb,hT.lt⟩
 let I:Nat→World→Prop:=fun j W=>Kept w W (AddS5 gx gy gq gs gn)∧Below B b8 W∧match j with
  | 0=>W=w
  | 1=>∃ (v:Value) (x:List Int),Czf.f k aP bQ=some (x,0)∧Bx_ W w.heap.size gx v x∧Kept w W (fun k_=>k_=gx)
  | 2=>∃ (v l5:Value) (x y:List Int),Czf.f k aP bQ=some (x,0)∧Czf.f k bP aQ=some (y,0)∧Bx_ W w.heap.size gx v x∧Bx_ W w.heap.size gy l5 y∧Kept w W (fun k_=>k_=gx∨k_=gy)
  | 3=>∃ (v l5 l6:Value) (x y q:List Int),Czf.f k aP bQ=some (x,0)∧Czf.f k bP aQ=some (y,0)∧Czf.f k aQ bQ=some (q,0)∧Bx_ W w.heap.size gx v x∧Bx_ W w.heap.size gy l5 y∧Bx_ W w.heap.size gq l6 q∧Kept w W (fun k_=>k_=gx∨k_=gy∨k_=gq)
  | _=>Fin4 B b8 w W gx gy gq gs gn 0 b5 b6 b7∧b4=0
 let Qr:Int→World→Prop:=fun r W=>Fin4 B b8 w W gx gy gq gs gn r b5 b6 b7∧r=b4
 unfold Gzq.f at h;rw[Option.bind_eq_some_iff] at h;obtain⟨⟨x,l7⟩,l8,h⟩:=h;have hS:Steps_ [thkFn 63 a6,thkFn 63 a7,thkFn 63 a8,(65,#[.pointer (some ⟨ga,0,none⟩),.pointer (some ⟨gb,0,none⟩),.pointer (some ⟨gx,0,none⟩),.pointer (some ⟨gy,0,none⟩),.pointer (some ⟨gs,0,none⟩),.pointer (some ⟨gn,0,none⟩)])] ⟨g,0,none⟩ I Qr:=by
  refine⟨fun j W hI i x hx=>?_,fun j W z hI hz=>?_,fun W hI=>⟨hI.2.2.1,hI.2.2.2.symm⟩⟩
  ·rw[add_plain];have j4:=far W g _ hI.1 f4 f9 g4 g5 f6 hg;rw[blk_cell j4 i];match i,hx with
   | 0,hx=>cases hx;rfl
   | 1,hx=>cases hx;rfl
   | 2,hx=>cases hx;rfl
   | 3,hx=>cases hx;rfl
   | i+4,hx=>simp at hx
  ·match j,hz,hI with
   | 0,hz,hI =>
    cases hz
    obtain⟨hk,hbl,hw⟩:=hI;cases hw
    refine⟨hfn,?_⟩;refine(Gzm.calls k a6 gx AaP caP aP AbQ cbQ bQ _ x l7 w b9 hx (d7 w hk) d8 (e9 w hk) f3 l8).mono ?_;rintro e W' ⟨W1,v,rfl,rfl,hR,l9⟩;have hkx:Kept w (W1.setCell ⟨gx,0,none⟩ v) (fun k_=>k_=gx):=kept_far (S:=fun k_=>k_=gx) l9 (Nat.le_refl _) rfl v
    have hk5:Kept w (W1.setCell ⟨gx,0,none⟩ v) (AddS5 gx gy gq gs gn):=kept_far l9 (Nat.le_refl _) (.inl rfl) v;have hbl1:=below_far hbl (Nat.le_trans hBx (Nat.le_of_lt lx)) l9 hBx v;refine⟨l7,rfl,fun m0=>?_,fun m0=>?_⟩
    ·subst m0;exact⟨hk5,hbl1,v,x,l8,Bx_.new (blk_below hx l9) hR (Nat.le_refl _) lx,hkx⟩
    ·simp only[if_neg m0,Option.some.injEq,Prod.mk.injEq] at h;obtain⟨rfl,rfl,rfl,rfl⟩:=h;exact⟨⟨hk5,hbl1,fun m3=>absurd m3 m0⟩,rfl⟩
   | 1,hz,hI =>
    cases hz
    obtain⟨hk,hbl,v,x',m4,hbx,hkx⟩:=hI;rw[l8] at m4;cases m4
    simp only[if_true] at h;rw[Option.bind_eq_some_iff] at h;obtain⟨⟨y,m5⟩,m6,h⟩:=h;have hyW:=blk_kept hy hkx (by omega)
    refine⟨hfn,?_⟩;refine(Gzm.calls k a7 gy AbP cbP bP AaQ caQ aQ _ y m5 W (thk W _ _ _ _ _ _ _ _ hk (by omega) d0) hyW (e7 W hk) e8 (d9 W hk) e6 m6).mono ?_
    rintro e W' ⟨W1,l5,rfl,rfl,hR,l9⟩;have hkx2:Kept w (W1.setCell ⟨gy,0,none⟩ l5) (fun k_=>k_=gx∨k_=gy):=kept_trans ⟨hkx.1,fun i hi hn=>hkx.2 i hi (fun e_=>hn (.inl e_))⟩ (kept_far l9 (Nat.le_refl _) (.inr rfl) l5)
    have hk5:Kept w (W1.setCell ⟨gy,0,none⟩ l5) (AddS5 gx gy gq gs gn):=kept_trans hk (kept_far l9 (Nat.le_refl _) (.inr (.inl rfl)) l5);have hbl1:=below_far hbl (Nat.le_trans (Nat.le_trans hBx (Nat.le_of_lt lx)) hk.1) l9 (show B≤gy by omega) l5
    refine⟨m5,rfl,fun m0=>?_,fun m0=>?_⟩
    ·subst m0;exact⟨hk5,hbl1,v,l5,x,y,l8,m6,hbx.step l9 (by omega) ly,Bx_.new (blk_below hyW l9) hR hk.1 ly,hkx2⟩
    ·simp only[if_neg m0,Option.some.injEq,Prod.mk.injEq] at h;obtain⟨rfl,rfl,rfl,rfl⟩:=h;exact⟨⟨hk5,hbl1,fun m3=>absurd m3 m0⟩,rfl⟩
   | 2,hz,hI =>
    cases hz
    obtain⟨hk,hbl,v,l5,x',y,m4,m6,hbx,hby,hkx⟩:=hI;rw[l8] at m4;cases m4
    simp only[if_true,m6,Option.bind_some] at h;rw[Option.bind_eq_some_iff] at h;obtain⟨⟨q,m7⟩,m8,h⟩:=h;have hqW:=blk_kept hq hkx (by omega)
    refine⟨hfn,?_⟩;refine(Gzm.calls k a8 gq AaQ caQ aQ AbQ cbQ bQ _ q m7 W (thk W _ _ _ _ _ _ _ _ hk (by omega) d6) hqW (d9 W hk) e6 (e9 W hk) f3 m8).mono ?_
    rintro e W' ⟨W1,l6,rfl,rfl,hR,l9⟩;have hkx2:Kept w (W1.setCell ⟨gq,0,none⟩ l6) (fun k_=>k_=gx∨k_=gy∨k_=gq):=kept_trans ⟨hkx.1,fun i hi hn=>hkx.2 i hi (fun e_=>hn (by omega))⟩ (kept_far l9 (Nat.le_refl _) (.inr (.inr rfl)) l6)
    have hk5:Kept w (W1.setCell ⟨gq,0,none⟩ l6) (AddS5 gx gy gq gs gn):=kept_trans hk (kept_far l9 (Nat.le_refl _) (.inr (.inr (.inl rfl))) l6);have hbl1:=below_far hbl (Nat.le_trans (Nat.le_trans hBx (Nat.le_of_lt lx)) hk.1) l9 (show B≤gq by omega) l6
    refine⟨m7,rfl,fun m0=>?_,fun m0=>?_⟩
    ·subst m0;exact⟨hk5,hbl1,v,l5,l6,x,y,q,l8,m6,m8,hbx.step l9 (by omega) lq,hby.step l9 (by omega) lq,Bx_.new (blk_below hqW l9) hR hk.1 lq,hkx2⟩
    ·simp only[if_neg m0,Option.some.injEq,Prod.mk.injEq] at h;obtain⟨rfl,rfl,rfl,rfl⟩:=h;exact⟨⟨hk5,hbl1,fun m3=>absurd m3 m0⟩,rfl⟩
   | 3,hz,hI =>
    cases hz
    obtain⟨hk,hbl,v,l5,l6,x',y,q,m4,m6,m8,hbx,hby,hbq,hkx⟩:=hI;rw[l8] at m4;cases m4
    simp only[if_true,m6,m8,Option.bind_some] at h;rw[Option.bind_eq_some_iff] at h;obtain⟨⟨m9,n0,n6⟩,n7,h⟩:=h;simp only[Option.some.injEq,Prod.mk.injEq] at h;obtain⟨rfl,rfl,rfl,rfl⟩:=h;have hsW:=blk_kept hs hkx (by omega)
    have hnW:=blk_kept hn hkx (by omega)
    have haW:=far W ga _ hk g6 g7 g8 g9 j3 ha;have hbW:=far W gb _ hk d1 d2 d3 d4 d5 hb;obtain⟨Ax,cx,ex⟩:=Kd.R_slice hbx.row;subst ex;obtain⟨Ay,cy,ey⟩:=Kd.R_slice hby.row;subst ey;have hS4:∀ k_,w.heap.size≤k_→¬ AddS gx gy gs gn k_:=fun k_ j4 j5=>by unfold AddS at j5;omega
    refine⟨hfn1,?_⟩;refine(Gzb.calls k B ga gb gx gy gs gn na nb ua1 ua2 ub1 ub2 Ax cx x Ay cy y _ m9 n0 n6 b8 W hbl haW hbW hbx.cell hby.cell hsW hnW (by omega) (by omega) (by omega) hBx (by omega) (by omega) (by omega) (fun W_ hk_=>hbx.reads hk_ hS4) (Kd.R_reads' hbx.row).2.1 (fun W_ hk_=>hby.reads hk_ hS4) (Kd.R_reads' hby.row).2.1 n7).mono ?_
    rintro e W' ⟨vs,rfl,hn',hs',hR',hk',hb'⟩;have hk5:Kept w W' (AddS5 gx gy gq gs gn):=kept_trans hk ⟨hk'.1,fun i hi hn=>hk'.2 i hi (fun e_=>hn (by unfold AddS at e_;unfold AddS5;omega))⟩
    have hfin:Fin4 B b8 w W' gx gy gq gs gn n6 m9 n0 q:=⟨hk5,hb',fun _=>⟨vs,l6,hn',⟨hs',Kd.R_lower (Kd.R_reok rfl hR' (fun k_ hk_=>Nat.le_trans hk.1 (Kd.R_base hR' k_ hk_))) hk.1⟩,hbq.kept hk' (fun e_=>by unfold AddS at e_;omega) hS4⟩⟩
    refine⟨n6,rfl,fun m0=>?_,fun m0=>⟨hfin,rfl⟩⟩
    subst m0;exact⟨hk5,hb',hfin,rfl⟩
   | j+4,hz,hI=>simp at hz
 have hI0:I 0 w:=⟨⟨Nat.le_refl _,fun _ _ _=>rfl⟩,hB,rfl⟩
 refine(Hzp.calls _ ⟨g,0,none⟩ cg w I Qr hS hI0 (by simp)).mono ?_
 rintro e w' ⟨r,rfl,hF,rfl⟩;exact⟨rfl,hF⟩
theorem rat_pair_C {W:World} {g:Nat} {T:TypeId} {n m:Bool} {A B A' B':Option Addr} {p q p' q':List Int} {c d c' d':Nat} (hb:W.heap[g]?=some (.cells #[.bool n,.slice A p.length c,.slice B q.length d,.bool m,.slice A' p'.length c',.slice B' q'.length d'] T (0,0)))
  (a6:Kd.C (Kd.int .i64) W A p.length p) (l1:p.length≤c) (a7:Kd.C (Kd.int .i64) W B q.length q) (l2:q.length≤d) (a8:Kd.C (Kd.int .i64) W A' p'.length p') (b4:p'.length≤c') (b5:Kd.C (Kd.int .i64) W B' q'.length q') (b6:q'.length≤d') :
  Kd.C k26 W (some ⟨g,0,none⟩) 2 [(⟨n,p,q⟩:S26),(⟨m,p',q'⟩:S26)]:=by
 refine⟨rfl,by simp,fun _=>⟨_,rfl,fun j x hj=>?_⟩⟩
 match j,hj with
 | 0,hj =>
  cases hj
  refine⟨_,rfl,k26_mk W ⟨n,p,q⟩ l1 a6 l2 a7,fun i u hu=>?_⟩
  rw[add_plain];refine(blk_cell hb _).trans ?_;match i,hu with
  | 0,hu=>exact hu
  | 1,hu=>exact hu
  | 2,hu=>exact hu
  | i+3,hu=>simp at hu
 | 1,hj =>
  cases hj
  refine⟨_,rfl,k26_mk W ⟨m,p',q'⟩ b4 a8 b6 b5,fun i u hu=>?_⟩
  rw[add_plain];refine(blk_cell hb _).trans ?_;match i,hu with
  | 0,hu=>exact hu
  | 1,hu=>exact hu
  | 2,hu=>exact hu
  | i+3,hu=>simp at hu
 | j+2,hj=>simp at hj
theorem C_blocks {w W:World} {A:Option Addr} {n:Nat} {xs:List Int} (h:Kd.C (Kd.int .i64) w A n xs) (hb:∀ i,i < w.heap.size→W.heap[i]?=w.heap[i]?):Kd.C (Kd.int .i64) W A n xs:=by
 refine⟨h.1,h.2.1,fun hp=>?_⟩
 obtain⟨ad,a6,a7⟩:=h.2.2 hp;refine⟨ad,a6,fun j q hj=>?_⟩
 obtain⟨cs,a8,b4,b5⟩:=a7 j q hj;refine⟨cs,a8,b4,fun i u hu=>?_⟩
 have b6:=b5 i u hu;rw[← b6];exact World.cell?_of_block (w:=w) (hb _ (World.block_lt_of_cell? w _ b6))
def Gzk.f (k:Nat) (a0_0:Bool) (l0_1:List Int) (l0_2:List Int) (a1_0:Bool) (l1_1:List Int) (l1_2:List Int):Option (Bool × List Int × List Int × Int) :=
 (Dzj.f k [(⟨a0_0,l0_1,l0_2⟩:S26),(⟨a1_0,l1_1,l1_2⟩:S26)]).bind fun t=>if t=true then((Gzq.f k a0_0 a1_0 l0_1 l0_2 l1_1 l1_2).bind fun b=>if b.1=0 then(Fzw.f k b.2.1 b.2.2.1 b.2.2.2).bind (fun c=>some (c.1,c.2.1,c.2.2.1,c.2.2.2)) else some (false,([]:List Int),([]:List Int),b.1)) else some (false,([]:List Int),([]:List Int),3)
theorem Gzk.mono:∀ a6 a7 a8 b4 b5 b6 k,LeO (Gzk.f k a6 a7 a8 b4 b5 b6) (Gzk.f (k+1) a6 a7 a8 b4 b5 b6):=by
 intro a6 a7 a8 b4 b5 b6 k;unfold Gzk.f;exact LeO.bind (Dzj.mono _ k) (fun _=>LeO.ite (LeO.bind (Gzq.mono _ _ _ _ _ _ k) (fun _=>LeO.ite (LeO.bind (Fzw.mono _ _ _ k) (fun _=>LeO.refl _)) (LeO.refl _))) (LeO.refl _))
theorem Gzk.calls (k:Nat) (a6:Bool) (a7:Option Addr) (a8:Nat) (b4:List Int) (b5:Option Addr) (b6:Nat) (b7:List Int) (b8:Bool) (b9:Option Addr) (d0:Nat) (d6:List Int) (d7:Option Addr) (d8:Nat) (d9:List Int) (e6:Bool) (e7:List Int) (e8:List Int) (e9:Int) (w:World) (f3:Kd.C (Kd.int .i64) w a7 b4.length b4) (f4:b4.length≤a8) (f6:Kd.C (Kd.int .i64) w b5 b7.length b7) (f9:b7.length≤b6) (g4:Kd.C (Kd.int .i64) w b9 d6.length d6) (g5:d6.length≤d0) (g6:Kd.C (Kd.int .i64) w d7 d9.length d9) (g7:d9.length≤d8) (h:Gzk.f k a6 b4 b7 b8 d6 d9=some (e6,e7,e8,e9)) :
  Calls Tryz.prog 47 #[.agg #[.bool a6,.slice a7 b4.length a8,.slice b5 b7.length b6],.agg #[.bool b8,.slice b9 d6.length d0,.slice d7 d9.length d8]] w fun e w'=>∃ v1_ v2_:Value,e=.returned (.tuple #[.agg #[.bool e6,v1_,v2_],.int .i64 e9])∧Kd.R (Kd.int .i64) 3 w' w.heap.size (fun k_=>some k_≠(v2_:Value).ownBlock) v1_ e7∧Kd.R (Kd.int .i64) 3 w' w.heap.size (fun k_=>some k_≠(v1_:Value).ownBlock) v2_ e8∧Below w.heap.size w w':=by
 have hmf_:∀ (fn:Fn) (first cap:Array Value) (w:World),(Instr.makeFunc fn first cap).run Tryz.prog w=.ok (.func fn first cap) w:=fun _ _ _ _=>rfl
 have H1:=aM f3;have H2:=aM f6;have H3:=aM g4;have H4:=aM g6;have L1:=aM f4;have L2:=aM f9;have L3:=aM g5;have L4:=aM g7;clear f3 f6 g4 g6 f4 f9 g5 g7;unfold Gzk.f at h;rw[Option.bind_eq_some_iff] at h;obtain⟨tv,hv,h⟩:=h;have HV:=aM hv;clear hv;have cV:∀ W,W=(((w.alloc (.cells #[.bool a6,.slice a7 b4.length a8,.slice b5 b7.length b6] 26)).alloc (.cells #[.bool b8,.slice b9 d6.length d0,.slice d7 d9.length d8] 26)).alloc (.cells #[.bool false,.slice none 0 0,.slice none 0 0] 26)).alloc (.cells #[.bool a6,.slice a7 b4.length a8,.slice b5 b7.length b6,.bool b8,.slice b9 d6.length d0,.slice d7 d9.length d8] 26)→Calls Tryz.prog 43 #[.slice (some ⟨w.heap.size+1+1+1,0,none⟩) 2 2] W fun e w'=>e=.returned (.bool tv)∧w'.heap[w.heap.size]?=some (.cells #[.bool a6,.slice a7 b4.length a8,.slice b5 b7.length b6] 26 (0,0))∧w'.heap[w.heap.size+1]?=some (.cells #[.bool b8,.slice b9 d6.length d0,.slice d7 d9.length d8] 26 (0,0))∧w'.heap[w.heap.size+1+1]?=some (.cells #[.bool false,.slice none 0 0,.slice none 0 0] 26 (0,0))∧Below w.heap.size w w':=by
  intro W hW;have ha:W.heap[w.heap.size]?=some (.cells #[.bool a6,.slice a7 b4.length a8,.slice b5 b7.length b6] 26 (0,0)):=by subst hW;exact blk_alloc (blk_alloc (blk_alloc (blk_new w _) _) _) _
  have hb:W.heap[w.heap.size+1]?=some (.cells #[.bool b8,.slice b9 d6.length d0,.slice d7 d9.length d8] 26 (0,0)):=by subst hW;simpa using blk_alloc (blk_alloc (blk_new (w.alloc (.cells #[.bool a6,.slice a7 b4.length a8,.slice b5 b7.length b6] 26)) (.cells #[.bool b8,.slice b9 d6.length d0,.slice d7 d9.length d8] 26)) _) _
  have hc:W.heap[w.heap.size+1+1]?=some (.cells #[.bool false,.slice none 0 0,.slice none 0 0] 26 (0,0)):=by subst hW;simpa using blk_alloc (blk_new ((w.alloc (.cells #[.bool a6,.slice a7 b4.length a8,.slice b5 b7.length b6] 26)).alloc (.cells #[.bool b8,.slice b9 d6.length d0,.slice d7 d9.length d8] 26)) (.cells #[.bool false,.slice none 0 0,.slice none 0 0] 26)) _
  have hd:W.heap[w.heap.size+1+1+1]?=some (.cells #[.bool a6,.slice a7 b4.length a8,.slice b5 b7.length b6,.bool b8,.slice b9 d6.length d0,.slice d7 d9.length d8] 26 (0,0)):=by subst hW;simpa using blk_new (((w.alloc (.cells #[.bool a6,.slice a7 b4.length a8,.slice b5 b7.length b6] 26)).alloc (.cells #[.bool b8,.slice b9 d6.length d0,.slice d7 d9.length d8] 26)).alloc (.cells #[.bool false,.slice none 0 0,.slice none 0 0] 26)) (.cells #[.bool a6,.slice a7 b4.length a8,.slice b5 b7.length b6,.bool b8,.slice b9 d6.length d0,.slice d7 d9.length d8] 26)
  have hw:Below w.heap.size w W:=by subst hW;exact((((Below.refl _ w).alloc (Nat.le_refl _) _).alloc (by simp) _).alloc (by simp;omega) _).alloc (by simp;omega) _
  refine(Dzj.calls k (some ⟨w.heap.size+1+1+1,0,none⟩) 2 [(⟨a6,b4,b7⟩:S26),(⟨b8,d6,d9⟩:S26)] tv W (rat_pair_C hd (Kd.C_below H1.out hw) L1.out (Kd.C_below H2.out hw) L2.out (Kd.C_below H3.out hw) L3.out (Kd.C_below H4.out hw) L4.out) (Nat.le_refl _) HV.out).mono ?_;rintro e w' ⟨rfl,g8⟩;exact⟨rfl,blk_below ha g8,blk_below hb g8,blk_below hc g8,hw.trans (g8.mono hw.size)⟩
 have CV:=aM cV;clear cV HV;cases tv with
 | false =>
  simp only[Bool.false_eq_true,if_false,Option.some.injEq,Prod.mk.injEq] at h;obtain⟨rfl,rfl,rfl,rfl⟩:=h;go_enter Tryz.func47,Tryz.ntmps47
  go_wp2_with (first|((with_reducible refine gate_callee (f:=43) rfl ?_);refine goesL_ (some 15) rfl rfl Tryz.func43 (by kernel_rfl) rfl #[.slice (some ⟨w.heap.size+1+1+1,0,none⟩) 2 2] rfl (by first|exact mA|(simp [Act.eval];done)) ?_;refine(CV.out _ rfl).mono ?_;rintro e g9 ⟨rfl,ha,hb,hc,hw⟩;refine⟨_,rfl,?_⟩;have HR:=aM hc;have HW:=aM hw;obtain⟨hczR_0,hczR_1,hczR_2,hfzR_0,hfzR_1,hfzR_2⟩:=bk3 HR;clear ha hb hc hw))
  refine bodyPost_ret (results_ct rfl _ _ (w.heap.size+1+1) 26 #[.bool false,.slice none 0 0,.slice none 0 0] (0,0) _ rfl (by refine blk_put (cs:=#[.bool false,.slice none 0 0,.slice none 0 0]) ?_ 2 _ rfl;refine blk_put (cs:=#[.bool false,.slice none 0 0,.slice none 0 0]) ?_ 1 _ rfl;refine blk_put (cs:=#[.bool false,.slice none 0 0,.slice none 0 0]) ?_ 0 _ rfl;exact HR.out) Tryz.underlying26 rfl (by kernel_rfl)) rfl ?_
  exact⟨_,_,rfl,Kd.R_nil _ _ _ _ _,Kd.R_nil _ _ _ _ _,((HW.out.setCell (p:=⟨w.heap.size+1+1,0,none⟩) (by show _≤w.heap.size+1+1;omega) _).setCell (p:=⟨w.heap.size+1+1,1,none⟩) (by show _≤w.heap.size+1+1;omega) _).setCell (p:=⟨w.heap.size+1+1,2,none⟩) (by show _≤w.heap.size+1+1;omega) _⟩
 | true =>
  simp only[if_true] at h;rw[Option.bind_eq_some_iff] at h;obtain⟨⟨j3,ng,sm,q⟩,hp,h⟩:=h;have HP:=aM hp;clear hp;go_enter Tryz.func47,Tryz.ntmps47
  go_wp2_with (first|((with_reducible refine gate_callee (f:=43) rfl ?_);refine goesL_ (some 15) rfl rfl Tryz.func43 (by kernel_rfl) rfl #[.slice (some ⟨w.heap.size+1+1+1,0,none⟩) 2 2] rfl (by first|exact mA|(simp [Act.eval];done)) ?_;refine(CV.out _ rfl).mono ?_;rintro e g9 ⟨rfl,ha,hb,hc,hw⟩;refine⟨_,rfl,?_⟩;have HA:=aM ha;have HBb:=aM hb;have HR:=aM hc;have HW:=aM hw;obtain⟨hczA_0,hczA_1,hczA_2,hfzA_0,hfzA_1,hfzA_2⟩:=bk3 HA;have j4:∀ o1 o2 o3 o4,((((g9.alloc o1).alloc o2).alloc o3).alloc o4).cell? ⟨w.heap.size,0,none⟩=some (.bool a6):=fun o1 o2 o3 o4=>(blk_cell (blk_alloc (blk_alloc (blk_alloc (blk_alloc HA.out o1) o2) o3) o4) 0).trans rfl;clear ha hb hc hw))
  clear j4 hczA_0 hczA_1 hczA_2 hfzA_0 hfzA_1 hfzA_2 CV;have j5:Below g9.heap.size g9 (((((g9.alloc (.cells #[.slice none 0 0] 24)).alloc (.cells #[.slice none 0 0] 24)).alloc (.cells #[.slice none 0 0] 24)).alloc (.cells #[.slice none 0 0] 24)).alloc (.cells #[.bool a6] 4)):=(((((Below.refl _ g9).alloc (Nat.le_refl _) _).alloc (by simp) _).alloc (by simp;omega) _).alloc (by simp;omega) _).alloc (by simp;omega) _
  have gx5:(((((g9.alloc (.cells #[.slice none 0 0] 24)).alloc (.cells #[.slice none 0 0] 24)).alloc (.cells #[.slice none 0 0] 24)).alloc (.cells #[.slice none 0 0] 24)).alloc (.cells #[.bool a6] 4)).heap[g9.heap.size]?=some (.cells #[.slice none 0 0] 24 (0,0)):=blk_alloc (blk_alloc (blk_alloc (blk_alloc (blk_new g9 _) _) _) _) _;have gy5:(((((g9.alloc (.cells #[.slice none 0 0] 24)).alloc (.cells #[.slice none 0 0] 24)).alloc (.cells #[.slice none 0 0] 24)).alloc (.cells #[.slice none 0 0] 24)).alloc (.cells #[.bool a6] 4)).heap[g9.heap.size+1]?=some (.cells #[.slice none 0 0] 24 (0,0)):=by simpa using blk_alloc (blk_alloc (blk_alloc (blk_new (g9.alloc (.cells #[.slice none 0 0] 24)) (.cells #[.slice none 0 0] 24)) (.cells #[.slice none 0 0] 24)) (.cells #[.slice none 0 0] 24)) (.cells #[.bool a6] 4)
  have gq5:(((((g9.alloc (.cells #[.slice none 0 0] 24)).alloc (.cells #[.slice none 0 0] 24)).alloc (.cells #[.slice none 0 0] 24)).alloc (.cells #[.slice none 0 0] 24)).alloc (.cells #[.bool a6] 4)).heap[g9.heap.size+1+1]?=some (.cells #[.slice none 0 0] 24 (0,0)):=by simpa using blk_alloc (blk_alloc (blk_new ((g9.alloc (.cells #[.slice none 0 0] 24)).alloc (.cells #[.slice none 0 0] 24)) (.cells #[.slice none 0 0] 24)) (.cells #[.slice none 0 0] 24)) (.cells #[.bool a6] 4)
  have gs5:(((((g9.alloc (.cells #[.slice none 0 0] 24)).alloc (.cells #[.slice none 0 0] 24)).alloc (.cells #[.slice none 0 0] 24)).alloc (.cells #[.slice none 0 0] 24)).alloc (.cells #[.bool a6] 4)).heap[g9.heap.size+1+1+1]?=some (.cells #[.slice none 0 0] 24 (0,0)):=by simpa using blk_alloc (blk_new (((g9.alloc (.cells #[.slice none 0 0] 24)).alloc (.cells #[.slice none 0 0] 24)).alloc (.cells #[.slice none 0 0] 24)) (.cells #[.slice none 0 0] 24)) (.cells #[.bool a6] 4)
  have gn5:(((((g9.alloc (.cells #[.slice none 0 0] 24)).alloc (.cells #[.slice none 0 0] 24)).alloc (.cells #[.slice none 0 0] 24)).alloc (.cells #[.slice none 0 0] 24)).alloc (.cells #[.bool a6] 4)).heap[g9.heap.size+1+1+1+1]?=some (.cells #[.bool a6] 4 (0,0)):=by simpa using blk_new ((((g9.alloc (.cells #[.slice none 0 0] 24)).alloc (.cells #[.slice none 0 0] 24)).alloc (.cells #[.slice none 0 0] 24)).alloc (.cells #[.slice none 0 0] 24)) (.cells #[.bool a6] 4)
  have j6:=blk_below HA.out j5;have j7:=blk_below HBb.out j5;have j8:=blk_below HR.out j5;have hwb:=HW.out.trans (j5.mono HW.out.size);clear j5 HA HBb HR;have hsz:=HW.out.size;clear HW;generalize (((((g9.alloc (.cells #[.slice none 0 0] 24)).alloc (.cells #[.slice none 0 0] 24)).alloc (.cells #[.slice none 0 0] 24)).alloc (.cells #[.slice none 0 0] 24)).alloc (.cells #[.bool a6] 4))=wA at *;obtain⟨gn,hgn⟩:∃ g,g=g9.heap.size+1+1+1+1:=⟨_,rfl⟩;obtain⟨gs,hgs⟩:∃ g,g=g9.heap.size+1+1+1:=⟨_,rfl⟩;obtain⟨gq,hgq⟩:∃ g,g=g9.heap.size+1+1:=⟨_,rfl⟩;obtain⟨gy,hgy⟩:∃ g,g=g9.heap.size+1:=⟨_,rfl⟩;obtain⟨gx,hgx⟩:∃ g,g=g9.heap.size:=⟨_,rfl⟩;obtain⟨gr,hgr⟩:∃ g,g=w.heap.size+1+1:=⟨_,rfl⟩;obtain⟨gb,hgb⟩:∃ g,g=w.heap.size+1:=⟨_,rfl⟩;obtain⟨ga,hga⟩:∃ g,g=w.heap.size:=⟨_,rfl⟩;have hlr:=blk_lt j8;rw[← hgn] at gn5;rw[← hgs] at gs5;rw[← hgq] at gq5;rw[← hgy] at gy5;rw[← hgx] at gx5;rw[← hgr] at j8 hlr;rw[← hgb] at j7;rw[← hga] at j6;rw[← hgn,← hgs,← hgq,← hgy,← hgx,← hgr,← hgb];have OR:=aM (show gx < gy∧gy < gq∧gq < gs∧gs < gn∧w.heap.size≤gr∧w.heap.size≤gx∧gr≠gx∧gr≠gy∧gr≠gq∧gr≠gs∧gr≠gn∧gn < wA.heap.size from by have:=blk_lt gn5;refine⟨by omega,by omega,by omega,by omega,by omega,by omega,?_,?_,?_,?_,?_,this⟩ <;> first|exact blk_ne j8 gx5 (by decide)|exact blk_ne j8 gy5 (by decide)|exact blk_ne j8 gq5 (by decide)|exact blk_ne j8 gs5 (by decide)|exact blk_ne j8 gn5 (by decide))
  clear hgn hgs hgq hgy hgx hgr hgb hsz hlr;have BX:=aM (blk_drew gx5);have BY:=aM (blk_drew gy5);have BQ:=aM (blk_drew gq5);have BS:=aM (blk_drew gs5);have BN:=aM (blk_drew gn5);have BA:=aM (blk_drew j6);have BB:=aM (blk_drew j7);have BR:=aM (blk_drew j8);have HW:=aM hwb.drew;have LN:=aM (show gn < wA.drew.heap.size from OR.out.2.2.2.2.2.2.2.2.2.2.2)
  clear gx5 gy5 gq5 gs5 gn5 j6 j7 j8 hwb;rw[← hga];have HGA:=aM hga;clear hga;refine start_ (n:=19) (S:=fun W=>W.cell? ⟨ga,1,none⟩=some (.slice a7 b4.length a8)∧W.cell? ⟨ga,2,none⟩=some (.slice b5 b7.length b6)∧W.cell? ⟨gb,1,none⟩=some (.slice b9 d6.length d0)∧W.cell? ⟨gb,2,none⟩=some (.slice d7 d9.length d8)) (ds:=[]) (bA 19 0) (by kernel_rfl) rfl rfl ⟨(blk_cell BA.out 1).trans rfl,(blk_cell BA.out 2).trans rfl,(blk_cell BB.out 1).trans rfl,(blk_cell BB.out 2).trans rfl⟩ (fun hHeld=>?_)
  generalize wA.drew=wd at BX BY BQ BS BN BA BB BR HW LN hHeld ⊢;refine pure_ (i:=0) (N:=some 20) (v:=?_) (a':=?_) (bA 19 1) rfl rfl (by kernel_rfl) (fun _ _ _ h=>h) (Or.inl ⟨by rfl,?_⟩) ?_ ?_
  rotate_left
  ·intro w';go_simp
   with_reducible rfl
  rotate_left
  ·simp only[Act.put,sA,sZ,sC,i64_w,i32_w];rfl
  refine take_ (i:=1) (N:=some 21) (v:=?_) (a':=?_) (bA 19 3) rfl rfl (by kernel_rfl) (fun _ _ _ h=>h) (Or.inl ⟨by rfl,?_⟩) hHeld ?_ ?_
  rotate_left
  ·intro w' j9;obtain⟨l5,l6,l7,l8⟩:=j9;go_simp
   with_reducible rfl
  rotate_left
  ·simp only[Act.put,sA,sZ,sC,i64_w,i32_w];rfl
  refine pure_ (i:=2) (N:=some 22) (v:=?_) (a':=?_) (bA 19 7) rfl rfl (by kernel_rfl) (fun _ _ _ h=>h) (Or.inl ⟨by rfl,?_⟩) ?_ ?_
  rotate_left
  ·intro w';go_simp
   with_reducible rfl
  rotate_left
  ·simp only[Act.put,sA,sZ,sC,i64_w,i32_w];rfl
  refine take_ (i:=3) (N:=some 23) (v:=?_) (a':=?_) (bA 19 15) rfl rfl (by kernel_rfl) (fun _ _ _ h=>h) (Or.inl ⟨by rfl,?_⟩) hHeld ?_ ?_
  rotate_left
  ·intro w' j9;obtain⟨l5,l6,l7,l8⟩:=j9;go_simp
   with_reducible rfl
  rotate_left
  ·simp only[Act.put,sA,sZ,sC,i64_w,i32_w];rfl
  refine pure_ (i:=5) (N:=some 25) (v:=?_) (a':=?_) (bA 19 47) rfl rfl (by kernel_rfl) (fun _ _ _ h=>h) (Or.inl ⟨by rfl,?_⟩) ?_ ?_
  rotate_left
  ·intro w';go_simp
   with_reducible rfl
  rotate_left
  ·simp only[Act.put,sA,sZ,sC,i64_w,i32_w];rfl
  refine take_ (i:=6) (N:=some 26) (v:=?_) (a':=?_) (bA 19 111) rfl rfl (by kernel_rfl) (fun _ _ _ h=>h) (Or.inl ⟨by rfl,?_⟩) hHeld ?_ ?_
  rotate_left
  ·intro w' j9;obtain⟨l5,l6,l7,l8⟩:=j9;go_simp
   with_reducible rfl
  rotate_left
  ·simp only[Act.put,sA,sZ,sC,i64_w,i32_w];rfl
  refine pure_ (i:=7) (N:=some 27) (v:=?_) (a':=?_) (bA 19 239) rfl rfl (by kernel_rfl) (fun _ _ _ h=>h) (Or.inl ⟨by rfl,?_⟩) ?_ ?_
  rotate_left
  ·intro w';go_simp
   with_reducible rfl
  rotate_left
  ·simp only[Act.put,sA,sZ,sC,i64_w,i32_w];rfl
  refine take_ (i:=8) (N:=some 28) (v:=?_) (a':=?_) (bA 19 495) rfl rfl (by kernel_rfl) (fun _ _ _ h=>h) (Or.inl ⟨by rfl,?_⟩) hHeld ?_ ?_
  rotate_left
  ·intro w' j9;obtain⟨l5,l6,l7,l8⟩:=j9;go_simp
   with_reducible rfl
  rotate_left
  ·simp only[Act.put,sA,sZ,sC,i64_w,i32_w];rfl
  refine pure_ (i:=10) (N:=some 30) (v:=?_) (a':=?_) (bA 19 1519) rfl rfl (by kernel_rfl) (fun _ _ _ h=>h) (Or.inl ⟨by rfl,?_⟩) ?_ ?_
  rotate_left
  ·intro w';go_simp
   with_reducible rfl
  rotate_left
  ·simp only[Act.put,sA,sZ,sC,i64_w,i32_w];rfl
  refine take_ (i:=11) (N:=some 31) (v:=?_) (a':=?_) (bA 19 3567) rfl rfl (by kernel_rfl) (fun _ _ _ h=>h) (Or.inl ⟨by rfl,?_⟩) hHeld ?_ ?_
  rotate_left
  ·intro w' j9;obtain⟨l5,l6,l7,l8⟩:=j9;go_simp
   with_reducible rfl
  rotate_left
  ·simp only[Act.put,sA,sZ,sC,i64_w,i32_w];rfl
  refine pure_ (i:=12) (N:=some 32) (v:=?_) (a':=?_) (bA 19 7663) rfl rfl (by kernel_rfl) (fun _ _ _ h=>h) (Or.inl ⟨by rfl,?_⟩) ?_ ?_
  rotate_left
  ·intro w';go_simp
   with_reducible rfl
  rotate_left
  ·simp only[Act.put,sA,sZ,sC,i64_w,i32_w];rfl
  refine take_ (i:=13) (N:=some 33) (v:=?_) (a':=?_) (bA 19 15855) rfl rfl (by kernel_rfl) (fun _ _ _ h=>h) (Or.inl ⟨by rfl,?_⟩) hHeld ?_ ?_
  rotate_left
  ·intro w' j9;obtain⟨l5,l6,l7,l8⟩:=j9;go_simp
   with_reducible rfl
  rotate_left
  ·simp only[Act.put,sA,sZ,sC,i64_w,i32_w];rfl
  refine pure_ (i:=15) (N:=some 35) (v:=?_) (a':=?_) (bA 19 48623) rfl rfl (by kernel_rfl) (fun _ _ _ h=>h) (Or.inl ⟨by rfl,?_⟩) ?_ ?_
  rotate_left
  ·intro w';go_simp
   with_reducible rfl
  rotate_left
  ·simp only[Act.put,sA,sZ,sC,i64_w,i32_w];rfl
  refine one_ (i:=4) (N:=some 24) (bA 19 48639) rfl rfl (by kernel_rfl) (by decide) (fun K hK=>?_)
  refine goes_ Tryz.func45 (by kernel_rfl) rfl #[.pointer (some ⟨gx,0,none⟩),.slice a7 b4.length a8,.slice d7 d9.length d8] (by rfl) rfl rfl mA ?_
  with_reducible refine(Fzf.calls gx _ _ _ _ _ _ _ (blk_lt BX.out)).mono ?_
  rintro e l9 ⟨m0,rfl,hT,hbs,hb⟩;refine⟨_,rfl,?_⟩;have G1:=aM (Nat.lt_of_lt_of_le LN.out hbs);have m3:=aM hT;replace BX:=kb BX hb;replace BY:=kb BY hb;replace BQ:=kb BQ hb;replace BS:=kb BS hb;replace BN:=kb BN hb;replace BA:=kb BA hb;replace BB:=kb BB hb;replace BR:=kb BR hb;replace HW:=aM (HW.out.trans (hb.mono HW.out.size));clear hT hbs hb;refine hK.out _ _ ⟨(blk_cell BA.out 1).trans rfl,(blk_cell BA.out 2).trans rfl,(blk_cell BB.out 1).trans rfl,(blk_cell BB.out 2).trans rfl⟩ (fun hHeld1=>?_)
  clear hK K;refine nm 24 ?_;refine one_ (i:=9) (N:=some 29) (bA 19 49151) rfl rfl (by kernel_rfl) (by decide) (fun K hK=>?_)
  refine goes_ Tryz.func45 (by kernel_rfl) rfl #[.pointer (some ⟨gy,0,none⟩),.slice b9 d6.length d0,.slice b5 b7.length b6] (by rfl) rfl rfl mA ?_
  with_reducible refine(Fzf.calls gy _ _ _ _ _ _ _ (blk_lt BY.out)).mono ?_
  rintro e m4 ⟨m5,rfl,hT,hbs,hb⟩;refine⟨_,rfl,?_⟩;have G2:=aM (Nat.lt_of_lt_of_le (blk_lt m3.out.fb) hbs);replace m3:=aM (m3.out.below hb);have m6:=aM hT;replace BX:=kb BX hb;replace BY:=kb BY hb;replace BQ:=kb BQ hb;replace BS:=kb BS hb;replace BN:=kb BN hb;replace BA:=kb BA hb;replace BB:=kb BB hb;replace BR:=kb BR hb;replace HW:=aM (HW.out.trans (hb.mono HW.out.size));clear hT hbs hb;refine hK.out _ _ ⟨(blk_cell BA.out 1).trans rfl,(blk_cell BA.out 2).trans rfl,(blk_cell BB.out 1).trans rfl,(blk_cell BB.out 2).trans rfl⟩ (fun hHeld2=>?_)
  clear hK K;refine nm 29 ?_;refine one_ (i:=14) (N:=some 34) (bA 19 65535) rfl rfl (by kernel_rfl) (by decide) (fun K hK=>?_)
  refine goes_ Tryz.func45 (by kernel_rfl) rfl #[.pointer (some ⟨gq,0,none⟩),.slice b5 b7.length b6,.slice d7 d9.length d8] (by rfl) rfl rfl mA ?_
  with_reducible refine(Fzf.calls gq _ _ _ _ _ _ _ (blk_lt BQ.out)).mono ?_
  rintro e m7 ⟨m8,rfl,hT,hbs,hb⟩;refine⟨_,rfl,?_⟩;have G3:=aM (Nat.lt_of_lt_of_le (blk_lt m6.out.fb) hbs);replace m3:=aM (m3.out.below hb);replace m6:=aM (m6.out.below hb);have m9:=aM hT;replace BX:=kb BX hb;replace BY:=kb BY hb;replace BQ:=kb BQ hb;replace BS:=kb BS hb;replace BN:=kb BN hb;replace BA:=kb BA hb;replace BB:=kb BB hb;replace BR:=kb BR hb;replace HW:=aM (HW.out.trans (hb.mono HW.out.size));clear hT hbs hb;refine hK.out _ _ ⟨(blk_cell BA.out 1).trans rfl,(blk_cell BA.out 2).trans rfl,(blk_cell BB.out 1).trans rfl,(blk_cell BB.out 2).trans rfl⟩ (fun hHeld3=>?_)
  clear hK K;refine nm 34 ?_;refine one_ (i:=16) (N:=some 36) (bA 19 131071) rfl rfl (by kernel_rfl) (by decide) (fun K hK=>?_)
  refine fun_lit_step ?hg (N:=36) ?hd (cs:=#[.func (.func (thkFn 63 m0).1) #[] (thkFn 63 m0).2,.func (.func (thkFn 63 m5).1) #[] (thkFn 63 m5).2,.func (.func (thkFn 63 m8).1) #[] (thkFn 63 m8).2,.func (.func 65) #[] #[.pointer (some ⟨ga,0,none⟩),.pointer (some ⟨gb,0,none⟩),.pointer (some ⟨gx,0,none⟩),.pointer (some ⟨gy,0,none⟩),.pointer (some ⟨gs,0,none⟩),.pointer (some ⟨gn,0,none⟩)]]) (t:=62) (n:=4) ?hr ?_;(case hd=>rfl);(case hg=>rfl);(case hr=>first|(go_simp;done)|(go_simp;rfl))
  intro gF n0 hbox hb;replace m3:=aM (m3.out.below hb);replace m6:=aM (m6.out.below hb);replace m9:=aM (m9.out.below hb);replace BX:=kb BX hb;replace BY:=kb BY hb;replace BQ:=kb BQ hb;replace BS:=kb BS hb;replace BN:=kb BN hb;replace BA:=kb BA hb;replace BB:=kb BB hb;replace BR:=kb BR hb;replace HW:=aM (HW.out.trans (hb.mono HW.out.size));have BF:=aM hbox;clear hbox hb;refine hK.out _ _ ⟨(blk_cell BA.out 1).trans rfl,(blk_cell BA.out 2).trans rfl,(blk_cell BB.out 1).trans rfl,(blk_cell BB.out 2).trans rfl⟩ (fun hHeld4=>?_)
  clear hK K;refine nm 36 ?_;refine one_ (i:=17) (N:=some 37) (bA 19 262143) rfl rfl (by kernel_rfl) (by decide) (fun K hK=>?_)
  refine goes_ Tryz.func44 (by kernel_rfl) rfl #[.slice (some ⟨gF,0,none⟩) 4 4] (by rfl) rfl rfl mA ?_
  have hkc:∀ (A:Option Addr) (l:List Int),Kd.C (Kd.int .i64) w A l.length l→∀ W_,Kept n0 W_ (AddS5 gx gy gq gs gn)→Kd.C (Kd.int .i64) W_ A l.length l:=fun A l hC W_ hk=>by
   have hle:=HW.out.size;have ho:=OR.out;exact C_blocks hC (fun i hi=>(hk.2 i (Nat.lt_of_lt_of_le hi hle) (by unfold AddS5;omega)).trans (HW.out.block i hi))
  refine(Gzq.calls k w.heap.size m0 m5 m8 ga gb gx gy gq gs gn a6 b8 _ _ _ _ a7 a8 b4 b5 b6 b7 b9 d0 d6 d7 d8 d9 j3 ng sm q gF 4 w n0 HW.out BF.out m3.out m6.out m9.out BA.out BB.out BX.out BY.out BQ.out BS.out BN.out OR.out.1 OR.out.2.1 OR.out.2.2.1 OR.out.2.2.2.1 G1.out G2.out G3.out OR.out.2.2.2.2.2.1 (hkc _ _ H1.out) L1.out (hkc _ _ H2.out) L2.out (hkc _ _ H3.out) L3.out (hkc _ _ H4.out) L4.out HP.out).mono ?_;rintro e n6 ⟨rfl,hF⟩;refine⟨_,rfl,?_⟩;have hnS:∀ i,i≠gx→i≠gy→i≠gq→i≠gs→i≠gn→¬ AddS5 gx gy gq gs gn i:=fun i g8 n7 n8 n9 o0 o8=>by unfold AddS5 at o8;omega
  have BA2:=aM (blk_kept BA.out hF.kept (hnS _ (blk_ne BA.out BX.out (by decide)) (blk_ne BA.out BY.out (by decide)) (blk_ne BA.out BQ.out (by decide)) (blk_ne BA.out BS.out (by decide)) (blk_ne BA.out BN.out (by decide))))
  have BB2:=aM (blk_kept BB.out hF.kept (hnS _ (blk_ne BB.out BX.out (by decide)) (blk_ne BB.out BY.out (by decide)) (blk_ne BB.out BQ.out (by decide)) (blk_ne BB.out BS.out (by decide)) (blk_ne BB.out BN.out (by decide))))
  have BR2:=aM (blk_kept BR.out hF.kept (hnS _ (blk_ne BR.out BX.out (by decide)) (blk_ne BR.out BY.out (by decide)) (blk_ne BR.out BQ.out (by decide)) (blk_ne BR.out BS.out (by decide)) (blk_ne BR.out BN.out (by decide))))
  have HW2:=aM hF.below;have HF:=aM hF.fin;have HGR:=aM (OR.out.2.2.2.2.1);have HSZ:=aM (Nat.le_trans HW.out.size hF.kept.1);have HS25:=aM HW.out.size;clear hF hkc hnS m3 m6 m9 BF BA BB BR BX BY BQ BS BN G1 G2 G3 HW LN;refine hK.out _ _ ⟨(blk_cell BA2.out 1).trans rfl,(blk_cell BA2.out 2).trans rfl,(blk_cell BB2.out 1).trans rfl,(blk_cell BB2.out 2).trans rfl⟩ (fun hHeld9=>?_)
  clear hK K hHeld9;refine nm 37 ?_;refine pure_ (i:=18) (N:=some 11) (v:=?_) (a':=?_) (bA 19 524287) rfl rfl (by kernel_rfl) (fun _ _ _ h=>h) (Or.inl ⟨by rfl,?_⟩) ?_ ?_
  rotate_left
  ·intro w';go_simp
   with_reducible rfl
  rotate_left
  ·simp only[Act.put,sA,sZ,sC,i64_w,i32_w];rfl
  refine done_ (by kernel_rfl) ?_
  clear BA2 BB2;by_cases c:j3=0
  ·subst c;simp only[if_true] at h;rw[Option.bind_eq_some_iff] at h;obtain⟨⟨d1,d2,d3,d4⟩,hd,h⟩:=h;simp only[Option.some.injEq,Prod.mk.injEq] at h;obtain⟨rfl,rfl,rfl,rfl⟩:=h;obtain⟨vs,vq,hn,hs,hq⟩:=HF.out rfl;obtain⟨As,cs,es⟩:=Kd.R_slice hs.row;subst es;obtain⟨Aq,cq,eq⟩:=Kd.R_slice hq.row;subst eq;have BN:=aM hn;have BS:=aM hs.cell;have BQ:=aM hq.cell;have RS:=aM (Kd.R_reads' hs.row);have RQ:=aM (Kd.R_reads' hq.row);have HD:=aM hd;clear hn hs hq hd HF;obtain⟨hczN,hfzN⟩:=bk1 BN;obtain⟨hczS,hfzS⟩:=bk1 BS;obtain⟨hczQ,hfzQ⟩:=bk1 BQ;go_wp2_with (first|((with_reducible refine gc 38 rfl ?_);refine gC 38 (some 45) Tryz.func38 #[.bool ng,.slice As sm.length cs,.slice Aq q.length cq] ?_;(with_reducible refine(Fzw.calls k ng _ _ sm _ _ q _ _ _ _ _ ?_ ?_ ?_ ?_ HD.out).mono ?_);exact RS.out.2.2;exact RS.out.2.1;exact RQ.out.2.2;exact RQ.out.2.1;rintro e o9 ⟨v1_,v2_,rfl,p0,p3,hb⟩;refine⟨_,rfl,?_⟩;have p4:=aM (Kd.R_lower p0 HSZ.out);have p5:=aM (Kd.R_lower p3 HSZ.out);have BKR:=kb BR2 hb;have r5:=aM (HW2.out.trans (hb.mono HSZ.out));obtain⟨As1,cs1,es1⟩:=Kd.R_slice p4.out;subst es1;obtain⟨As2,cs2,es2⟩:=Kd.R_slice p5.out;subst es2;obtain⟨hczR_0,hczR_1,hczR_2,hfzR_0,hfzR_1,hfzR_2⟩:=bk3 BKR;clear hb p0 p3))
   refine bodyPost_ret (results_ct rfl _ _ gr 26 #[.bool d1,.slice As1 d2.length cs1,.slice As2 d3.length cs2] (0,0) _ rfl (by refine blk_put (cs:=#[.bool d1,.slice As1 d2.length cs1,.slice none 0 0]) ?_ 2 _ rfl;refine blk_put (cs:=#[.bool d1,.slice none 0 0,.slice none 0 0]) ?_ 1 _ rfl;refine blk_put (cs:=#[.bool false,.slice none 0 0,.slice none 0 0]) ?_ 0 _ rfl;exact BKR.out) Tryz.underlying26 rfl (by kernel_rfl)) rfl ?_
   exact⟨_,_,by first|rfl|(simp;done),Kd.R_mono (Kd.R_far (p:=⟨gr,2,none⟩) (Kd.R_far (p:=⟨gr,1,none⟩) (Kd.R_far (p:=⟨gr,0,none⟩) (Kd.R_types p4.out BKR.out (by decide)) (fun _ hk=>hk.2) _) (fun _ hk=>hk.2) _) (fun _ hk=>hk.2) _) (fun _ hk=>hk.1),Kd.R_mono (Kd.R_far (p:=⟨gr,2,none⟩) (Kd.R_far (p:=⟨gr,1,none⟩) (Kd.R_far (p:=⟨gr,0,none⟩) (Kd.R_types p5.out BKR.out (by decide)) (fun _ hk=>hk.2) _) (fun _ hk=>hk.2) _) (fun _ hk=>hk.2) _) (fun _ hk=>hk.1),((r5.out.setCell (p:=⟨gr,0,none⟩) HGR.out _).setCell (p:=⟨gr,1,none⟩) HGR.out _).setCell (p:=⟨gr,2,none⟩) HGR.out _⟩
  ·simp only[if_neg c,Option.some.injEq,Prod.mk.injEq] at h;obtain⟨rfl,rfl,rfl,rfl⟩:=h;have r6:(j3 != 0)=true:=by simpa using c
   have m0:(j3 == 0)=false:=by simpa using c
   obtain⟨hczR_0,hczR_1,hczR_2,hfzR_0,hfzR_1,hfzR_2⟩:=bk3 BR2;go_wp2
   refine bodyPost_ret (results_ct rfl _ _ gr 26 #[.bool false,.slice none 0 0,.slice none 0 0] (0,0) _ rfl (by refine blk_put (cs:=#[.bool false,.slice none 0 0,.slice none 0 0]) ?_ 2 _ rfl;refine blk_put (cs:=#[.bool false,.slice none 0 0,.slice none 0 0]) ?_ 1 _ rfl;refine blk_put (cs:=#[.bool false,.slice none 0 0,.slice none 0 0]) ?_ 0 _ rfl;exact BR2.out) Tryz.underlying26 rfl (by kernel_rfl)) rfl ?_
   exact⟨_,_,by first|rfl|(simp;done),Kd.R_nil _ _ _ _ _,Kd.R_nil _ _ _ _ _,((HW2.out.setCell (p:=⟨gr,0,none⟩) HGR.out _).setCell (p:=⟨gr,1,none⟩) HGR.out _).setCell (p:=⟨gr,2,none⟩) HGR.out _⟩

end Go.Proofs.YtokkiljkgejnhaaGreat.Print
