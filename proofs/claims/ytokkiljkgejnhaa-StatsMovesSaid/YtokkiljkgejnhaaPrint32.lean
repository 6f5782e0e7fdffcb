import Derived.Test.YtokkiljkgejnhaaPrint0
import Derived.Test.YtokkiljkgejnhaaPrint13
import Derived.Test.YtokkiljkgejnhaaPrint15
import Derived.Test.YtokkiljkgejnhaaPrint28
namespace Go.Proofs.Ytokkiljkgejnhaa.Print
open Go.RowKit Go.Proofs.YtokkiljkgejnhaaW.PrintWords Go.Proofs.YtokkiljkgejnhaaW.PrintLast Go.Proofs.YtokkiljkgejnhaaW.PrintMore
attribute [local go_sem] max2_int min2_int max_two min_two max_three min_three max_four min_four
set_option linter.unusedVariables false
set_option maxRecDepth 100000
set_option maxHeartbeats 8000000
set_option linter.unusedSimpArgs false

mutual
def Czp.j0:Nat→List Int→List Int→Bool→Option (List Int × Int)
 | 0,_,_,_=>none
 | k+1,x0,x1,x17=>if x17=true then(some (([]:List Int),3)) else((Ezk.f x0 (wrap64 ((mx (x0.length:Int) (x1.length:Int))+1))).bind fun t494=>(Czp.l0 k x1 t494 0 (t494.length:Int) 0))
def Czp.l0:Nat→List Int→List Int→Int→Int→Int→Option (List Int × Int)
 | 0,_,_,_,_,_=>none
 | k+1,x1,x6,x7,x27,x28=>if x28 < x27 then(if 0≤x28 then(if x28 < (x6.length:Int) then(if x28 < (x1.length:Int) then(Czp.l0 k x1 (x6.set (x28:Int).toNat (Int.tmod (wrap64 ((wrap64 ((rd x6 x28)+x7))+(rd x1 x28))) 1000000000)) (wrap64 (Int.tdiv (wrap64 ((wrap64 ((rd x6 x28)+x7))+(rd x1 x28))) 1000000000)) x27 (wrap64 (x28+1))) else(Czp.l0 k x1 (x6.set (x28:Int).toNat (Int.tmod (wrap64 ((rd x6 x28)+x7)) 1000000000)) (wrap64 (Int.tdiv (wrap64 ((rd x6 x28)+x7)) 1000000000)) x27 (wrap64 (x28+1)))) else(none)) else(none)) else((Dzk.f k x6).bind fun bt501=>(some (bt501.1,bt501.2)))
end
def Czp.f (k:Nat) (l0:List Int) (l1:List Int):Option (List Int × Int):=(Azq.f k l0).bind fun t492=>(if t492=true then((Azq.f k l1).bind fun t493=>(Czp.j0 k l0 l1 (!t493))) else(Czp.j0 k l0 l1 true))
theorem Czp.mono_l:∀ k,(∀ a6 a7 a8,LeO (Czp.j0 k a6 a7 a8) (Czp.j0 (k+1) a6 a7 a8))∧(∀ a6 a7 a8 b4 b5,LeO (Czp.l0 k a6 a7 a8 b4 b5) (Czp.l0 (k+1) a6 a7 a8 b4 b5))
 | 0=>⟨fun _ _ _ r h=>by simp [Czp.j0] at h,fun _ _ _ _ _ r h=>by simp [Czp.l0] at h⟩
 | k+1=>by
  obtain⟨ih0,ih1⟩:=Czp.mono_l k;have i0:=@Azq.mono;have i1:=@Dzk.mono;refine⟨?_,?_⟩
  ·intro a6 a7 a8;unfold Czp.j0;exact mM
  ·intro a6 a7 a8 b4 b5;unfold Czp.l0;exact mM
theorem Czp.mono:∀ a6 a7 k,LeO (Czp.f k a6 a7) (Czp.f (k+1) a6 a7):=by
 intro a6 a7 k;obtain⟨ih0,ih1⟩:=Czp.mono_l k;unfold Czp.f;have i0:=@Azq.mono;have i1:=@Dzk.mono;exact mM
theorem Czp.calls (k:Nat) (a6:Option Addr) (a7:Nat) (l0:List Int) (a8:Option Addr) (b4:Nat) (l1:List Int) (b5:List Int) (b6:Int) (w:World) (b7:Kd.C (Kd.int .i64) w a6 l0.length l0) (b8:l0.length≤a7) (b9:Kd.C (Kd.int .i64) w a8 l1.length l1) (d0:l1.length≤b4) (h:Czp.f k l0 l1=some (b5,b6)) :
  Calls Try.prog 51 #[.slice a6 l0.length a7,.slice a8 l1.length b4] w fun e w'=>∃ v0_:Value,e=.returned (.tuple #[v0_,.int .i64 b6])∧Kd.R (Kd.int .i64) 3 w' w.heap.size (fun _=>True) v0_ b5∧Below w.heap.size w w':=by
 have d6:=aM b7;have d7:=aM b8;clear b7 b8;have d8:=aM b9;have d9:=aM d0;clear b9 d0;have HB:=aM (Below.refl w.heap.size w);have H:((Azq.f k l0).bind fun e6=>(if e6=true then((Azq.f k l1).bind fun e7=>(Czp.j0 k l0 l1 (!e7))) else(Czp.j0 k l0 l1 true)))=some (b5,b6):=h
 clear h;have e8:=aM H;clear H;go_enter Try.func51,Try.ntmps51
 go_upto_region 1 with (fail)
 go_cut [17] (fun e9 wc=>∃ (kq:Nat) (f3:Bool),e9=.bool f3∧Aside0 (Czp.j0 kq l0 l1 f3=some (b5,b6))∧Aside0 (kq≤k)∧Aside0 (Below w.heap.size w wc))
 case first =>
  have H:=e8.out;clear e8;obtain⟨e6,f4,H⟩:=bT H;(try dsimp only at H);by_cases c5:e6=true
  ·subst c5;rw[if_pos rfl] at H;obtain⟨e7,f6,H⟩:=bT H;(try dsimp only at H);have H':=aM H;clear H;go_wp2_with (first|((with_reducible refine gc 65 rfl ?_);refine gC 65 (some 11) Try.func65 #[.slice a6 l0.length a7] ?_;(with_reducible refine(Azq.calls k _ _ l0 true _ ?_ ?_ f4.out).mono ?_);exact cB d6;exact d7.out;rintro e w' ⟨rfl,⟨nd,rfl⟩⟩;refine⟨_,rfl,?_⟩)|(go_at_call 65;(with_reducible refine(Azq.calls k _ _ l1 e7 _ ?_ ?_ f6.out).mono ?_);exact cB d8;exact d9.out;rintro e w' ⟨rfl,⟨nd,rfl⟩⟩))
   go_meet
   case rel=>exact⟨_,(!e7),sD,H',⟨by first|omega|exact Nat.le_refl _⟩,⟨pB⟩⟩
  ·obtain rfl:=bN c5;rw[if_neg nF] at H
   have H':=aM H;clear H;go_wp2_with (first|((with_reducible refine gc 65 rfl ?_);refine gC 65 (some 11) Try.func65 #[.slice a6 l0.length a7] ?_;(with_reducible refine(Azq.calls k _ _ l0 false _ ?_ ?_ f4.out).mono ?_);exact cB d6;exact d7.out;rintro e w' ⟨rfl,⟨nd,rfl⟩⟩;refine⟨_,rfl,?_⟩))
   go_meet
   case rel=>exact⟨_,(true),sD,H',⟨by first|omega|exact Nat.le_refl _⟩,⟨pB⟩⟩
 case rest =>
  clear e8;try clear b4
  try clear f9
  try clear c5
  try clear c6
  obtain⟨kq,f3,rfl,HA,g4,HB⟩:=hcut;cases kq with
  | zero=>exact absurd HA.out (by simp [Czp.j0])
  | succ g5 =>
   have H:=HA.out;clear HA;simp only[Czp.j0] at H;by_cases c7:f3=true
   ·subst c7;rw[if_pos rfl] at H;obtain⟨rfl,rfl⟩:=q2 H;go_wp2
    go_ret2
    exact⟨_,eW,nK,pB⟩
   ·obtain rfl:=bN c7;rw[if_neg nF] at H
    obtain⟨g6,g7⟩:∃ j_:Int,(mx (l0.length:Int) (l1.length:Int))=j_:=⟨_,rfl⟩;replace H:((Ezk.f l0 (wrap64 ((g6)+1))).bind fun g8=>(Czp.l0 g5 l1 g8 0 (g8.length:Int) 0))=some (b5,b6):=by first|(rw[g7] at H;exact H)|(simp only[g7] at H ⊢;exact H)
    have g9:(if(l0.length:Int) < (l1.length:Int) then(l1.length:Int) else(l0.length:Int))=g6:=g7
    have j5:(if l0.length < l1.length then(l1.length:Int) else(l0.length:Int))=g6:=by rw[← g9];simp only[Int.ofNat_lt]
    obtain⟨g8,j6,H⟩:=bT H;(try dsimp only at H);have H':=aM H;clear H;go_wp2_with (first|((with_reducible refine gate_callee (f:=69) rfl ?_);refine goesL_ (some 25) rfl rfl Try.func69 (by kernel_rfl) rfl #[.slice a6 l0.length a7,.int .i64 (wrap64 ((g6)+1))] rfl (by(try simp only[List.map_toArray,List.map_cons,List.map_nil]);first|done|(simp only[g7];rfl)|rfl|(simp only[List.length_drop,List.length_take];rfl)) ?_;(with_reducible refine(Ezk.calls _ _ l0 (wrap64 ((g6)+1)) g8 _ ?_ ?_ j6.out).mono ?_);exact cB d6;exact d7.out;rintro e j7 ⟨j8,rfl,j9,hb⟩;refine⟨_,rfl,?_⟩;have l5:=rL j9;replace HB:=bB hb;clear hb j9;obtain⟨l6,l7,rfl⟩:=Kd.R_slice l5.out))
    go_loopg [7,28] g5 (fun kq l8 l9 w'=>∃ (m0:List Int) (m2:Int) (m3:Int),l8=.int .i64 m2∧l9=.int .i64 m3∧Aside0 (Czp.l0 kq l1 m0 m2 (g8.length:Int) m3=some (b5,b6))∧Aside0 (kq≤g5)∧Aside0 (Kd.R (Kd.int .i64) 3 w' w.heap.size (fun _=>True) (.slice l6 g8.length l7) m0)∧Aside0 (Below w.heap.size w w'))
    case atStart=>exact⟨(g8),(0),(0),sD,sD,H',⟨Nat.le_refl _⟩,⟨rX l5.out⟩,⟨pB⟩⟩
    case round =>
     clear H';try clear b4
     try clear f9
     try clear c5
     try clear c6
     try clear m4
     try clear c7
     try clear f9
     obtain⟨m0,m2,m3,rfl,rfl,HA,m5,m6,HB⟩:=hrel;have m7:=(Kd.R_reads' m6.out).1;rw[m7] at m6;(try simp only[m7])
     cases gk with
     | zero=>exact absurd HA.out (by simp [Czp.l0])
     | succ k2 =>
      have H:=HA.out;clear HA;simp only[Czp.l0] at H;by_cases m8:m3 < (g8.length:Int)
      ·rw[if_pos m8] at H;have m9:=dE m8;have n0:=m9;(try simp only[m7] at n0)
       clear m8;obtain⟨n6,H⟩:=iN H;obtain⟨n7,H⟩:=iO H;have n8:decide (m3 < (m0.length:Int))=true:=dE n7;have n9:=n8;(try simp only[m7] at n9)
       clear n7;by_cases o0:m3 < (l1.length:Int)
       ·rw[if_pos o0] at H;have o8:=dE o0;have o9:=o8;(try simp only[m7] at o9)
        clear o0;obtain⟨p0,p4⟩:∃ y_:List Int,y_=(m0.set (m3:Int).toNat (Int.tmod (wrap64 ((wrap64 ((rd m0 m3)+m2))+(rd l1 m3))) 1000000000)):=⟨_,rfl⟩;replace H:(Czp.l0 k2 l1 p0 (wrap64 (Int.tdiv (wrap64 ((wrap64 ((rd m0 m3)+m2))+(rd l1 m3))) 1000000000)) (g8.length:Int) (wrap64 (m3+1)))=some (b5,b6):=yE p4 H
        have p5:=aM p4;clear p4;have H':=aM H;clear H;obtain⟨p9,r5,r6,r7,r8⟩:=aI (Kd.R_reads' m6.out).2.2 m3;cases r5;obtain⟨r9,t6,t7,t8,z1⟩:=aI d8.out m3;cases t6
        replace t7:=hB HB t7;have z2:0≤(m3:Int):=oE aS
        have z6:(m3:Int) < ((m0.length:Int):Int):=oE aS
        obtain⟨z7,z8,B0,B5,B6,B8,B9⟩:=Kd.R_form m6.out (by omega)
        (first|cases B0|(injection B0 with ea_ en_ ec_;(first|subst ea_|(injection ea_ with ea_;subst ea_));subst ec_;clear en_))
        have C0:=aM B5;have C1:=aM B9;clear B5 B6 B9;(first|simp only[add_plain] at r6|skip)
        obtain⟨C2,C3⟩:=Kd.R_celln 0 m6.out (m3:Int) z2 z6;replace z2:=eq_true z2;replace z6:=eq_true z6;have C4:=Kd.R_putg m6.out (m3:Int) (Int.tmod (wrap64 ((wrap64 ((rd m0 m3)+m2))+(rd l1 m3))) 1000000000);go_wp2_with (first|((with_reducible refine gate_store (t:=3) (p:=53) rfl ?_);refine store_event (t:=3) (p:=53) (v:=?vo_w18) (w1:=(wr.setCell ⟨z7,(m3:Int).toNat,none⟩ (.int .i64 (Int.tmod (wrap64 ((wrap64 ((rd m0 m3)+m2))+(rd l1 m3))) 1000000000)))) ?hg ?ho ?hn ?hr ?_;(case ho=>rfl);(case hg=>rfl);(case hn=>rfl);(case hr=>first|(go_simp;done)|(go_simp;rfl));intro C6 hw;have hg:wr.grownBy C6 (some z7):=(by rw[hw];exact C4.2);have hp_:Kd.R (Kd.int .i64) 3 C6 w.heap.size (fun _=>True) (.slice (some ⟨z7,0,none⟩) m0.length l7) p0:=(by rw[hw,p5.out];exact C4.1);clear C4;replace m6:=aM (hp_);replace HB:=aM ((by rw[hw];exact below_set (HB.out) C0.out:Below w.heap.size w C6));clear hg hw hp_))
        (try simp only[← m7])
        go_roundg k2
        case measure=>have:=g4.out;have:=m5.out;omega
        case rel=>exact⟨(p0),(wrap64 (Int.tdiv (wrap64 ((wrap64 ((rd m0 m3)+m2))+(rd l1 m3))) 1000000000)),(wrap64 (m3+1)),sD,sD,H',⟨by have:=g4.out;have:=m5.out;omega⟩,⟨by(try simp only[m7]);(with_reducible repeat(first|apply Kd.R_alloc|apply Kd.R_drewN|apply Kd.R_drew));exact m6.out⟩,⟨pB⟩⟩
       ·rw[if_neg o0] at H;have o8:decide (m3 < (l1.length:Int))=false:=decide_eq_false o0;have o9:=o8;(try simp only[m7] at o9)
        clear o0;obtain⟨C7,C8⟩:∃ y_:List Int,y_=(m0.set (m3:Int).toNat (Int.tmod (wrap64 ((rd m0 m3)+m2)) 1000000000)):=⟨_,rfl⟩;replace H:(Czp.l0 k2 l1 C7 (wrap64 (Int.tdiv (wrap64 ((rd m0 m3)+m2)) 1000000000)) (g8.length:Int) (wrap64 (m3+1)))=some (b5,b6):=yE C8 H
        have C9:=aM C8;clear C8;have H':=aM H;clear H;obtain⟨p9,r5,r6,r7,r8⟩:=aI (Kd.R_reads' m6.out).2.2 m3;cases r5;have D0:0≤(m3:Int):=oE aS
        have D1:(m3:Int) < ((m0.length:Int):Int):=oE aS
        obtain⟨D2,D3,D4,D5,D6,D7,D8⟩:=Kd.R_form m6.out (by omega)
        (first|cases D4|(injection D4 with ea_ en_ ec_;(first|subst ea_|(injection ea_ with ea_;subst ea_));subst ec_;clear en_))
        have D9:=aM D5;have E0:=aM D8;clear D5 D6 D8;(first|simp only[add_plain] at r6|skip)
        obtain⟨E1,E2⟩:=Kd.R_celln 0 m6.out (m3:Int) D0 D1;replace D0:=eq_true D0;replace D1:=eq_true D1;have E3:=Kd.R_putg m6.out (m3:Int) (Int.tmod (wrap64 ((rd m0 m3)+m2)) 1000000000);go_wp2_with (first|((with_reducible refine gate_store (t:=3) (p:=53) rfl ?_);refine store_event (t:=3) (p:=53) (v:=?vo_w21) (w1:=(wr.setCell ⟨D2,(m3:Int).toNat,none⟩ (.int .i64 (Int.tmod (wrap64 ((rd m0 m3)+m2)) 1000000000)))) ?hg ?ho ?hn ?hr ?_;(case ho=>rfl);(case hg=>rfl);(case hn=>rfl);(case hr=>first|(go_simp;done)|(go_simp;rfl));intro E4 hw;have hg:wr.grownBy E4 (some D2):=(by rw[hw];exact E3.2);have hp_:Kd.R (Kd.int .i64) 3 E4 w.heap.size (fun _=>True) (.slice (some ⟨D2,0,none⟩) m0.length l7) C7:=(by rw[hw,C9.out];exact E3.1);clear E3;replace m6:=aM (hp_);replace HB:=aM ((by rw[hw];exact below_set (HB.out) D9.out:Below w.heap.size w E4));clear hg hw hp_))
        (try simp only[← m7])
        go_roundg k2
        case measure=>have:=g4.out;have:=m5.out;omega
        case rel=>exact⟨(C7),(wrap64 (Int.tdiv (wrap64 ((rd m0 m3)+m2)) 1000000000)),(wrap64 (m3+1)),sD,sD,H',⟨by have:=g4.out;have:=m5.out;omega⟩,⟨by(try simp only[m7]);(with_reducible repeat(first|apply Kd.R_alloc|apply Kd.R_drewN|apply Kd.R_drew));exact m6.out⟩,⟨pB⟩⟩
      ·rw[if_neg m8] at H;have m9:decide (m3 < (g8.length:Int))=false:=decide_eq_false m8;have n0:=m9;(try simp only[m7] at n0)
       clear m8;replace H:=bS H;obtain⟨⟨E5,E6⟩,E7,H⟩:=H;replace H:(some (E5,E6))=some (b5,b6):=H;have E8:=aM E7;clear E7;obtain⟨rfl,rfl⟩:=q2 H;go_wp2_with (first|((with_reducible refine gc 70 rfl ?_);refine gC 70 (some 56) Try.func70 #[.slice l6 m0.length l7] ?_;(with_reducible refine(Dzk.calls k2 (fun k_=>some k_=(.slice l6 m0.length l7:Value).ownBlock) (.slice l6 m0.length l7) m0 E5 E6 w _ ?_ ?_ E8.out).mono ?_);exact pB;exact Kd.R_tight rfl m6.out;rintro e E9 ⟨F0,rfl,j9,hb,hkp⟩;refine⟨_,rfl,?_⟩;have F1:=aM (Kd.R_mono (ok':=fun k_=>True) j9 (fun k_ hk_=>trivial));replace HB:=aM (hb);clear m6;clear hb hkp j9))
       go_ret2
       exact⟨_,by first|rfl|(simp [errW_none,errW_some] <;> rfl)|(simp only[← g7];first|rfl|(simp [errW_none,errW_some] <;> rfl))|(simp [*,errW_none,errW_some] <;> rfl),rX F1.out,pB⟩

def Fzj.f (k:Nat) (l0:List Int) (l1:List Int):Option (Int × Int):=(Azq.f k l0).bind fun t505=>(if t505=true then((Azq.f k l1).bind fun t506=>(if t506=true then((Bzb.f k l0 l1).bind fun t507=>(some (t507,0))) else(some (0,3)))) else(some (0,3)))
theorem Fzj.mono:∀ a6 a7 k,LeO (Fzj.f k a6 a7) (Fzj.f (k+1) a6 a7):=by
 intro a6 a7 k;unfold Fzj.f;have i0:=@Azq.mono;have i1:=@Bzb.mono;exact mM
theorem Fzj.calls (k:Nat) (a6:Option Addr) (a7:Nat) (l0:List Int) (a8:Option Addr) (b4:Nat) (l1:List Int) (b5:Int) (b6:Int) (w:World) (b7:Kd.C (Kd.int .i64) w a6 l0.length l0) (b8:l0.length≤a7) (b9:Kd.C (Kd.int .i64) w a8 l1.length l1) (d0:l1.length≤b4) (h:Fzj.f k l0 l1=some (b5,b6)) :
  Calls Try.prog 52 #[.slice a6 l0.length a7,.slice a8 l1.length b4] w fun e w'=>e=.returned (.tuple #[.int .i64 b5,.int .i64 b6])∧Drawn0 w w':=by
 have d6:=aM b7;have d7:=aM b8;clear b7 b8;have d8:=aM b9;have d9:=aM d0;clear b9 d0;have H:((Azq.f k l0).bind fun e6=>(if e6=true then((Azq.f k l1).bind fun e7=>(if e7=true then((Bzb.f k l0 l1).bind fun e8=>(some (e8,0))) else(some (0,3)))) else(some (0,3))))=some (b5,b6):=h
 clear h;obtain⟨e6,e9,H⟩:=bT H;(try dsimp only at H);by_cases c4:e6=true
 ·subst c4;rw[if_pos rfl] at H;obtain⟨e7,f3,H⟩:=bT H;(try dsimp only at H);by_cases c6:e7=true
  ·subst c6;rw[if_pos rfl] at H;replace H:=bS H;obtain⟨e8,f4,H⟩:=H;replace H:(some (e8,0))=some (b5,b6):=H;have f6:=aM f4;clear f4;obtain⟨rfl,rfl⟩:=q2 H;go_enter Try.func52,Try.ntmps52
   go_wp2_with (first|((with_reducible refine gc 65 rfl ?_);refine gC 65 (some 7) Try.func65 #[.slice a6 l0.length a7] ?_;(with_reducible refine(Azq.calls k _ _ l0 true _ ?_ ?_ e9.out).mono ?_);exact cX d6.out;exact d7.out;rintro e w' ⟨rfl,⟨nd,rfl⟩⟩;refine⟨_,rfl,?_⟩)|(go_at_call 65;(with_reducible refine(Azq.calls k _ _ l1 true _ ?_ ?_ f3.out).mono ?_);exact cX d8.out;exact d9.out;rintro e w' ⟨rfl,⟨nd,rfl⟩⟩)|((with_reducible refine gc 71 rfl ?_);refine gC 71 (some 16) Try.func71 #[.slice a6 l0.length a7,.slice a8 l1.length b4] ?_;(with_reducible refine(Bzb.calls k _ _ l0 _ _ l1 e8 _ ?_ ?_ ?_ ?_ f6.out).mono ?_);exact cX d6.out;exact d7.out;exact cX d8.out;exact d9.out;rintro e w' ⟨rfl,⟨nd,rfl⟩⟩;refine⟨_,rfl,?_⟩))
   go_ret2
   exact⟨sD,dR⟩
  ·obtain rfl:=bN c6;rw[if_neg nF] at H
   obtain⟨rfl,rfl⟩:=q2 H;go_enter Try.func52,Try.ntmps52
   go_wp2_with (first|((with_reducible refine gc 65 rfl ?_);refine gC 65 (some 7) Try.func65 #[.slice a6 l0.length a7] ?_;(with_reducible refine(Azq.calls k _ _ l0 true _ ?_ ?_ e9.out).mono ?_);exact cX d6.out;exact d7.out;rintro e w' ⟨rfl,⟨nd,rfl⟩⟩;refine⟨_,rfl,?_⟩)|(go_at_call 65;(with_reducible refine(Azq.calls k _ _ l1 false _ ?_ ?_ f3.out).mono ?_);exact cX d8.out;exact d9.out;rintro e w' ⟨rfl,⟨nd,rfl⟩⟩))
   go_ret2
   exact⟨sD,dR⟩
 ·obtain rfl:=bN c4;rw[if_neg nF] at H
  obtain⟨rfl,rfl⟩:=q2 H;go_enter Try.func52,Try.ntmps52
  go_wp2_with (first|((with_reducible refine gc 65 rfl ?_);refine gC 65 (some 7) Try.func65 #[.slice a6 l0.length a7] ?_;(with_reducible refine(Azq.calls k _ _ l0 false _ ?_ ?_ e9.out).mono ?_);exact cX d6.out;exact d7.out;rintro e w' ⟨rfl,⟨nd,rfl⟩⟩;refine⟨_,rfl,?_⟩))
  go_ret2
  exact⟨sD,dR⟩


mutual
def Czk.j0:Nat→List Int→List Int→Bool→Option (List Int × Int)
 | 0,_,_,_=>none
 | k+1,x0,x1,x17=>if x17=true then(some (([]:List Int),3)) else((Bzb.f k x0 x1).bind fun t510=>(if t510 < 0 then(some (([]:List Int),1)) else((Ezk.f x0 (x0.length:Int)).bind fun t511=>(Czk.l0 k x1 t511 0 (t511.length:Int) 0))))
def Czk.l0:Nat→List Int→List Int→Int→Int→Int→Option (List Int × Int)
 | 0,_,_,_,_,_=>none
 | k+1,x1,x6,x7,x27,x28=>if x28 < x27 then(if 0≤x28 then(if x28 < (x6.length:Int) then(if x28 < (x1.length:Int) then(if(wrap64 ((wrap64 ((rd x6 x28) - x7)) - (rd x1 x28))) < 0 then(Czk.l0 k x1 (x6.set (x28:Int).toNat (wrap64 ((wrap64 ((wrap64 ((rd x6 x28) - x7)) - (rd x1 x28)))+1000000000))) 1 x27 (wrap64 (x28+1))) else(Czk.l0 k x1 (x6.set (x28:Int).toNat (wrap64 ((wrap64 ((rd x6 x28) - x7)) - (rd x1 x28)))) 0 x27 (wrap64 (x28+1)))) else(if(wrap64 ((rd x6 x28) - x7)) < 0 then(Czk.l0 k x1 (x6.set (x28:Int).toNat (wrap64 ((wrap64 ((rd x6 x28) - x7))+1000000000))) 1 x27 (wrap64 (x28+1))) else(Czk.l0 k x1 (x6.set (x28:Int).toNat (wrap64 ((rd x6 x28) - x7))) 0 x27 (wrap64 (x28+1))))) else(none)) else(none)) else((Azp.f k x6).bind fun t514=>(some (t514,0)))
end
def Czk.f (k:Nat) (l0:List Int) (l1:List Int):Option (List Int × Int):=(Azq.f k l0).bind fun t508=>(if t508=true then((Azq.f k l1).bind fun t509=>(Czk.j0 k l0 l1 (!t509))) else(Czk.j0 k l0 l1 true))
theorem Czk.mono_l:∀ k,(∀ a6 a7 a8,LeO (Czk.j0 k a6 a7 a8) (Czk.j0 (k+1) a6 a7 a8))∧(∀ a6 a7 a8 b4 b5,LeO (Czk.l0 k a6 a7 a8 b4 b5) (Czk.l0 (k+1) a6 a7 a8 b4 b5))
 | 0=>⟨fun _ _ _ r h=>by simp [Czk.j0] at h,fun _ _ _ _ _ r h=>by simp [Czk.l0] at h⟩
 | k+1=>by
  obtain⟨ih0,ih1⟩:=Czk.mono_l k;have i0:=@Azq.mono;have i1:=@Bzb.mono;have i2:=@Azp.mono;refine⟨?_,?_⟩
  ·intro a6 a7 a8;unfold Czk.j0;exact mM
  ·intro a6 a7 a8 b4 b5;unfold Czk.l0;exact mM
theorem Czk.mono:∀ a6 a7 k,LeO (Czk.f k a6 a7) (Czk.f (k+1) a6 a7):=by
 intro a6 a7 k;obtain⟨ih0,ih1⟩:=Czk.mono_l k;unfold Czk.f;have i0:=@Azq.mono;have i1:=@Bzb.mono;have i2:=@Azp.mono;exact mM
theorem Czk.calls (k:Nat) (a6:Option Addr) (a7:Nat) (l0:List Int) (a8:Option Addr) (b4:Nat) (l1:List Int) (b5:List Int) (b6:Int) (w:World) (b7:Kd.C (Kd.int .i64) w a6 l0.length l0) (b8:l0.length≤a7) (b9:Kd.C (Kd.int .i64) w a8 l1.length l1) (d0:l1.length≤b4) (h:Czk.f k l0 l1=some (b5,b6)) :
  Calls Try.prog 53 #[.slice a6 l0.length a7,.slice a8 l1.length b4] w fun e w'=>∃ v0_:Value,e=.returned (.tuple #[v0_,.int .i64 b6])∧Kd.R (Kd.int .i64) 3 w' w.heap.size (fun _=>True) v0_ b5∧Below w.heap.size w w':=by
 have d6:=aM b7;have d7:=aM b8;clear b7 b8;have d8:=aM b9;have d9:=aM d0;clear b9 d0;have HB:=aM (Below.refl w.heap.size w);have H:((Azq.f k l0).bind fun e6=>(if e6=true then((Azq.f k l1).bind fun e7=>(Czk.j0 k l0 l1 (!e7))) else(Czk.j0 k l0 l1 true)))=some (b5,b6):=h
 clear h;have e8:=aM H;clear H;go_enter Try.func53,Try.ntmps53
 go_upto_region 1 with (fail)
 go_cut [17] (fun e9 wc=>∃ (kq:Nat) (f3:Bool),e9=.bool f3∧Aside0 (Czk.j0 kq l0 l1 f3=some (b5,b6))∧Aside0 (kq≤k)∧Aside0 (Below w.heap.size w wc))
 case first =>
  have H:=e8.out;clear e8;obtain⟨e6,f4,H⟩:=bT H;(try dsimp only at H);by_cases c5:e6=true
  ·subst c5;rw[if_pos rfl] at H;obtain⟨e7,f6,H⟩:=bT H;(try dsimp only at H);have H':=aM H;clear H;go_wp2_with (first|((with_reducible refine gc 65 rfl ?_);refine gC 65 (some 11) Try.func65 #[.slice a6 l0.length a7] ?_;(with_reducible refine(Azq.calls k _ _ l0 true _ ?_ ?_ f4.out).mono ?_);exact cB d6;exact d7.out;rintro e w' ⟨rfl,⟨nd,rfl⟩⟩;refine⟨_,rfl,?_⟩)|(go_at_call 65;(with_reducible refine(Azq.calls k _ _ l1 e7 _ ?_ ?_ f6.out).mono ?_);exact cB d8;exact d9.out;rintro e w' ⟨rfl,⟨nd,rfl⟩⟩))
   go_meet
   case rel=>exact⟨_,(!e7),sD,H',⟨by first|omega|exact Nat.le_refl _⟩,⟨pB⟩⟩
  ·obtain rfl:=bN c5;rw[if_neg nF] at H
   have H':=aM H;clear H;go_wp2_with (first|((with_reducible refine gc 65 rfl ?_);refine gC 65 (some 11) Try.func65 #[.slice a6 l0.length a7] ?_;(with_reducible refine(Azq.calls k _ _ l0 false _ ?_ ?_ f4.out).mono ?_);exact cB d6;exact d7.out;rintro e w' ⟨rfl,⟨nd,rfl⟩⟩;refine⟨_,rfl,?_⟩))
   go_meet
   case rel=>exact⟨_,(true),sD,H',⟨by first|omega|exact Nat.le_refl _⟩,⟨pB⟩⟩
 case rest =>
  clear e8;try clear b4
  try clear f9
  try clear c5
  try clear c6
  obtain⟨kq,f3,rfl,HA,g4,HB⟩:=hcut;cases kq with
  | zero=>exact absurd HA.out (by simp [Czk.j0])
  | succ g5 =>
   have H:=HA.out;clear HA;simp only[Czk.j0] at H;by_cases c7:f3=true
   ·subst c7;rw[if_pos rfl] at H;obtain⟨rfl,rfl⟩:=q2 H;go_wp2
    go_ret2
    exact⟨_,eW,nK,pB⟩
   ·obtain rfl:=bN c7;rw[if_neg nF] at H
    obtain⟨g6,g7,H⟩:=bT H;(try dsimp only at H);by_cases c9:g6 < 0
    ·rw[if_pos c9] at H;have g8:=dE c9;clear c9;obtain⟨rfl,rfl⟩:=q2 H;go_wp2_with (first|((with_reducible refine gc 71 rfl ?_);refine gC 71 (some 20) Try.func71 #[.slice a6 l0.length a7,.slice a8 l1.length b4] ?_;(with_reducible refine(Bzb.calls g5 _ _ l0 _ _ l1 g6 _ ?_ ?_ ?_ ?_ g7.out).mono ?_);exact cB d6;exact d7.out;exact cB d8;exact d9.out;rintro e w' ⟨rfl,⟨nd,rfl⟩⟩;refine⟨_,rfl,?_⟩))
     go_ret2
     exact⟨_,eW,nK,pB⟩
    ·rw[if_neg c9] at H;have g8:decide (g6 < 0)=false:=decide_eq_false c9;clear c9;obtain⟨g9,j5,H⟩:=bT H;(try dsimp only at H);have H':=aM H;clear H;go_wp2_with (first|((with_reducible refine gc 71 rfl ?_);refine gC 71 (some 20) Try.func71 #[.slice a6 l0.length a7,.slice a8 l1.length b4] ?_;(with_reducible refine(Bzb.calls g5 _ _ l0 _ _ l1 g6 _ ?_ ?_ ?_ ?_ g7.out).mono ?_);exact cB d6;exact d7.out;exact cB d8;exact d9.out;rintro e w' ⟨rfl,⟨nd,rfl⟩⟩;refine⟨_,rfl,?_⟩)|((with_reducible refine gc 69 rfl ?_);refine gC 69 (some 25) Try.func69 #[.slice a6 l0.length a7,.int .i64 (l0.length:Int)] ?_;(with_reducible refine(Ezk.calls _ _ l0 (l0.length:Int) g9 _ ?_ ?_ j5.out).mono ?_);exact cB d6;exact d7.out;rintro e j6 ⟨j7,rfl,j8,hb⟩;refine⟨_,rfl,?_⟩;have j9:=rL j8;replace HB:=bB hb;clear hb j8;obtain⟨l5,l6,rfl⟩:=Kd.R_slice j9.out))
     go_loopg [7,28] g5 (fun kq l7 l8 w'=>∃ (l9:List Int) (m0:Int) (m2:Int),l7=.int .i64 m0∧l8=.int .i64 m2∧Aside0 (Czk.l0 kq l1 l9 m0 (g9.length:Int) m2=some (b5,b6))∧Aside0 (kq≤g5)∧Aside0 (Kd.R (Kd.int .i64) 3 w' w.heap.size (fun _=>True) (.slice l5 g9.length l6) l9)∧Aside0 (Below w.heap.size w w'))
     case atStart=>exact⟨(g9),(0),(0),sD,sD,H',⟨Nat.le_refl _⟩,⟨rX j9.out⟩,⟨pB⟩⟩
     case round =>
      clear H';try clear b4
      try clear f9
      try clear c5
      try clear c6
      try clear c7
      try clear c9
      try clear g8
      try clear f9
      obtain⟨l9,m0,m2,rfl,rfl,HA,m3,m4,HB⟩:=hrel;have m5:=(Kd.R_reads' m4.out).1;rw[m5] at m4;(try simp only[m5])
      cases gk with
      | zero=>exact absurd HA.out (by simp [Czk.l0])
      | succ k2 =>
       have H:=HA.out;clear HA;simp only[Czk.l0] at H;by_cases m6:m2 < (g9.length:Int)
       ·rw[if_pos m6] at H;have m7:=dE m6;have m8:=m7;(try simp only[m5] at m8)
        clear m6;obtain⟨m9,H⟩:=iN H;obtain⟨n0,H⟩:=iO H;have n6:decide (m2 < (l9.length:Int))=true:=dE n0;have n7:=n6;(try simp only[m5] at n7)
        clear n0;by_cases n8:m2 < (l1.length:Int)
        ·rw[if_pos n8] at H;have n9:=dE n8;have o0:=n9;(try simp only[m5] at o0)
         clear n8;by_cases o8:(wrap64 ((wrap64 ((rd l9 m2) - m0)) - (rd l1 m2))) < 0
         ·rw[if_pos o8] at H;have o9:decide ((wrap64 ((wrap64 ((rd l9 m2) - m0)) - (rd l1 m2))) < 0)=true:=dE o8;have p0:decide ((IntKind.i64.wrap ((IntKind.i64.wrap ((rd l9 m2) - m0)) - (rd l1 m2))) < 0)=true:=by have h_:=o9;first|exact h_|(simp only[i64_w];exact h_)
          clear o8;obtain⟨p4,p5⟩:∃ y_:List Int,y_=(l9.set (m2:Int).toNat (wrap64 ((wrap64 ((wrap64 ((rd l9 m2) - m0)) - (rd l1 m2)))+1000000000))):=⟨_,rfl⟩;replace H:(Czk.l0 k2 l1 p4 1 (g9.length:Int) (wrap64 (m2+1)))=some (b5,b6):=yE p5 H
          have p9:=aM p5;clear p5;have H':=aM H;clear H;obtain⟨r5,r6,r7,r8,r9⟩:=aI (Kd.R_reads' m4.out).2.2 m2;cases r6;obtain⟨t6,t7,t8,z1,z2⟩:=aI d8.out m2;cases t7
          replace t8:=hB HB t8;have z6:0≤(m2:Int):=oE aS
          have z7:(m2:Int) < ((l9.length:Int):Int):=oE aS
          obtain⟨z8,B0,B5,B6,B8,B9,C0⟩:=Kd.R_form m4.out (by omega)
          (first|cases B5|(injection B5 with ea_ en_ ec_;(first|subst ea_|(injection ea_ with ea_;subst ea_));subst ec_;clear en_))
          have C1:=aM B6;have C2:=aM C0;clear B6 B8 C0;(first|simp only[add_plain] at r7|skip)
          obtain⟨C3,C4⟩:=Kd.R_celln 0 m4.out (m2:Int) z6 z7;replace z6:=eq_true z6;replace z7:=eq_true z7;have C6:=Kd.R_putg m4.out (m2:Int) (wrap64 ((wrap64 ((wrap64 ((rd l9 m2) - m0)) - (rd l1 m2)))+1000000000));go_wp2_with (first|((with_reducible refine gate_store (t:=3) (p:=54) rfl ?_);refine store_event (t:=3) (p:=54) (v:=?vo_w20) (w1:=(wr.setCell ⟨z8,(m2:Int).toNat,none⟩ (.int .i64 (wrap64 ((wrap64 ((wrap64 ((rd l9 m2) - m0)) - (rd l1 m2)))+1000000000))))) ?hg ?ho ?hn ?hr ?_;(case ho=>rfl);(case hg=>rfl);(case hn=>rfl);(case hr=>first|(go_simp;done)|(go_simp;rfl));intro C7 hw;have hg:wr.grownBy C7 (some z8):=(by rw[hw];exact C6.2);have hp_:Kd.R (Kd.int .i64) 3 C7 w.heap.size (fun _=>True) (.slice (some ⟨z8,0,none⟩) l9.length l6) p4:=(by rw[hw,p9.out];exact C6.1);clear C6;replace m4:=aM (hp_);replace HB:=aM ((by rw[hw];exact below_set (HB.out) C1.out:Below w.heap.size w C7));clear hg hw hp_))
          (try simp only[← m5])
          go_roundg k2
          case measure=>have:=g4.out;have:=m3.out;omega
          case rel=>exact⟨(p4),(1),(wrap64 (m2+1)),sD,sD,H',⟨by have:=g4.out;have:=m3.out;omega⟩,⟨by(try simp only[m5]);(with_reducible repeat(first|apply Kd.R_alloc|apply Kd.R_drewN|apply Kd.R_drew));exact m4.out⟩,⟨pB⟩⟩
         ·rw[if_neg o8] at H;have o9:decide ((wrap64 ((wrap64 ((rd l9 m2) - m0)) - (rd l1 m2))) < 0)=false:=decide_eq_false o8;have p0:decide ((IntKind.i64.wrap ((IntKind.i64.wrap ((rd l9 m2) - m0)) - (rd l1 m2))) < 0)=false:=by have h_:=o9;first|exact h_|(simp only[i64_w];exact h_)
          clear o8;obtain⟨C8,C9⟩:∃ y_:List Int,y_=(l9.set (m2:Int).toNat (wrap64 ((wrap64 ((rd l9 m2) - m0)) - (rd l1 m2)))):=⟨_,rfl⟩;replace H:(Czk.l0 k2 l1 C8 0 (g9.length:Int) (wrap64 (m2+1)))=some (b5,b6):=yE C9 H
          have D0:=aM C9;clear C9;have H':=aM H;clear H;obtain⟨r5,r6,r7,r8,r9⟩:=aI (Kd.R_reads' m4.out).2.2 m2;cases r6;obtain⟨t6,t7,t8,z1,z2⟩:=aI d8.out m2;cases t7
          replace t8:=hB HB t8;have D1:0≤(m2:Int):=oE aS
          have D2:(m2:Int) < ((l9.length:Int):Int):=oE aS
          obtain⟨D3,D4,D5,D6,D7,D8,D9⟩:=Kd.R_form m4.out (by omega)
          (first|cases D5|(injection D5 with ea_ en_ ec_;(first|subst ea_|(injection ea_ with ea_;subst ea_));subst ec_;clear en_))
          have E0:=aM D6;have E1:=aM D9;clear D6 D7 D9;(first|simp only[add_plain] at r7|skip)
          obtain⟨E2,E3⟩:=Kd.R_celln 0 m4.out (m2:Int) D1 D2;replace D1:=eq_true D1;replace D2:=eq_true D2;have E4:=Kd.R_putg m4.out (m2:Int) (wrap64 ((wrap64 ((rd l9 m2) - m0)) - (rd l1 m2)));go_wp2_with (first|((with_reducible refine gate_store (t:=3) (p:=54) rfl ?_);refine store_event (t:=3) (p:=54) (v:=?vo_w23) (w1:=(wr.setCell ⟨D3,(m2:Int).toNat,none⟩ (.int .i64 (wrap64 ((wrap64 ((rd l9 m2) - m0)) - (rd l1 m2)))))) ?hg ?ho ?hn ?hr ?_;(case ho=>rfl);(case hg=>rfl);(case hn=>rfl);(case hr=>first|(go_simp;done)|(go_simp;rfl));intro E5 hw;have hg:wr.grownBy E5 (some D3):=(by rw[hw];exact E4.2);have hp_:Kd.R (Kd.int .i64) 3 E5 w.heap.size (fun _=>True) (.slice (some ⟨D3,0,none⟩) l9.length l6) C8:=(by rw[hw,D0.out];exact E4.1);clear E4;replace m4:=aM (hp_);replace HB:=aM ((by rw[hw];exact below_set (HB.out) E0.out:Below w.heap.size w E5));clear hg hw hp_))
          (try simp only[← m5])
          go_roundg k2
          case measure=>have:=g4.out;have:=m3.out;omega
          case rel=>exact⟨(C8),(0),(wrap64 (m2+1)),sD,sD,H',⟨by have:=g4.out;have:=m3.out;omega⟩,⟨by(try simp only[m5]);(with_reducible repeat(first|apply Kd.R_alloc|apply Kd.R_drewN|apply Kd.R_drew));exact m4.out⟩,⟨pB⟩⟩
        ·rw[if_neg n8] at H;have n9:decide (m2 < (l1.length:Int))=false:=decide_eq_false n8;have o0:=n9;(try simp only[m5] at o0)
         clear n8;by_cases E6:(wrap64 ((rd l9 m2) - m0)) < 0
         ·rw[if_pos E6] at H;have E7:decide ((wrap64 ((rd l9 m2) - m0)) < 0)=true:=dE E6;have E8:decide ((IntKind.i64.wrap ((rd l9 m2) - m0)) < 0)=true:=by have h_:=E7;first|exact h_|(simp only[i64_w];exact h_)
          clear E6;obtain⟨E9,F0⟩:∃ y_:List Int,y_=(l9.set (m2:Int).toNat (wrap64 ((wrap64 ((rd l9 m2) - m0))+1000000000))):=⟨_,rfl⟩;replace H:(Czk.l0 k2 l1 E9 1 (g9.length:Int) (wrap64 (m2+1)))=some (b5,b6):=yE F0 H
          have F1:=aM F0;clear F0;have H':=aM H;clear H;obtain⟨r5,r6,r7,r8,r9⟩:=aI (Kd.R_reads' m4.out).2.2 m2;cases r6;have F2:0≤(m2:Int):=oE aS
          have F3:(m2:Int) < ((l9.length:Int):Int):=oE aS
          obtain⟨F4,F5,F6,F7,F8,F9,G0⟩:=Kd.R_form m4.out (by omega)
          (first|cases F6|(injection F6 with ea_ en_ ec_;(first|subst ea_|(injection ea_ with ea_;subst ea_));subst ec_;clear en_))
          have G4:=aM F7;have G5:=aM G0;clear F7 F8 G0;(first|simp only[add_plain] at r7|skip)
          obtain⟨G6,G7⟩:=Kd.R_celln 0 m4.out (m2:Int) F2 F3;replace F2:=eq_true F2;replace F3:=eq_true F3;have G8:=Kd.R_putg m4.out (m2:Int) (wrap64 ((wrap64 ((rd l9 m2) - m0))+1000000000));go_wp2_with (first|((with_reducible refine gate_store (t:=3) (p:=54) rfl ?_);refine store_event (t:=3) (p:=54) (v:=?vo_w27) (w1:=(wr.setCell ⟨F4,(m2:Int).toNat,none⟩ (.int .i64 (wrap64 ((wrap64 ((rd l9 m2) - m0))+1000000000))))) ?hg ?ho ?hn ?hr ?_;(case ho=>rfl);(case hg=>rfl);(case hn=>rfl);(case hr=>first|(go_simp;done)|(go_simp;rfl));intro G9 hw;have hg:wr.grownBy G9 (some F4):=(by rw[hw];exact G8.2);have hp_:Kd.R (Kd.int .i64) 3 G9 w.heap.size (fun _=>True) (.slice (some ⟨F4,0,none⟩) l9.length l6) E9:=(by rw[hw,F1.out];exact G8.1);clear G8;replace m4:=aM (hp_);replace HB:=aM ((by rw[hw];exact below_set (HB.out) G4.out:Below w.heap.size w G9));clear hg hw hp_))
          (try simp only[← m5])
          go_roundg k2
          case measure=>have:=g4.out;have:=m3.out;omega
          case rel=>exact⟨(E9),(1),(wrap64 (m2+1)),sD,sD,H',⟨by have:=g4.out;have:=m3.out;omega⟩,⟨by(try simp only[m5]);(with_reducible repeat(first|apply Kd.R_alloc|apply Kd.R_drewN|apply Kd.R_drew));exact m4.out⟩,⟨pB⟩⟩
         ·rw[if_neg E6] at H;have E7:decide ((wrap64 ((rd l9 m2) - m0)) < 0)=false:=decide_eq_false E6;have E8:decide ((IntKind.i64.wrap ((rd l9 m2) - m0)) < 0)=false:=by have h_:=E7;first|exact h_|(simp only[i64_w];exact h_)
          clear E6;obtain⟨H5,H6⟩:∃ y_:List Int,y_=(l9.set (m2:Int).toNat (wrap64 ((rd l9 m2) - m0))):=⟨_,rfl⟩;replace H:(Czk.l0 k2 l1 H5 0 (g9.length:Int) (wrap64 (m2+1)))=some (b5,b6):=yE H6 H
          have H7:=aM H6;clear H6;have H':=aM H;clear H;obtain⟨r5,r6,r7,r8,r9⟩:=aI (Kd.R_reads' m4.out).2.2 m2;cases r6;have H8:0≤(m2:Int):=oE aS
          have H9:(m2:Int) < ((l9.length:Int):Int):=oE aS
          obtain⟨I0,I1,I2,I3,I4,I5,I6⟩:=Kd.R_form m4.out (by omega)
          (first|cases I2|(injection I2 with ea_ en_ ec_;(first|subst ea_|(injection ea_ with ea_;subst ea_));subst ec_;clear en_))
          have I7:=aM I3;have I8:=aM I6;clear I3 I4 I6;(first|simp only[add_plain] at r7|skip)
          obtain⟨I9,J0⟩:=Kd.R_celln 0 m4.out (m2:Int) H8 H9;replace H8:=eq_true H8;replace H9:=eq_true H9;have J1:=Kd.R_putg m4.out (m2:Int) (wrap64 ((rd l9 m2) - m0));go_wp2_with (first|((with_reducible refine gate_store (t:=3) (p:=54) rfl ?_);refine store_event (t:=3) (p:=54) (v:=?vo_w30) (w1:=(wr.setCell ⟨I0,(m2:Int).toNat,none⟩ (.int .i64 (wrap64 ((rd l9 m2) - m0))))) ?hg ?ho ?hn ?hr ?_;(case ho=>rfl);(case hg=>rfl);(case hn=>rfl);(case hr=>first|(go_simp;done)|(go_simp;rfl));intro J2 hw;have hg:wr.grownBy J2 (some I0):=(by rw[hw];exact J1.2);have hp_:Kd.R (Kd.int .i64) 3 J2 w.heap.size (fun _=>True) (.slice (some ⟨I0,0,none⟩) l9.length l6) H5:=(by rw[hw,H7.out];exact J1.1);clear J1;replace m4:=aM (hp_);replace HB:=aM ((by rw[hw];exact below_set (HB.out) I7.out:Below w.heap.size w J2));clear hg hw hp_))
          (try simp only[← m5])
          go_roundg k2
          case measure=>have:=g4.out;have:=m3.out;omega
          case rel=>exact⟨(H5),(0),(wrap64 (m2+1)),sD,sD,H',⟨by have:=g4.out;have:=m3.out;omega⟩,⟨by(try simp only[m5]);(with_reducible repeat(first|apply Kd.R_alloc|apply Kd.R_drewN|apply Kd.R_drew));exact m4.out⟩,⟨pB⟩⟩
       ·rw[if_neg m6] at H;have m7:decide (m2 < (g9.length:Int))=false:=decide_eq_false m6;have m8:=m7;(try simp only[m5] at m8)
        clear m6;replace H:=bS H;obtain⟨J3,J4,H⟩:=H;replace H:(some (J3,0))=some (b5,b6):=H;have J5:=aM J4;clear J4;obtain⟨rfl,rfl⟩:=q2 H;go_wp2_with (first|((with_reducible refine gc 72 rfl ?_);refine gC 72 (some 57) Try.func72 #[.slice l5 l9.length l6] ?_;(with_reducible refine(Azp.calls k2 (fun k_=>some k_=(.slice l5 l9.length l6:Value).ownBlock) (.slice l5 l9.length l6) l9 J3 w _ ?_ ?_ J5.out).mono ?_);exact pB;exact Kd.R_tight rfl m4.out;rintro e J6 ⟨J7,rfl,j8,hb,hkp⟩;refine⟨_,rfl,?_⟩;have J8:=aM (Kd.R_mono (ok':=fun k_=>True) j8 (fun k_ hk_=>trivial));replace HB:=aM (hb);clear m4;clear hb hkp j8))
        go_ret2
        exact⟨_,eW,rX J8.out,pB⟩



end Go.Proofs.Ytokkiljkgejnhaa.Print
