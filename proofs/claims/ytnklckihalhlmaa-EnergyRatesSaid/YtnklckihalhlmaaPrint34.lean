import Derived.Test.YtnklckihalhlmaaPrint0
import Derived.Test.YtnklckihalhlmaaPrint32
namespace Go.Proofs.Ytnklckihalhlmaa.Print
open Go.RowKit Go.Proofs.YtnklckihalhlmaaW.PrintWords Go.Proofs.YtnklckihalhlmaaW.PrintLast Go.Proofs.YtnklckihalhlmaaW.PrintMore
attribute [local go_sem] max2_int min2_int max_two min_two max_three min_three max_four min_four
set_option linter.unusedVariables false
set_option maxRecDepth 100000
set_option maxHeartbeats 8000000
set_option linter.unusedSimpArgs false

mutual
def Azk.l0:Nat→List Int→List Int→List Int→Int→Option (List Int)
 | 0,_,_,_,_=>none
 | k+1,x0,x1,x5,x6=>if x6 < (x0.length:Int) then(Azk.l1 k x0 x1 x5 x6 0 0) else(Azk.l2 k x5 (x5.length:Int))
def Azk.l1:Nat→List Int→List Int→List Int→Int→Int→Int→Option (List Int)
 | 0,_,_,_,_,_,_=>none
 | k+1,x0,x1,x5,x6,x7,x8=>if x8 < (x1.length:Int) then(if 0≤(wrap64 (x6+x8)) then(if(wrap64 (x6+x8)) < (x5.length:Int) then(if 0≤x6 then(if x6 < (x0.length:Int) then((Ezk.f x1 x8).bind fun t470=>(Azk.l1 k x0 x1 (x5.set ((wrap64 (x6+x8)):Int).toNat (Int.tmod (wrap64 ((wrap64 ((rd x5 (wrap64 (x6+x8)))+(wrap64 ((rd x0 x6) * t470))))+x7)) 1000000000)) x6 (wrap64 (Int.tdiv (wrap64 ((wrap64 ((rd x5 (wrap64 (x6+x8)))+(wrap64 ((rd x0 x6) * t470))))+x7)) 1000000000)) (wrap64 (x8+1)))) else(none)) else(none)) else(none)) else(none)) else(if x7 > 0 then(if 0≤(wrap64 (x6+x8)) then(if(wrap64 (x6+x8)) < (x5.length:Int) then(if 0≤x6 then(if x6 < (x0.length:Int) then((Ezk.f x1 x8).bind fun t474=>(Azk.l1 k x0 x1 (x5.set ((wrap64 (x6+x8)):Int).toNat (Int.tmod (wrap64 ((wrap64 ((rd x5 (wrap64 (x6+x8)))+(wrap64 ((rd x0 x6) * t474))))+x7)) 1000000000)) x6 (wrap64 (Int.tdiv (wrap64 ((wrap64 ((rd x5 (wrap64 (x6+x8)))+(wrap64 ((rd x0 x6) * t474))))+x7)) 1000000000)) (wrap64 (x8+1)))) else(none)) else(none)) else(none)) else(none)) else(Azk.l0 k x0 x1 x5 (wrap64 (x6+1))))
def Azk.l2:Nat→List Int→Int→Option (List Int)
 | 0,_,_=>none
 | k+1,x5,x10=>if x10 > 0 then(if 0≤(wrap64 (x10 - 1)) then(if(wrap64 (x10 - 1)) < (x5.length:Int) then(if(rd x5 (wrap64 (x10 - 1)))=0 then(Azk.l2 k x5 (wrap64 (x10 - 1))) else(if 0≤x10 then(if x10≤(x5.length:Int) then(some (x5.take (x10:Int).toNat)) else(none)) else(none))) else(none)) else(none)) else(if 0≤x10 then(if x10≤(x5.length:Int) then(some (x5.take (x10:Int).toNat)) else(none)) else(none))
end
def Azk.f (k:Nat) (l0:List Int) (l1:List Int):Option (List Int):=if 0≤(wrap64 ((l0.length:Int)+(l1.length:Int))) then(if(wrap64 ((l0.length:Int)+(l1.length:Int)):Int).toNat≤35184372088832 then(Azk.l0 k l0 l1 (List.replicate (wrap64 ((l0.length:Int)+(l1.length:Int)):Int).toNat 0) 0) else(none)) else(none)
theorem Azk.mono_l:∀ k,(∀ y0 y1 y2 y3,LeO (Azk.l0 k y0 y1 y2 y3) (Azk.l0 (k+1) y0 y1 y2 y3))∧(∀ y0 y1 y2 y3 y4 y5,LeO (Azk.l1 k y0 y1 y2 y3 y4 y5) (Azk.l1 (k+1) y0 y1 y2 y3 y4 y5))∧(∀ y0 y1,LeO (Azk.l2 k y0 y1) (Azk.l2 (k+1) y0 y1))
 | 0=>⟨fun _ _ _ _ r h=>by simp [Azk.l0] at h,fun _ _ _ _ _ _ r h=>by simp [Azk.l1] at h,fun _ _ r h=>by simp [Azk.l2] at h⟩
 | k+1=>by
  obtain⟨ih0,ih1,ih2⟩:=Azk.mono_l k;refine⟨?_,?_,?_⟩
  ·intro y0 y1 y2 y3;unfold Azk.l0;exact mM
  ·intro y0 y1 y2 y3 y4 y5;unfold Azk.l1;exact mM
  ·intro y0 y1;unfold Azk.l2;exact mM
theorem Azk.mono:∀ a0 a1 k,LeO (Azk.f k a0 a1) (Azk.f (k+1) a0 a1):=by
 intro a0 a1 k;obtain⟨ih0,ih1,ih2⟩:=Azk.mono_l k;unfold Azk.f;exact mM
theorem Azk.calls (k:Nat) (A0:Option Addr) (c0:Nat) (l0:List Int) (A1:Option Addr) (c1:Nat) (l1:List Int) (r:List Int) (w:World) (hr0:Kd.C (Kd.int .i64) w A0 l0.length l0) (hc0:l0.length≤c0) (hr1:Kd.C (Kd.int .i64) w A1 l1.length l1) (hc1:l1.length≤c1) (h:Azk.f k l0 l1=some r) :
  Calls Try.prog 66 #[.slice A0 l0.length c0,.slice A1 l1.length c1] w fun e w'=>∃ v0_:Value,e=.returned (v0_)∧Kd.R (Kd.int .i64) 3 w' w.heap.size (fun _=>True) v0_ r∧Below w.heap.size w w':=by
 have HR0:=aM hr0;have HC0:=aM hc0;clear hr0 hc0;have HR1:=aM hr1;have HC1:=aM hc1;clear hr1 hc1;have HB:=aM (Below.refl w.heap.size w);have H:(if 0≤(wrap64 ((l0.length:Int)+(l1.length:Int))) then(if(wrap64 ((l0.length:Int)+(l1.length:Int)):Int).toNat≤35184372088832 then(Azk.l0 k l0 l1 (List.replicate (wrap64 ((l0.length:Int)+(l1.length:Int)):Int).toNat 0) 0) else(none)) else(none))=some r:=h
 clear h;obtain⟨ji3,hji3⟩:∃ j_:Int,(wrap64 ((l0.length:Int)+(l1.length:Int)))=j_:=⟨_,rfl⟩;replace H:(if 0≤(ji3) then(if(ji3:Int).toNat≤35184372088832 then(Azk.l0 k l0 l1 (List.replicate (ji3:Int).toNat 0) 0) else(none)) else(none))=some r:=by first|(rw[hji3] at H;exact H)|(simp only[hji3] at H ⊢;exact H)
 have hji3w:(IntKind.i64.wrap ((l0.length:Int)+(l1.length:Int)))=ji3:=(i64_w _).trans hji3;(try rw[hji3] at hji8)
 (try rw[hji3] at hji8w)
 by_cases c4:0≤(ji3)
 ·rw[if_pos c4] at H;have c4b0:=eq_true c4;have c4b1:=dE c4;clear c4;obtain⟨c5,H⟩:=iO H;have c5b0:=eq_true c5;have c5b1:decide ((ji3:Int).toNat≤35184372088832)=true:=dE c5;clear c5;obtain⟨y465,hy465⟩:∃ y_:List Int,y_=(List.replicate (ji3:Int).toNat 0):=⟨_,rfl⟩;replace H:(Azk.l0 k l0 l1 y465 0)=some r:=yE hy465 H
  have Ny465:=aM hy465;clear hy465;have H':=aM H;clear H;go_enter Try.func66,Try.ntmps66
  have fl_:True:=trivial;repeat((first|clear fl_|go_quiet (first|((with_reducible refine gate_dst (N:=16) rfl ?_);refine Kd.R_make (Kd.int .i64) _ 3 rfl (N:=16) rfl 37 _ _ rfl ji3 rfl rfl Try.underlying37 (.int .i64 0) 8 info3 rfl (by decide) (by omega) 0 (ok:=fun _=>True) (okp:=fun _=>True) rfl (fun _ hk=>hk) trivial (oE aS) (Nat.le_trans (Nat.mul_le_mul_right _ (oE aS:ji3.toNat≤35184372088832)) (by omega)) (Below.refl _ _) (Nat.le_refl _) ?_;intro v466 w6 ho7 hb hg_ hnew_;clear hg_ hnew_;replace ho7:=rY Ny465 ho7;have HO467:=rL ho7;replace HB:=bB hb;clear hb ho7)));go_wp2_with (first|((with_reducible refine gate_dst (N:=16) rfl ?_);refine Kd.R_make (Kd.int .i64) _ 3 rfl (N:=16) rfl 37 _ _ rfl ji3 rfl rfl Try.underlying37 (.int .i64 0) 8 info3 rfl (by decide) (by omega) 0 (ok:=fun _=>True) (okp:=fun _=>True) rfl (fun _ hk=>hk) trivial (oE aS) (Nat.le_trans (Nat.mul_le_mul_right _ (oE aS:ji3.toNat≤35184372088832)) (by omega)) (Below.refl _ _) (Nat.le_refl _) ?_;intro v466 w6 ho7 hb hg_ hnew_;clear hg_ hnew_;replace ho7:=rY Ny465 ho7;have HO467:=rL ho7;replace HB:=bB hb;clear hb ho7)))
  go_loopg [6] k (fun kq v6 w'=>∃ (x5_1:List Int) (x6_1:Int),v6=.int .i64 x6_1∧Aside0 (Azk.l0 kq l0 l1 x5_1 x6_1=some r)∧Aside0 (kq≤k)∧Aside0 (Kd.R (Kd.int .i64) 3 w' w.heap.size (fun _=>True) v466 x5_1)∧Aside0 (Below w.heap.size w w'))
  case atStart=>exact⟨(y465),(0),sD,H',⟨Nat.le_refl _⟩,⟨rX HO467.out⟩,⟨pB⟩⟩
  case round =>
   clear H';try clear c1
   try clear p2
   try clear c4
   try clear c4b0
   try clear c4b1
   try clear c5
   try clear c5b0
   try clear c5b1
   try clear c6
   try clear p6
   obtain⟨x5_1,x6_1,rfl,HA,HK1,HO_5,HB⟩:=hrel;cases gk with
   | zero=>exact absurd HA.out (by simp [Azk.l0])
   | succ k1 =>
    have H:=HA.out;clear HA;simp only[Azk.l0] at H;by_cases c8:x6_1 < (l0.length:Int)
    ·rw[if_pos c8] at H;have c8b0:=dE c8;clear c8;have H':=aM H;clear H;go_wp2
     repeat(go_quiet (fail);try go_wp2)
     go_loopg [7,8] k1 (fun kq v7 v8 w'=>∃ (x5_2:List Int) (x7_2:Int) (x8_2:Int),v7=.int .i64 x7_2∧v8=.int .i64 x8_2∧Aside0 (Azk.l1 kq l0 l1 x5_2 x6_1 x7_2 x8_2=some r)∧Aside0 (kq≤k1)∧Aside0 (Kd.R (Kd.int .i64) 3 w' w.heap.size (fun _=>True) v466 x5_2)∧Aside0 (Below w.heap.size w w'))
     case atStart=>exact⟨(x5_1),(0),(0),sD,sD,H',⟨Nat.le_refl _⟩,⟨rX HO_5.out⟩,⟨pB⟩⟩
     case round =>
      clear H';try clear c1
      try clear p2
      try clear c4
      try clear c4b0
      try clear c4b1
      try clear c5
      try clear c5b0
      try clear c5b1
      try clear c6
      try clear p6
      try clear c8
      try clear c8b0
      try clear p2
      try clear p6
      obtain⟨x5_2,x7_2,x8_2,rfl,rfl,HA,HK2,HO_5,HB⟩:=hrel;cases gk with
      | zero=>exact absurd HA.out (by simp [Azk.l1])
      | succ k2 =>
       have H:=HA.out;clear HA;simp only[Azk.l1] at H;by_cases c9:x8_2 < (l1.length:Int)
       ·rw[if_pos c9] at H;have c9b0:=dE c9;clear c9;obtain⟨ji10,hji10⟩:∃ j_:Int,(wrap64 (x6_1+x8_2))=j_:=⟨_,rfl⟩;replace H:(if 0≤(ji10) then(if(ji10) < (x5_2.length:Int) then(if 0≤x6_1 then(if x6_1 < (l0.length:Int) then((Ezk.f l1 x8_2).bind fun t470=>(Azk.l1 k2 l0 l1 (x5_2.set ((ji10):Int).toNat (Int.tmod (wrap64 ((wrap64 ((rd x5_2 (ji10))+(wrap64 ((rd l0 x6_1) * t470))))+x7_2)) 1000000000)) x6_1 (wrap64 (Int.tdiv (wrap64 ((wrap64 ((rd x5_2 (ji10))+(wrap64 ((rd l0 x6_1) * t470))))+x7_2)) 1000000000)) (wrap64 (x8_2+1)))) else(none)) else(none)) else(none)) else(none))=some r:=by first|(rw[hji10] at H;exact H)|(simp only[hji10] at H ⊢;exact H)
        have hji10w:(IntKind.i64.wrap (x6_1+x8_2))=ji10:=(i64_w _).trans hji10;obtain⟨c11b0,H⟩:=iN H;obtain⟨c12b0,H⟩:=iN H;obtain⟨c13b0,H⟩:=iN H;obtain⟨c14b0,H⟩:=iN H;obtain⟨t470,A15,H⟩:=bT H;(try dsimp only at H);obtain⟨y471,hy471⟩:∃ y_:List Int,y_=(x5_2.set ((ji10):Int).toNat (Int.tmod (wrap64 ((wrap64 ((rd x5_2 (ji10))+(wrap64 ((rd l0 x6_1) * t470))))+x7_2)) 1000000000)):=⟨_,rfl⟩;replace H:(Azk.l1 k2 l0 l1 y471 x6_1 (wrap64 (Int.tdiv (wrap64 ((wrap64 ((rd x5_2 (ji10))+(wrap64 ((rd l0 x6_1) * t470))))+x7_2)) 1000000000)) (wrap64 (x8_2+1)))=some r:=yE hy471 H
        have Ny471:=aM hy471;clear hy471;have H':=aM H;clear H;obtain⟨Ao17,co17,rfl⟩:=Kd.R_slice HO_5.out;obtain⟨ad468,e468,hx468_0,p468,q468⟩:=aI (Kd.R_reads' HO_5.out).2.2 (ji10);cases e468;obtain⟨ad469,e469,hx469_0,p469,q469⟩:=aI HR0.out x6_1;cases e469
        replace hx469_0:=hB HB hx469_0;have fl_:True:=trivial;repeat((first|clear fl_|go_quiet (first|(go_at_call 85;(with_reducible refine(Ezk.calls _ _ l1 x8_2 t470 _ ?side1 ?side2 A15.out).mono ?_);(case side1=>exact cB HR1);(case side2=>exact HC1.out);rintro e w' ⟨rfl,⟨nd,rfl⟩⟩;(try exact dD);have p16:0≤((ji10):Int):=oE aS;have q16:((ji10):Int) < ((x5_2.length:Int):Int):=oE aS;obtain⟨go16,co16,eo16,gb16,gl16,cl16,HG16⟩:=Kd.R_form HO_5.out (by omega);(first|cases eo16|(injection eo16 with ea_ en_ ec_;(first|subst ea_|(injection ea_ with ea_;subst ea_));subst ec_;clear en_));have GB16:=aM gb16;have GG16:=aM HG16;clear gb16 gl16 HG16;(first|simp only[add_plain] at hx468_0|skip);obtain⟨hx16_0,hf16_0⟩:=Kd.R_celln 0 HO_5.out ((ji10):Int) p16 q16;replace p16:=eq_true p16;replace q16:=eq_true q16;obtain⟨hy18_,hz18_⟩:=Kd.R_celln 0 HO_5.out ((ji10):Int) (oE aS) (oE aS);have HP18:=Kd.R_putg HO_5.out ((ji10):Int) (Int.tmod (wrap64 ((wrap64 ((rd x5_2 (ji10))+(wrap64 ((rd l0 x6_1) * t470))))+x7_2)) 1000000000))|((with_reducible refine gate_store (t:=3) (p:=56) rfl ?_);(try(rw[drewN_self wr];generalize hq_:World.drewN wr _=wr;have n0_:=aM (Kd.R_at hq_ HO_5.out);have n1_:=aM (below_at hq_ HB.out);clear hq_ HO_5 HB;have HO_5:=n0_;have HB:=n1_;clear n0_ n1_;(try(obtain⟨hy18_,hz18_⟩:=Kd.R_celln 0 HO_5.out ((ji10):Int) (oE aS) (oE aS)));(try(have HP18:=Kd.R_putg HO_5.out ((ji10):Int) (Int.tmod (wrap64 ((wrap64 ((rd x5_2 (ji10))+(wrap64 ((rd l0 x6_1) * t470))))+x7_2)) 1000000000)))));refine store_event (t:=3) (p:=56) (v:=?vo_w19) (w1:=(wr.setCell ⟨go16,((ji10):Int).toNat,none⟩ (.int .i64 (Int.tmod (wrap64 ((wrap64 ((rd x5_2 (ji10))+(wrap64 ((rd l0 x6_1) * t470))))+x7_2)) 1000000000)))) ?hg ?ho ?hn ?hr ?_;(case ho=>rfl);(case hg=>rfl);(case hn=>rfl);(case hr=>first|(go_simp;done)|(go_simp;rfl));intro w19 hw;have hg:wr.grownBy w19 (some go16):=(by rw[hw];exact HP18.2);have hp_:Kd.R (Kd.int .i64) 3 w19 w.heap.size (fun _=>True) (.slice (some ⟨go16,0,none⟩) x5_2.length co17) y471:=(by rw[hw,Ny471.out];exact HP18.1);clear HP18;replace HO_5:=aM (hp_);replace HB:=aM ((by rw[hw];exact below_set (HB.out) GB16.out:Below w.heap.size w w19));clear hg hw hp_)));go_wp2_with (first|(go_at_call 85;(with_reducible refine(Ezk.calls _ _ l1 x8_2 t470 _ ?side1 ?side2 A15.out).mono ?_);(case side1=>exact cB HR1);(case side2=>exact HC1.out);rintro e w' ⟨rfl,⟨nd,rfl⟩⟩;(try exact dD);have p16:0≤((ji10):Int):=oE aS;have q16:((ji10):Int) < ((x5_2.length:Int):Int):=oE aS;obtain⟨go16,co16,eo16,gb16,gl16,cl16,HG16⟩:=Kd.R_form HO_5.out (by omega);(first|cases eo16|(injection eo16 with ea_ en_ ec_;(first|subst ea_|(injection ea_ with ea_;subst ea_));subst ec_;clear en_));have GB16:=aM gb16;have GG16:=aM HG16;clear gb16 gl16 HG16;(first|simp only[add_plain] at hx468_0|skip);obtain⟨hx16_0,hf16_0⟩:=Kd.R_celln 0 HO_5.out ((ji10):Int) p16 q16;replace p16:=eq_true p16;replace q16:=eq_true q16;obtain⟨hy18_,hz18_⟩:=Kd.R_celln 0 HO_5.out ((ji10):Int) (oE aS) (oE aS);have HP18:=Kd.R_putg HO_5.out ((ji10):Int) (Int.tmod (wrap64 ((wrap64 ((rd x5_2 (ji10))+(wrap64 ((rd l0 x6_1) * t470))))+x7_2)) 1000000000))|((with_reducible refine gate_store (t:=3) (p:=56) rfl ?_);(try(rw[drewN_self wr];generalize hq_:World.drewN wr _=wr;have n0_:=aM (Kd.R_at hq_ HO_5.out);have n1_:=aM (below_at hq_ HB.out);clear hq_ HO_5 HB;have HO_5:=n0_;have HB:=n1_;clear n0_ n1_;(try(obtain⟨hy18_,hz18_⟩:=Kd.R_celln 0 HO_5.out ((ji10):Int) (oE aS) (oE aS)));(try(have HP18:=Kd.R_putg HO_5.out ((ji10):Int) (Int.tmod (wrap64 ((wrap64 ((rd x5_2 (ji10))+(wrap64 ((rd l0 x6_1) * t470))))+x7_2)) 1000000000)))));refine store_event (t:=3) (p:=56) (v:=?vo_w19) (w1:=(wr.setCell ⟨go16,((ji10):Int).toNat,none⟩ (.int .i64 (Int.tmod (wrap64 ((wrap64 ((rd x5_2 (ji10))+(wrap64 ((rd l0 x6_1) * t470))))+x7_2)) 1000000000)))) ?hg ?ho ?hn ?hr ?_;(case ho=>rfl);(case hg=>rfl);(case hn=>rfl);(case hr=>first|(go_simp;done)|(go_simp;rfl));intro w19 hw;have hg:wr.grownBy w19 (some go16):=(by rw[hw];exact HP18.2);have hp_:Kd.R (Kd.int .i64) 3 w19 w.heap.size (fun _=>True) (.slice (some ⟨go16,0,none⟩) x5_2.length co17) y471:=(by rw[hw,Ny471.out];exact HP18.1);clear HP18;replace HO_5:=aM (hp_);replace HB:=aM ((by rw[hw];exact below_set (HB.out) GB16.out:Below w.heap.size w w19));clear hg hw hp_)))
        go_roundg k2
        case measure=>have:=HK1.out;have:=HK2.out;omega
        case rel=>exact⟨(y471),(wrap64 (Int.tdiv (wrap64 ((wrap64 ((rd x5_2 (ji10))+(wrap64 ((rd l0 x6_1) * t470))))+x7_2)) 1000000000)),(wrap64 (x8_2+1)),(by first|rfl|(simp;done)|(simp only[← hji10] <;> (first|rfl|simp))|(simp [*];done)),sD,H',⟨by have:=HK1.out;have:=HK2.out;omega⟩,⟨rX HO_5.out⟩,⟨pB⟩⟩
       ·rw[if_neg c9] at H;have c9b0:decide (x8_2 < (l1.length:Int))=false:=decide_eq_false c9;clear c9;by_cases c20:x7_2 > 0
        ·rw[if_pos c20] at H;have c20b0:decide (0 < x7_2)=true:=dE c20;clear c20;obtain⟨ji21,hji21⟩:∃ j_:Int,(wrap64 (x6_1+x8_2))=j_:=⟨_,rfl⟩;replace H:(if 0≤(ji21) then(if(ji21) < (x5_2.length:Int) then(if 0≤x6_1 then(if x6_1 < (l0.length:Int) then((Ezk.f l1 x8_2).bind fun t474=>(Azk.l1 k2 l0 l1 (x5_2.set ((ji21):Int).toNat (Int.tmod (wrap64 ((wrap64 ((rd x5_2 (ji21))+(wrap64 ((rd l0 x6_1) * t474))))+x7_2)) 1000000000)) x6_1 (wrap64 (Int.tdiv (wrap64 ((wrap64 ((rd x5_2 (ji21))+(wrap64 ((rd l0 x6_1) * t474))))+x7_2)) 1000000000)) (wrap64 (x8_2+1)))) else(none)) else(none)) else(none)) else(none))=some r:=by first|(rw[hji21] at H;exact H)|(simp only[hji21] at H ⊢;exact H)
         have hji21w:(IntKind.i64.wrap (x6_1+x8_2))=ji21:=(i64_w _).trans hji21;obtain⟨c22b0,H⟩:=iN H;obtain⟨c23b0,H⟩:=iN H;obtain⟨c24b0,H⟩:=iN H;obtain⟨c25b0,H⟩:=iN H;obtain⟨t474,A26,H⟩:=bT H;(try dsimp only at H);obtain⟨y475,hy475⟩:∃ y_:List Int,y_=(x5_2.set ((ji21):Int).toNat (Int.tmod (wrap64 ((wrap64 ((rd x5_2 (ji21))+(wrap64 ((rd l0 x6_1) * t474))))+x7_2)) 1000000000)):=⟨_,rfl⟩;replace H:(Azk.l1 k2 l0 l1 y475 x6_1 (wrap64 (Int.tdiv (wrap64 ((wrap64 ((rd x5_2 (ji21))+(wrap64 ((rd l0 x6_1) * t474))))+x7_2)) 1000000000)) (wrap64 (x8_2+1)))=some r:=yE hy475 H
         have Ny475:=aM hy475;clear hy475;have H':=aM H;clear H;obtain⟨Ao28,co28,rfl⟩:=Kd.R_slice HO_5.out;obtain⟨ad472,e472,hx472_0,p472,q472⟩:=aI (Kd.R_reads' HO_5.out).2.2 (ji21);cases e472;obtain⟨ad473,e473,hx473_0,p473,q473⟩:=aI HR0.out x6_1;cases e473
         replace hx473_0:=hB HB hx473_0;have fl_:True:=trivial;repeat((first|clear fl_|go_quiet (first|(go_at_call 85;(with_reducible refine(Ezk.calls _ _ l1 x8_2 t474 _ ?side1 ?side2 A26.out).mono ?_);(case side1=>exact cB HR1);(case side2=>exact HC1.out);rintro e w' ⟨rfl,⟨nd,rfl⟩⟩;(try exact dD);have p27:0≤((ji21):Int):=oE aS;have q27:((ji21):Int) < ((x5_2.length:Int):Int):=oE aS;obtain⟨go27,co27,eo27,gb27,gl27,cl27,HG27⟩:=Kd.R_form HO_5.out (by omega);(first|cases eo27|(injection eo27 with ea_ en_ ec_;(first|subst ea_|(injection ea_ with ea_;subst ea_));subst ec_;clear en_));have GB27:=aM gb27;have GG27:=aM HG27;clear gb27 gl27 HG27;(first|simp only[add_plain] at hx472_0|skip);obtain⟨hx27_0,hf27_0⟩:=Kd.R_celln 0 HO_5.out ((ji21):Int) p27 q27;replace p27:=eq_true p27;replace q27:=eq_true q27;obtain⟨hy29_,hz29_⟩:=Kd.R_celln 0 HO_5.out ((ji21):Int) (oE aS) (oE aS);have HP29:=Kd.R_putg HO_5.out ((ji21):Int) (Int.tmod (wrap64 ((wrap64 ((rd x5_2 (ji21))+(wrap64 ((rd l0 x6_1) * t474))))+x7_2)) 1000000000))|((with_reducible refine gate_store (t:=3) (p:=56) rfl ?_);(try(rw[drewN_self wr];generalize hq_:World.drewN wr _=wr;have n0_:=aM (Kd.R_at hq_ HO_5.out);have n1_:=aM (below_at hq_ HB.out);clear hq_ HO_5 HB;have HO_5:=n0_;have HB:=n1_;clear n0_ n1_;(try(obtain⟨hy29_,hz29_⟩:=Kd.R_celln 0 HO_5.out ((ji21):Int) (oE aS) (oE aS)));(try(have HP29:=Kd.R_putg HO_5.out ((ji21):Int) (Int.tmod (wrap64 ((wrap64 ((rd x5_2 (ji21))+(wrap64 ((rd l0 x6_1) * t474))))+x7_2)) 1000000000)))));refine store_event (t:=3) (p:=56) (v:=?vo_w30) (w1:=(wr.setCell ⟨go27,((ji21):Int).toNat,none⟩ (.int .i64 (Int.tmod (wrap64 ((wrap64 ((rd x5_2 (ji21))+(wrap64 ((rd l0 x6_1) * t474))))+x7_2)) 1000000000)))) ?hg ?ho ?hn ?hr ?_;(case ho=>rfl);(case hg=>rfl);(case hn=>rfl);(case hr=>first|(go_simp;done)|(go_simp;rfl));intro w30 hw;have hg:wr.grownBy w30 (some go27):=(by rw[hw];exact HP29.2);have hp_:Kd.R (Kd.int .i64) 3 w30 w.heap.size (fun _=>True) (.slice (some ⟨go27,0,none⟩) x5_2.length co28) y475:=(by rw[hw,Ny475.out];exact HP29.1);clear HP29;replace HO_5:=aM (hp_);replace HB:=aM ((by rw[hw];exact below_set (HB.out) GB27.out:Below w.heap.size w w30));clear hg hw hp_)));go_wp2_with (first|(go_at_call 85;(with_reducible refine(Ezk.calls _ _ l1 x8_2 t474 _ ?side1 ?side2 A26.out).mono ?_);(case side1=>exact cB HR1);(case side2=>exact HC1.out);rintro e w' ⟨rfl,⟨nd,rfl⟩⟩;(try exact dD);have p27:0≤((ji21):Int):=oE aS;have q27:((ji21):Int) < ((x5_2.length:Int):Int):=oE aS;obtain⟨go27,co27,eo27,gb27,gl27,cl27,HG27⟩:=Kd.R_form HO_5.out (by omega);(first|cases eo27|(injection eo27 with ea_ en_ ec_;(first|subst ea_|(injection ea_ with ea_;subst ea_));subst ec_;clear en_));have GB27:=aM gb27;have GG27:=aM HG27;clear gb27 gl27 HG27;(first|simp only[add_plain] at hx472_0|skip);obtain⟨hx27_0,hf27_0⟩:=Kd.R_celln 0 HO_5.out ((ji21):Int) p27 q27;replace p27:=eq_true p27;replace q27:=eq_true q27;obtain⟨hy29_,hz29_⟩:=Kd.R_celln 0 HO_5.out ((ji21):Int) (oE aS) (oE aS);have HP29:=Kd.R_putg HO_5.out ((ji21):Int) (Int.tmod (wrap64 ((wrap64 ((rd x5_2 (ji21))+(wrap64 ((rd l0 x6_1) * t474))))+x7_2)) 1000000000))|((with_reducible refine gate_store (t:=3) (p:=56) rfl ?_);(try(rw[drewN_self wr];generalize hq_:World.drewN wr _=wr;have n0_:=aM (Kd.R_at hq_ HO_5.out);have n1_:=aM (below_at hq_ HB.out);clear hq_ HO_5 HB;have HO_5:=n0_;have HB:=n1_;clear n0_ n1_;(try(obtain⟨hy29_,hz29_⟩:=Kd.R_celln 0 HO_5.out ((ji21):Int) (oE aS) (oE aS)));(try(have HP29:=Kd.R_putg HO_5.out ((ji21):Int) (Int.tmod (wrap64 ((wrap64 ((rd x5_2 (ji21))+(wrap64 ((rd l0 x6_1) * t474))))+x7_2)) 1000000000)))));refine store_event (t:=3) (p:=56) (v:=?vo_w30) (w1:=(wr.setCell ⟨go27,((ji21):Int).toNat,none⟩ (.int .i64 (Int.tmod (wrap64 ((wrap64 ((rd x5_2 (ji21))+(wrap64 ((rd l0 x6_1) * t474))))+x7_2)) 1000000000)))) ?hg ?ho ?hn ?hr ?_;(case ho=>rfl);(case hg=>rfl);(case hn=>rfl);(case hr=>first|(go_simp;done)|(go_simp;rfl));intro w30 hw;have hg:wr.grownBy w30 (some go27):=(by rw[hw];exact HP29.2);have hp_:Kd.R (Kd.int .i64) 3 w30 w.heap.size (fun _=>True) (.slice (some ⟨go27,0,none⟩) x5_2.length co28) y475:=(by rw[hw,Ny475.out];exact HP29.1);clear HP29;replace HO_5:=aM (hp_);replace HB:=aM ((by rw[hw];exact below_set (HB.out) GB27.out:Below w.heap.size w w30));clear hg hw hp_)))
         go_roundg k2
         case measure=>have:=HK1.out;have:=HK2.out;omega
         case rel=>exact⟨(y475),(wrap64 (Int.tdiv (wrap64 ((wrap64 ((rd x5_2 (ji21))+(wrap64 ((rd l0 x6_1) * t474))))+x7_2)) 1000000000)),(wrap64 (x8_2+1)),(by first|rfl|(simp;done)|(simp only[← hji21] <;> (first|rfl|simp))|(simp [*];done)),sD,H',⟨by have:=HK1.out;have:=HK2.out;omega⟩,⟨rX HO_5.out⟩,⟨pB⟩⟩
        ·rw[if_neg c20] at H;have c20b0:decide (0 < x7_2)=false:=decide_eq_false c20;clear c20;have H':=aM H;clear H;go_wp2
         repeat(go_quiet (fail);try go_wp2)
         go_roundg k2
         case measure=>have:=HK1.out;have:=HK2.out;omega
         case rel=>exact⟨(x5_2),(wrap64 (x6_1+1)),sD,H',⟨by have:=HK1.out;have:=HK2.out;omega⟩,⟨rX HO_5.out⟩,⟨pB⟩⟩
    ·rw[if_neg c8] at H;have c8b0:decide (x6_1 < (l0.length:Int))=false:=decide_eq_false c8;clear c8;have H':=aM H;clear H;obtain⟨Ao31,co31,rfl⟩:=Kd.R_slice HO_5.out;go_wp2
     repeat(go_quiet (fail);try go_wp2)
     go_loopg [10] k1 (fun kq v10 w'=>∃ (x10_2:Int),v10=.int .i64 x10_2∧Aside0 (Azk.l2 kq x5_1 x10_2=some r)∧Aside0 (kq≤k1)∧Aside0 (Kd.R (Kd.int .i64) 3 w' w.heap.size (fun _=>True) (.slice Ao31 x5_1.length co31) x5_1)∧Aside0 (Below w.heap.size w w'))
     case atStart=>exact⟨((x5_1.length:Int)),sD,H',⟨Nat.le_refl _⟩,⟨rX HO_5.out⟩,⟨pB⟩⟩
     case round =>
      clear H';try clear c1
      try clear p1
      try clear q1
      try clear hx1
      try clear c2
      try clear p2
      try clear q2
      try clear hx2
      try clear hf2
      try clear c4
      try clear c4b0
      try clear c4b1
      try clear p4
      try clear q4
      try clear hx4
      try clear c5
      try clear c5b0
      try clear c5b1
      try clear c6
      try clear p6
      try clear c8
      try clear c8b0
      try clear c9
      try clear c9b0
      try clear c11
      try clear c11b0
      try clear c12
      try clear c12b0
      try clear c13
      try clear c13b0
      try clear c14
      try clear c14b0
      try clear p16
      try clear q16
      try clear hx16
      try clear hf16
      try clear c20
      try clear c20b0
      try clear c22
      try clear c22b0
      try clear c23
      try clear c23b0
      try clear c24
      try clear c24b0
      try clear c25
      try clear c25b0
      try clear p27
      try clear q27
      try clear hx27
      try clear hf27
      try clear hx16_0
      try clear hx27_0
      try clear hx468_0
      try clear hx469_0
      try clear hx472_0
      try clear hx473_0
      try clear p16
      try clear p2
      try clear p27
      try clear p468
      try clear p469
      try clear p472
      try clear p473
      try clear p6
      try clear q16
      try clear q27
      try clear q468
      try clear q469
      try clear q472
      try clear q473
      obtain⟨x10_2,rfl,HA,HK2,HO_5,HB⟩:=hrel;cases gk with
      | zero=>exact absurd HA.out (by simp [Azk.l2])
      | succ k2 =>
       have H:=HA.out;clear HA;simp only[Azk.l2] at H;by_cases c32:x10_2 > 0
       ·rw[if_pos c32] at H;have c32b0:decide (0 < x10_2)=true:=dE c32;clear c32;obtain⟨ji33,hji33⟩:∃ j_:Int,(wrap64 (x10_2 - 1))=j_:=⟨_,rfl⟩;replace H:(if 0≤(ji33) then(if(ji33) < (x5_1.length:Int) then(if(rd x5_1 (ji33))=0 then(Azk.l2 k2 x5_1 ji33) else(if 0≤x10_2 then(if x10_2≤(x5_1.length:Int) then(some (x5_1.take (x10_2:Int).toNat)) else(none)) else(none))) else(none)) else(none))=some r:=by first|(rw[hji33] at H;exact H)|(simp only[hji33] at H ⊢;exact H)
        have hji33w:(IntKind.i64.wrap (x10_2 - 1))=ji33:=(i64_w _).trans hji33;obtain⟨c34b0,H⟩:=iN H;obtain⟨c35b0,H⟩:=iN H;by_cases c36:(rd x5_1 (ji33))=0
        ·rw[if_pos c36] at H;have c36b0:((rd x5_1 (ji33)) == 0)=true:=beq_iff_eq.mpr c36;have c36b1:((rd x5_1 (ji33)) != 0)=false:=bne_eq_false_iff_eq.mpr c36;clear c36;have H':=aM H;clear H;obtain⟨ad476,e476,hx476_0,p476,q476⟩:=aI (Kd.R_reads' HO_5.out).2.2 (ji33);cases e476;go_wp2
         repeat(go_quiet (fail);try go_wp2)
         go_roundg k2
         case measure=>have:=HK1.out;have:=HK2.out;omega
         case rel=>exact⟨(ji33),(by first|rfl|(simp;done)|(simp only[← hji33] <;> (first|rfl|simp))|(simp [*];done)),H',⟨by have:=HK1.out;have:=HK2.out;omega⟩,⟨rX HO_5.out⟩,⟨pB⟩⟩
        ·rw[if_neg c36] at H;have c36b0:((rd x5_1 (ji33)) == 0)=false:=beq_eq_false_iff_ne.mpr c36;have c36b1:((rd x5_1 (ji33)) != 0)=true:=bne_iff_ne.mpr c36;obtain⟨c37,H⟩:=iO H;have c37b0:=eq_true c37;have c37b1:decide (0≤x10_2)=true:=dE c37;clear c37;obtain⟨c38,H⟩:=iO H;have c38b0:=eq_true c38;have c38b1:decide (x10_2≤(x5_1.length:Int))=true:=dE c38;clear c38;obtain⟨y477,hy477⟩:∃ y_:List Int,y_=(x5_1.take (x10_2:Int).toNat):=⟨_,rfl⟩;replace H:(some y477)=some r:=yE hy477 H
         have Ny477:=aM hy477;clear hy477;obtain rfl:=Option.some.inj H;obtain⟨ad476,e476,hx476_0,p476,q476⟩:=aI (Kd.R_reads' HO_5.out).2.2 (ji33);cases e476;have q39:(x10_2:Int)≤((x5_1.length:Int):Int):=oE aS
         obtain⟨i039,hi039,_,hsz39,_⟩:=info_parts info3;have hcut39:=cut_to (P:=Try.prog) 37 3 .i64 Try.underlying37 hi039 (some ad476) x5_1.length co31 x10_2 (oE aS) q39 (Kd.R_reads' HO_5.out).2.1
         have hr39:=Kd.R_take (m:=(x10_2:Int).toNat) HO_5.out (by omega)
         have hy39:y477.length=(x10_2:Int).toNat:=(by rw[Ny477.out,List.length_take];omega)
         rw[← Ny477.out] at hr39;rw[← hy39] at hr39 hcut39;clear hy39 hi039 hsz39 HO_5;have HO479:=aM hr39;clear hr39;replace q39:=eq_true q39;go_wp2
         repeat(go_quiet (fail);try go_wp2)
         go_ret
         exact⟨_,by first|rfl|(simp [errW_none,errW_some] <;> rfl)|(simp only[← hji3,← hji33];first|rfl|(simp [errW_none,errW_some] <;> rfl))|(simp [*,errW_none,errW_some] <;> rfl),rX HO479.out,pB⟩
       ·rw[if_neg c32] at H;have c32b0:decide (0 < x10_2)=false:=decide_eq_false c32;clear c32;obtain⟨c40,H⟩:=iO H;have c40b0:=eq_true c40;have c40b1:decide (0≤x10_2)=true:=dE c40;clear c40;obtain⟨c41,H⟩:=iO H;have c41b0:=eq_true c41;have c41b1:decide (x10_2≤(x5_1.length:Int))=true:=dE c41;clear c41;obtain⟨y480,hy480⟩:∃ y_:List Int,y_=(x5_1.take (x10_2:Int).toNat):=⟨_,rfl⟩;replace H:(some y480)=some r:=yE hy480 H
        have Ny480:=aM hy480;clear hy480;obtain rfl:=Option.some.inj H;have q42:(x10_2:Int)≤((x5_1.length:Int):Int):=oE aS
        obtain⟨i042,hi042,_,hsz42,_⟩:=info_parts info3;have hcut42:=cut_to (P:=Try.prog) 37 3 .i64 Try.underlying37 hi042 Ao31 x5_1.length co31 x10_2 (oE aS) q42 (Kd.R_reads' HO_5.out).2.1
        have hr42:=Kd.R_take (m:=(x10_2:Int).toNat) HO_5.out (by omega)
        have hy42:y480.length=(x10_2:Int).toNat:=(by rw[Ny480.out,List.length_take];omega)
        rw[← Ny480.out] at hr42;rw[← hy42] at hr42 hcut42;clear hy42 hi042 hsz42 HO_5;have HO482:=aM hr42;clear hr42;replace q42:=eq_true q42;go_wp2
        repeat(go_quiet (fail);try go_wp2)
        go_ret
        exact⟨_,by first|rfl|(simp [errW_none,errW_some] <;> rfl)|(simp only[← hji3];first|rfl|(simp [errW_none,errW_some] <;> rfl))|(simp [*,errW_none,errW_some] <;> rfl),rX HO482.out,pB⟩
 ·rw[if_neg c4] at H;exact absurd H (by simp)

end Go.Proofs.Ytnklckihalhlmaa.Print
