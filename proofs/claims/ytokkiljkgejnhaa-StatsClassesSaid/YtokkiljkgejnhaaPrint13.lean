import Derived.Test.YtokkiljkgejnhaaPrint0
namespace Go.Proofs.Ytokkiljkgejnhaa.Print
open Go.RowKit Go.Proofs.YtokkiljkgejnhaaW.PrintWords Go.Proofs.YtokkiljkgejnhaaW.PrintLast Go.Proofs.YtokkiljkgejnhaaW.PrintMore
attribute [local go_sem] max2_int min2_int max_two min_two max_three min_three max_four min_four
set_option linter.unusedVariables false
set_option maxRecDepth 100000
set_option maxHeartbeats 8000000
set_option linter.unusedSimpArgs false

def Czp.l0:Nat→Int→List Int→Int→Int→Option (Int)
 | 0,_,_,_,_=>none
 | k+1,x3,x6,x7,x8=>if x8 < x7 then(if 0≤x8 then(if x8 < (x6.length:Int) then(Czp.l0 k (wrap64 (x3+(rd x6 x8))) x6 x7 (wrap64 (x8+1))) else(none)) else(none)) else(some x3)
def Czp.f (k:Nat) (l0:List Int):Option (Int):=Czp.l0 k 0 l0 (l0.length:Int) 0
theorem Czp.mono_l:∀ k,(∀ y0 y1 y2 y3,LeO (Czp.l0 k y0 y1 y2 y3) (Czp.l0 (k+1) y0 y1 y2 y3))
 | 0=>fun _ _ _ _ r h=>by simp [Czp.l0] at h
 | k+1=>by
  have ih0:=Czp.mono_l k
  ·intro y0 y1 y2 y3;unfold Czp.l0;with_reducible repeat' first|exact ih0 _ _ _ _|exact LeO.refl _|exact LeO.none _|refine LeO.ite ?_ ?_|refine LeO.bind ?_ (fun _=>?_)
theorem Czp.mono:∀ a0 k,LeO (Czp.f k a0) (Czp.f (k+1) a0):=by
 intro a0 k;have ih0:=Czp.mono_l k;unfold Czp.f;with_reducible repeat' first|exact ih0 _ _ _ _|exact LeO.refl _|exact LeO.none _|refine LeO.ite ?_ ?_|refine LeO.bind ?_ (fun _=>?_)
theorem Czp.calls (k:Nat) (A0:Option Addr) (c0:Nat) (l0:List Int) (r:Int) (w:World) (hr0:Kd.C (Kd.int .i64) w A0 l0.length l0) (hc0:l0.length≤c0) (h:Czp.f k l0=some r) :
  Calls Try.prog 37 #[.slice A0 l0.length c0] w fun e w'=>e=.returned (.int .i64 r)∧Drawn0 w w':=by
 have HR0:=aM hr0;have HC0:=aM hc0;clear hr0 hc0;have H:(Czp.l0 k 0 l0 (l0.length:Int) 0)=some r:=h;clear h;have H':=aM H;clear H;go_enter Try.func37,Try.ntmps37
 go_wp2
 go_loopg [3,8] k (fun kq v3 v8 w'=>∃ (x3_1:Int) (x8_1:Int),v3=.int .i64 x3_1∧v8=.int .i64 x8_1∧Aside0 (Czp.l0 kq x3_1 l0 (l0.length:Int) x8_1=some r)∧Aside0 (kq≤k)∧Drawn0 w w')
 case atStart=>exact⟨(0),(0),sD,sD,H',⟨Nat.le_refl _⟩,by repeat(first|exact Drawn0.refl _|apply Drawn0.step)⟩
 case round =>
  clear H';obtain⟨x3_1,x8_1,rfl,rfl,HA,HK1,⟨m1,rfl⟩⟩:=hrel;cases gk with
  | zero=>exact absurd HA.out (by simp [Czp.l0])
  | succ k1 =>
   have H:=HA.out;clear HA;simp only[Czp.l0] at H;by_cases c2:x8_1 < (l0.length:Int)
   ·rw[if_pos c2] at H;have c2b0:decide (x8_1 < (l0.length:Int))=true:=dE c2;clear c2;by_cases c3:0≤x8_1
    ·rw[if_pos c3] at H;have c3b0:decide (0≤x8_1)=true:=dE c3;clear c3;by_cases c4:x8_1 < (l0.length:Int)
     ·rw[if_pos c4] at H;have c4b0:decide (x8_1 < (l0.length:Int))=true:=dE c4;clear c4;have H':=aM H;clear H;have p254:0≤(x8_1:Int):=oE aS
      have q254:x8_1 < (l0.length:Int):=oE aS
      obtain⟨ad254,e254,hx254_0⟩:=Kd.at_int HR0.out x8_1 p254 q254;cases e254
      replace p254:=eq_true p254;replace q254:=eq_true q254;go_wp2
      go_roundg k1
      case measure=>have:=HK1.out;omega
      case rel=>exact⟨(wrap64 (x3_1+(rd l0 x8_1))),(wrap64 (x8_1+1)),sD,sD,H',⟨by have:=HK1.out;omega⟩,by repeat(first|exact Drawn0.refl _|apply Drawn0.step)⟩
     ·rw[if_neg c4] at H;exact absurd H (by simp)
    ·rw[if_neg c3] at H;exact absurd H (by simp)
   ·rw[if_neg c2] at H;have c2b0:decide (x8_1 < (l0.length:Int))=false:=decide_eq_false c2;clear c2;obtain rfl:=Option.some.inj H;go_wp2
    go_ret
    exact⟨by first|rfl|(simp;done)|(simp [*];done),by repeat(first|exact Drawn0.refl _|apply Drawn0.step)⟩

mutual
def Bzv.j0:Nat→List Int→Int→Bool→Option (List Int × Int)
 | 0,_,_,_=>none
 | k+1,x0,x1,x21=>if x21=true then(some (([]:List Int),1)) else(Bzv.l0 k x0 x1 ([]:List Int) 0)
def Bzv.l0:Nat→List Int→Int→List Int→Int→Option (List Int × Int)
 | 0,_,_,_,_=>none
 | k+1,x0,x1,x7,x8=>if(wrap64 (x8+x1))≤(x0.length:Int) then(if 0≤x8 then(if x8≤(wrap64 (x8+x1)) then((Czp.f k ((x0.take ((wrap64 (x8+x1)):Int).toNat).drop (x8:Int).toNat)).bind fun t257=>(if x7.length < 17592186044416 then(Bzv.l0 k x0 x1 (x7 ++ [t257]) (wrap64 (x8+1))) else(none))) else(none)) else(none)) else(some (x7,0))
end
def Bzv.f (k:Nat) (l0:List Int) (a1:Int):Option (List Int × Int):=(Bzx.f k l0).bind fun t255=>(if t255=0 then(if a1 < 1 then(Bzv.j0 k l0 a1 true) else(Bzv.j0 k l0 a1 (decide (a1 > (l0.length:Int))))) else(some (([]:List Int),t255)))
theorem Bzv.mono_l:∀ k,(∀ y0 y1 y2,LeO (Bzv.j0 k y0 y1 y2) (Bzv.j0 (k+1) y0 y1 y2))∧(∀ y0 y1 y2 y3,LeO (Bzv.l0 k y0 y1 y2 y3) (Bzv.l0 (k+1) y0 y1 y2 y3))
 | 0=>⟨fun _ _ _ r h=>by simp [Bzv.j0] at h,fun _ _ _ _ r h=>by simp [Bzv.l0] at h⟩
 | k+1=>by
  obtain⟨ih0,ih1⟩:=Bzv.mono_l k;refine⟨?_,?_⟩
  ·intro y0 y1 y2;unfold Bzv.j0;with_reducible repeat' first|exact ih0 _ _ _|exact ih1 _ _ _ _|exact Bzx.mono _ _|exact Czp.mono _ _|exact LeO.refl _|exact LeO.none _|refine LeO.ite ?_ ?_|refine LeO.bind ?_ (fun _=>?_)
  ·intro y0 y1 y2 y3;unfold Bzv.l0;with_reducible repeat' first|exact ih0 _ _ _|exact ih1 _ _ _ _|exact Bzx.mono _ _|exact Czp.mono _ _|exact LeO.refl _|exact LeO.none _|refine LeO.ite ?_ ?_|refine LeO.bind ?_ (fun _=>?_)
theorem Bzv.mono:∀ a0 a1 k,LeO (Bzv.f k a0 a1) (Bzv.f (k+1) a0 a1):=by
 intro a0 a1 k;obtain⟨ih0,ih1⟩:=Bzv.mono_l k;unfold Bzv.f;with_reducible repeat' first|exact ih0 _ _ _|exact ih1 _ _ _ _|exact Bzx.mono _ _|exact Czp.mono _ _|exact LeO.refl _|exact LeO.none _|refine LeO.ite ?_ ?_|refine LeO.bind ?_ (fun _=>?_)
theorem Bzv.calls (k:Nat) (A0:Option Addr) (c0:Nat) (l0:List Int) (a1:Int) (r1:List Int) (r2:Int) (w:World) (hr0:Kd.C (Kd.int .i64) w A0 l0.length l0) (hc0:l0.length≤c0) (h:Bzv.f k l0 a1=some (r1,r2)) :
  Calls Try.prog 17 #[.slice A0 l0.length c0,.int .i64 a1] w fun e w'=>∃ v0_:Value,e=.returned (.tuple #[v0_,.int .i64 r2])∧Kd.R (Kd.int .i64) 3 w' w.heap.size (fun _=>True) v0_ r1∧Below w.heap.size w w':=by
 have HR0:=aM hr0;have HC0:=aM hc0;clear hr0 hc0;have HB:=aM (Below.refl w.heap.size w);have H:((Bzx.f k l0).bind fun t255=>(if t255=0 then(if a1 < 1 then(Bzv.j0 k l0 a1 true) else(Bzv.j0 k l0 a1 (decide (a1 > (l0.length:Int))))) else(some (([]:List Int),t255))))=some (r1,r2):=h
 clear h;replace H:=bS H;obtain⟨t255,A30,H⟩:=H;(try dsimp only at H);have A3:=aM A30;clear A30;by_cases c4:t255=0
 ·rw[if_pos c4] at H;have c4b0:(t255 == 0)=true:=beq_iff_eq.mpr c4;have c4b1:(t255 != 0)=false:=bne_eq_false_iff_eq.mpr c4;clear c4;have HC5:=aM H;clear H;go_enter Try.func17,Try.ntmps17
  go_upto_region 4 with (first|((with_reducible refine gate_callee (f:=30) rfl ?_);refine goesL_ (some 10) rfl rfl Try.func30 (by kernel_rfl) rfl #[.slice A0 l0.length c0] rfl mA ?_;(with_reducible refine(Bzx.calls k _ _ l0 t255 _ ?side1 ?side2 A3.out).mono ?_);(case side1=>exact cX HR0.out);(case side2=>exact HC0.out);rintro e w' ⟨rfl,⟨nd,rfl⟩⟩;refine⟨_,rfl,?_⟩))
  (try simp only[Act.put,sA,sZ,sC])
  go_cut [21] (fun v21 wc=>∃ (kq:Nat) (x21_4:Bool),v21=.bool x21_4∧Aside0 (Bzv.j0 kq l0 a1 x21_4=some (r1,r2))∧Aside0 (kq≤k)∧Aside0 (Below w.heap.size w wc))
  case first =>
   have H:=HC5.out;clear HC5;by_cases c6:a1 < 1
   ·rw[if_pos c6] at H;have c6b0:decide (a1 < 1)=true:=dE c6;clear c6;(first|rw[c6b0]|(simp only[i64_w,i32_w];rw[c6b0])|skip)
    have H':=aM H;clear H;go_wp2
    go_meet
    case rel=>exact⟨_,(true),sD,H',⟨by first|omega|exact Nat.le_refl _⟩,⟨pB⟩⟩
   ·rw[if_neg c6] at H;have c6b0:decide (a1 < 1)=false:=decide_eq_false c6;clear c6;(first|rw[c6b0]|(simp only[i64_w,i32_w];rw[c6b0])|skip)
    have H':=aM H;clear H;go_wp2
    go_meet
    case rel=>exact⟨_,(decide (a1 > (l0.length:Int))),sD,H',⟨by first|omega|exact Nat.le_refl _⟩,⟨pB⟩⟩
  case rest =>
   clear HC5;try clear c1
   try clear p2
   try clear c3
   try clear c4
   try clear c4b0
   try clear c4b1
   try clear c6
   try clear c6b0
   obtain⟨kq,x21_4,rfl,HA,HJ4,HB⟩:=hcut;cases kq with
   | zero=>exact absurd HA.out (by simp [Bzv.j0])
   | succ kj4 =>
    have H:=HA.out;clear HA;simp only[Bzv.j0] at H;by_cases c7:x21_4=true
    ·subst c7;rw[if_pos rfl] at H;simp only[Option.some.injEq,Prod.mk.injEq] at H;obtain⟨rfl,rfl⟩:=H;go_wp2
     go_ret2
     exact⟨_,eW,by first|exact Kd.R_nil _ _ _ _ _|exact Kd.N_nil _ _ _ _ _|exact Kd.V_nil _ _ _ _ _|exact Kd.Q_nil _ _ _ _ _|exact Kd.S_nil _ _ _ _ _,pB⟩
    ·replace c7:=Bool.eq_false_iff.mpr c7;subst c7;rw[if_neg (show ¬ (false=true) by decide)] at H
     have H':=aM H;clear H;go_wp2
     go_loopg [7,8] kj4 (fun kq v7 v8 w'=>∃ (x7_2:List Int) (x8_2:Int),v8=.int .i64 x8_2∧Aside0 (Bzv.l0 kq l0 a1 x7_2 x8_2=some (r1,r2))∧Aside0 (kq≤kj4)∧Aside0 (Kd.R (Kd.int .i64) 3 w' w.heap.size (fun _=>True) v7 x7_2)∧Aside0 (Below w.heap.size w w'))
     case atStart=>exact⟨(([]:List Int)),(0),sD,H',⟨Nat.le_refl _⟩,⟨by first|exact Kd.R_nil _ _ _ _ _|exact Kd.N_nil _ _ _ _ _|exact Kd.V_nil _ _ _ _ _|exact Kd.Q_nil _ _ _ _ _|exact Kd.S_nil _ _ _ _ _⟩,⟨pB⟩⟩
     case round =>
      clear H';try clear c1
      try clear p2
      try clear c3
      try clear c4
      try clear c4b0
      try clear c4b1
      try clear c6
      try clear c6b0
      try clear c7
      try clear p2
      obtain⟨x7_2,x8_2,rfl,HA,HK2,HO_7,HB⟩:=hrel;cases gk with
      | zero=>exact absurd HA.out (by simp [Bzv.l0])
      | succ k2 =>
       have H:=HA.out;clear HA;simp only[Bzv.l0] at H;by_cases c8:(wrap64 (x8_2+a1))≤(l0.length:Int)
       ·rw[if_pos c8] at H;have c8b0:decide ((wrap64 (x8_2+a1))≤(l0.length:Int))=true:=dE c8;have c8b0w:decide ((IntKind.i64.wrap (x8_2+a1))≤(l0.length:Int))=true:=by have h_:=c8b0;first|exact h_|(simp only[i64_w];exact h_)
        clear c8;by_cases c9:0≤x8_2
        ·rw[if_pos c9] at H;have c9b0:=eq_true c9;have c9b1:decide (0≤x8_2)=true:=dE c9;clear c9;by_cases c10:x8_2≤(wrap64 (x8_2+a1))
         ·rw[if_pos c10] at H;have c10b0:=eq_true c10;have c10b1:decide (x8_2≤(wrap64 (x8_2+a1)))=true:=dE c10;have c10b1w:decide (x8_2≤(IntKind.i64.wrap (x8_2+a1)))=true:=by have h_:=c10b1;first|exact h_|(simp only[i64_w];exact h_)
          have c11b0:=eq_true (oE aS:(wrap64 (x8_2+a1))≤(l0.length:Int))
          replace H:=bS H;obtain⟨t257,A120,H⟩:=H;(try dsimp only at H);have A12:=aM A120;clear A120;by_cases c13:x7_2.length < 17592186044416
          ·rw[if_pos c13] at H;have LMc13:=aM c13;clear c13;obtain⟨y258,hy258⟩:∃ y_:List Int,y_=(x7_2 ++ [t257]):=⟨_,rfl⟩;replace H:(Bzv.l0 k2 l0 a1 y258 (wrap64 (x8_2+1)))=some (r1,r2):=by first|(rw[hy258];with_reducible exact H)|(have H2_:=(Option.bind_some _ _).symm.trans H;rw[hy258];with_reducible exact H2_)|(have H2_:=(Option.bind_some _ _).symm.trans H;with_reducible exact H2_)|with_reducible exact H|(rw[hy258];exact H)|exact H
           have Ny258:=aM hy258;clear hy258;have H':=aM H;clear H;obtain⟨i014,hi014,_,hsz14,_⟩:=info_parts info3;obtain⟨A14,hcut14,hA14,hC14⟩:=print_mid_of (P:=Try.prog) (Value.int .i64) 0 22 3 .i64 .i64 Try.underlying22 hi014 hsz14 A0 c0 l0 x8_2 (wrap64 (x8_2+a1)) (oE aS) (by first|omega|exact oE aS) (oE aS) HC0.out
           have HR256:=aM (Kd.C_of_reads (h1:=fun _=>rfl) (hA14 _ (Kd.reads_of_C HR0.out)))
           have HC256:=aM hC14;clear hA14 hC14 hi014 hsz14;go_wp2_with (first|((with_reducible refine gate_callee (f:=37) rfl ?_);refine goesL_ (some 37) rfl rfl Try.func37 (by kernel_rfl) rfl #[.slice A14 ((l0.take ((wrap64 (x8_2+a1)):Int).toNat).drop (x8_2:Int).toNat).length (c0 - x8_2.toNat)] rfl (by(try simp only[List.map_toArray,List.map_cons,List.map_nil]);first|done|(rw[show((l0.take ((wrap64 (x8_2+a1)):Int).toNat).drop (x8_2:Int).toNat).length=((wrap64 (x8_2+a1)).toNat - x8_2.toNat) from(by rw[List.length_drop,List.length_take];have h_:((wrap64 (x8_2+a1)):Int)≤(l0.length:Int):=oE aS;omega)] <;> rfl)|rfl|(simp only[List.length_drop,List.length_take];rfl)) ?_;(with_reducible refine(Czp.calls k2 _ _ ((l0.take ((wrap64 (x8_2+a1)):Int).toNat).drop (x8_2:Int).toNat) t257 _ ?side1 ?side2 A12.out).mono ?_);(case side1=>exact cX (Kd.C_below HR256.out HB.out));(case side2=>exact HC256.out);rintro e w' ⟨rfl,⟨nd,rfl⟩⟩;refine⟨_,rfl,?_⟩)|((with_reducible refine gate_builtin (b:=.append) (xs:=#[.tmp 30,.tmp 38]) rfl ?_);(try(refine gate_guard (by rfl) ?_;dsimp only));at_builtin;refine Kd.R_append (Kd.int .i64) (w0:=w) w.heap.size rfl (.tmp 30) (.tmp 38) 22 3 (.int .i64 0) 8 rfl Try.underlying22 info3 rfl (by decide) (by omega) u7 x7_2 t257 [.int .i64 t257] (fun _=>True) (fun _=>False) rfl rfl ?aP (fun _ hk=>hk.elim) ?aF ?aO ?aB ?aS ?aL ?_;(case aP=>exact rfl);(case aB=>exact pB);(case aF=>exact(fun _ _=>trivial));(case aO=>exact(rX HO_7.out));(case aS=>exact(below_size pB));(case aL=>have:=LMc13.out;omega);intro v259 w15 ho hb hg hat;rw[← Ny258.out] at ho;have HO260:=aM (ho);replace HB:=aM (hb);clear HO_7;clear ho hb hg hat))
           go_roundg k2
           case measure=>have:=HJ4.out;have:=HK2.out;omega
           case rel=>exact⟨(y258),(wrap64 (x8_2+1)),sD,H',⟨by have:=HJ4.out;have:=HK2.out;omega⟩,⟨rX HO260.out⟩,⟨pB⟩⟩
          ·rw[if_neg c13] at H;exact absurd H (by simp)
         ·rw[if_neg c10] at H;exact absurd H (by simp)
        ·rw[if_neg c9] at H;exact absurd H (by simp)
       ·rw[if_neg c8] at H;have c8b0:decide ((wrap64 (x8_2+a1))≤(l0.length:Int))=false:=decide_eq_false c8;have c8b0w:decide ((IntKind.i64.wrap (x8_2+a1))≤(l0.length:Int))=false:=by have h_:=c8b0;first|exact h_|(simp only[i64_w];exact h_)
        clear c8;simp only[Option.some.injEq,Prod.mk.injEq] at H;obtain⟨rfl,rfl⟩:=H;go_wp2
        go_ret2
        exact⟨_,eW,rX HO_7.out,pB⟩
 ·rw[if_neg c4] at H;have c4b0:(t255 == 0)=false:=beq_eq_false_iff_ne.mpr c4;have c4b1:(t255 != 0)=true:=bne_iff_ne.mpr c4;simp only[Option.some.injEq,Prod.mk.injEq] at H;obtain⟨rfl,rfl⟩:=H;go_enter Try.func17,Try.ntmps17
  go_wp2_with (first|((with_reducible refine gate_callee (f:=30) rfl ?_);refine goesL_ (some 10) rfl rfl Try.func30 (by kernel_rfl) rfl #[.slice A0 l0.length c0] rfl mA ?_;(with_reducible refine(Bzx.calls k _ _ l0 t255 _ ?side1 ?side2 A3.out).mono ?_);(case side1=>exact cX HR0.out);(case side2=>exact HC0.out);rintro e w' ⟨rfl,⟨nd,rfl⟩⟩;refine⟨_,rfl,?_⟩))
  go_ret2
  exact⟨_,eW,by first|exact Kd.R_nil _ _ _ _ _|exact Kd.N_nil _ _ _ _ _|exact Kd.V_nil _ _ _ _ _|exact Kd.Q_nil _ _ _ _ _|exact Kd.S_nil _ _ _ _ _,pB⟩

end Go.Proofs.Ytokkiljkgejnhaa.Print
