import Derived.Test.YtpnfdhhfdidlmaaPrint0
import Derived.Test.YtpnfdhhfdidlmaaPrint6
namespace Go.Proofs.Ytpnfdhhfdidlmaa.Print
open Go.RowKit Go.Proofs.YtpnfdhhfdidlmaaW.PrintWords Go.Proofs.YtpnfdhhfdidlmaaW.PrintLast Go.Proofs.YtpnfdhhfdidlmaaW.PrintMore
attribute [local go_sem] max2_int min2_int max_two min_two max_three min_three max_four min_four
set_option linter.unusedVariables false
set_option maxRecDepth 100000
set_option maxHeartbeats 8000000
set_option linter.unusedSimpArgs false

def Czf.j0:Nat→Int→List Int→Bool→Option (Int × Int)
 | 0,_,_,_=>none
 | k+1,x0,x1,x8=>if x8=true then(some (0,1)) else(if(x1.length:Int)=0 then(some (0,10)) else(if(x1.length:Int) > 512 then(some (0,8)) else((Bzm.f k x1).bind fun t151=>(if t151=true then(some (0,1)) else((Dzj.f k x1).bind fun bt152=>(if bt152.2=0 then(if bt152.1=0 then(if x0 > 0 then(some (0,16)) else(some (bt152.1,0))) else(some (bt152.1,0))) else(some (0,2))))))))
def Czf.f (k:Nat) (a0:Int) (l1:List Int):Option (Int × Int):=if a0 < 0 then(Czf.j0 k a0 l1 true) else(Czf.j0 k a0 l1 (decide (a0 > 1125899906842624)))
theorem Czf.mono_l:∀ k,(∀ y0 y1 y2,LeO (Czf.j0 k y0 y1 y2) (Czf.j0 (k+1) y0 y1 y2))
 | 0=>fun _ _ _ r h=>by simp [Czf.j0] at h
 | k+1=>by
  have ih0:=Czf.mono_l k
  ·intro y0 y1 y2;unfold Czf.j0;with_reducible repeat' first|exact ih0 _ _ _|exact Dzj.mono _ _|exact Bzm.mono _ _|exact LeO.refl _|exact LeO.none _|refine LeO.ite ?_ ?_|refine LeO.bind ?_ (fun _=>?_)
theorem Czf.mono:∀ a0 a1 k,LeO (Czf.f k a0 a1) (Czf.f (k+1) a0 a1):=by
 intro a0 a1 k;have ih0:=Czf.mono_l k;unfold Czf.f;with_reducible repeat' first|exact ih0 _ _ _|exact Dzj.mono _ _|exact Bzm.mono _ _|exact LeO.refl _|exact LeO.none _|refine LeO.ite ?_ ?_|refine LeO.bind ?_ (fun _=>?_)
theorem Czf.calls (k:Nat) (a0:Int) (A1:Option Addr) (c1:Nat) (l1:List Int) (r1:Int) (r2:Int) (w:World) (hr1:Kd.C (Kd.int .i64) w A1 l1.length l1) (hc1:l1.length≤c1) (h:Czf.f k a0 l1=some (r1,r2)) :
  Calls Try.prog 38 #[.int .i64 a0,.slice A1 l1.length c1] w fun e w'=>e=.returned (.tuple #[.int .i64 r1,.int .i64 r2])∧Below w.heap.size w w':=by
 have HR1:=aM hr1;have HC1:=aM hc1;clear hr1 hc1;have HB:=aM (Below.refl w.heap.size w);have H:(if a0 < 0 then(Czf.j0 k a0 l1 true) else(Czf.j0 k a0 l1 (decide (a0 > 1125899906842624))))=some (r1,r2):=h
 clear h;have HC3:=aM H;clear H;go_enter Try.func38,Try.ntmps38
 go_upto_region 1 with (fail)
 go_cut [8] (fun v8 wc=>∃ (kq:Nat) (x8_2:Bool),v8=.bool x8_2∧Aside0 (Czf.j0 kq a0 l1 x8_2=some (r1,r2))∧Aside0 (kq≤k)∧Aside0 (Below w.heap.size w wc))
 case first =>
  have H:=HC3.out;clear HC3;by_cases c4:a0 < 0
  ·rw[if_pos c4] at H;have c4b0:decide (a0 < 0)=true:=dE c4;clear c4;(first|rw[c4b0]|(simp only[i64_w,i32_w];rw[c4b0])|skip)
   have H':=aM H;clear H;go_wp2
   go_meet
   case rel=>exact⟨_,(true),sD,H',⟨by first|omega|exact Nat.le_refl _⟩,⟨pB⟩⟩
  ·rw[if_neg c4] at H;have c4b0:decide (a0 < 0)=false:=decide_eq_false c4;clear c4;(first|rw[c4b0]|(simp only[i64_w,i32_w];rw[c4b0])|skip)
   have H':=aM H;clear H;go_wp2
   go_meet
   case rel=>exact⟨_,(decide (a0 > 1125899906842624)),sD,H',⟨by first|omega|exact Nat.le_refl _⟩,⟨pB⟩⟩
 case rest =>
  clear HC3;try clear c1
  try clear p2
  try clear c3
  try clear c4
  try clear c4b0
  obtain⟨kq,x8_2,rfl,HA,HJ2,HB⟩:=hcut;cases kq with
  | zero=>exact absurd HA.out (by simp [Czf.j0])
  | succ kj2 =>
   have H:=HA.out;clear HA;simp only[Czf.j0] at H;by_cases c5:x8_2=true
   ·subst c5;rw[if_pos rfl] at H;simp only[Option.some.injEq,Prod.mk.injEq] at H;obtain⟨rfl,rfl⟩:=H;go_wp2
    go_ret2
    exact⟨eW,pB⟩
   ·replace c5:=Bool.eq_false_iff.mpr c5;subst c5;rw[if_neg (show ¬ (false=true) by decide)] at H
    by_cases c6:(l1.length:Int)=0
    ·rw[if_pos c6] at H;have c6b0:((l1.length:Int) == 0)=true:=beq_iff_eq.mpr c6;have c6b1:((l1.length:Int) != 0)=false:=bne_eq_false_iff_eq.mpr c6;clear c6;simp only[Option.some.injEq,Prod.mk.injEq] at H;obtain⟨rfl,rfl⟩:=H;go_wp2
     go_ret2
     exact⟨eW,pB⟩
    ·rw[if_neg c6] at H;have c6b0:((l1.length:Int) == 0)=false:=beq_eq_false_iff_ne.mpr c6;have c6b1:((l1.length:Int) != 0)=true:=bne_iff_ne.mpr c6;have c6b2:¬ (l1=[]):=fun h_=>c6 (by rw[h_];rfl)
     by_cases c7:(l1.length:Int) > 512
     ·rw[if_pos c7] at H;have c7b0:decide (512 < (l1.length:Int))=true:=dE c7;have c7b1:decide (512 < l1.length)=true:=dE (by omega)
      clear c7;simp only[Option.some.injEq,Prod.mk.injEq] at H;obtain⟨rfl,rfl⟩:=H;go_wp2
      go_ret2
      exact⟨eW,pB⟩
     ·rw[if_neg c7] at H;have c7b0:decide (512 < (l1.length:Int))=false:=decide_eq_false c7;have c7b1:decide (512 < l1.length)=false:=decide_eq_false (by omega)
      clear c7;replace H:=bS H;obtain⟨t151,A80,H⟩:=H;(try dsimp only at H);have A8:=aM A80;clear A80;by_cases c9:t151=true
      ·subst c9;rw[if_pos rfl] at H;simp only[Option.some.injEq,Prod.mk.injEq] at H;obtain⟨rfl,rfl⟩:=H;go_wp2_with (first|((with_reducible refine gate_callee (f:=45) rfl ?_);refine goesL_ (some 25) rfl rfl Try.func45 (by kernel_rfl) rfl #[.slice A1 l1.length c1,.func (.func 46) #[] #[]] rfl mA ?_;(with_reducible refine(Bzm.calls kj2 _ _ l1  true _ ?side1 ?side2 A8.out).mono ?_);(case side1=>exact cX (Kd.C_below HR1.out HB.out));(case side2=>exact HC1.out);rintro e w' ⟨rfl,⟨nd,rfl⟩⟩;refine⟨_,rfl,?_⟩))
       go_ret2
       exact⟨eW,pB⟩
      ·replace c9:=Bool.eq_false_iff.mpr c9;subst c9;rw[if_neg (show ¬ (false=true) by decide)] at H
       replace H:=bS H;obtain⟨⟨t152,t153⟩,A100,H⟩:=H;(try dsimp only at H);have A10:=aM A100;clear A100;by_cases c11:t153=0
       ·rw[if_pos c11] at H;have c11b0:(t153 == 0)=true:=beq_iff_eq.mpr c11;have c11b1:(t153 != 0)=false:=bne_eq_false_iff_eq.mpr c11;clear c11;by_cases c12:t152=0
        ·rw[if_pos c12] at H;have c12b0:(t152 == 0)=true:=beq_iff_eq.mpr c12;have c12b1:(t152 != 0)=false:=bne_eq_false_iff_eq.mpr c12;clear c12;by_cases c13:a0 > 0
         ·rw[if_pos c13] at H;have c13b0:decide (0 < a0)=true:=dE c13;clear c13;simp only[Option.some.injEq,Prod.mk.injEq] at H;obtain⟨rfl,rfl⟩:=H;go_wp2_with (first|((with_reducible refine gate_callee (f:=45) rfl ?_);refine goesL_ (some 25) rfl rfl Try.func45 (by kernel_rfl) rfl #[.slice A1 l1.length c1,.func (.func 46) #[] #[]] rfl mA ?_;(with_reducible refine(Bzm.calls kj2 _ _ l1  false _ ?side1 ?side2 A8.out).mono ?_);(case side1=>exact cX (Kd.C_below HR1.out HB.out));(case side2=>exact HC1.out);rintro e w' ⟨rfl,⟨nd,rfl⟩⟩;refine⟨_,rfl,?_⟩)|((with_reducible refine gate_callee (f:=47) rfl ?_);refine goesL_ (some 28) rfl rfl Try.func47 (by kernel_rfl) rfl #[.slice A1 l1.length c1] rfl mA ?_;(with_reducible refine(Dzj.calls kj2 _ _ l1 t152 t153 _ ?side1 ?side2 A10.out).mono ?_);(case side1=>repeat(first|exact(Kd.C_below HR1.out pB)|(with_reducible refine Kd.C_alloc ?_ _)|(with_reducible refine Kd.C_drewN ?_ _)|(with_reducible refine Kd.C_drew ?_)));(case side2=>exact HC1.out);rintro e w14 ⟨rfl,hb⟩;refine⟨_,rfl,?_⟩;replace HB:=aM (below_step pB hb);(try clear hb);(try clear hb2);(try clear hk);(try clear hi)))
          go_ret2
          exact⟨eW,pB⟩
         ·rw[if_neg c13] at H;have c13b0:decide (0 < a0)=false:=decide_eq_false c13;clear c13;simp only[Option.some.injEq,Prod.mk.injEq] at H;obtain⟨rfl,rfl⟩:=H;go_wp2_with (first|((with_reducible refine gate_callee (f:=45) rfl ?_);refine goesL_ (some 25) rfl rfl Try.func45 (by kernel_rfl) rfl #[.slice A1 l1.length c1,.func (.func 46) #[] #[]] rfl mA ?_;(with_reducible refine(Bzm.calls kj2 _ _ l1  false _ ?side1 ?side2 A8.out).mono ?_);(case side1=>exact cX (Kd.C_below HR1.out HB.out));(case side2=>exact HC1.out);rintro e w' ⟨rfl,⟨nd,rfl⟩⟩;refine⟨_,rfl,?_⟩)|((with_reducible refine gate_callee (f:=47) rfl ?_);refine goesL_ (some 28) rfl rfl Try.func47 (by kernel_rfl) rfl #[.slice A1 l1.length c1] rfl mA ?_;(with_reducible refine(Dzj.calls kj2 _ _ l1 t152 t153 _ ?side1 ?side2 A10.out).mono ?_);(case side1=>repeat(first|exact(Kd.C_below HR1.out pB)|(with_reducible refine Kd.C_alloc ?_ _)|(with_reducible refine Kd.C_drewN ?_ _)|(with_reducible refine Kd.C_drew ?_)));(case side2=>exact HC1.out);rintro e w15 ⟨rfl,hb⟩;refine⟨_,rfl,?_⟩;replace HB:=aM (below_step pB hb);(try clear hb);(try clear hb2);(try clear hk);(try clear hi)))
          go_ret2
          exact⟨eW,pB⟩
        ·rw[if_neg c12] at H;have c12b0:(t152 == 0)=false:=beq_eq_false_iff_ne.mpr c12;have c12b1:(t152 != 0)=true:=bne_iff_ne.mpr c12;simp only[Option.some.injEq,Prod.mk.injEq] at H;obtain⟨rfl,rfl⟩:=H;go_wp2_with (first|((with_reducible refine gate_callee (f:=45) rfl ?_);refine goesL_ (some 25) rfl rfl Try.func45 (by kernel_rfl) rfl #[.slice A1 l1.length c1,.func (.func 46) #[] #[]] rfl mA ?_;(with_reducible refine(Bzm.calls kj2 _ _ l1  false _ ?side1 ?side2 A8.out).mono ?_);(case side1=>exact cX (Kd.C_below HR1.out HB.out));(case side2=>exact HC1.out);rintro e w' ⟨rfl,⟨nd,rfl⟩⟩;refine⟨_,rfl,?_⟩)|((with_reducible refine gate_callee (f:=47) rfl ?_);refine goesL_ (some 28) rfl rfl Try.func47 (by kernel_rfl) rfl #[.slice A1 l1.length c1] rfl mA ?_;(with_reducible refine(Dzj.calls kj2 _ _ l1 t152 t153 _ ?side1 ?side2 A10.out).mono ?_);(case side1=>repeat(first|exact(Kd.C_below HR1.out pB)|(with_reducible refine Kd.C_alloc ?_ _)|(with_reducible refine Kd.C_drewN ?_ _)|(with_reducible refine Kd.C_drew ?_)));(case side2=>exact HC1.out);rintro e w16 ⟨rfl,hb⟩;refine⟨_,rfl,?_⟩;replace HB:=aM (below_step pB hb);(try clear hb);(try clear hb2);(try clear hk);(try clear hi)))
         go_ret2
         exact⟨eW,pB⟩
       ·rw[if_neg c11] at H;have c11b0:(t153 == 0)=false:=beq_eq_false_iff_ne.mpr c11;have c11b1:(t153 != 0)=true:=bne_iff_ne.mpr c11;simp only[Option.some.injEq,Prod.mk.injEq] at H;obtain⟨rfl,rfl⟩:=H;go_wp2_with (first|((with_reducible refine gate_callee (f:=45) rfl ?_);refine goesL_ (some 25) rfl rfl Try.func45 (by kernel_rfl) rfl #[.slice A1 l1.length c1,.func (.func 46) #[] #[]] rfl mA ?_;(with_reducible refine(Bzm.calls kj2 _ _ l1  false _ ?side1 ?side2 A8.out).mono ?_);(case side1=>exact cX (Kd.C_below HR1.out HB.out));(case side2=>exact HC1.out);rintro e w' ⟨rfl,⟨nd,rfl⟩⟩;refine⟨_,rfl,?_⟩)|((with_reducible refine gate_callee (f:=47) rfl ?_);refine goesL_ (some 28) rfl rfl Try.func47 (by kernel_rfl) rfl #[.slice A1 l1.length c1] rfl mA ?_;(with_reducible refine(Dzj.calls kj2 _ _ l1 t152 t153 _ ?side1 ?side2 A10.out).mono ?_);(case side1=>repeat(first|exact(Kd.C_below HR1.out pB)|(with_reducible refine Kd.C_alloc ?_ _)|(with_reducible refine Kd.C_drewN ?_ _)|(with_reducible refine Kd.C_drew ?_)));(case side2=>exact HC1.out);rintro e w17 ⟨rfl,hb⟩;refine⟨_,rfl,?_⟩;replace HB:=aM (below_step pB hb);(try clear hb);(try clear hb2);(try clear hk);(try clear hi)))
        go_ret2
        exact⟨eW,pB⟩

def Bzv.f (a0:Int) (a1:Int):Option (Int × Int):=if 0≤a0∧a0≤1125899906842624∧0≤a1∧a1≤1125899906842624 then some (a0 * a1 / 18446744073709551616,a0 * a1 % 18446744073709551616) else none
theorem Bzv.w64 (n:Int) (h:0≤n) (h':n < 2 ^ 64):IntKind.u64.wrap n=n:=by
 have:IntKind.u64.wrap n=n % 18446744073709551616:=by simp [IntKind.wrap,IntKind.bits,IntKind.signed]
 rw[this];omega
theorem Bzv.and32 (x:Int) (h0:0≤x) (h1:x < 18446744073709551616):Go.bits .and .u64 x 4294967295=x % 4294967296 :=
 bits_mask .u64 64 (by decide) Bzv.w64 32 (by decide) x h0 h1
theorem Bzv.or32 (x y:Int) (hx:0≤x) (hx1:x < 18446744073709551616) (hm:x % 4294967296=0) (hy:0≤y) (hy1:y < 4294967296):Go.bits .or .u64 x y=x+y :=
 bits_join .u64 64 (by decide) Bzv.w64 32 x y hx hm hx1 hy hy1 (by omega)
theorem Bzv.mul_le {a b A B:Int} (ha0:0≤a) (ha:a≤A) (hb0:0≤b) (hb:b≤B):0≤a * b∧a * b≤A * B :=
 ⟨Int.mul_nonneg ha0 hb0,Int.mul_le_mul ha hb hb0 (by omega)⟩
theorem Bzv.parts (x00 x10 x01 x11:Int) (p00:0≤x00∧x00≤18446744065119617025) (p10:0≤x10∧x10≤1125899906580480) (p01:0≤x01∧x01≤1125899906580480) (p11:0≤x11∧x11≤68719476736) (low mid more:Int)
  (elow:low=IntKind.u64.wrap x00) (emid:mid=IntKind.u64.wrap (IntKind.u64.wrap x10+low / 4294967296)) (emore:more=IntKind.u64.wrap (IntKind.u64.wrap x01+Go.bits .and .u64 mid 4294967295)) :
  IntKind.u64.wrap (IntKind.u64.wrap (IntKind.u64.wrap x11+mid / 4294967296)+more / 4294967296)=(x11 * 18446744073709551616+(x10+x01) * 4294967296+x00) / 18446744073709551616 ∧
  Go.bits .or .u64 (IntKind.u64.wrap (more * 4294967296)) (Go.bits .and .u64 low 4294967295)=(x11 * 18446744073709551616+(x10+x01) * 4294967296+x00) % 18446744073709551616:=by
 rw[Bzv.w64 x00 p00.1 (by omega)] at elow
 subst elow;rw[Bzv.w64 x10 p10.1 (by omega),Bzv.w64 _ (by omega) (by omega)] at emid
 subst emid;rw[Bzv.and32 _ (by omega) (by omega),Bzv.w64 x01 p01.1 (by omega),Bzv.w64 _ (by omega) (by omega)] at emore
 subst emore;refine⟨?_,?_⟩
 ·rw[Bzv.w64 x11 p11.1 (by omega),Bzv.w64 (x11+_) (by omega) (by omega),Bzv.w64 _ (by omega) (by omega)]
  omega
 ·rw[Bzv.and32 low (by omega) (by omega)]
  have ew:∀ z:Int,IntKind.u64.wrap z=z % 18446744073709551616:=fun z=>by simp [IntKind.wrap,IntKind.bits,IntKind.signed]
  rw[ew,Bzv.or32 _ _ (by omega) (by omega) (by omega) (by omega) (by omega)]
  omega
theorem Bzv.arith (a b:Int) (ha0:0≤a) (ha:a≤1125899906842624) (hb0:0≤b) (hb:b≤1125899906842624) (a0 a1 b0 b1 low mid more:Int)
  (ea0:a0=Go.bits .and .u64 a 4294967295) (ea1:a1=a / 4294967296) (eb0:b0=Go.bits .and .u64 b 4294967295) (eb1:b1=b / 4294967296)
  (elow:low=IntKind.u64.wrap (a0 * b0)) (emid:mid=IntKind.u64.wrap (IntKind.u64.wrap (a1 * b0)+low / 4294967296)) (emore:more=IntKind.u64.wrap (IntKind.u64.wrap (a0 * b1)+Go.bits .and .u64 mid 4294967295)) :
  IntKind.u64.wrap (IntKind.u64.wrap (IntKind.u64.wrap (a1 * b1)+mid / 4294967296)+more / 4294967296)=a * b / 18446744073709551616 ∧
  Go.bits .or .u64 (IntKind.u64.wrap (more * 4294967296)) (Go.bits .and .u64 low 4294967295)=a * b % 18446744073709551616:=by
 rw[Bzv.and32 a ha0 (by omega)] at ea0
 rw[Bzv.and32 b hb0 (by omega)] at eb0
 have ka:a=a1 * 4294967296+a0:=by omega
 have kb:b=b1 * 4294967296+b0:=by omega
 have ra0:0≤a0∧a0≤4294967295:=by omega
 have rb0:0≤b0∧b0≤4294967295:=by omega
 have ra1:0≤a1∧a1≤262144:=by omega
 have rb1:0≤b1∧b1≤262144:=by omega
 have kab:a * b=a1 * b1 * 18446744073709551616+(a1 * b0+a0 * b1) * 4294967296+a0 * b0:=by rw[ka,kb];grind
 have p00:=Bzv.mul_le ra0.1 ra0.2 rb0.1 rb0.2;have p10:=Bzv.mul_le ra1.1 ra1.2 rb0.1 rb0.2;have p01:=Bzv.mul_le ra0.1 ra0.2 rb1.1 rb1.2;have p11:=Bzv.mul_le ra1.1 ra1.2 rb1.1 rb1.2;rw[kab];exact Bzv.parts _ _ _ _ ⟨p00.1,by omega⟩ ⟨p10.1,by omega⟩ ⟨p01.1,by omega⟩ ⟨p11.1,by omega⟩ low mid more elow emid emore
theorem Bzv.calls (a0:Int) (a1:Int) (r1:Int) (r2:Int) (w:World) (h:Bzv.f a0 a1=some (r1,r2)) :
  Calls Try.prog 57 #[.int .u64 a0,.int .u64 a1] w fun e w'=>e=.returned (.agg #[.int .u64 r1,.int .u64 r2])∧Below w.heap.size w w':=by
 unfold Bzv.f at h;split at h
 ·rename_i hb
  obtain⟨ha0,ha,hb0,hb⟩:=hb;obtain⟨z1,z2⟩:=Bzv.arith a0 a1 ha0 ha hb0 hb _ _ _ _ _ _ _ rfl rfl rfl rfl rfl rfl rfl;simp only[Option.some.injEq,Prod.mk.injEq] at h;obtain⟨h1,h2⟩:=h;have Z1:=aM (z1.trans h1);have Z2:=aM (z2.trans h2);clear z1 z2 h1 h2;go_enter Try.func57,Try.ntmps57
  go_wp2
  refine bodyPost_ret (v:=.agg #[.int .u64 r1,.int .u64 r2]) ?_ rfl ⟨rfl,?_⟩
  ·rw[← Z1.out,← Z2.out];simp [results,Try.results57,go_sem]
  ·exact(Below.refl _ _).alloc (Nat.le_refl _) _
 ·simp at h

def Ezq.f (a0:Int):Option (Int):=if a0 < 0 then(some (IntKind.u64.wrap (wrap64 (-a0)))) else(some (IntKind.u64.wrap (a0)))
theorem Ezq.calls (a0:Int) (r:Int) (w:World) (h:Ezq.f a0=some r) :
  Calls Try.prog 58 #[.int .i64 a0] w fun e w'=>e=.returned (.int .u64 r)∧Drawn0 w w':=by
 have H:(if a0 < 0 then(some (IntKind.u64.wrap (wrap64 (-a0)))) else(some (IntKind.u64.wrap (a0))))=some r:=h
 clear h;by_cases c2:a0 < 0
 ·rw[if_pos c2] at H;have c2b0:decide (a0 < 0)=true:=dE c2;clear c2;obtain rfl:=Option.some.inj H;go_enter Try.func58,Try.ntmps58
  go_wp2
  go_ret
  exact⟨by first|rfl|(simp;done)|(simp [*];done),by repeat(first|exact Drawn0.refl _|apply Drawn0.step)⟩
 ·rw[if_neg c2] at H;have c2b0:decide (a0 < 0)=false:=decide_eq_false c2;clear c2;obtain rfl:=Option.some.inj H;go_enter Try.func58,Try.ntmps58
  go_wp2
  go_ret
  exact⟨by first|rfl|(simp;done)|(simp [*];done),by repeat(first|exact Drawn0.refl _|apply Drawn0.step)⟩


def Azb.f (a0_0:Int) (a0_1:Int) (a1:Int):Option (Int × Int × Bool) :=
 if 0≤a0_0∧a0_0 < 18446744073709551616∧0≤a0_1∧a0_1 < 18446744073709551616∧1≤a1∧a1≤1125899906842624 then
  (if(a0_0 * 18446744073709551616+a0_1) / a1 < 4611686018427387904 then some ((a0_0 * 18446744073709551616+a0_1) / a1,(a0_0 * 18446744073709551616+a0_1) % a1,true) else some (0,0,false))
 else none
/-- What the first k bits tell. -/
def Azb.T (p:Int) (k:Nat):Int:=p / 2 ^ (128 - k)
theorem Azb.p2 (n:Nat):(0:Int) < 2 ^ n:=Int.pow_pos (by decide)
theorem Azb.T_zero {p:Int} (h0:0≤p) (h:p < 340282366920938463463374607431768211456):Azb.T p 0=0:=Int.ediv_eq_zero_of_lt h0 h
theorem Azb.T_last (p:Int):Azb.T p 128=p:=by simp [Azb.T]
theorem Azb.T_nonneg {p:Int} (h0:0≤p) (k:Nat):0≤Azb.T p k:=Int.ediv_nonneg h0 (Int.le_of_lt (Azb.p2 _))
theorem Azb.T_succ (p:Int) (k:Nat) (hk:k < 128):Azb.T p (k+1)=2 * Azb.T p k+(p / 2 ^ (127 - k)) % 2:=by
 unfold Azb.T;have e1:128 - (k+1)=127 - k:=by omega
 have e2:128 - k=(127 - k)+1:=by omega
 rw[e1,e2,Int.pow_succ,← Int.ediv_ediv_of_nonneg (Int.le_of_lt (Azb.p2 _))];generalize p / 2 ^ (127 - k)=x;omega
theorem Azb.T_le {p:Int} (h0:0≤p) (k:Nat) (hk:k < 128):2 * Azb.T p k≤p:=by
 unfold Azb.T;have e2:128 - k=(127 - k)+1:=by omega
 rw[e2,Int.pow_succ,Int.mul_comm _ 2,← Int.ediv_ediv_of_nonneg (by omega)]
 have:=Int.ediv_le_self (a:=p / 2) (2 ^ (127 - k)) (by omega)
 generalize p / 2 / 2 ^ (127 - k)=y at *;omega
theorem Azb.bit_hi (a b:Int) (hb:0≤b) (hb1:b < 18446744073709551616) (k:Nat) (hk:k < 64):(a * 18446744073709551616+b) / 2 ^ (127 - k)=a / 2 ^ (63 - k):=by
 have e:127 - k=64+(63 - k):=by omega
 rw[e,Int.pow_add,← Int.ediv_ediv_of_nonneg (Int.le_of_lt (Azb.p2 _))];congr 1
 show _ / (18446744073709551616:Int)=a
 omega
theorem Azb.bit_lo (a b:Int) (k:Nat) (hk:64≤k) (hk1:k < 128):(a * 18446744073709551616+b) / 2 ^ (127 - k) % 2=b / 2 ^ (127 - k) % 2:=by
 obtain⟨j,hj⟩:∃ j,64=(127 - k)+(j+1):=⟨k - 64,by omega⟩
 have e:(18446744073709551616:Int)=2 ^ (127 - k) * 2 ^ j * 2:=by
  rw[Int.mul_assoc,← Int.pow_succ,← Int.pow_add,← hj];rfl
 have e3:a * 18446744073709551616+b=b+2 ^ (127 - k) * (2 * (a * 2 ^ j)):=by rw[e];grind
 rw[e3,Int.add_mul_ediv_left _ _ (Int.ne_of_gt (Azb.p2 _))];omega
theorem Azb.step {t c q r bit:Int} (hq:q=t / c) (hr:r=t % c):(2 * t+bit)=c * (2 * q)+(2 * r+bit):=by
 have:=Int.mul_ediv_add_emod t c;subst hq hr;grind
theorem Azb.divmod {t c q r:Int} (hc:0 < c) (h:t=c * q+r) (h0:0≤r) (h1:r < c):q=t / c∧r=t % c:=by
 subst h;constructor
 ·rw[Int.add_comm,Int.add_mul_ediv_left _ _ (by omega),Int.ediv_eq_zero_of_lt h0 h1];omega
 ·rw[Int.add_comm,Int.add_mul_emod_self_left,Int.emod_eq_of_lt h0 h1]
theorem Azb.and1 (x:Int) (h0:0≤x) (h1:x < 18446744073709551616):Go.bits .and .u64 x 1=x % 2 :=
 bits_mask .u64 64 (by decide) Bzv.w64 1 (by decide) x h0 h1
theorem Azb.or1 (x y:Int) (hx:0≤x) (hx1:x < 18446744073709551616) (hm:x % 2=0) (hy:0≤y) (hy1:y < 2):Go.bits .or .u64 x y=x+y :=
 bits_join .u64 64 (by decide) Bzv.w64 1 x y hx (by simpa using hm) hx1 hy (by simpa using hy1) (by omega)
/-- One round: from what k bits tell to what k+1 tell. -/
theorem Azb.round {p c q r:Int} {k:Nat} (hc:1≤c) (hk:k < 128) (h:q=Azb.T p k / c∧r=Azb.T p k % c) (b:Int) (hb:b=(p / 2 ^ (127 - k)) % 2) :
  (r * 2+b < c→q * 2=Azb.T p (k+1) / c∧r * 2+b=Azb.T p (k+1) % c) ∧
  (c≤r * 2+b→q * 2+1=Azb.T p (k+1) / c∧r * 2+b - c=Azb.T p (k+1) % c):=by
 have hs:=Azb.step (bit:=b) h.1 h.2;have hr0:0≤r:=by rw[h.2];exact Int.emod_nonneg _ (by omega)
 have hr1:r < c:=by rw[h.2];exact Int.emod_lt_of_pos _ (by omega)
 have hb2:0≤b∧b < 2:=by omega
 rw[Azb.T_succ p k hk,← hb];constructor
 ·intro hl;exact Azb.divmod (by omega) (by rw[hs];grind) (by omega) hl
 ·intro hl;exact Azb.divmod (by omega) (by rw[hs];grind) (by omega) (by omega)
theorem Azb.calls0 (a b c:Int) (w:World) (ha:0≤a) (ha1:a < 18446744073709551616) (hb:0≤b) (hb1:b < 18446744073709551616) (hc:1≤c) (hc1:c≤1125899906842624) (r1 r2:Int) (r3:Bool)
  (HR:Aside0 ((if(a * 18446744073709551616+b) / c < 4611686018427387904 then((a * 18446744073709551616+b) / c,(a * 18446744073709551616+b) % c,true) else(0,0,false))=(r1,r2,r3))) :
  Calls Try.prog 59 #[.agg #[.int .u64 a,.int .u64 b],.int .u64 c] w fun e w'=>e=.returned (.tuple #[.int .u64 r1,.int .u64 r2,.bool r3])∧Below w.heap.size w w':=by
 obtain⟨p,hp⟩:∃ p,p=a * 18446744073709551616+b:=⟨_,rfl⟩;have hp0:0≤p:=by omega
 have hp1:Aside0 (p < 340282366920938463463374607431768211456):=⟨by omega⟩
 have HP:=aM hp;rw[← hp] at HR;clear hp;go_enter Try.func59,Try.ntmps59
 go_wp2
 go_loop [7,8,12] (fun q r i=>∃ (k:Nat) (qv rv:Int),k≤128∧i=.int .i64 k∧q=.int .u64 qv∧r=.int .u64 rv∧Aside0 (qv=Azb.T p k / c∧rv=Azb.T p k % c)∧Aside0 (0 < k→qv < 4611686018427387904)) (fun _ _ i=>128 - (intOf i).toNat)
 case atStart=>exact⟨0,0,0,by omega,rfl,rfl,rfl,⟨by rw[Azb.T_zero hp0 hp1.out];simp⟩,⟨fun h=>absurd h (by omega)⟩⟩
 case round =>
  obtain⟨k,qv,rv,hk,rfl,rfl,rfl,H,HQ⟩:=hrel;have hq0:0≤qv:=by rw[H.out.1];exact Int.ediv_nonneg (Azb.T_nonneg hp0 k) (by omega)
  have hr0:0≤rv:=by rw[H.out.2];exact Int.emod_nonneg _ (by omega)
  have hr1:rv < c:=by rw[H.out.2];exact Int.emod_lt_of_pos _ (by omega)
  by_cases hlt:k < 128
  ·by_cases hq:qv < 2305843009213693952
   ·have hqd:Aside0 ((qv / 2305843009213693952 != 0)=false):=⟨by simp;omega⟩
    by_cases h64:k < 64
    ·have e64:k / 64=0:=by omega
     obtain⟨bv,hbv⟩:∃ bv,bv=(a / 2 ^ (63 - k % 64)) % 2:=⟨_,rfl⟩;have hb2:0≤bv∧bv < 2:=by omega
     have hb3:=hb2.1;have hb4:=hb2.2;have hrd:=Azb.round hc hlt H.out bv (by
      rw[hbv,HP.out,Azb.bit_hi a b hb hb1 k h64];have e:(63 - k % 64)=63 - k:=by omega
      rw[e])
     have HRD:=aM hrd;have hand:Go.bits .and .u64 (a / 2 ^ (63 - k % 64)) 1=bv:=by
      rw[hbv];exact Azb.and1 _ (Int.ediv_nonneg (by omega) (Int.le_of_lt (Azb.p2 _))) (Int.lt_of_le_of_lt (Int.ediv_le_self _ (by omega)) (by omega))
     have hor:Go.bits .or .u64 (rv * 2) bv=rv * 2+bv:=Azb.or1 _ _ (by omega) (by omega) (by omega) hb2.1 hb2.2
     have hor2:Go.bits .or .u64 (qv * 2) 1=qv * 2+1:=Azb.or1 _ _ (by omega) (by omega) (by omega) (by omega) (by omega)
     clear hrd hbv hb2;by_cases ht:c≤rv * 2+bv
     ·go_wp2
      go_round
      case rel=>exact⟨k+1,qv * 2+1,rv * 2+bv - c,by omega,by go_num,rfl,rfl,⟨HRD.out.2 ht⟩,⟨fun _=>by omega⟩⟩
      case measure=>simp [intOf];omega
     ·go_wp2
      go_round
      case rel=>exact⟨k+1,qv * 2,rv * 2+bv,by omega,by go_num,rfl,rfl,⟨HRD.out.1 (by omega)⟩,⟨fun _=>by omega⟩⟩
      case measure=>simp [intOf];omega
    ·have e64:k / 64=1:=by omega
     obtain⟨bv,hbv⟩:∃ bv,bv=(b / 2 ^ (63 - k % 64)) % 2:=⟨_,rfl⟩;have hb2:0≤bv∧bv < 2:=by omega
     have hb3:=hb2.1;have hb4:=hb2.2;have hrd:=Azb.round hc hlt H.out bv (by
      rw[hbv,HP.out,Azb.bit_lo a b k (by omega) hlt]
      have e:(63 - k % 64)=127 - k:=by omega
      rw[e])
     have HRD:=aM hrd;have hand:Go.bits .and .u64 (b / 2 ^ (63 - k % 64)) 1=bv:=by
      rw[hbv];exact Azb.and1 _ (Int.ediv_nonneg (by omega) (Int.le_of_lt (Azb.p2 _))) (Int.lt_of_le_of_lt (Int.ediv_le_self _ (by omega)) (by omega))
     have hor:Go.bits .or .u64 (rv * 2) bv=rv * 2+bv:=Azb.or1 _ _ (by omega) (by omega) (by omega) hb2.1 hb2.2
     have hor2:Go.bits .or .u64 (qv * 2) 1=qv * 2+1:=Azb.or1 _ _ (by omega) (by omega) (by omega) (by omega) (by omega)
     clear hrd hbv hb2;by_cases ht:c≤rv * 2+bv
     ·go_wp2
      go_round
      case rel=>exact⟨k+1,qv * 2+1,rv * 2+bv - c,by omega,by go_num,rfl,rfl,⟨HRD.out.2 ht⟩,⟨fun _=>by omega⟩⟩
      case measure=>simp [intOf];omega
     ·go_wp2
      go_round
      case rel=>exact⟨k+1,qv * 2,rv * 2+bv,by omega,by go_num,rfl,rfl,⟨HRD.out.1 (by omega)⟩,⟨fun _=>by omega⟩⟩
      case measure=>simp [intOf];omega
   ·have hqt:(qv / 2305843009213693952 != 0)=true:=by
     rw[bne_iff_ne];omega
    have HQT:=aM hqt;have hbig:¬ (p / c < 4611686018427387904):=by
     intro hcon;have h1:=Azb.T_le hp0 k hlt;have h2:2 * qv≤p / c:=by
      rw[H.out.1];have h3:c * (Azb.T p k / c)≤Azb.T p k:=Int.mul_ediv_self_le (by omega)
      exact Int.le_ediv_of_mul_le (by omega) (by
       have:2 * (Azb.T p k / c) * c=2 * (c * (Azb.T p k / c)):=by grind
       omega)
     omega
    have HR2:=HR.out;rw[if_neg hbig] at HR2;simp only[Prod.mk.injEq] at HR2;obtain⟨rfl,rfl,rfl⟩:=HR2;clear HR hbig;have hqn:¬ (qv < 2305843009213693952):=hq;by_cases h64:k < 64
    ·have e64:k / 64=0:=by omega
     go_wp2
     go_ret3
     exact⟨rfl,by exact(Below.refl _ _).alloc (Nat.le_refl _) _⟩
    ·have e64:k / 64=1:=by omega
     go_wp2
     go_ret3
     exact⟨rfl,by exact(Below.refl _ _).alloc (Nat.le_refl _) _⟩
  ·obtain rfl:k=128:=by omega
   have HR2:=HR.out;have e1:=H.out;rw[Azb.T_last] at e1;have hsm:p / c < 4611686018427387904:=by rw[← e1.1];exact HQ.out (by omega)
   rw[if_pos hsm] at HR2;simp only[Prod.mk.injEq] at HR2;obtain⟨h1,h2,rfl⟩:=HR2;obtain rfl:r1=qv:=by rw[e1.1];exact h1.symm
   obtain rfl:r2=rv:=by rw[e1.2];exact h2.symm
   clear h1 h2 e1 hsm HR;go_wp2
   go_ret3
   exact⟨rfl,by exact(Below.refl _ _).alloc (Nat.le_refl _) _⟩
theorem Azb.calls (a0_0:Int) (a0_1:Int) (a1:Int) (r1:Int) (r2:Int) (r3:Bool) (w:World) (h:Azb.f a0_0 a0_1 a1=some (r1,r2,r3)) :
  Calls Try.prog 59 #[.agg #[.int .u64 a0_0,.int .u64 a0_1],.int .u64 a1] w fun e w'=>e=.returned (.tuple #[.int .u64 r1,.int .u64 r2,.bool r3])∧Below w.heap.size w w':=by
 unfold Azb.f at h;split at h
 ·rename_i hb
  obtain⟨h1,h2,h3,h4,h5,h6⟩:=hb;refine Azb.calls0 a0_0 a0_1 a1 w h1 h2 h3 h4 h5 h6 r1 r2 r3 ⟨?_⟩;split at h
  ·rename_i hs
   rw[if_pos hs];exact Option.some.inj h
  ·rename_i hs
   rw[if_neg hs];exact Option.some.inj h
 ·simp at h

end Go.Proofs.Ytpnfdhhfdidlmaa.Print
