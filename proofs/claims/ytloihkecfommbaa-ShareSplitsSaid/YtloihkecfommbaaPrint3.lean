import Derived.Test.YtloihkecfommbaaPrint0
namespace Go.Proofs.Ytloihkecfommbaa.Print
open Go.RowKit Go.Proofs.YtloihkecfommbaaW.PrintWords Go.Proofs.YtloihkecfommbaaW.PrintLast Go.Proofs.YtloihkecfommbaaW.PrintMore
attribute [local go_sem] max2_int min2_int max_two min_two max_three min_three max_four min_four
set_option linter.unusedVariables false
set_option maxRecDepth 100000
set_option maxHeartbeats 8000000
set_option linter.unusedSimpArgs false

def Bzv.f (a0:Int) (a1:Int):Option (Int × Int):=if 0≤a0∧a0≤1125899906842624∧0≤a1∧a1≤1125899906842624 then some (a0 * a1 / 18446744073709551616,a0 * a1 % 18446744073709551616) else none
theorem Bzv.w64 (n:Int) (h:0≤n) (h':n < 2 ^ 64):IntKind.u64.wrap n=n:=by
 have:IntKind.u64.wrap n=n % 18446744073709551616:=by simp [IntKind.wrap,IntKind.bits,IntKind.signed]
 rw[this];omega
theorem Bzv.and32 (x:Int) (h0:0≤x) (h1:x < 18446744073709551616):Go.bits .and .u64 x 4294967295=x % 4294967296 :=
 bits_mask .u64 64 (by decide) Bzv.w64 32 (by decide) x h0 h1
theorem Bzv.or32 (x y:Int) (hx:0≤x) (hx1:x < 18446744073709551616) (hm:x % 4294967296=0) (hy:0≤y) (hy1:y < 4294967296):Go.bits .or .u64 x y=x+y :=
 bits_join .u64 64 (by decide) Bzv.w64 32 x y hx hm hx1 hy hy1 (by omega)
theorem Bzv.mul_le {a b A B:Int} (ha0:0≤a) (ha:a≤A) (hb0:0≤b) (hb:b≤B):0≤a * b∧a * b≤A * B :=
 ⟨Int.mul_nonneg ha0 hb0,Int.mul_le_mul ha hb hb0 (by omega)⟩
theorem Bzv.parts (x00 x10 x01 x11:Int) (p00:0≤x00∧x00≤18446744065119617025) (p10:0≤x10∧x10≤1125899906580480) (p01:0≤x01∧x01≤1125899906580480) (p11:0≤x11∧x11≤68719476736) (low mid more:Int)
  (elow:low=IntKind.u64.wrap x00) (emid:mid=IntKind.u64.wrap (IntKind.u64.wrap x10+low / 4294967296)) (emore:more=IntKind.u64.wrap (IntKind.u64.wrap x01+Go.bits .and .u64 mid 4294967295)) :
  IntKind.u64.wrap (IntKind.u64.wrap (IntKind.u64.wrap x11+mid / 4294967296)+more / 4294967296)=(x11 * 18446744073709551616+(x10+x01) * 4294967296+x00) / 18446744073709551616 ∧
  Go.bits .or .u64 (IntKind.u64.wrap (more * 4294967296)) (Go.bits .and .u64 low 4294967295)=(x11 * 18446744073709551616+(x10+x01) * 4294967296+x00) % 18446744073709551616:=by
 rw[Bzv.w64 x00 p00.1 (by omega)] at elow
 subst elow;rw[Bzv.w64 x10 p10.1 (by omega),Bzv.w64 _ (by omega) (by omega)] at emid
 subst emid;rw[Bzv.and32 _ (by omega) (by omega),Bzv.w64 x01 p01.1 (by omega),Bzv.w64 _ (by omega) (by omega)] at emore
 subst emore;refine⟨?_,?_⟩
 ·rw[Bzv.w64 x11 p11.1 (by omega),Bzv.w64 (x11+_) (by omega) (by omega),Bzv.w64 _ (by omega) (by omega)]
  omega
 ·rw[Bzv.and32 low (by omega) (by omega)]
  have ew:∀ z:Int,IntKind.u64.wrap z=z % 18446744073709551616:=fun z=>by simp [IntKind.wrap,IntKind.bits,IntKind.signed]
  rw[ew,Bzv.or32 _ _ (by omega) (by omega) (by omega) (by omega) (by omega)]
  omega
theorem Bzv.arith (a b:Int) (ha0:0≤a) (ha:a≤1125899906842624) (hb0:0≤b) (hb:b≤1125899906842624) (a0 a1 b0 b1 low mid more:Int)
  (ea0:a0=Go.bits .and .u64 a 4294967295) (ea1:a1=a / 4294967296) (eb0:b0=Go.bits .and .u64 b 4294967295) (eb1:b1=b / 4294967296)
  (elow:low=IntKind.u64.wrap (a0 * b0)) (emid:mid=IntKind.u64.wrap (IntKind.u64.wrap (a1 * b0)+low / 4294967296)) (emore:more=IntKind.u64.wrap (IntKind.u64.wrap (a0 * b1)+Go.bits .and .u64 mid 4294967295)) :
  IntKind.u64.wrap (IntKind.u64.wrap (IntKind.u64.wrap (a1 * b1)+mid / 4294967296)+more / 4294967296)=a * b / 18446744073709551616 ∧
  Go.bits .or .u64 (IntKind.u64.wrap (more * 4294967296)) (Go.bits .and .u64 low 4294967295)=a * b % 18446744073709551616:=by
 rw[Bzv.and32 a ha0 (by omega)] at ea0
 rw[Bzv.and32 b hb0 (by omega)] at eb0
 have ka:a=a1 * 4294967296+a0:=by omega
 have kb:b=b1 * 4294967296+b0:=by omega
 have ra0:0≤a0∧a0≤4294967295:=by omega
 have rb0:0≤b0∧b0≤4294967295:=by omega
 have ra1:0≤a1∧a1≤262144:=by omega
 have rb1:0≤b1∧b1≤262144:=by omega
 have kab:a * b=a1 * b1 * 18446744073709551616+(a1 * b0+a0 * b1) * 4294967296+a0 * b0:=by rw[ka,kb];grind
 have p00:=Bzv.mul_le ra0.1 ra0.2 rb0.1 rb0.2;have p10:=Bzv.mul_le ra1.1 ra1.2 rb0.1 rb0.2;have p01:=Bzv.mul_le ra0.1 ra0.2 rb1.1 rb1.2;have p11:=Bzv.mul_le ra1.1 ra1.2 rb1.1 rb1.2;rw[kab];exact Bzv.parts _ _ _ _ ⟨p00.1,by omega⟩ ⟨p10.1,by omega⟩ ⟨p01.1,by omega⟩ ⟨p11.1,by omega⟩ low mid more elow emid emore
theorem Bzv.calls (a0:Int) (a1:Int) (r1:Int) (r2:Int) (w:World) (h:Bzv.f a0 a1=some (r1,r2)) :
  Calls Try.prog 54 #[.int .u64 a0,.int .u64 a1] w fun e w'=>e=.returned (.agg #[.int .u64 r1,.int .u64 r2])∧Below w.heap.size w w':=by
 unfold Bzv.f at h;split at h
 ·rename_i hb
  obtain⟨ha0,ha,hb0,hb⟩:=hb;obtain⟨z1,z2⟩:=Bzv.arith a0 a1 ha0 ha hb0 hb _ _ _ _ _ _ _ rfl rfl rfl rfl rfl rfl rfl;simp only[Option.some.injEq,Prod.mk.injEq] at h;obtain⟨h1,h2⟩:=h;have Z1:=aM (z1.trans h1);have Z2:=aM (z2.trans h2);clear z1 z2 h1 h2;go_enter Try.func54,Try.ntmps54
  go_wp2
  refine bodyPost_ret (v:=.agg #[.int .u64 r1,.int .u64 r2]) ?_ rfl ⟨rfl,?_⟩
  ·rw[← Z1.out,← Z2.out];simp [results,Try.results54,go_sem]
  ·exact(Below.refl _ _).alloc (Nat.le_refl _) _
 ·simp at h

def Czp.f (a0:Int):Option (Int):=if a0 < 0 then(some (IntKind.u64.wrap (wrap64 (-a0)))) else(some (IntKind.u64.wrap (a0)))
theorem Czp.calls (a0:Int) (r:Int) (w:World) (h:Czp.f a0=some r) :
  Calls Try.prog 55 #[.int .i64 a0] w fun e w'=>e=.returned (.int .u64 r)∧Drawn0 w w':=by
 have H:(if a0 < 0 then(some (IntKind.u64.wrap (wrap64 (-a0)))) else(some (IntKind.u64.wrap (a0))))=some r:=h
 clear h;by_cases c2:a0 < 0
 ·rw[if_pos c2] at H;have c2b0:decide (a0 < 0)=true:=dE c2;clear c2;obtain rfl:=Option.some.inj H;go_enter Try.func55,Try.ntmps55
  go_wp2
  go_ret
  exact⟨by first|rfl|(simp;done)|(simp [*];done),by repeat(first|exact Drawn0.refl _|apply Drawn0.step)⟩
 ·rw[if_neg c2] at H;have c2b0:decide (a0 < 0)=false:=decide_eq_false c2;clear c2;obtain rfl:=Option.some.inj H;go_enter Try.func55,Try.ntmps55
  go_wp2
  go_ret
  exact⟨by first|rfl|(simp;done)|(simp [*];done),by repeat(first|exact Drawn0.refl _|apply Drawn0.step)⟩

def Azy.f (a0_0:Int) (a0_1:Int) (a1:Int):Option (Int × Int × Bool) :=
 if 0≤a0_0∧a0_0 < 18446744073709551616∧0≤a0_1∧a0_1 < 18446744073709551616∧1≤a1∧a1≤1125899906842624 then
  (if(a0_0 * 18446744073709551616+a0_1) / a1 < 4611686018427387904 then some ((a0_0 * 18446744073709551616+a0_1) / a1,(a0_0 * 18446744073709551616+a0_1) % a1,true) else some (0,0,false))
 else none
/-- What the first k bits tell. -/
def Azy.T (p:Int) (k:Nat):Int:=p / 2 ^ (128 - k)
theorem Azy.p2 (n:Nat):(0:Int) < 2 ^ n:=Int.pow_pos (by decide)
theorem Azy.T_zero {p:Int} (h0:0≤p) (h:p < 340282366920938463463374607431768211456):Azy.T p 0=0:=Int.ediv_eq_zero_of_lt h0 h
theorem Azy.T_last (p:Int):Azy.T p 128=p:=by simp [Azy.T]
theorem Azy.T_nonneg {p:Int} (h0:0≤p) (k:Nat):0≤Azy.T p k:=Int.ediv_nonneg h0 (Int.le_of_lt (Azy.p2 _))
theorem Azy.T_succ (p:Int) (k:Nat) (hk:k < 128):Azy.T p (k+1)=2 * Azy.T p k+(p / 2 ^ (127 - k)) % 2:=by
 unfold Azy.T;have e1:128 - (k+1)=127 - k:=by omega
 have e2:128 - k=(127 - k)+1:=by omega
 rw[e1,e2,Int.pow_succ,← Int.ediv_ediv_of_nonneg (Int.le_of_lt (Azy.p2 _))];generalize p / 2 ^ (127 - k)=x;omega
theorem Azy.T_le {p:Int} (h0:0≤p) (k:Nat) (hk:k < 128):2 * Azy.T p k≤p:=by
 unfold Azy.T;have e2:128 - k=(127 - k)+1:=by omega
 rw[e2,Int.pow_succ,Int.mul_comm _ 2,← Int.ediv_ediv_of_nonneg (by omega)]
 have:=Int.ediv_le_self (a:=p / 2) (2 ^ (127 - k)) (by omega)
 generalize p / 2 / 2 ^ (127 - k)=y at *;omega
theorem Azy.bit_hi (a b:Int) (hb:0≤b) (hb1:b < 18446744073709551616) (k:Nat) (hk:k < 64):(a * 18446744073709551616+b) / 2 ^ (127 - k)=a / 2 ^ (63 - k):=by
 have e:127 - k=64+(63 - k):=by omega
 rw[e,Int.pow_add,← Int.ediv_ediv_of_nonneg (Int.le_of_lt (Azy.p2 _))];congr 1
 show _ / (18446744073709551616:Int)=a
 omega
theorem Azy.bit_lo (a b:Int) (k:Nat) (hk:64≤k) (hk1:k < 128):(a * 18446744073709551616+b) / 2 ^ (127 - k) % 2=b / 2 ^ (127 - k) % 2:=by
 obtain⟨j,hj⟩:∃ j,64=(127 - k)+(j+1):=⟨k - 64,by omega⟩
 have e:(18446744073709551616:Int)=2 ^ (127 - k) * 2 ^ j * 2:=by
  rw[Int.mul_assoc,← Int.pow_succ,← Int.pow_add,← hj];rfl
 have e3:a * 18446744073709551616+b=b+2 ^ (127 - k) * (2 * (a * 2 ^ j)):=by rw[e];grind
 rw[e3,Int.add_mul_ediv_left _ _ (Int.ne_of_gt (Azy.p2 _))];omega
theorem Azy.step {t c q r bit:Int} (hq:q=t / c) (hr:r=t % c):(2 * t+bit)=c * (2 * q)+(2 * r+bit):=by
 have:=Int.mul_ediv_add_emod t c;subst hq hr;grind
theorem Azy.divmod {t c q r:Int} (hc:0 < c) (h:t=c * q+r) (h0:0≤r) (h1:r < c):q=t / c∧r=t % c:=by
 subst h;constructor
 ·rw[Int.add_comm,Int.add_mul_ediv_left _ _ (by omega),Int.ediv_eq_zero_of_lt h0 h1];omega
 ·rw[Int.add_comm,Int.add_mul_emod_self_left,Int.emod_eq_of_lt h0 h1]
theorem Azy.and1 (x:Int) (h0:0≤x) (h1:x < 18446744073709551616):Go.bits .and .u64 x 1=x % 2 :=
 bits_mask .u64 64 (by decide) Bzv.w64 1 (by decide) x h0 h1
theorem Azy.or1 (x y:Int) (hx:0≤x) (hx1:x < 18446744073709551616) (hm:x % 2=0) (hy:0≤y) (hy1:y < 2):Go.bits .or .u64 x y=x+y :=
 bits_join .u64 64 (by decide) Bzv.w64 1 x y hx (by simpa using hm) hx1 hy (by simpa using hy1) (by omega)
/-- One round: from what k bits tell to what k+1 tell. -/
theorem Azy.round {p c q r:Int} {k:Nat} (hc:1≤c) (hk:k < 128) (h:q=Azy.T p k / c∧r=Azy.T p k % c) (b:Int) (hb:b=(p / 2 ^ (127 - k)) % 2) :
  (r * 2+b < c→q * 2=Azy.T p (k+1) / c∧r * 2+b=Azy.T p (k+1) % c) ∧
  (c≤r * 2+b→q * 2+1=Azy.T p (k+1) / c∧r * 2+b - c=Azy.T p (k+1) % c):=by
 have hs:=Azy.step (bit:=b) h.1 h.2;have hr0:0≤r:=by rw[h.2];exact Int.emod_nonneg _ (by omega)
 have hr1:r < c:=by rw[h.2];exact Int.emod_lt_of_pos _ (by omega)
 have hb2:0≤b∧b < 2:=by omega
 rw[Azy.T_succ p k hk,← hb];constructor
 ·intro hl;exact Azy.divmod (by omega) (by rw[hs];grind) (by omega) hl
 ·intro hl;exact Azy.divmod (by omega) (by rw[hs];grind) (by omega) (by omega)
theorem Azy.calls0 (a b c:Int) (w:World) (ha:0≤a) (ha1:a < 18446744073709551616) (hb:0≤b) (hb1:b < 18446744073709551616) (hc:1≤c) (hc1:c≤1125899906842624) (r1 r2:Int) (r3:Bool)
  (HR:Aside0 ((if(a * 18446744073709551616+b) / c < 4611686018427387904 then((a * 18446744073709551616+b) / c,(a * 18446744073709551616+b) % c,true) else(0,0,false))=(r1,r2,r3))) :
  Calls Try.prog 56 #[.agg #[.int .u64 a,.int .u64 b],.int .u64 c] w fun e w'=>e=.returned (.tuple #[.int .u64 r1,.int .u64 r2,.bool r3])∧Below w.heap.size w w':=by
 obtain⟨p,hp⟩:∃ p,p=a * 18446744073709551616+b:=⟨_,rfl⟩;have hp0:0≤p:=by omega
 have hp1:Aside0 (p < 340282366920938463463374607431768211456):=⟨by omega⟩
 have HP:=aM hp;rw[← hp] at HR;clear hp;go_enter Try.func56,Try.ntmps56
 go_wp2
 go_loop [7,8,12] (fun q r i=>∃ (k:Nat) (qv rv:Int),k≤128∧i=.int .i64 k∧q=.int .u64 qv∧r=.int .u64 rv∧Aside0 (qv=Azy.T p k / c∧rv=Azy.T p k % c)∧Aside0 (0 < k→qv < 4611686018427387904)) (fun _ _ i=>128 - (intOf i).toNat)
 case atStart=>exact⟨0,0,0,by omega,rfl,rfl,rfl,⟨by rw[Azy.T_zero hp0 hp1.out];simp⟩,⟨fun h=>absurd h (by omega)⟩⟩
 case round =>
  obtain⟨k,qv,rv,hk,rfl,rfl,rfl,H,HQ⟩:=hrel;have hq0:0≤qv:=by rw[H.out.1];exact Int.ediv_nonneg (Azy.T_nonneg hp0 k) (by omega)
  have hr0:0≤rv:=by rw[H.out.2];exact Int.emod_nonneg _ (by omega)
  have hr1:rv < c:=by rw[H.out.2];exact Int.emod_lt_of_pos _ (by omega)
  by_cases hlt:k < 128
  ·by_cases hq:qv < 2305843009213693952
   ·have hqd:Aside0 ((qv / 2305843009213693952 != 0)=false):=⟨by simp;omega⟩
    by_cases h64:k < 64
    ·have e64:k / 64=0:=by omega
     obtain⟨bv,hbv⟩:∃ bv,bv=(a / 2 ^ (63 - k % 64)) % 2:=⟨_,rfl⟩;have hb2:0≤bv∧bv < 2:=by omega
     have hb3:=hb2.1;have hb4:=hb2.2;have hrd:=Azy.round hc hlt H.out bv (by
      rw[hbv,HP.out,Azy.bit_hi a b hb hb1 k h64];have e:(63 - k % 64)=63 - k:=by omega
      rw[e])
     have HRD:=aM hrd;have hand:Go.bits .and .u64 (a / 2 ^ (63 - k % 64)) 1=bv:=by
      rw[hbv];exact Azy.and1 _ (Int.ediv_nonneg (by omega) (Int.le_of_lt (Azy.p2 _))) (Int.lt_of_le_of_lt (Int.ediv_le_self _ (by omega)) (by omega))
     have hor:Go.bits .or .u64 (rv * 2) bv=rv * 2+bv:=Azy.or1 _ _ (by omega) (by omega) (by omega) hb2.1 hb2.2
     have hor2:Go.bits .or .u64 (qv * 2) 1=qv * 2+1:=Azy.or1 _ _ (by omega) (by omega) (by omega) (by omega) (by omega)
     clear hrd hbv hb2;by_cases ht:c≤rv * 2+bv
     ·go_wp2
      go_round
      case rel=>exact⟨k+1,qv * 2+1,rv * 2+bv - c,by omega,by go_num,rfl,rfl,⟨HRD.out.2 ht⟩,⟨fun _=>by omega⟩⟩
      case measure=>simp [intOf];omega
     ·go_wp2
      go_round
      case rel=>exact⟨k+1,qv * 2,rv * 2+bv,by omega,by go_num,rfl,rfl,⟨HRD.out.1 (by omega)⟩,⟨fun _=>by omega⟩⟩
      case measure=>simp [intOf];omega
    ·have e64:k / 64=1:=by omega
     obtain⟨bv,hbv⟩:∃ bv,bv=(b / 2 ^ (63 - k % 64)) % 2:=⟨_,rfl⟩;have hb2:0≤bv∧bv < 2:=by omega
     have hb3:=hb2.1;have hb4:=hb2.2;have hrd:=Azy.round hc hlt H.out bv (by
      rw[hbv,HP.out,Azy.bit_lo a b k (by omega) hlt]
      have e:(63 - k % 64)=127 - k:=by omega
      rw[e])
     have HRD:=aM hrd;have hand:Go.bits .and .u64 (b / 2 ^ (63 - k % 64)) 1=bv:=by
      rw[hbv];exact Azy.and1 _ (Int.ediv_nonneg (by omega) (Int.le_of_lt (Azy.p2 _))) (Int.lt_of_le_of_lt (Int.ediv_le_self _ (by omega)) (by omega))
     have hor:Go.bits .or .u64 (rv * 2) bv=rv * 2+bv:=Azy.or1 _ _ (by omega) (by omega) (by omega) hb2.1 hb2.2
     have hor2:Go.bits .or .u64 (qv * 2) 1=qv * 2+1:=Azy.or1 _ _ (by omega) (by omega) (by omega) (by omega) (by omega)
     clear hrd hbv hb2;by_cases ht:c≤rv * 2+bv
     ·go_wp2
      go_round
      case rel=>exact⟨k+1,qv * 2+1,rv * 2+bv - c,by omega,by go_num,rfl,rfl,⟨HRD.out.2 ht⟩,⟨fun _=>by omega⟩⟩
      case measure=>simp [intOf];omega
     ·go_wp2
      go_round
      case rel=>exact⟨k+1,qv * 2,rv * 2+bv,by omega,by go_num,rfl,rfl,⟨HRD.out.1 (by omega)⟩,⟨fun _=>by omega⟩⟩
      case measure=>simp [intOf];omega
   ·have hqt:(qv / 2305843009213693952 != 0)=true:=by
     rw[bne_iff_ne];omega
    have HQT:=aM hqt;have hbig:¬ (p / c < 4611686018427387904):=by
     intro hcon;have h1:=Azy.T_le hp0 k hlt;have h2:2 * qv≤p / c:=by
      rw[H.out.1];have h3:c * (Azy.T p k / c)≤Azy.T p k:=Int.mul_ediv_self_le (by omega)
      exact Int.le_ediv_of_mul_le (by omega) (by
       have:2 * (Azy.T p k / c) * c=2 * (c * (Azy.T p k / c)):=by grind
       omega)
     omega
    have HR2:=HR.out;rw[if_neg hbig] at HR2;simp only[Prod.mk.injEq] at HR2;obtain⟨rfl,rfl,rfl⟩:=HR2;clear HR hbig;have hqn:¬ (qv < 2305843009213693952):=hq;by_cases h64:k < 64
    ·have e64:k / 64=0:=by omega
     go_wp2
     go_ret3
     exact⟨rfl,by exact(Below.refl _ _).alloc (Nat.le_refl _) _⟩
    ·have e64:k / 64=1:=by omega
     go_wp2
     go_ret3
     exact⟨rfl,by exact(Below.refl _ _).alloc (Nat.le_refl _) _⟩
  ·obtain rfl:k=128:=by omega
   have HR2:=HR.out;have e1:=H.out;rw[Azy.T_last] at e1;have hsm:p / c < 4611686018427387904:=by rw[← e1.1];exact HQ.out (by omega)
   rw[if_pos hsm] at HR2;simp only[Prod.mk.injEq] at HR2;obtain⟨h1,h2,rfl⟩:=HR2;obtain rfl:r1=qv:=by rw[e1.1];exact h1.symm
   obtain rfl:r2=rv:=by rw[e1.2];exact h2.symm
   clear h1 h2 e1 hsm HR;go_wp2
   go_ret3
   exact⟨rfl,by exact(Below.refl _ _).alloc (Nat.le_refl _) _⟩
theorem Azy.calls (a0_0:Int) (a0_1:Int) (a1:Int) (r1:Int) (r2:Int) (r3:Bool) (w:World) (h:Azy.f a0_0 a0_1 a1=some (r1,r2,r3)) :
  Calls Try.prog 56 #[.agg #[.int .u64 a0_0,.int .u64 a0_1],.int .u64 a1] w fun e w'=>e=.returned (.tuple #[.int .u64 r1,.int .u64 r2,.bool r3])∧Below w.heap.size w w':=by
 unfold Azy.f at h;split at h
 ·rename_i hb
  obtain⟨h1,h2,h3,h4,h5,h6⟩:=hb;refine Azy.calls0 a0_0 a0_1 a1 w h1 h2 h3 h4 h5 h6 r1 r2 r3 ⟨?_⟩;split at h
  ·rename_i hs
   rw[if_pos hs];exact Option.some.inj h
  ·rename_i hs
   rw[if_neg hs];exact Option.some.inj h
 ·simp at h

end Go.Proofs.Ytloihkecfommbaa.Print
