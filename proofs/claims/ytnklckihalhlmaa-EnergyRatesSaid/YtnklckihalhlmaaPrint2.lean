import Derived.Test.YtnklckihalhlmaaPrint0
namespace Go.Proofs.Ytnklckihalhlmaa.Print
open Go.RowKit Go.Proofs.YtnklckihalhlmaaW.PrintWords Go.Proofs.YtnklckihalhlmaaW.PrintLast Go.Proofs.YtnklckihalhlmaaW.PrintMore
attribute [local go_sem] max2_int min2_int max_two min_two max_three min_three max_four min_four
set_option linter.unusedVariables false
set_option maxRecDepth 100000
set_option maxHeartbeats 8000000
set_option linter.unusedSimpArgs false

def Ezf.f (l0:List (S46)) (a1:Int):Option (Bool):=if 0 < (l0.length:Int) then(if a1≥((rd_T46 l0 0).f0) then(if 0≤(wrap64 ((l0.length:Int) - 1)) then(if(wrap64 ((l0.length:Int) - 1)) < (l0.length:Int) then(some (decide (a1≤((rd_T46 l0 (wrap64 ((l0.length:Int) - 1))).f0)))) else(none)) else(none)) else(some false)) else(none)
theorem Ezf.calls (A0:Option Addr) (c0:Nat) (l0:List (S46)) (a1:Int) (r:Bool) (w:World) (hr0:Kd.C k46 w A0 l0.length l0) (hc0:l0.length≤c0) (h:Ezf.f l0 a1=some r) :
  Calls Try.prog 31 #[.slice A0 l0.length c0,.int .i64 a1] w fun e w'=>e=.returned (.bool r)∧Drawn0 w w':=by
 have HR0:=aM hr0;have HC0:=aM hc0;clear hr0 hc0;have H:(if 0 < (l0.length:Int) then(if a1≥((rd_T46 l0 0).f0) then(if 0≤(wrap64 ((l0.length:Int) - 1)) then(if(wrap64 ((l0.length:Int) - 1)) < (l0.length:Int) then(some (decide (a1≤((rd_T46 l0 (wrap64 ((l0.length:Int) - 1))).f0)))) else(none)) else(none)) else(some false)) else(none))=some r:=h
 clear h;by_cases c3:0 < (l0.length:Int)
 ·rw[if_pos c3] at H;have c3b0:=dE c3;have c3b1:decide (0 < l0.length)=true:=dE (by omega)
  clear c3;by_cases c4:a1≥((rd_T46 l0 0).f0)
  ·rw[if_pos c4] at H;have c4b0:decide (((rd_T46 l0 0).f0)≤a1)=true:=dE c4;clear c4;obtain⟨ji5,hji5⟩:∃ j_:Int,(wrap64 ((l0.length:Int) - 1))=j_:=⟨_,rfl⟩;replace H:(if 0≤(ji5) then(if(ji5) < (l0.length:Int) then(some (decide (a1≤((rd_T46 l0 (ji5)).f0)))) else(none)) else(none))=some r:=by first|(rw[hji5] at H;exact H)|(simp only[hji5] at H ⊢;exact H)
   have hji5w:(IntKind.i64.wrap ((l0.length:Int) - 1))=ji5:=(i64_w _).trans hji5;obtain⟨c6b0,H⟩:=iN H;obtain⟨c7b0,H⟩:=iN H;obtain rfl:=Option.some.inj H;have p107:0≤(0:Int):=(by omega)
   have q107:0 < (l0.length:Int):=oE aS
   obtain⟨ad107,e107,hx107_0,hx107_1⟩:=at_T46 HR0.out 0 p107 q107;cases e107
   have qi107:(0 < l0.length)=True:=eq_true (by omega)
   (try rw[show((0:Int)).toNat=0 from rfl] at hx107_0)
   (try rw[show 0 * 2=0 from rfl] at hx107_0)
   (try rw[Addr.add_zero'] at hx107_0)
   (try rw[show((0:Int)).toNat=0 from rfl] at hx107_1)
   (try rw[show 0 * 2=0 from rfl] at hx107_1)
   (try rw[Addr.add_zero'] at hx107_1)
   replace p107:=eq_true p107;replace q107:=eq_true q107;have p108:0≤((ji5):Int):=oE aS
   have q108:(ji5) < (l0.length:Int):=oE aS
   obtain⟨ad108,e108,hx108_0,hx108_1⟩:=at_T46 HR0.out (ji5) p108 q108;obtain rfl:ad107=ad108:=(by injection e108)
   replace p108:=eq_true p108;replace q108:=eq_true q108;go_enter Try.func31,Try.ntmps31
   go_wp2
   go_ret
   exact⟨by first|rfl|(simp;done)|(simp only[← hji5] <;> (first|rfl|simp))|(simp [*];done),dR⟩
  ·rw[if_neg c4] at H;have c4b0:decide (((rd_T46 l0 0).f0)≤a1)=false:=decide_eq_false c4;clear c4;obtain rfl:=Option.some.inj H;have p107:0≤(0:Int):=(by omega)
   have q107:0 < (l0.length:Int):=oE aS
   obtain⟨ad107,e107,hx107_0,hx107_1⟩:=at_T46 HR0.out 0 p107 q107;cases e107
   have qi107:(0 < l0.length)=True:=eq_true (by omega)
   (try rw[show((0:Int)).toNat=0 from rfl] at hx107_0)
   (try rw[show 0 * 2=0 from rfl] at hx107_0)
   (try rw[Addr.add_zero'] at hx107_0)
   (try rw[show((0:Int)).toNat=0 from rfl] at hx107_1)
   (try rw[show 0 * 2=0 from rfl] at hx107_1)
   (try rw[Addr.add_zero'] at hx107_1)
   replace p107:=eq_true p107;replace q107:=eq_true q107;go_enter Try.func31,Try.ntmps31
   go_wp2
   go_ret
   exact⟨sD,dR⟩
 ·rw[if_neg c3] at H;exact absurd H (by simp)

theorem goesv1_ {P:Program} {ops:Array Oper} {Q:Exit→Act→World→Prop} {rest:List Oper} {oi:Oper} {a:Act} {w:World} (N:Option Tmp) (hd:oi.dst=N) (hg:oi.guard=none) {f:FuncId} {caps:Array Value} {fn:Func} {c x:Operand} {ts:Array TypeId} (hf:P.funcs[f]?=some fn) (hname:(fn.name == "runtime.NumGoroutine")=false) (hb:fn.body.isSome=true)
  (hop:oi.op=.call { callee:=.value c,args:=#[x],argTypes:=ts }) (hc:a.eval c=.func (.func f) #[] caps)
  (h:Calls P f (#[a.eval x] ++ caps) w fun e w'=>∃ v,e=.returned v∧wpList P ops Q rest (a.put N v) w'):wpList P ops Q (oi :: rest) a w:=by
 refine wpList_plain hg fun K hK=>?_
 have he:=enters_ hf hname hb (#[a.eval x] ++ caps) w;have hrun:(execOp a.eval oi).run P w=.ok (.enter f (#[a.eval x] ++ caps)) w:=by
  unfold execOp;simp [hop,resolve,hc,Deferred.ofValue,invoke] at he ⊢;simp [he]
 unfold Oper.wp;rw[hrun,Oper.upon_enter];refine h.mono fun e w'' hh=>?_
 obtain⟨v,rfl,hk⟩:=hh;subst hd;exact hK _ _ hk
def Fzp.sR (p:Int→Bool):Nat→Int→Int→Int
 | 0,i,_=>i
 | k+1,i,j=>if i < j then(if p ((i+j) / 2)=true then Fzp.sR p k i ((i+j) / 2) else Fzp.sR p k ((i+j) / 2+1) j) else i
structure Find_ (f:Nat) (caps:Array Value) (n:Int) (p:Int→Bool) (I:World→Prop):Prop where
 fn:∃ fn,Try.prog.funcs[f]?=some fn∧(fn.name == "runtime.NumGoroutine")=false∧fn.body.isSome=true
 step:∀ (i:Int) W,0≤i→i < n→I W→Calls Try.prog f (#[.int .i64 i] ++ caps) W fun e W'=>e=.returned (.bool (p i))∧I W'
theorem Fzp.calls (n:Int) (f:Nat) (caps:Array Value) (p:Int→Bool) (I:World→Prop) (w:World) (hS:Find_ f caps n p I) (h0:I w) (hn:n < 4611686018427387904) (hn0:-4611686018427387904 < n) :
  Calls Try.prog 67 #[.int .i64 n,.func (.func f) #[] caps] w fun e w'=>e=.returned (.int .i64 (Fzp.sR p (n.toNat+1) 0 n))∧I w':=by
 have HS:=aM hS;have H0:=aM h0;have HN:=aM (And.intro hn hn0);clear hS h0 hn hn0;go_enter Try.func67,Try.ntmps67
 go_wp2
 go_loopg [5,6] (n.toNat+1) (fun kq v5 v6 w'=>∃ (i_ j_:Int),v5=.int .i64 i_∧v6=.int .i64 j_∧Aside0 (Fzp.sR p kq i_ j_=Fzp.sR p (n.toNat+1) 0 n)∧Aside0 (0≤i_∧i_ < 4611686018427387904∧j_≤n∧0 < kq∧j_ - i_ < (kq:Int))∧Aside0 (I w'))
 case atStart=>exact⟨0,n,rfl,rfl,⟨rfl⟩,⟨by omega⟩,H0⟩
 case round =>
  obtain⟨i_,j_,rfl,rfl,HR,HJ,HI⟩:=hrel;cases gk with
  | zero=>exact absurd HJ.out.2.2.2.1 (by omega)
  | succ k1 =>
   by_cases c5:i_ < j_
   ·have c5b0:=dE c5;have e0:0≤i_+j_∧i_+j_ < 9223372036854775808:=by have:=HJ.out;have:=HN.out;omega
    have e2:wrap64 (IntKind.u64.wrap (wrap64 (i_+j_)) / 2)=(i_+j_) / 2:=by
     have h64:wrap64 (i_+j_)=i_+j_:=by unfold wrap64;omega
     rw[h64];have:IntKind.u64.wrap (i_+j_)=i_+j_:=by unfold IntKind.wrap;simp [IntKind.bits,IntKind.signed];omega
     rw[this];unfold wrap64;omega
    have hm_:0≤(i_+j_) / 2∧(i_+j_) / 2 < n∧i_≤(i_+j_) / 2∧(i_+j_) / 2 < j_:=by have:=HJ.out;omega
    obtain⟨⟨fn_,hf_,hn_,hb_⟩,hC_⟩:=HS.out;have hC:=hC_ ((i_+j_) / 2) wr hm_.1 hm_.2.1 HI.out;rw[← e2] at hC;have HC:=aM hC;have E2:=aM e2;have HM:=aM hm_;clear hC e2 hm_;have HF:=aM hf_;have HNM:=aM hn_;have HBD:=aM hb_;have C5:=aM c5;have E0:=aM e0;clear hf_ hn_ hb_ hC_ c5 e0;go_wp2_with (first|(refine goesv1_ (some 20) rfl rfl (f:=f) (caps:=caps) HF.out HNM.out HBD.out rfl (by first|rfl|(simp [Act.eval];done)) ?_;refine HC.out.mono ?_;rintro e w9 ⟨rfl,hi_⟩;refine⟨_,rfl,?_⟩;have HI2:=aM hi_;clear hi_))
    ·rename_i hp_
     have hr:=HR.out;have hb:=HJ.out;have e2:=E2.out;have hm:=HM.out;have hn:=HN.out;have hq:p ((i_+j_) / 2)=false:=by rw[← e2];simpa using hp_
     rw[Fzp.sR,if_pos C5.out,hq,if_neg (by decide)] at hr
     have e3:wrap64 (wrap64 (IntKind.u64.wrap (wrap64 (i_+j_)) / 2)+1)=(i_+j_) / 2+1:=by rw[e2];unfold wrap64;omega
     clear hp_ hq;go_roundg k1
     case measure=>omega
     case rel=>exact⟨(i_+j_) / 2+1,j_,by rw[e3],rfl,⟨hr⟩,⟨by omega⟩,HI2⟩
    ·rename_i hp_
     have hr:=HR.out;have hb:=HJ.out;have e2:=E2.out;have hm:=HM.out;have hn:=HN.out;have hq:p ((i_+j_) / 2)=true:=by rw[← e2];simpa using hp_
     rw[Fzp.sR,if_pos C5.out,if_pos hq] at hr;clear hp_ hq;go_roundg k1
     case measure=>omega
     case rel=>exact⟨i_,(i_+j_) / 2,rfl,by rw[e2],⟨hr⟩,⟨by omega⟩,HI2⟩
   ·have c5b0:decide (i_ < j_)=false:=decide_eq_false c5;go_wp2
    have hr:=HR.out;rw[Fzp.sR,if_neg (by omega)] at hr
    go_ret
    exact⟨by rw[← hr];rfl,HI.out⟩



def Gzf.f (a0_0:Int) (a0_1:Int) (l1:List Int):Option (Bool):=if 0 < (l1.length:Int) then(some (decide (a0_0 < (rd l1 0)))) else(none)
theorem Gzf.calls (a0_0:Int) (a0_1:Int) (A1:Option Addr) (c1:Nat) (l1:List Int) (r:Bool) (w:World) (hr1:Kd.C (Kd.int .i64) w A1 l1.length l1) (hc1:l1.length≤c1) (h:Gzf.f a0_0 a0_1 l1=some r) :
  Calls Try.prog 49 #[.agg #[.int .i64 a0_0,.int .i64 a0_1],.pointer A1] w fun e w'=>e=.returned (.bool r)∧Below w.heap.size w w':=by
 have hu46:=Try.underlying46;have HR1:=aM hr1;have HC1:=aM hc1;clear hr1 hc1;have HB:=aM (Below.refl w.heap.size w);have H:(if 0 < (l1.length:Int) then(some (decide (a0_0 < (rd l1 0)))) else(none))=some r:=h
 clear h;by_cases c3:0 < (l1.length:Int)
 ·rw[if_pos c3] at H;have c3b0:=dE c3;have c3b1:decide (0 < l1.length)=true:=dE (by omega)
  clear c3;obtain rfl:=Option.some.inj H;go_enter Try.func49,Try.ntmps49
  go_wp2_with (first|((with_reducible refine gd 2 rfl ?_);refine bx #[.int .i64 a0_0,.int .i64 a0_1] 46 ?_;intro gb109 hg w4 BK109 hb;have GW109:=gA w hg;have GE109:=gA w hg;replace HB:=bB hb;clear hb hg;obtain⟨hcz5_0,hcz5_1,hfz5_0,hfz5_1⟩:=bk2 BK109;have p110:0≤(0:Int):=(by omega);have q110:0 < (l1.length:Int):=oE aS;obtain⟨ad110,e110,hx110_0⟩:=Kd.at_int HR1.out 0 p110 q110;cases e110;have qi110:(0 < l1.length)=True:=eq_true (by omega);(try rw[show((0:Int)).toNat=0 from rfl] at hx110_0);(try rw[Addr.add_zero'] at hx110_0);replace hx110_0:=hB HB hx110_0;replace p110:=eq_true p110;replace q110:=eq_true q110))
  go_ret
  exact⟨eW,pB⟩
 ·rw[if_neg c3] at H;exact absurd H (by simp)

def Dzz.l0:Nat→List Int→Int→Int→Option (Bool)
 | 0,_,_,_=>none
 | k+1,x5,x6,x7=>if x7 < x6 then(if 0≤x7 then(if x7 < (x5.length:Int) then(if(rd x5 x7) < (-1125899906842624) then(some false) else(if(rd x5 x7) > 1125899906842624 then(some false) else(Dzz.l0 k x5 x6 (wrap64 (x7+1))))) else(none)) else(none)) else(some true)
def Dzz.f (k:Nat) (l0:List Int):Option (Bool):=Dzz.l0 k l0 (l0.length:Int) 0
theorem Dzz.mono_l:∀ k,(∀ y0 y1 y2,LeO (Dzz.l0 k y0 y1 y2) (Dzz.l0 (k+1) y0 y1 y2))
 | 0=>fun _ _ _ r h=>by simp [Dzz.l0] at h
 | k+1=>by
  have ih0:=Dzz.mono_l k
  ·intro y0 y1 y2;unfold Dzz.l0;exact mM
theorem Dzz.mono:∀ a0 k,LeO (Dzz.f k a0) (Dzz.f (k+1) a0):=by
 intro a0 k;have ih0:=Dzz.mono_l k;unfold Dzz.f;exact mM
theorem Dzz.calls (k:Nat) (A0:Option Addr) (c0:Nat) (l0:List Int) (r:Bool) (w:World) (hr0:Kd.C (Kd.int .i64) w A0 l0.length l0) (hc0:l0.length≤c0) (h:Dzz.f k l0=some r) :
  Calls Try.prog 69 #[.slice A0 l0.length c0] w fun e w'=>e=.returned (.bool r)∧Drawn0 w w':=by
 have HR0:=aM hr0;have HC0:=aM hc0;clear hr0 hc0;have H:(Dzz.l0 k l0 (l0.length:Int) 0)=some r:=h;clear h;have H':=aM H;clear H;go_enter Try.func69,Try.ntmps69
 go_wp2
 go_loopg [7] k (fun kq v7 w'=>∃ (x7_1:Int),v7=.int .i64 x7_1∧Aside0 (Dzz.l0 kq l0 (l0.length:Int) x7_1=some r)∧Aside0 (kq≤k)∧Drawn0 w w')
 case atStart=>exact⟨(0),sD,H',⟨Nat.le_refl _⟩,dR⟩
 case round =>
  clear H';obtain⟨x7_1,rfl,HA,HK1,⟨m1,rfl⟩⟩:=hrel;cases gk with
  | zero=>exact absurd HA.out (by simp [Dzz.l0])
  | succ k1 =>
   have H:=HA.out;clear HA;simp only[Dzz.l0] at H;by_cases c2:x7_1 < (l0.length:Int)
   ·rw[if_pos c2] at H;have c2b0:=dE c2;clear c2;obtain⟨c3b0,H⟩:=iN H;obtain⟨c4b0,H⟩:=iN H;by_cases c5:(rd l0 x7_1) < (-1125899906842624)
    ·rw[if_pos c5] at H;have c5b0:=dE c5;clear c5;obtain rfl:=Option.some.inj H;obtain⟨ad111,e111,hx111_0,p111,q111⟩:=aI HR0.out x7_1;cases e111;go_wp2
     go_ret
     exact⟨sD,dR⟩
    ·rw[if_neg c5] at H;have c5b0:decide ((rd l0 x7_1) < (-1125899906842624))=false:=decide_eq_false c5;clear c5;by_cases c6:(rd l0 x7_1) > 1125899906842624
     ·rw[if_pos c6] at H;have c6b0:decide (1125899906842624 < (rd l0 x7_1))=true:=dE c6;clear c6;obtain rfl:=Option.some.inj H;obtain⟨ad111,e111,hx111_0,p111,q111⟩:=aI HR0.out x7_1;cases e111;go_wp2
      go_ret
      exact⟨sD,dR⟩
     ·rw[if_neg c6] at H;have c6b0:decide (1125899906842624 < (rd l0 x7_1))=false:=decide_eq_false c6;clear c6;have H':=aM H;clear H;obtain⟨ad111,e111,hx111_0,p111,q111⟩:=aI HR0.out x7_1;cases e111;go_wp2
      go_roundg k1
      case measure=>have:=HK1.out;omega
      case rel=>exact⟨(wrap64 (x7_1+1)),sD,H',⟨by have:=HK1.out;omega⟩,dR⟩
   ·rw[if_neg c2] at H;have c2b0:decide (x7_1 < (l0.length:Int))=false:=decide_eq_false c2;clear c2;obtain rfl:=Option.some.inj H;go_wp2
    go_ret
    exact⟨sD,dR⟩

def Bzj.f (a0:Int) (a1:Int):Option (Int × Int):=if 0≤a0∧a0≤1125899906842624∧0≤a1∧a1≤1125899906842624 then some (a0 * a1 / 18446744073709551616,a0 * a1 % 18446744073709551616) else none
theorem Bzj.w64 (n:Int) (h:0≤n) (h':n < 2 ^ 64):IntKind.u64.wrap n=n:=by
 have:IntKind.u64.wrap n=n % 18446744073709551616:=by simp [IntKind.wrap,IntKind.bits,IntKind.signed]
 rw[this];omega
theorem Bzj.and32 (x:Int) (h0:0≤x) (h1:x < 18446744073709551616):Go.bits .and .u64 x 4294967295=x % 4294967296 :=
 bits_mask .u64 64 (by decide) Bzj.w64 32 (by decide) x h0 h1
theorem Bzj.or32 (x y:Int) (hx:0≤x) (hx1:x < 18446744073709551616) (hm:x % 4294967296=0) (hy:0≤y) (hy1:y < 4294967296):Go.bits .or .u64 x y=x+y :=
 bits_join .u64 64 (by decide) Bzj.w64 32 x y hx hm hx1 hy hy1 (by omega)
theorem Bzj.mul_le {a b A B:Int} (ha0:0≤a) (ha:a≤A) (hb0:0≤b) (hb:b≤B):0≤a * b∧a * b≤A * B :=
 ⟨Int.mul_nonneg ha0 hb0,Int.mul_le_mul ha hb hb0 (by omega)⟩
theorem Bzj.parts (x00 x10 x01 x11:Int) (p00:0≤x00∧x00≤18446744065119617025) (p10:0≤x10∧x10≤1125899906580480) (p01:0≤x01∧x01≤1125899906580480) (p11:0≤x11∧x11≤68719476736) (low mid more:Int)
  (elow:low=IntKind.u64.wrap x00) (emid:mid=IntKind.u64.wrap (IntKind.u64.wrap x10+low / 4294967296)) (emore:more=IntKind.u64.wrap (IntKind.u64.wrap x01+Go.bits .and .u64 mid 4294967295)) :
  IntKind.u64.wrap (IntKind.u64.wrap (IntKind.u64.wrap x11+mid / 4294967296)+more / 4294967296)=(x11 * 18446744073709551616+(x10+x01) * 4294967296+x00) / 18446744073709551616 ∧
  Go.bits .or .u64 (IntKind.u64.wrap (more * 4294967296)) (Go.bits .and .u64 low 4294967295)=(x11 * 18446744073709551616+(x10+x01) * 4294967296+x00) % 18446744073709551616:=by
 rw[Bzj.w64 x00 p00.1 (by omega)] at elow
 subst elow;rw[Bzj.w64 x10 p10.1 (by omega),Bzj.w64 _ (by omega) (by omega)] at emid
 subst emid;rw[Bzj.and32 _ (by omega) (by omega),Bzj.w64 x01 p01.1 (by omega),Bzj.w64 _ (by omega) (by omega)] at emore
 subst emore;refine⟨?_,?_⟩
 ·rw[Bzj.w64 x11 p11.1 (by omega),Bzj.w64 (x11+_) (by omega) (by omega),Bzj.w64 _ (by omega) (by omega)]
  omega
 ·rw[Bzj.and32 low (by omega) (by omega)]
  have ew:∀ z:Int,IntKind.u64.wrap z=z % 18446744073709551616:=fun z=>by simp [IntKind.wrap,IntKind.bits,IntKind.signed]
  rw[ew,Bzj.or32 _ _ (by omega) (by omega) (by omega) (by omega) (by omega)]
  omega
theorem Bzj.arith (a b:Int) (ha0:0≤a) (ha:a≤1125899906842624) (hb0:0≤b) (hb:b≤1125899906842624) (a0 a1 b0 b1 low mid more:Int)
  (ea0:a0=Go.bits .and .u64 a 4294967295) (ea1:a1=a / 4294967296) (eb0:b0=Go.bits .and .u64 b 4294967295) (eb1:b1=b / 4294967296)
  (elow:low=IntKind.u64.wrap (a0 * b0)) (emid:mid=IntKind.u64.wrap (IntKind.u64.wrap (a1 * b0)+low / 4294967296)) (emore:more=IntKind.u64.wrap (IntKind.u64.wrap (a0 * b1)+Go.bits .and .u64 mid 4294967295)) :
  IntKind.u64.wrap (IntKind.u64.wrap (IntKind.u64.wrap (a1 * b1)+mid / 4294967296)+more / 4294967296)=a * b / 18446744073709551616 ∧
  Go.bits .or .u64 (IntKind.u64.wrap (more * 4294967296)) (Go.bits .and .u64 low 4294967295)=a * b % 18446744073709551616:=by
 rw[Bzj.and32 a ha0 (by omega)] at ea0
 rw[Bzj.and32 b hb0 (by omega)] at eb0
 have ka:a=a1 * 4294967296+a0:=by omega
 have kb:b=b1 * 4294967296+b0:=by omega
 have ra0:0≤a0∧a0≤4294967295:=by omega
 have rb0:0≤b0∧b0≤4294967295:=by omega
 have ra1:0≤a1∧a1≤262144:=by omega
 have rb1:0≤b1∧b1≤262144:=by omega
 have kab:a * b=a1 * b1 * 18446744073709551616+(a1 * b0+a0 * b1) * 4294967296+a0 * b0:=by rw[ka,kb];grind
 have p00:=Bzj.mul_le ra0.1 ra0.2 rb0.1 rb0.2;have p10:=Bzj.mul_le ra1.1 ra1.2 rb0.1 rb0.2;have p01:=Bzj.mul_le ra0.1 ra0.2 rb1.1 rb1.2;have p11:=Bzj.mul_le ra1.1 ra1.2 rb1.1 rb1.2;rw[kab];exact Bzj.parts _ _ _ _ ⟨p00.1,by omega⟩ ⟨p10.1,by omega⟩ ⟨p01.1,by omega⟩ ⟨p11.1,by omega⟩ low mid more elow emid emore
theorem Bzj.calls (a0:Int) (a1:Int) (r1:Int) (r2:Int) (w:World) (h:Bzj.f a0 a1=some (r1,r2)) :
  Calls Try.prog 70 #[.int .u64 a0,.int .u64 a1] w fun e w'=>e=.returned (.agg #[.int .u64 r1,.int .u64 r2])∧Below w.heap.size w w':=by
 unfold Bzj.f at h;split at h
 ·rename_i hb
  obtain⟨ha0,ha,hb0,hb⟩:=hb;obtain⟨z1,z2⟩:=Bzj.arith a0 a1 ha0 ha hb0 hb _ _ _ _ _ _ _ rfl rfl rfl rfl rfl rfl rfl;simp only[Option.some.injEq,Prod.mk.injEq] at h;obtain⟨h1,h2⟩:=h;have Z1:=aM (z1.trans h1);have Z2:=aM (z2.trans h2);clear z1 z2 h1 h2;go_enter Try.func70,Try.ntmps70
  go_wp2
  refine bodyPost_ret (v:=.agg #[.int .u64 r1,.int .u64 r2]) ?_ rfl ⟨rfl,?_⟩
  ·rw[← Z1.out,← Z2.out];simp [results,Try.results70,go_sem]
  ·exact(Below.refl _ _).alloc (Nat.le_refl _) _
 ·simp at h


def Hzq.f (a0:Int):Option (Int):=if a0 < 0 then(some (IntKind.u64.wrap (wrap64 (-a0)))) else(some (IntKind.u64.wrap (a0)))
theorem Hzq.calls (a0:Int) (r:Int) (w:World) (h:Hzq.f a0=some r) :
  Calls Try.prog 71 #[.int .i64 a0] w fun e w'=>e=.returned (.int .u64 r)∧Drawn0 w w':=by
 have H:(if a0 < 0 then(some (IntKind.u64.wrap (wrap64 (-a0)))) else(some (IntKind.u64.wrap (a0))))=some r:=h
 clear h;by_cases c2:a0 < 0
 ·rw[if_pos c2] at H;have c2b0:=dE c2;clear c2;obtain rfl:=Option.some.inj H;go_enter Try.func71,Try.ntmps71
  go_wp2
  go_ret
  exact⟨sD,dR⟩
 ·rw[if_neg c2] at H;have c2b0:decide (a0 < 0)=false:=decide_eq_false c2;clear c2;obtain rfl:=Option.some.inj H;go_enter Try.func71,Try.ntmps71
  go_wp2
  go_ret
  exact⟨sD,dR⟩

def Azv.f (a0_0:Int) (a0_1:Int) (a1:Int):Option (Int × Int × Bool) :=
 if 0≤a0_0∧a0_0 < 18446744073709551616∧0≤a0_1∧a0_1 < 18446744073709551616∧1≤a1∧a1≤1125899906842624 then
  (if(a0_0 * 18446744073709551616+a0_1) / a1 < 4611686018427387904 then some ((a0_0 * 18446744073709551616+a0_1) / a1,(a0_0 * 18446744073709551616+a0_1) % a1,true) else some (0,0,false))
 else none
/-- What the first k bits tell. -/
def Azv.T (p:Int) (k:Nat):Int:=p / 2 ^ (128 - k)
theorem Azv.p2 (n:Nat):(0:Int) < 2 ^ n:=Int.pow_pos (by decide)
theorem Azv.T_zero {p:Int} (h0:0≤p) (h:p < 340282366920938463463374607431768211456):Azv.T p 0=0:=Int.ediv_eq_zero_of_lt h0 h
theorem Azv.T_last (p:Int):Azv.T p 128=p:=by simp [Azv.T]
theorem Azv.T_nonneg {p:Int} (h0:0≤p) (k:Nat):0≤Azv.T p k:=Int.ediv_nonneg h0 (Int.le_of_lt (Azv.p2 _))
theorem Azv.T_succ (p:Int) (k:Nat) (hk:k < 128):Azv.T p (k+1)=2 * Azv.T p k+(p / 2 ^ (127 - k)) % 2:=by
 unfold Azv.T;have e1:128 - (k+1)=127 - k:=by omega
 have e2:128 - k=(127 - k)+1:=by omega
 rw[e1,e2,Int.pow_succ,← Int.ediv_ediv_of_nonneg (Int.le_of_lt (Azv.p2 _))];generalize p / 2 ^ (127 - k)=x;omega
theorem Azv.T_le {p:Int} (h0:0≤p) (k:Nat) (hk:k < 128):2 * Azv.T p k≤p:=by
 unfold Azv.T;have e2:128 - k=(127 - k)+1:=by omega
 rw[e2,Int.pow_succ,Int.mul_comm _ 2,← Int.ediv_ediv_of_nonneg (by omega)]
 have:=Int.ediv_le_self (a:=p / 2) (2 ^ (127 - k)) (by omega)
 generalize p / 2 / 2 ^ (127 - k)=y at *;omega
theorem Azv.bit_hi (a b:Int) (hb:0≤b) (hb1:b < 18446744073709551616) (k:Nat) (hk:k < 64):(a * 18446744073709551616+b) / 2 ^ (127 - k)=a / 2 ^ (63 - k):=by
 have e:127 - k=64+(63 - k):=by omega
 rw[e,Int.pow_add,← Int.ediv_ediv_of_nonneg (Int.le_of_lt (Azv.p2 _))];congr 1
 show _ / (18446744073709551616:Int)=a
 omega
theorem Azv.bit_lo (a b:Int) (k:Nat) (hk:64≤k) (hk1:k < 128):(a * 18446744073709551616+b) / 2 ^ (127 - k) % 2=b / 2 ^ (127 - k) % 2:=by
 obtain⟨j,hj⟩:∃ j,64=(127 - k)+(j+1):=⟨k - 64,by omega⟩
 have e:(18446744073709551616:Int)=2 ^ (127 - k) * 2 ^ j * 2:=by
  rw[Int.mul_assoc,← Int.pow_succ,← Int.pow_add,← hj];rfl
 have e3:a * 18446744073709551616+b=b+2 ^ (127 - k) * (2 * (a * 2 ^ j)):=by rw[e];grind
 rw[e3,Int.add_mul_ediv_left _ _ (Int.ne_of_gt (Azv.p2 _))];omega
theorem Azv.step {t c q r bit:Int} (hq:q=t / c) (hr:r=t % c):(2 * t+bit)=c * (2 * q)+(2 * r+bit):=by
 have:=Int.mul_ediv_add_emod t c;subst hq hr;grind
theorem Azv.divmod {t c q r:Int} (hc:0 < c) (h:t=c * q+r) (h0:0≤r) (h1:r < c):q=t / c∧r=t % c:=by
 subst h;constructor
 ·rw[Int.add_comm,Int.add_mul_ediv_left _ _ (by omega),Int.ediv_eq_zero_of_lt h0 h1];omega
 ·rw[Int.add_comm,Int.add_mul_emod_self_left,Int.emod_eq_of_lt h0 h1]
theorem Azv.and1 (x:Int) (h0:0≤x) (h1:x < 18446744073709551616):Go.bits .and .u64 x 1=x % 2 :=
 bits_mask .u64 64 (by decide) Bzj.w64 1 (by decide) x h0 h1
theorem Azv.or1 (x y:Int) (hx:0≤x) (hx1:x < 18446744073709551616) (hm:x % 2=0) (hy:0≤y) (hy1:y < 2):Go.bits .or .u64 x y=x+y :=
 bits_join .u64 64 (by decide) Bzj.w64 1 x y hx (by simpa using hm) hx1 hy (by simpa using hy1) (by omega)
/-- One round: from what k bits tell to what k+1 tell. -/
theorem Azv.round {p c q r:Int} {k:Nat} (hc:1≤c) (hk:k < 128) (h:q=Azv.T p k / c∧r=Azv.T p k % c) (b:Int) (hb:b=(p / 2 ^ (127 - k)) % 2) :
  (r * 2+b < c→q * 2=Azv.T p (k+1) / c∧r * 2+b=Azv.T p (k+1) % c) ∧
  (c≤r * 2+b→q * 2+1=Azv.T p (k+1) / c∧r * 2+b - c=Azv.T p (k+1) % c):=by
 have hs:=Azv.step (bit:=b) h.1 h.2;have hr0:0≤r:=by rw[h.2];exact Int.emod_nonneg _ (by omega)
 have hr1:r < c:=by rw[h.2];exact Int.emod_lt_of_pos _ (by omega)
 have hb2:0≤b∧b < 2:=by omega
 rw[Azv.T_succ p k hk,← hb];constructor
 ·intro hl;exact Azv.divmod (by omega) (by rw[hs];grind) (by omega) hl
 ·intro hl;exact Azv.divmod (by omega) (by rw[hs];grind) (by omega) (by omega)
theorem Azv.calls0 (a b c:Int) (w:World) (ha:0≤a) (ha1:a < 18446744073709551616) (hb:0≤b) (hb1:b < 18446744073709551616) (hc:1≤c) (hc1:c≤1125899906842624) (r1 r2:Int) (r3:Bool)
  (HR:Aside0 ((if(a * 18446744073709551616+b) / c < 4611686018427387904 then((a * 18446744073709551616+b) / c,(a * 18446744073709551616+b) % c,true) else(0,0,false))=(r1,r2,r3))) :
  Calls Try.prog 72 #[.agg #[.int .u64 a,.int .u64 b],.int .u64 c] w fun e w'=>e=.returned (.tuple #[.int .u64 r1,.int .u64 r2,.bool r3])∧Below w.heap.size w w':=by
 obtain⟨p,hp⟩:∃ p,p=a * 18446744073709551616+b:=⟨_,rfl⟩;have hp0:0≤p:=by omega
 have hp1:Aside0 (p < 340282366920938463463374607431768211456):=⟨by omega⟩
 have HP:=aM hp;rw[← hp] at HR;clear hp;go_enter Try.func72,Try.ntmps72
 go_wp2
 go_loop [7,8,12] (fun q r i=>∃ (k:Nat) (qv rv:Int),k≤128∧i=.int .i64 k∧q=.int .u64 qv∧r=.int .u64 rv∧Aside0 (qv=Azv.T p k / c∧rv=Azv.T p k % c)∧Aside0 (0 < k→qv < 4611686018427387904)) (fun _ _ i=>128 - (intOf i).toNat)
 case atStart=>exact⟨0,0,0,by omega,rfl,rfl,rfl,⟨by rw[Azv.T_zero hp0 hp1.out];simp⟩,⟨fun h=>absurd h (by omega)⟩⟩
 case round =>
  obtain⟨k,qv,rv,hk,rfl,rfl,rfl,H,HQ⟩:=hrel;have hq0:0≤qv:=by rw[H.out.1];exact Int.ediv_nonneg (Azv.T_nonneg hp0 k) (by omega)
  have hr0:0≤rv:=by rw[H.out.2];exact Int.emod_nonneg _ (by omega)
  have hr1:rv < c:=by rw[H.out.2];exact Int.emod_lt_of_pos _ (by omega)
  by_cases hlt:k < 128
  ·by_cases hq:qv < 2305843009213693952
   ·have hqd:Aside0 ((qv / 2305843009213693952 != 0)=false):=⟨by simp;omega⟩
    by_cases h64:k < 64
    ·have e64:k / 64=0:=by omega
     obtain⟨bv,hbv⟩:∃ bv,bv=(a / 2 ^ (63 - k % 64)) % 2:=⟨_,rfl⟩;have hb2:0≤bv∧bv < 2:=by omega
     have hb3:=hb2.1;have hb4:=hb2.2;have hrd:=Azv.round hc hlt H.out bv (by
      rw[hbv,HP.out,Azv.bit_hi a b hb hb1 k h64];have e:(63 - k % 64)=63 - k:=by omega
      rw[e])
     have HRD:=aM hrd;have hand:Go.bits .and .u64 (a / 2 ^ (63 - k % 64)) 1=bv:=by
      rw[hbv];exact Azv.and1 _ (Int.ediv_nonneg (by omega) (Int.le_of_lt (Azv.p2 _))) (Int.lt_of_le_of_lt (Int.ediv_le_self _ (by omega)) (by omega))
     have hor:Go.bits .or .u64 (rv * 2) bv=rv * 2+bv:=Azv.or1 _ _ (by omega) (by omega) (by omega) hb2.1 hb2.2
     have hor2:Go.bits .or .u64 (qv * 2) 1=qv * 2+1:=Azv.or1 _ _ (by omega) (by omega) (by omega) (by omega) (by omega)
     clear hrd hbv hb2;by_cases ht:c≤rv * 2+bv
     ·go_wp2
      go_round
      case rel=>exact⟨k+1,qv * 2+1,rv * 2+bv - c,by omega,by go_num,rfl,rfl,⟨HRD.out.2 ht⟩,⟨fun _=>by omega⟩⟩
      case measure=>simp [intOf];omega
     ·go_wp2
      go_round
      case rel=>exact⟨k+1,qv * 2,rv * 2+bv,by omega,by go_num,rfl,rfl,⟨HRD.out.1 (by omega)⟩,⟨fun _=>by omega⟩⟩
      case measure=>simp [intOf];omega
    ·have e64:k / 64=1:=by omega
     obtain⟨bv,hbv⟩:∃ bv,bv=(b / 2 ^ (63 - k % 64)) % 2:=⟨_,rfl⟩;have hb2:0≤bv∧bv < 2:=by omega
     have hb3:=hb2.1;have hb4:=hb2.2;have hrd:=Azv.round hc hlt H.out bv (by
      rw[hbv,HP.out,Azv.bit_lo a b k (by omega) hlt]
      have e:(63 - k % 64)=127 - k:=by omega
      rw[e])
     have HRD:=aM hrd;have hand:Go.bits .and .u64 (b / 2 ^ (63 - k % 64)) 1=bv:=by
      rw[hbv];exact Azv.and1 _ (Int.ediv_nonneg (by omega) (Int.le_of_lt (Azv.p2 _))) (Int.lt_of_le_of_lt (Int.ediv_le_self _ (by omega)) (by omega))
     have hor:Go.bits .or .u64 (rv * 2) bv=rv * 2+bv:=Azv.or1 _ _ (by omega) (by omega) (by omega) hb2.1 hb2.2
     have hor2:Go.bits .or .u64 (qv * 2) 1=qv * 2+1:=Azv.or1 _ _ (by omega) (by omega) (by omega) (by omega) (by omega)
     clear hrd hbv hb2;by_cases ht:c≤rv * 2+bv
     ·go_wp2
      go_round
      case rel=>exact⟨k+1,qv * 2+1,rv * 2+bv - c,by omega,by go_num,rfl,rfl,⟨HRD.out.2 ht⟩,⟨fun _=>by omega⟩⟩
      case measure=>simp [intOf];omega
     ·go_wp2
      go_round
      case rel=>exact⟨k+1,qv * 2,rv * 2+bv,by omega,by go_num,rfl,rfl,⟨HRD.out.1 (by omega)⟩,⟨fun _=>by omega⟩⟩
      case measure=>simp [intOf];omega
   ·have hqt:(qv / 2305843009213693952 != 0)=true:=by
     rw[bne_iff_ne];omega
    have HQT:=aM hqt;have hbig:¬ (p / c < 4611686018427387904):=by
     intro hcon;have h1:=Azv.T_le hp0 k hlt;have h2:2 * qv≤p / c:=by
      rw[H.out.1];have h3:c * (Azv.T p k / c)≤Azv.T p k:=Int.mul_ediv_self_le (by omega)
      exact Int.le_ediv_of_mul_le (by omega) (by
       have:2 * (Azv.T p k / c) * c=2 * (c * (Azv.T p k / c)):=by grind
       omega)
     omega
    have HR2:=HR.out;rw[if_neg hbig] at HR2;simp only[Prod.mk.injEq] at HR2;obtain⟨rfl,rfl,rfl⟩:=HR2;clear HR hbig;have hqn:¬ (qv < 2305843009213693952):=hq;by_cases h64:k < 64
    ·have e64:k / 64=0:=by omega
     go_wp2
     go_ret3
     exact⟨rfl,by exact(Below.refl _ _).alloc (Nat.le_refl _) _⟩
    ·have e64:k / 64=1:=by omega
     go_wp2
     go_ret3
     exact⟨rfl,by exact(Below.refl _ _).alloc (Nat.le_refl _) _⟩
  ·obtain rfl:k=128:=by omega
   have HR2:=HR.out;have e1:=H.out;rw[Azv.T_last] at e1;have hsm:p / c < 4611686018427387904:=by rw[← e1.1];exact HQ.out (by omega)
   rw[if_pos hsm] at HR2;simp only[Prod.mk.injEq] at HR2;obtain⟨h1,h2,rfl⟩:=HR2;obtain rfl:r1=qv:=by rw[e1.1];exact h1.symm
   obtain rfl:r2=rv:=by rw[e1.2];exact h2.symm
   clear h1 h2 e1 hsm HR;go_wp2
   go_ret3
   exact⟨rfl,by exact(Below.refl _ _).alloc (Nat.le_refl _) _⟩
theorem Azv.calls (a0_0:Int) (a0_1:Int) (a1:Int) (r1:Int) (r2:Int) (r3:Bool) (w:World) (h:Azv.f a0_0 a0_1 a1=some (r1,r2,r3)) :
  Calls Try.prog 72 #[.agg #[.int .u64 a0_0,.int .u64 a0_1],.int .u64 a1] w fun e w'=>e=.returned (.tuple #[.int .u64 r1,.int .u64 r2,.bool r3])∧Below w.heap.size w w':=by
 unfold Azv.f at h;split at h
 ·rename_i hb
  obtain⟨h1,h2,h3,h4,h5,h6⟩:=hb;refine Azv.calls0 a0_0 a0_1 a1 w h1 h2 h3 h4 h5 h6 r1 r2 r3 ⟨?_⟩;split at h
  ·rename_i hs
   rw[if_pos hs];exact Option.some.inj h
  ·rename_i hs
   rw[if_neg hs];exact Option.some.inj h
 ·simp at h

end Go.Proofs.Ytnklckihalhlmaa.Print
