import Derived.Test.YtnklckihalhlmaaProg
import Derived.Below
import Derived.Deep.Draws
import Derived.Deep.AppendLies
import Derived.Maps.AppendAt
import Derived.OwnWalk
import Derived.Laws.BytesArg
import Derived.Laws.MakeOwn
import Derived.Laws.OwnMore
import Derived.Deep.OwnRows
import Derived.Tactics
import Derived.Lib.ConvBytes
import Derived.Laws.Slices
import Derived.WalkKit
import Derived.KernelRfl
import Derived.RowKit3
import Derived.Deep.LoopGhost
import Derived.Deep.QuietTactic
import Derived.BigQuiet
import Derived.WideLaws
import Derived.Deep.DeepCutAuto
import Derived.Deep.CutBlock
import Derived.Deep.RegionHeld3
import Derived.Laws.Rows
import Derived.Lib.AppendStr
import Derived.ArgAppend
import Derived.Laws.IdiomCopy
import Derived.OrdersHeld
import Derived.Laws.BitsLemmas
import Derived.RowKit
import Derived.Laws.CopyOwn
import Derived.Test.YtnklckihalhlmaaWWords
import Derived.Test.YtnklckihalhlmaaWLast
import Derived.Test.YtnklckihalhlmaaWTab
import Derived.Test.YtnklckihalhlmaaWFour
import Derived.Test.YtnklckihalhlmaaWQPut
import Derived.Test.YtnklckihalhlmaaWApart
import Derived.Test.YtnklckihalhlmaaWArr
import Derived.Test.YtnklckihalhlmaaWZeros
import Derived.Test.YtnklckihalhlmaaWFoot
import Derived.Test.YtnklckihalhlmaaWKept
import Derived.Test.YtnklckihalhlmaaWShare
import Derived.Test.YtnklckihalhlmaaWN
import Derived.Test.YtnklckihalhlmaaWFootNe
import Derived.Test.YtnklckihalhlmaaWAt
import Derived.Test.YtnklckihalhlmaaWEqStruct
import Derived.Test.YtnklckihalhlmaaWRepsOne
import Derived.Test.YtnklckihalhlmaaWInv
import Derived.Test.YtnklckihalhlmaaWInvWords
import Derived.Test.YtnklckihalhlmaaWGuard
import Derived.Test.YtnklckihalhlmaaWNEv
import Derived.Test.YtnklckihalhlmaaWMore
namespace Go.Proofs.Ytnklckihalhlmaa.Print
open Go.RowKit Go.Proofs.YtnklckihalhlmaaW.PrintWords Go.Proofs.YtnklckihalhlmaaW.PrintLast Go.Proofs.YtnklckihalhlmaaW.PrintMore
attribute [local go_sem] max2_int min2_int max_two min_two max_three min_three max_four min_four
set_option linter.unusedVariables false
set_option maxRecDepth 100000
set_option maxHeartbeats 8000000
set_option linter.unusedSimpArgs false



def errW:Option Int→Value
  | none=>.nilIface
  | some c=>.iface 0 (.int .i64 c)
theorem errW_none:errW none=.nilIface:=rfl
theorem errW_some (c:Int):errW (some c)=.iface 0 (.int .i64 c):=rfl
theorem eW {P:Prop} (h:P:=by first|rfl|(simp [errW_none,errW_some] <;> rfl)|(simp [*,errW_none,errW_some] <;> rfl)):P:=h

theorem info3:(Try.prog.info? 3).map (fun i=>(i.zero,i.size,i.bytes))=some (some (.int .i64 0),1,8):=by kernel_rfl
theorem info31:(Try.prog.info? 31).map (fun i=>(i.zero,i.size,i.bytes))=some (some (.agg #[(.int .i64 0),(.int .i64 0)]),2,16):=by kernel_rfl
theorem info46:(Try.prog.info? 46).map (fun i=>(i.zero,i.size,i.bytes))=some (some (.agg #[(.int .i64 0),(.int .i64 0)]),2,16):=by kernel_rfl
structure S46 where
  f0:Int
  f1:Int
def z46:S46:=⟨(0:Int),(0:Int)⟩
def k46:Kd S46:=Kd.iso (Kd.pair (Kd.int .i64) (Kd.int .i64)) (fun x:S46=>(x.f0,x.f1))
theorem k46_heap:Kd.Heap k46:=Kd.heap_iso _ (Kd.heap_pair (Kd.heap_int .i64) (Kd.heap_int .i64))
theorem k46_open {w:World} {x:S46} {cs:List Value} (h:k46.K w x cs):cs=[.int .i64 x.f0,.int .i64 x.f1]:=by
  obtain⟨_,_,rfl,rfl,rfl⟩:=h;exact rfl
theorem k46_openM {w:World} {base:Nat} {ok:Nat→Prop} {x:S46} {cs:List Value} (h:k46.M w base ok x cs):cs=[.int .i64 x.f0,.int .i64 x.f1]:=by
  obtain⟨_,_,rfl,rfl,rfl⟩:=h;exact rfl
theorem k46_mk (w:World) (x:S46)  : k46.K w x [.int .i64 x.f0,.int .i64 x.f1]:=⟨[.int .i64 x.f0],[.int .i64 x.f1],rfl,rfl,rfl⟩
theorem k46_mkM (w:World) (base:Nat) (ok:Nat→Prop) (x:S46)  : k46.M w base ok x [.int .i64 x.f0,.int .i64 x.f1]:=⟨[.int .i64 x.f0],[.int .i64 x.f1],rfl,rfl,rfl⟩
theorem k46_mkF (W:World) (ok:Nat→Prop) (x:S46):Kd.FK k46 W ok x [.int .i64 x.f0,.int .i64 x.f1]:=fun W2 _=>k46_mk W2 x
def rd_T46 (xs:List S46) (i:Int):S46:=xs.getD i.toNat z46
theorem at_T46 {w:World} {A:Option Addr} {n:Nat} {xs:List S46} (h:Kd.C k46 w A n xs) (i:Int) (h0:0≤i) (h1:i < n):∃ ad,A=some ad∧w.cell? (ad.add (i.toNat * 2))=some (.int .i64 (rd_T46 xs i).f0)∧w.cell? ⟨(ad.add (i.toNat * 2)).block,(ad.add (i.toNat * 2)).off+1,none⟩=some (.int .i64 (rd_T46 xs i).f1):=by
  obtain⟨ad,c,e,_,hK,hc0⟩:=Kd.C_get h z46 i h0 h1;have hc:∀ j u,c[j]?=some u→w.cell? (ad.add (i.toNat * 2+j))=some u:=hc0;obtain rfl:=k46_open hK;exact⟨ad,e,hc 0 _ rfl,by rw[← add_field _ _ 1 (by omega)];exact hc 1 _ rfl⟩

structure S91 where
  f0:Int
  f1:Int
def z91:S91:=⟨(0:Int),(0:Int)⟩
def k91:Kd S91:=Kd.iso (Kd.pair (Kd.int .u64) (Kd.int .u64)) (fun x:S91=>(x.f0,x.f1))
theorem k91_heap:Kd.Heap k91:=Kd.heap_iso _ (Kd.heap_pair (Kd.heap_int .u64) (Kd.heap_int .u64))
theorem k91_open {w:World} {x:S91} {cs:List Value} (h:k91.K w x cs):cs=[.int .u64 x.f0,.int .u64 x.f1]:=by
  obtain⟨_,_,rfl,rfl,rfl⟩:=h;exact rfl
theorem k91_openM {w:World} {base:Nat} {ok:Nat→Prop} {x:S91} {cs:List Value} (h:k91.M w base ok x cs):cs=[.int .u64 x.f0,.int .u64 x.f1]:=by
  obtain⟨_,_,rfl,rfl,rfl⟩:=h;exact rfl
theorem k91_mk (w:World) (x:S91)  : k91.K w x [.int .u64 x.f0,.int .u64 x.f1]:=⟨[.int .u64 x.f0],[.int .u64 x.f1],rfl,rfl,rfl⟩
theorem k91_mkM (w:World) (base:Nat) (ok:Nat→Prop) (x:S91)  : k91.M w base ok x [.int .u64 x.f0,.int .u64 x.f1]:=⟨[.int .u64 x.f0],[.int .u64 x.f1],rfl,rfl,rfl⟩
theorem k91_mkF (W:World) (ok:Nat→Prop) (x:S91):Kd.FK k91 W ok x [.int .u64 x.f0,.int .u64 x.f1]:=fun W2 _=>k91_mk W2 x
def rd_T91 (xs:List S91) (i:Int):S91:=xs.getD i.toNat z91
theorem at_T91 {w:World} {A:Option Addr} {n:Nat} {xs:List S91} (h:Kd.C k91 w A n xs) (i:Int) (h0:0≤i) (h1:i < n):∃ ad,A=some ad∧w.cell? (ad.add (i.toNat * 2))=some (.int .u64 (rd_T91 xs i).f0)∧w.cell? ⟨(ad.add (i.toNat * 2)).block,(ad.add (i.toNat * 2)).off+1,none⟩=some (.int .u64 (rd_T91 xs i).f1):=by
  obtain⟨ad,c,e,_,hK,hc0⟩:=Kd.C_get h z91 i h0 h1;have hc:∀ j u,c[j]?=some u→w.cell? (ad.add (i.toNat * 2+j))=some u:=hc0;obtain rfl:=k91_open hK;exact⟨ad,e,hc 0 _ rfl,by rw[← add_field _ _ 1 (by omega)];exact hc 1 _ rfl⟩

def rd_L5 (xs:List (List S46)) (i:Int):(List S46):=xs.getD i.toNat ([]:List S46)
theorem at_L5 {w:World} {A:Option Addr} {n:Nat} {xs:List (List S46)} (h:Kd.C (Kd.slice 46 k46) w A n xs) (i:Int) (h0:0≤i) (h1:i < n):∃ ad A0 c0,A=some ad∧w.cell? (ad.add i.toNat)=some (.slice A0 (rd_L5 xs i).length c0)∧(rd_L5 xs i).length≤c0∧k46.C w A0 (rd_L5 xs i).length (rd_L5 xs i):=by
  obtain⟨ad,c,e,_,hK,hc0⟩:=Kd.C_get h ([]:List S46) i h0 h1;have hc:∀ j u,c[j]?=some u→w.cell? (ad.add (i.toNat * 1+j))=some u:=hc0;obtain⟨A0,c0,rfl,l0,g0⟩:=hK;exact⟨ad,A0,c0,e,by have hq:=hc 0 _ rfl;rwa [Nat.mul_one,Nat.add_zero] at hq,l0,g0⟩

def rd_L6 (xs:List (List Int)) (i:Int):(List Int):=xs.getD i.toNat ([]:List Int)
theorem at_L6 {w:World} {A:Option Addr} {n:Nat} {xs:List (List Int)} (h:Kd.C (Kd.slice 3 (Kd.int .i64)) w A n xs) (i:Int) (h0:0≤i) (h1:i < n):∃ ad A0 c0,A=some ad∧w.cell? (ad.add i.toNat)=some (.slice A0 (rd_L6 xs i).length c0)∧(rd_L6 xs i).length≤c0∧(Kd.int .i64).C w A0 (rd_L6 xs i).length (rd_L6 xs i):=by
  obtain⟨ad,c,e,_,hK,hc0⟩:=Kd.C_get h ([]:List Int) i h0 h1;have hc:∀ j u,c[j]?=some u→w.cell? (ad.add (i.toNat * 1+j))=some u:=hc0;obtain⟨A0,c0,rfl,l0,g0⟩:=hK;exact⟨ad,A0,c0,e,by have hq:=hc 0 _ rfl;rwa [Nat.mul_one,Nat.add_zero] at hq,l0,g0⟩

structure S39 where
  f0:Bool
  f1:(List Int)
  f2:(List Int)
def z39:S39:=⟨false,([]:List Int),([]:List Int)⟩
def k39:Kd S39:=Kd.iso (Kd.pair Kd.bool (Kd.pair (Kd.slice 3 (Kd.int .i64)) (Kd.slice 3 (Kd.int .i64)))) (fun x:S39=>(x.f0,x.f1,x.f2))
theorem k39_heap:Kd.Heap k39:=Kd.heap_iso _ (Kd.heap_pair Kd.heap_bool (Kd.heap_pair (Kd.heap_slice 3 (Kd.heap_int .i64)) (Kd.heap_slice 3 (Kd.heap_int .i64))))
theorem k39_open {w:World} {x:S39} {cs:List Value} (h:k39.K w x cs):∃ A1 c1 A2 c2,cs=[.bool x.f0,.slice A1 x.f1.length c1,.slice A2 x.f2.length c2]∧x.f1.length≤c1∧(Kd.int .i64).C w A1 x.f1.length x.f1∧x.f2.length≤c2∧(Kd.int .i64).C w A2 x.f2.length x.f2:=by
  obtain⟨_,_,rfl,rfl,⟨_,_,rfl,⟨A1,c1,rfl,l1,g1⟩,⟨A2,c2,rfl,l2,g2⟩⟩⟩:=h;exact⟨A1,c1,A2,c2,rfl,l1,g1,l2,g2⟩
theorem k39_openM {w:World} {base:Nat} {ok:Nat→Prop} {x:S39} {cs:List Value} (h:k39.M w base ok x cs):∃ v1 v2,cs=[.bool x.f0,v1,v2]∧(Kd.int .i64).R 3 w base ok v1 x.f1∧(Kd.int .i64).R 3 w base ok v2 x.f2:=by
  obtain⟨_,_,rfl,rfl,⟨_,_,rfl,⟨v1,rfl,g1⟩,⟨v2,rfl,g2⟩⟩⟩:=h;exact⟨v1,v2,rfl,g1,g2⟩
theorem k39_mk (w:World) (x:S39) {A1:Option Addr} {c1:Nat} (l1:x.f1.length≤c1) (g1:(Kd.int .i64).C w A1 x.f1.length x.f1) {A2:Option Addr} {c2:Nat} (l2:x.f2.length≤c2) (g2:(Kd.int .i64).C w A2 x.f2.length x.f2):k39.K w x [.bool x.f0,.slice A1 x.f1.length c1,.slice A2 x.f2.length c2]:=⟨[.bool x.f0],[.slice A1 x.f1.length c1,.slice A2 x.f2.length c2],rfl,rfl,⟨[.slice A1 x.f1.length c1],[.slice A2 x.f2.length c2],rfl,⟨A1,c1,rfl,l1,g1⟩,⟨A2,c2,rfl,l2,g2⟩⟩⟩
theorem k39_mkM (w:World) (base:Nat) (ok:Nat→Prop) (x:S39) {v1:Value} (g1:(Kd.int .i64).R 3 w base ok v1 x.f1) {v2:Value} (g2:(Kd.int .i64).R 3 w base ok v2 x.f2):k39.M w base ok x [.bool x.f0,v1,v2]:=⟨[.bool x.f0],[v1,v2],rfl,rfl,⟨[v1],[v2],rfl,⟨v1,rfl,g1⟩,⟨v2,rfl,g2⟩⟩⟩
theorem k39_openF {W:World} {ok:Nat→Prop} {x:S39} {cs:List Value} (h:Kd.FK k39 W ok x cs):∃ A1 c1 A2 c2,cs=[.bool x.f0,.slice A1 x.f1.length c1,.slice A2 x.f2.length c2]∧x.f1.length≤c1∧Kd.F (Kd.int .i64) W ok A1 x.f1.length x.f1∧x.f2.length≤c2∧Kd.F (Kd.int .i64) W ok A2 x.f2.length x.f2:=by
  obtain⟨A1,c1,A2,c2,rfl,l1,_,l2,_⟩:=k39_open (Kd.FK_now h);exact⟨A1,c1,A2,c2,rfl,l1,(fun W' hW=>by obtain⟨A1_,c1_,A2_,c2_,he,l1_,g1_,l2_,g2_⟩:=k39_open (h W' hW);injection (Option.some.inj (show some (Value.slice A1 x.f1.length c1)=some (Value.slice A1_ x.f1.length c1_) from congrArg (fun l=>l[1]?) he)) with ha_ _ _;rw[ha_];exact g1_),l2,(fun W' hW=>by obtain⟨A1_,c1_,A2_,c2_,he,l1_,g1_,l2_,g2_⟩:=k39_open (h W' hW);injection (Option.some.inj (show some (Value.slice A2 x.f2.length c2)=some (Value.slice A2_ x.f2.length c2_) from congrArg (fun l=>l[2]?) he)) with ha_ _ _;rw[ha_];exact g2_)⟩
theorem k39_mkF (W:World) (ok:Nat→Prop) (x:S39) {A1:Option Addr} {c1:Nat} (l1:x.f1.length≤c1) (g1:Kd.F (Kd.int .i64) W ok A1 x.f1.length x.f1) {A2:Option Addr} {c2:Nat} (l2:x.f2.length≤c2) (g2:Kd.F (Kd.int .i64) W ok A2 x.f2.length x.f2):Kd.FK k39 W ok x [.bool x.f0,.slice A1 x.f1.length c1,.slice A2 x.f2.length c2]:=fun W2 hW=>k39_mk W2 x l1 (g1 W2 hW) l2 (g2 W2 hW)
def rd_T39 (xs:List S39) (i:Int):S39:=xs.getD i.toNat z39
theorem at_T39 {w:World} {A:Option Addr} {n:Nat} {xs:List S39} (h:Kd.C k39 w A n xs) (i:Int) (h0:0≤i) (h1:i < n):∃ ad A1 c1 A2 c2,A=some ad∧w.cell? (ad.add (i.toNat * 3))=some (.bool (rd_T39 xs i).f0)∧w.cell? ⟨(ad.add (i.toNat * 3)).block,(ad.add (i.toNat * 3)).off+1,none⟩=some (.slice A1 (rd_T39 xs i).f1.length c1)∧w.cell? ⟨(ad.add (i.toNat * 3)).block,(ad.add (i.toNat * 3)).off+2,none⟩=some (.slice A2 (rd_T39 xs i).f2.length c2)∧(rd_T39 xs i).f1.length≤c1∧(Kd.int .i64).C w A1 (rd_T39 xs i).f1.length (rd_T39 xs i).f1∧(rd_T39 xs i).f2.length≤c2∧(Kd.int .i64).C w A2 (rd_T39 xs i).f2.length (rd_T39 xs i).f2:=by
  obtain⟨ad,c,e,_,hK,hc0⟩:=Kd.C_get h z39 i h0 h1;have hc:∀ j u,c[j]?=some u→w.cell? (ad.add (i.toNat * 3+j))=some u:=hc0;obtain⟨A1,c1,A2,c2,rfl,l1,g1,l2,g2⟩:=k39_open hK;exact⟨ad,A1,c1,A2,c2,e,hc 0 _ rfl,by rw[← add_field _ _ 1 (by omega)];exact hc 1 _ rfl,by rw[← add_field _ _ 2 (by omega)];exact hc 2 _ rfl,l1,g1,l2,g2⟩

structure S31 where
  f0:Int
  f1:Int
def z31:S31:=⟨(0:Int),(0:Int)⟩
def k31:Kd S31:=Kd.iso (Kd.pair (Kd.int .i64) (Kd.int .i64)) (fun x:S31=>(x.f0,x.f1))
theorem k31_heap:Kd.Heap k31:=Kd.heap_iso _ (Kd.heap_pair (Kd.heap_int .i64) (Kd.heap_int .i64))
theorem k31_open {w:World} {x:S31} {cs:List Value} (h:k31.K w x cs):cs=[.int .i64 x.f0,.int .i64 x.f1]:=by
  obtain⟨_,_,rfl,rfl,rfl⟩:=h;exact rfl
theorem k31_openM {w:World} {base:Nat} {ok:Nat→Prop} {x:S31} {cs:List Value} (h:k31.M w base ok x cs):cs=[.int .i64 x.f0,.int .i64 x.f1]:=by
  obtain⟨_,_,rfl,rfl,rfl⟩:=h;exact rfl
theorem k31_mk (w:World) (x:S31)  : k31.K w x [.int .i64 x.f0,.int .i64 x.f1]:=⟨[.int .i64 x.f0],[.int .i64 x.f1],rfl,rfl,rfl⟩
theorem k31_mkM (w:World) (base:Nat) (ok:Nat→Prop) (x:S31)  : k31.M w base ok x [.int .i64 x.f0,.int .i64 x.f1]:=⟨[.int .i64 x.f0],[.int .i64 x.f1],rfl,rfl,rfl⟩
theorem k31_mkF (W:World) (ok:Nat→Prop) (x:S31):Kd.FK k31 W ok x [.int .i64 x.f0,.int .i64 x.f1]:=fun W2 _=>k31_mk W2 x
def rd_T31 (xs:List S31) (i:Int):S31:=xs.getD i.toNat z31
theorem at_T31 {w:World} {A:Option Addr} {n:Nat} {xs:List S31} (h:Kd.C k31 w A n xs) (i:Int) (h0:0≤i) (h1:i < n):∃ ad,A=some ad∧w.cell? (ad.add (i.toNat * 2))=some (.int .i64 (rd_T31 xs i).f0)∧w.cell? ⟨(ad.add (i.toNat * 2)).block,(ad.add (i.toNat * 2)).off+1,none⟩=some (.int .i64 (rd_T31 xs i).f1):=by
  obtain⟨ad,c,e,_,hK,hc0⟩:=Kd.C_get h z31 i h0 h1;have hc:∀ j u,c[j]?=some u→w.cell? (ad.add (i.toNat * 2+j))=some u:=hc0;obtain rfl:=k31_open hK;exact⟨ad,e,hc 0 _ rfl,by rw[← add_field _ _ 1 (by omega)];exact hc 1 _ rfl⟩

/-- What a function value has captured. -/
def capsOf:Value→Array Value
  | .func _ _ c=>c
  | _=>#[]
section
variable {P : Program} {ops : Array Oper} {Q : Exit → Act → World → Prop}
/-- A call of a closure in a region that draws: the same as goes_,its captured variables behind its arguments. -/
theorem goesv_ {oi:Oper} {N:Option Tmp} {a:Act} {w:World} {K:Act→World→Prop} {f:FuncId} {fn:Func} {c:Operand} {ars:Array Operand} {ts:Array TypeId} (hf:P.funcs[f]?=some fn) (hname:(fn.name == "runtime.NumGoroutine")=false) (hb:fn.body.isSome=true) (args:Array Value)
    (hw:Region.wanted oi (yielded ops a.tmps)=true) (hN:oi.dst=N) (hop:oi.op=.call { callee:=.value c,args:=ars,argTypes:=ts }) (hargs:ars.map a.eval ++ capsOf (a.eval c)=args)
    (h:Calls P f args w fun e w'=>∃ v,e=.returned v∧K (a.put N v) w') (hc:a.eval c=.func (.func f) #[] (capsOf (a.eval c)):=by rfl):if Region.wanted oi (yielded ops a.tmps)=true then Oper.wp P oi a w K Q else K (a.put N undef) w:=by
  refine call_ f args hw hN ?_ h;have he:=enters_ hf hname hb args w;unfold execOp;simp only[hop];simp [resolve];rw[hc];simp only[Deferred.ofValue];simp [invoke];rw[hargs];exact he
end
namespace Kd
section
variable {α : Type} {d : Kd α} {W w : World} {g : Nat} {T : TypeId} {cs : Array Value} {x : α}
/-- A variable in memory,read as a row of one element. -/
theorem cap_C (hb:W.heap[g]?=some (.cells cs T (0,0))) (hK:d.K W x cs.toList):d.C W (some ⟨g,0,none⟩) 1 [x]:=by
  refine⟨rfl,by omega,fun _=>⟨_,rfl,fun j p hj=>?_⟩⟩
  cases j with
  | zero =>
    simp only[List.getElem?_cons_zero,Option.some.injEq] at hj;subst hj;refine⟨cs.toList,d.K_len hK,hK,fun i u hu=>?_⟩
    rw[Nat.zero_mul,Nat.zero_add,add_plain];exact(blk_cell hb i).trans (by simpa using hu)
  | succ j=>simp at hj
theorem cap_kept {S:Nat→Prop} (hb:w.heap[g]?=some (.cells cs T (0,0))) (hg:¬ S g) (hK:∀ W_,Kept w W_ S→d.K W_ x cs.toList):∀ W_,Kept w W_ S→d.C W_ (some ⟨g,0,none⟩) 1 [x] :=
  fun W_ hk=>cap_C (blk_kept hb hk hg) (hK W_ hk)
end
end Kd
theorem eval_some {a:Act} {n:Tmp} {v:Value} (h:a.tmps[n]?=some v):a.eval (.tmp n)=v:=by
  simp [Act.eval,h]
/-- Two rows of the call's own are two. -/
def NEb (u v:Value):Prop:=∀ k,u.ownBlock=some k→some k≠v.ownBlock
theorem NEb.symm {u v:Value} (h:NEb u v):NEb v u:=fun k hk e=>h k e.symm hk.symm
theorem NEb_new {α:Type} {d:Kd α} {e base:Nat} {ok:Nat→Prop} {W:World} {u v:Value} {xs:List α} (hu:d.R e W base ok u xs) (hv:∀ k,v.ownBlock=some k→W.heap.size≤k):NEb v u:=fun k hk e_=>by
  obtain⟨inner,ho⟩:=Kd.R_own hu;have h1:=own_lt ho k e_.symm;have h2:=hv k hk;omega
theorem own_len (A:Option Addr) (n m c:Nat):(Value.slice A n c).ownBlock=(Value.slice A m c).ownBlock:=by
  rcases A with _|a <;> rfl
/-- The builtin copy,as a call is told. -/
def BCopy (P:Program) (dT sT ty:TypeId) (dv sv:Value) (w:World) (Q:Ending→World→Prop):Prop :=
  ∃ (n:Nat) (w':World),(Builtin.copy_ #[dT,sT] ty #[dv,sv]).run P w=.ok (goInt n) w'∧Q (.returned (goInt n)) w'
theorem BCopy.mono {P:Program} {dT sT ty:TypeId} {dv sv:Value} {w:World} {Q Q':Ending→World→Prop} (h:BCopy P dT sT ty dv sv w Q) (hq:∀ e w',Q e w'→Q' e w'):BCopy P dT sT ty dv sv w Q':=by
  obtain⟨n,w',h1,h2⟩:=h;exact⟨n,w',h1,hq _ _ h2⟩
section
variable {P : Program} {ops : Array Oper} {Q : Exit → Act → World → Prop}
theorem copyL_ {rest:List Oper} {oi:Oper} {a:Act} {w:World} (N:Option Tmp) (hd:oi.dst=N) (hg:oi.guard=none) {d s:Operand} {dT sT:TypeId} (ho:oi.op=.call { callee:=.builtin .copy,args:=#[d,s],argTypes:=#[dT,sT] }) (dv sv:Value)
    (h1:a.eval d=dv) (h2:a.eval s=sv) (h:BCopy P dT sT oi.type dv sv w fun e w'=>∃ v,e=.returned v∧wpList P ops Q rest (a.put N v) w'):wpList P ops Q (oi :: rest) a w:=by
  obtain⟨n,w',hrun,v,hv,hk⟩:=h;injection hv with hv
  subst hv;subst hd;refine wpList_plain hg fun K hK=>?_
  unfold Oper.wp;simp [execOp,ho,resolve,invoke,builtin,h1,h2,hrun,Result.andThen];exact hK _ _ hk
end
def Gzy.f (l0:List Int) (l1:List Int):Option (Int × List Int):=some ((Nat.min l1.length l0.length:Nat),l1.take l0.length ++ l0.drop l1.length)
theorem Gzy.calls {dT sT ty:TypeId} (hu:Try.prog.underlying dT=some (.slice 3)) (P0_:Nat→Prop) (u9000_:Value) (l0:List Int) (A1:Option Addr) (c1:Nat) (l1:List Int) (r1:Int) (r2:List Int) (w0 w:World) (hB:Below w0.heap.size w0 w)
    (ho0:Kd.R (Kd.int .i64) 3 w w0.heap.size P0_ u9000_ l0) (hr1:∀ W_,Kept w W_ (fun k_=>P0_ k_)→Kd.C (Kd.int .i64) W_ A1 l1.length l1) (hc1:l1.length≤c1) (h:Gzy.f l0 l1=some (r1,r2)) :
    BCopy Try.prog dT sT ty u9000_ (.slice A1 l1.length c1) w fun e w'=>e=.returned (.int .i64 r1)∧Kd.R (Kd.int .i64) 3 w' w0.heap.size (fun k_=>(P0_ k_∨w.heap.size≤k_)) u9000_ r2∧Below w0.heap.size w0 w'∧Kept w w' (fun k_=>P0_ k_):=by
  unfold Gzy.f at h;simp only[Option.some.injEq,Prod.mk.injEq] at h;obtain⟨rfl,rfl⟩:=h;have hs:(Try.prog.info? 3).map (·.size)=some 1:=by kernel_rfl
  have hlen:(l1.take l0.length ++ l0.drop l1.length).length=l0.length:=by simp;omega
  have ho:=Kd.own_of_R ho0;by_cases hn:Nat.min l1.length l0.length=0
  · have hll:l1.take l0.length ++ l0.drop l1.length=l0:=by
      rcases Nat.eq_zero_or_pos l0.length with h0|h0
      · have:l0=[]:=List.eq_nil_of_length_eq_zero h0
        subst this;simp
      · have:l1=[]:=List.eq_nil_of_length_eq_zero (by have:min l1.length l0.length=0:=hn;omega)
        subst this;simp
    rw[hll,hn];obtain⟨A0,c0,rfl,_⟩:=Kd.R_reads ho0;refine⟨0,w,?_,rfl,Kd.R_mono ho0 (fun k hk=>.inl hk),hB,Kept.refl _ _⟩
    exact run_copy_none w dT sT ty _ A0 A1 l0.length c0 l1.length c1 hu hs hn
  · have hpos:0 < l1.length∧0 < l0.length:=by
      have:¬ min l1.length l0.length=0:=hn;omega
    obtain⟨hxs,hcase⟩:=ho;rcases hcase with ⟨_,h0⟩|⟨g,cap,cur,rfl,hbg,hcur,hnc,hcm,hcs,htk⟩
    · omega
    obtain⟨_,_,hsrc0⟩:=hr1 w (Kept.refl _ _);obtain⟨ad,rfl,hsrc⟩:=hsrc0 hpos.1;have hP:P0_ g:=ho0.1 g rfl;obtain⟨cs,hcsd⟩:∃ cs:List Value,cs=nums .i64 (l1.take l0.length):=⟨_,rfl⟩;have hcl:cs.length=Nat.min l1.length l0.length:=by rw[hcsd,nums_length,List.length_take];show min l0.length l1.length=min l1.length l0.length;omega
    have hcell:∀ j v,cs[j]?=some v→w.cell? (ad.add j)=some v:=by
      intro j v hj;rw[hcsd] at hj;simp only[nums,List.getElem?_map,Option.map_eq_some_iff] at hj;obtain⟨x,hx,rfl⟩:=hj;rw[List.getElem?_take] at hx;split at hx
      · obtain⟨c,hc,hK,hcc⟩:=hsrc j x hx
        have hc1:c=[.int .i64 x]:=hK;have h3:=hcc 0 (.int .i64 x) (by rw[hc1];rfl)
        have e:j * (Kd.int IntKind.i64).sz+0=j:=by show j * 1+0=j;omega
        rwa [e] at h3
      · simp at hx
    have hcurl:cur.size=cap:=by simpa using hcs
    have hrun:=run_copy_row (P:=Try.prog) w dT sT ty _ g 0 l0.length cap ad l1.length c1 cur _ cs hu hs hcur hcl hcell (by rw[hcl,hcurl];show 0+min l1.length l0.length≤cap;omega) (by rw[hcsd];intro v hv;simp only[nums,List.mem_map] at hv;obtain⟨x,_,rfl⟩:=hv;rfl)
    refine⟨cs.length,_,hrun,by rw[hcl];rfl,?_,?_,?_⟩
    · refine Kd.R_of_own (xs:=l1.take l0.length ++ l0.drop l1.length) ?_ (fun k hk=>.inl (ho0.1 k hk))
      rw[hlen];refine⟨by rw[Nat.mul_one,encs_length];exact hlen,.inr ⟨g,cap,_,rfl,hbg,setRow_heap w g _ _ _ _ hcur,hnc,hcm,?_,?_⟩⟩
      · simp only[List.size_toArray,List.length_append,List.length_take,List.length_drop,Array.length_toList]
        rw[hcl];have:min l1.length l0.length≤cap:=by omega
        show min 0 cur.size+min l1.length l0.length+(cur.size - (0+min l1.length l0.length))=cap * 1
        omega
      · have hm:cs.length=min l1.length l0.length:=hcl
        have h0:cur.toList.take l0.length=nums .i64 l0:=by rw[Nat.mul_one] at htk;rw[htk];rfl
        rw[Nat.mul_one,List.take_zero,List.nil_append,Nat.zero_add,List.toList_toArray,List.take_append,List.take_of_length_le (by omega),List.take_drop]
        have e2:cs.length+(l0.length - cs.length)=l0.length:=by omega
        have e3:(nums .i64 l0).drop cs.length=nums .i64 (l0.drop l1.length):=by
          have e4:(nums .i64 l0).drop cs.length=nums .i64 (l0.drop cs.length):=by simp [nums,List.map_drop]
          rw[e4];have e5:l0.drop cs.length=l0.drop l1.length:=by
            rcases Nat.le_total l1.length l0.length with hh|hh
            · rw[hm,Nat.min_eq_left hh]
            · rw[List.drop_eq_nil_of_le (by omega),List.drop_eq_nil_of_le hh]
          rw[e5]
        rw[e2,h0,e3,hcsd,← nums_append];rfl
    · exact below_setRow hB hbg _
    · exact⟨by simp [World.setRow],fun i hi hne=>setRow_other w g i _ (fun e=>hne (e ▸ hP))⟩

/-- A step's world is above the first one: found among what is known. -/
theorem pB {P:Prop} (h:P:=by repeat(first|(with_reducible first|exact Aside0.out (by assumption)|apply below_alloc|apply pw_below_drewN|apply below_drew1|refine below_set ?_ (Aside0.out (by assumption)))|exact Aside0.out (by assumption))):P:=h
/-- What a box holds,behind draws. -/
theorem kW {w w':World} {g:Nat} {o:Obj} (h:Aside0 (w.heap[g]?=some o)) (f:w.heap[g]?=some o→w'.heap[g]?=some o:=by intro h_;(with_reducible repeat(first|refine blk_drewN ?_ _|refine blk_drew ?_|refine blk_alloc ?_ _));exact h_):w'.heap[g]?=some o:=f h.out
/-- What a box holds,behind a step. -/
theorem kB {w w1 w2:World} {g:Nat} {o:Obj} (h:Aside0 (w.heap[g]?=some o)) (hb:Below w1.heap.size w1 w2) (f:w.heap[g]?=some o→w1.heap[g]?=some o:=by intro h_;(with_reducible repeat(first|refine blk_drewN ?_ _|refine blk_drew ?_|refine blk_alloc ?_ _));exact h_):w2.heap[g]?=some o:=blk_below (f h.out) hb
/-- A new box lies above. -/
theorem gW {w w':World} {g:Nat} (hg:g=w'.heap.size) (h:Below w.heap.size w w':=by exact pB):w.heap.size≤g:=by rw[hg];exact below_size h
/-- A new box is another one. -/
theorem nL {w w':World} {g g':Nat} {o:Obj} (hg:g'=w'.heap.size) (h:Aside0 (w.heap[g]?=some o)) (f:w.heap[g]?=some o→w'.heap[g]?=some o:=by intro h_;(with_reducible repeat(first|refine blk_drewN ?_ _|refine blk_drew ?_|refine blk_alloc ?_ _));exact h_):g≠g':=by rw[hg];exact Nat.ne_of_lt (blk_lt (f h.out))
theorem nG {w w':World} {g g':Nat} {o:Obj} (hg:g'=w'.heap.size) (h:Aside0 (w.heap[g]?=some o)) (f:w.heap[g]?=some o→w'.heap[g]?=some o:=by intro h_;(with_reducible repeat(first|refine blk_drewN ?_ _|refine blk_drew ?_|refine blk_alloc ?_ _));exact h_):g'≠g:=(nL hg h f).symm
/-- A row of the call's own,behind draws. -/
theorem rX {α:Type} {d:Kd α} {e base:Nat} {w w':World} {ok:Nat→Prop} {v:Value} {xs:List α} (h:d.R e w base ok v xs) (f:d.R e w base ok v xs→d.R e w' base ok v xs:=by intro h_;(with_reducible repeat(first|apply Kd.R_alloc|apply Kd.R_drewN|apply Kd.R_drew));exact h_):d.R e w' base ok v xs:=f h
/-- A call's arguments,laid out. -/
theorem mA {P:Prop} (h:P:=by(try simp only[List.map_toArray,List.map_cons,List.map_nil]);first|done|rfl|(simp only[List.length_drop,List.length_take];rfl)):P:=h
/-- What a box of one,two,three cells holds,cell by cell. -/
theorem bk1 {w:World} {g T:Nat} {c0:Value} (h:Aside0 (w.heap[g]?=some (.cells #[c0] T (0,0)))):w.cell? ⟨g,0,none⟩=some c0∧w.frozen? ⟨g,0,none⟩=false:=⟨(blk_cell h.out 0).trans rfl,blk_frozen h.out 0⟩
theorem bk2 {w:World} {g T:Nat} {c0 c1:Value} (h:Aside0 (w.heap[g]?=some (.cells #[c0,c1] T (0,0)))):w.cell? ⟨g,0,none⟩=some c0∧w.cell? ⟨g,1,none⟩=some c1∧w.frozen? ⟨g,0,none⟩=false∧w.frozen? ⟨g,1,none⟩=false:=⟨(blk_cell h.out 0).trans rfl,(blk_cell h.out 1).trans rfl,blk_frozen h.out 0,blk_frozen h.out 1⟩
theorem bk3 {w:World} {g T:Nat} {c0 c1 c2:Value} (h:Aside0 (w.heap[g]?=some (.cells #[c0,c1,c2] T (0,0)))):w.cell? ⟨g,0,none⟩=some c0∧w.cell? ⟨g,1,none⟩=some c1∧w.cell? ⟨g,2,none⟩=some c2∧w.frozen? ⟨g,0,none⟩=false∧w.frozen? ⟨g,1,none⟩=false∧w.frozen? ⟨g,2,none⟩=false:=⟨(blk_cell h.out 0).trans rfl,(blk_cell h.out 1).trans rfl,(blk_cell h.out 2).trans rfl,blk_frozen h.out 0,blk_frozen h.out 1,blk_frozen h.out 2⟩


def Dzw.f (l0:List (S46)):Option (Bool):=some (decide ((l0.length:Int)≤600))
theorem Dzw.calls (A0:Option Addr) (c0:Nat) (l0:List (S46)) (r:Bool) (w:World) (hr0:Kd.C k46 w A0 l0.length l0) (hc0:l0.length≤c0) (h:Dzw.f l0=some r) :
  Calls Try.prog 10 #[.slice A0 l0.length c0] w fun e w'=>e=.returned (.bool r)∧Drawn0 w w':=by
 have HR0:=aM hr0;have HC0:=aM hc0;clear hr0 hc0;have H:(some (decide ((l0.length:Int)≤600)))=some r:=h;clear h;obtain rfl:=Option.some.inj H;go_enter Try.func10,Try.ntmps10
 go_wp2
 go_ret
 exact⟨by first|rfl|(simp;done)|(simp [*];done),by repeat(first|exact Drawn0.refl _|apply Drawn0.step)⟩

end Go.Proofs.Ytnklckihalhlmaa.Print
