import Derived.Test.YtnklckihalhlmaaProg
import Derived.Below
import Derived.Deep.Draws
import Derived.Deep.AppendLies
import Derived.Maps.AppendAt
import Derived.OwnWalk
import Derived.Laws.BytesArg
import Derived.Laws.MakeOwn
import Derived.Laws.OwnMore
import Derived.Deep.OwnRows
import Derived.Tactics
import Derived.Lib.ConvBytes
import Derived.Laws.Slices
import Derived.WalkKit
import Derived.KernelRfl
import Derived.RowKit3
import Derived.Deep.LoopGhost
import Derived.Deep.QuietTactic
import Derived.BigQuiet
import Derived.WideLaws
import Derived.Deep.DeepCutAuto
import Derived.Deep.CutBlock
import Derived.Deep.RegionHeld3
import Derived.Laws.Rows
import Derived.Lib.AppendStr
import Derived.ArgAppend
import Derived.Laws.IdiomCopy
import Derived.OrdersHeld
import Derived.Laws.BitsLemmas
import Derived.RowKit
import Derived.Laws.CopyOwn
import Derived.Test.YtnklckihalhlmaaWWords
import Derived.Test.YtnklckihalhlmaaWLast
import Derived.Test.YtnklckihalhlmaaWTab
import Derived.Test.YtnklckihalhlmaaWFour
import Derived.Test.YtnklckihalhlmaaWQPut
import Derived.Test.YtnklckihalhlmaaWApart
import Derived.Test.YtnklckihalhlmaaWArr
import Derived.Test.YtnklckihalhlmaaWZeros
import Derived.Test.YtnklckihalhlmaaWFoot
import Derived.Test.YtnklckihalhlmaaWKept
import Derived.Test.YtnklckihalhlmaaWShare
import Derived.Test.YtnklckihalhlmaaWN
import Derived.Test.YtnklckihalhlmaaWFootNe
import Derived.Test.YtnklckihalhlmaaWAt
import Derived.Test.YtnklckihalhlmaaWEqStruct
import Derived.Test.YtnklckihalhlmaaWRepsOne
import Derived.Test.YtnklckihalhlmaaWInv
import Derived.Test.YtnklckihalhlmaaWInvWords
import Derived.Test.YtnklckihalhlmaaWGuard
import Derived.Test.YtnklckihalhlmaaWNEv
import Derived.Test.YtnklckihalhlmaaWMore
namespace Go.Proofs.Ytnklckihalhlmaa.Print
open Go.RowKit Go.Proofs.YtnklckihalhlmaaW.PrintWords Go.Proofs.YtnklckihalhlmaaW.PrintLast Go.Proofs.YtnklckihalhlmaaW.PrintMore
attribute [local go_sem] max2_int min2_int max_two min_two max_three min_three max_four min_four
set_option linter.unusedVariables false
set_option maxRecDepth 100000
set_option maxHeartbeats 8000000
set_option linter.unusedSimpArgs false



def errW:Option Int→Value
  | none=>.nilIface
  | some c=>.iface 0 (.int .i64 c)
theorem errW_none:errW none=.nilIface:=rfl
theorem errW_some (c:Int):errW (some c)=.iface 0 (.int .i64 c):=rfl
theorem eW {P:Prop} (h:P:=by first|rfl|(simp [errW_none,errW_some] <;> rfl)|(simp [*,errW_none,errW_some] <;> rfl)):P:=h

theorem info3:(Try.prog.info? 3).map (fun i=>(i.zero,i.size,i.bytes))=some (some (.int .i64 0),1,8):=by kernel_rfl
theorem info46:(Try.prog.info? 46).map (fun i=>(i.zero,i.size,i.bytes))=some (some (.agg #[(.int .i64 0),(.int .i64 0)]),2,16):=by kernel_rfl
structure S46 where
  f0:Int
  f1:Int
def z46:S46:=⟨(0:Int),(0:Int)⟩
def k46:Kd S46:=Kd.iso (Kd.pair (Kd.int .i64) (Kd.int .i64)) (fun x:S46=>(x.f0,x.f1))
theorem k46_heap:Kd.Heap k46:=Kd.heap_iso _ (Kd.heap_pair (Kd.heap_int .i64) (Kd.heap_int .i64))
theorem k46_open {w:World} {x:S46} {cs:List Value} (h:k46.K w x cs):cs=[.int .i64 x.f0,.int .i64 x.f1]:=by
  obtain⟨_,_,rfl,rfl,rfl⟩:=h;exact rfl
theorem k46_openM {w:World} {base:Nat} {ok:Nat→Prop} {x:S46} {cs:List Value} (h:k46.M w base ok x cs):cs=[.int .i64 x.f0,.int .i64 x.f1]:=by
  obtain⟨_,_,rfl,rfl,rfl⟩:=h;exact rfl
theorem k46_mk (w:World) (x:S46)  : k46.K w x [.int .i64 x.f0,.int .i64 x.f1]:=⟨[.int .i64 x.f0],[.int .i64 x.f1],rfl,rfl,rfl⟩
theorem k46_mkM (w:World) (base:Nat) (ok:Nat→Prop) (x:S46)  : k46.M w base ok x [.int .i64 x.f0,.int .i64 x.f1]:=⟨[.int .i64 x.f0],[.int .i64 x.f1],rfl,rfl,rfl⟩
theorem k46_mkF (W:World) (ok:Nat→Prop) (x:S46):Kd.FK k46 W ok x [.int .i64 x.f0,.int .i64 x.f1]:=fun W2 _=>k46_mk W2 x
def rd_T46 (xs:List S46) (i:Int):S46:=xs.getD i.toNat z46
theorem at_T46 {w:World} {A:Option Addr} {n:Nat} {xs:List S46} (h:Kd.C k46 w A n xs) (i:Int) (a6:0≤i) (a7:i < n):∃ ad,A=some ad∧w.cell? (ad.add (i.toNat * 2))=some (.int .i64 (rd_T46 xs i).f0)∧w.cell? ⟨(ad.add (i.toNat * 2)).block,(ad.add (i.toNat * 2)).off+1,none⟩=some (.int .i64 (rd_T46 xs i).f1):=by
  obtain⟨ad,c,e,_,hK,a8⟩:=Kd.C_get h z46 i a6 a7;have hc:∀ j u,c[j]?=some u→w.cell? (ad.add (i.toNat * 2+j))=some u:=a8;obtain rfl:=k46_open hK;exact⟨ad,e,hc 0 _ rfl,by rw[← add_field _ _ 1 (by omega)];exact hc 1 _ rfl⟩

structure S91 where
  f0:Int
  f1:Int
def z91:S91:=⟨(0:Int),(0:Int)⟩
def k91:Kd S91:=Kd.iso (Kd.pair (Kd.int .u64) (Kd.int .u64)) (fun x:S91=>(x.f0,x.f1))
theorem k91_heap:Kd.Heap k91:=Kd.heap_iso _ (Kd.heap_pair (Kd.heap_int .u64) (Kd.heap_int .u64))
theorem k91_open {w:World} {x:S91} {cs:List Value} (h:k91.K w x cs):cs=[.int .u64 x.f0,.int .u64 x.f1]:=by
  obtain⟨_,_,rfl,rfl,rfl⟩:=h;exact rfl
theorem k91_openM {w:World} {base:Nat} {ok:Nat→Prop} {x:S91} {cs:List Value} (h:k91.M w base ok x cs):cs=[.int .u64 x.f0,.int .u64 x.f1]:=by
  obtain⟨_,_,rfl,rfl,rfl⟩:=h;exact rfl
theorem k91_mk (w:World) (x:S91)  : k91.K w x [.int .u64 x.f0,.int .u64 x.f1]:=⟨[.int .u64 x.f0],[.int .u64 x.f1],rfl,rfl,rfl⟩
theorem k91_mkM (w:World) (base:Nat) (ok:Nat→Prop) (x:S91)  : k91.M w base ok x [.int .u64 x.f0,.int .u64 x.f1]:=⟨[.int .u64 x.f0],[.int .u64 x.f1],rfl,rfl,rfl⟩
theorem k91_mkF (W:World) (ok:Nat→Prop) (x:S91):Kd.FK k91 W ok x [.int .u64 x.f0,.int .u64 x.f1]:=fun W2 _=>k91_mk W2 x
def rd_T91 (xs:List S91) (i:Int):S91:=xs.getD i.toNat z91
theorem at_T91 {w:World} {A:Option Addr} {n:Nat} {xs:List S91} (h:Kd.C k91 w A n xs) (i:Int) (a6:0≤i) (a7:i < n):∃ ad,A=some ad∧w.cell? (ad.add (i.toNat * 2))=some (.int .u64 (rd_T91 xs i).f0)∧w.cell? ⟨(ad.add (i.toNat * 2)).block,(ad.add (i.toNat * 2)).off+1,none⟩=some (.int .u64 (rd_T91 xs i).f1):=by
  obtain⟨ad,c,e,_,hK,a8⟩:=Kd.C_get h z91 i a6 a7;have hc:∀ j u,c[j]?=some u→w.cell? (ad.add (i.toNat * 2+j))=some u:=a8;obtain rfl:=k91_open hK;exact⟨ad,e,hc 0 _ rfl,by rw[← add_field _ _ 1 (by omega)];exact hc 1 _ rfl⟩

def rd_L5 (xs:List (List S46)) (i:Int):(List S46):=xs.getD i.toNat ([]:List S46)
theorem at_L5 {w:World} {A:Option Addr} {n:Nat} {xs:List (List S46)} (h:Kd.C (Kd.slice 46 k46) w A n xs) (i:Int) (a6:0≤i) (a7:i < n):∃ ad a8 a9,A=some ad∧w.cell? (ad.add i.toNat)=some (.slice a8 (rd_L5 xs i).length a9)∧(rd_L5 xs i).length≤a9∧k46.C w a8 (rd_L5 xs i).length (rd_L5 xs i):=by
  obtain⟨ad,c,e,_,hK,b3⟩:=Kd.C_get h ([]:List S46) i a6 a7;have hc:∀ j u,c[j]?=some u→w.cell? (ad.add (i.toNat * 1+j))=some u:=b3;obtain⟨a8,a9,rfl,l0,g0⟩:=hK;exact⟨ad,a8,a9,e,by have hq:=hc 0 _ rfl;rwa [Nat.mul_one,Nat.add_zero] at hq,l0,g0⟩

def rd_L6 (xs:List (List Int)) (i:Int):(List Int):=xs.getD i.toNat ([]:List Int)
theorem at_L6 {w:World} {A:Option Addr} {n:Nat} {xs:List (List Int)} (h:Kd.C (Kd.slice 3 (Kd.int .i64)) w A n xs) (i:Int) (a6:0≤i) (a7:i < n):∃ ad a8 a9,A=some ad∧w.cell? (ad.add i.toNat)=some (.slice a8 (rd_L6 xs i).length a9)∧(rd_L6 xs i).length≤a9∧(Kd.int .i64).C w a8 (rd_L6 xs i).length (rd_L6 xs i):=by
  obtain⟨ad,c,e,_,hK,b3⟩:=Kd.C_get h ([]:List Int) i a6 a7;have hc:∀ j u,c[j]?=some u→w.cell? (ad.add (i.toNat * 1+j))=some u:=b3;obtain⟨a8,a9,rfl,l0,g0⟩:=hK;exact⟨ad,a8,a9,e,by have hq:=hc 0 _ rfl;rwa [Nat.mul_one,Nat.add_zero] at hq,l0,g0⟩

structure S39 where
  f0:Bool
  f1:(List Int)
  f2:(List Int)
def z39:S39:=⟨false,([]:List Int),([]:List Int)⟩
def k39:Kd S39:=Kd.iso (Kd.pair Kd.bool (Kd.pair (Kd.slice 3 (Kd.int .i64)) (Kd.slice 3 (Kd.int .i64)))) (fun x:S39=>(x.f0,x.f1,x.f2))
theorem k39_heap:Kd.Heap k39:=Kd.heap_iso _ (Kd.heap_pair Kd.heap_bool (Kd.heap_pair (Kd.heap_slice 3 (Kd.heap_int .i64)) (Kd.heap_slice 3 (Kd.heap_int .i64))))
theorem k39_open {w:World} {x:S39} {cs:List Value} (h:k39.K w x cs):∃ a6 a7 a8 c2,cs=[.bool x.f0,.slice a6 x.f1.length a7,.slice a8 x.f2.length c2]∧x.f1.length≤a7∧(Kd.int .i64).C w a6 x.f1.length x.f1∧x.f2.length≤c2∧(Kd.int .i64).C w a8 x.f2.length x.f2:=by
  obtain⟨_,_,rfl,rfl,⟨_,_,rfl,⟨a6,a7,rfl,l1,g1⟩,⟨a8,c2,rfl,l2,g2⟩⟩⟩:=h;exact⟨a6,a7,a8,c2,rfl,l1,g1,l2,g2⟩
theorem k39_openM {w:World} {base:Nat} {ok:Nat→Prop} {x:S39} {cs:List Value} (h:k39.M w base ok x cs):∃ a6 a7,cs=[.bool x.f0,a6,a7]∧(Kd.int .i64).R 3 w base ok a6 x.f1∧(Kd.int .i64).R 3 w base ok a7 x.f2:=by
  obtain⟨_,_,rfl,rfl,⟨_,_,rfl,⟨a6,rfl,g1⟩,⟨a7,rfl,g2⟩⟩⟩:=h;exact⟨a6,a7,rfl,g1,g2⟩
theorem k39_mk (w:World) (x:S39) {a6:Option Addr} {a7:Nat} (l1:x.f1.length≤a7) (g1:(Kd.int .i64).C w a6 x.f1.length x.f1) {a8:Option Addr} {c2:Nat} (l2:x.f2.length≤c2) (g2:(Kd.int .i64).C w a8 x.f2.length x.f2):k39.K w x [.bool x.f0,.slice a6 x.f1.length a7,.slice a8 x.f2.length c2]:=⟨[.bool x.f0],[.slice a6 x.f1.length a7,.slice a8 x.f2.length c2],rfl,rfl,⟨[.slice a6 x.f1.length a7],[.slice a8 x.f2.length c2],rfl,⟨a6,a7,rfl,l1,g1⟩,⟨a8,c2,rfl,l2,g2⟩⟩⟩
theorem k39_mkM (w:World) (base:Nat) (ok:Nat→Prop) (x:S39) {a6:Value} (g1:(Kd.int .i64).R 3 w base ok a6 x.f1) {a7:Value} (g2:(Kd.int .i64).R 3 w base ok a7 x.f2):k39.M w base ok x [.bool x.f0,a6,a7]:=⟨[.bool x.f0],[a6,a7],rfl,rfl,⟨[a6],[a7],rfl,⟨a6,rfl,g1⟩,⟨a7,rfl,g2⟩⟩⟩
theorem k39_openF {W:World} {ok:Nat→Prop} {x:S39} {cs:List Value} (h:Kd.FK k39 W ok x cs):∃ a6 a7 a8 c2,cs=[.bool x.f0,.slice a6 x.f1.length a7,.slice a8 x.f2.length c2]∧x.f1.length≤a7∧Kd.F (Kd.int .i64) W ok a6 x.f1.length x.f1∧x.f2.length≤c2∧Kd.F (Kd.int .i64) W ok a8 x.f2.length x.f2:=by
  obtain⟨a6,a7,a8,c2,rfl,l1,_,l2,_⟩:=k39_open (Kd.FK_now h);exact⟨a6,a7,a8,c2,rfl,l1,(fun W' hW=>by obtain⟨a9,c1_,b3,c2_,he,l1_,g1_,l2_,g2_⟩:=k39_open (h W' hW);injection (Option.some.inj (show some (Value.slice a6 x.f1.length a7)=some (Value.slice a9 x.f1.length c1_) from congrArg (fun l=>l[1]?) he)) with ha_ _ _;rw[ha_];exact g1_),l2,(fun W' hW=>by obtain⟨a9,c1_,b3,c2_,he,l1_,g1_,l2_,g2_⟩:=k39_open (h W' hW);injection (Option.some.inj (show some (Value.slice a8 x.f2.length c2)=some (Value.slice b3 x.f2.length c2_) from congrArg (fun l=>l[2]?) he)) with ha_ _ _;rw[ha_];exact g2_)⟩
theorem k39_mkF (W:World) (ok:Nat→Prop) (x:S39) {a6:Option Addr} {a7:Nat} (l1:x.f1.length≤a7) (g1:Kd.F (Kd.int .i64) W ok a6 x.f1.length x.f1) {a8:Option Addr} {c2:Nat} (l2:x.f2.length≤c2) (g2:Kd.F (Kd.int .i64) W ok a8 x.f2.length x.f2):Kd.FK k39 W ok x [.bool x.f0,.slice a6 x.f1.length a7,.slice a8 x.f2.length c2]:=fun W2 hW=>k39_mk W2 x l1 (g1 W2 hW) l2 (g2 W2 hW)
def rd_T39 (xs:List S39) (i:Int):S39:=xs.getD i.toNat z39
theorem at_T39 {w:World} {A:Option Addr} {n:Nat} {xs:List S39} (h:Kd.C k39 w A n xs) (i:Int) (a6:0≤i) (a7:i < n):∃ ad a8 a9 b3 c2,A=some ad∧w.cell? (ad.add (i.toNat * 3))=some (.bool (rd_T39 xs i).f0)∧w.cell? ⟨(ad.add (i.toNat * 3)).block,(ad.add (i.toNat * 3)).off+1,none⟩=some (.slice a8 (rd_T39 xs i).f1.length a9)∧w.cell? ⟨(ad.add (i.toNat * 3)).block,(ad.add (i.toNat * 3)).off+2,none⟩=some (.slice b3 (rd_T39 xs i).f2.length c2)∧(rd_T39 xs i).f1.length≤a9∧(Kd.int .i64).C w a8 (rd_T39 xs i).f1.length (rd_T39 xs i).f1∧(rd_T39 xs i).f2.length≤c2∧(Kd.int .i64).C w b3 (rd_T39 xs i).f2.length (rd_T39 xs i).f2:=by
  obtain⟨ad,c,e,_,hK,b4⟩:=Kd.C_get h z39 i a6 a7;have hc:∀ j u,c[j]?=some u→w.cell? (ad.add (i.toNat * 3+j))=some u:=b4;obtain⟨a8,a9,b3,c2,rfl,l1,g1,l2,g2⟩:=k39_open hK;exact⟨ad,a8,a9,b3,c2,e,hc 0 _ rfl,by rw[← add_field _ _ 1 (by omega)];exact hc 1 _ rfl,by rw[← add_field _ _ 2 (by omega)];exact hc 2 _ rfl,l1,g1,l2,g2⟩

/-- What a function value has captured. -/
def capsOf:Value→Array Value
  | .func _ _ c=>c
  | _=>#[]
section
variable {P : Program} {ops : Array Oper} {Q : Exit → Act → World → Prop}
/-- A call of a closure in a region that draws: the same as goes_,its captured variables behind its arguments. -/
theorem goesv_ {oi:Oper} {N:Option Tmp} {a:Act} {w:World} {K:Act→World→Prop} {f:FuncId} {fn:Func} {c:Operand} {ars:Array Operand} {ts:Array TypeId} (hf:P.funcs[f]?=some fn) (hname:(fn.name == "runtime.NumGoroutine")=false) (hb:fn.body.isSome=true) (args:Array Value)
    (hw:Region.wanted oi (yielded ops a.tmps)=true) (hN:oi.dst=N) (hop:oi.op=.call { callee:=.value c,args:=ars,argTypes:=ts }) (hargs:ars.map a.eval ++ capsOf (a.eval c)=args)
    (h:Calls P f args w fun e w'=>∃ v,e=.returned v∧K (a.put N v) w') (hc:a.eval c=.func (.func f) #[] (capsOf (a.eval c)):=by rfl):if Region.wanted oi (yielded ops a.tmps)=true then Oper.wp P oi a w K Q else K (a.put N undef) w:=by
  refine call_ f args hw hN ?_ h;have he:=enters_ hf hname hb args w;unfold execOp;simp only[hop];simp [resolve];rw[hc];simp only[Deferred.ofValue];simp [invoke];rw[hargs];exact he
end
namespace Kd
section
variable {α : Type} {d : Kd α} {W w : World} {g : Nat} {T : TypeId} {cs : Array Value} {x : α}
/-- A variable in memory,read as a row of one element. -/
theorem cap_C (hb:W.heap[g]?=some (.cells cs T (0,0))) (hK:d.K W x cs.toList):d.C W (some ⟨g,0,none⟩) 1 [x]:=by
  refine⟨rfl,by omega,fun _=>⟨_,rfl,fun j p hj=>?_⟩⟩
  cases j with
  | zero =>
    simp only[List.getElem?_cons_zero,Option.some.injEq] at hj;subst hj;refine⟨cs.toList,d.K_len hK,hK,fun i u hu=>?_⟩
    rw[Nat.zero_mul,Nat.zero_add,add_plain];exact(blk_cell hb i).trans (by simpa using hu)
  | succ j=>simp at hj
theorem cap_kept {S:Nat→Prop} (hb:w.heap[g]?=some (.cells cs T (0,0))) (hg:¬ S g) (hK:∀ W_,Kept w W_ S→d.K W_ x cs.toList):∀ W_,Kept w W_ S→d.C W_ (some ⟨g,0,none⟩) 1 [x] :=
  fun W_ hk=>cap_C (blk_kept hb hk hg) (hK W_ hk)
end
end Kd
theorem eval_some {a:Act} {n:Tmp} {v:Value} (h:a.tmps[n]?=some v):a.eval (.tmp n)=v:=by
  simp [Act.eval,h]
/-- Two rows of the call's own are two. -/
def NEb (u v:Value):Prop:=∀ k,u.ownBlock=some k→some k≠v.ownBlock
theorem NEb.symm {u v:Value} (h:NEb u v):NEb v u:=fun k hk e=>h k e.symm hk.symm
theorem NEb_new {α:Type} {d:Kd α} {e base:Nat} {ok:Nat→Prop} {W:World} {u v:Value} {xs:List α} (hu:d.R e W base ok u xs) (hv:∀ k,v.ownBlock=some k→W.heap.size≤k):NEb v u:=fun k hk e_=>by
  obtain⟨inner,ho⟩:=Kd.R_own hu;have a6:=own_lt ho k e_.symm;have a7:=hv k hk;omega
theorem own_len (A:Option Addr) (n m c:Nat):(Value.slice A n c).ownBlock=(Value.slice A m c).ownBlock:=by
  rcases A with _|a <;> rfl
/-- The builtin copy,as a call is told. -/
def BCopy (P:Program) (dT sT ty:TypeId) (dv sv:Value) (w:World) (Q:Ending→World→Prop):Prop :=
  ∃ (n:Nat) (w':World),(Builtin.copy_ #[dT,sT] ty #[dv,sv]).run P w=.ok (goInt n) w'∧Q (.returned (goInt n)) w'
theorem BCopy.mono {P:Program} {dT sT ty:TypeId} {dv sv:Value} {w:World} {Q Q':Ending→World→Prop} (h:BCopy P dT sT ty dv sv w Q) (hq:∀ e w',Q e w'→Q' e w'):BCopy P dT sT ty dv sv w Q':=by
  obtain⟨n,w',a6,a7⟩:=h;exact⟨n,w',a6,hq _ _ a7⟩
section
variable {P : Program} {ops : Array Oper} {Q : Exit → Act → World → Prop}
theorem copyL_ {rest:List Oper} {oi:Oper} {a:Act} {w:World} (N:Option Tmp) (hd:oi.dst=N) (hg:oi.guard=none) {d s:Operand} {dT sT:TypeId} (ho:oi.op=.call { callee:=.builtin .copy,args:=#[d,s],argTypes:=#[dT,sT] }) (dv sv:Value)
    (a6:a.eval d=dv) (a7:a.eval s=sv) (h:BCopy P dT sT oi.type dv sv w fun e w'=>∃ v,e=.returned v∧wpList P ops Q rest (a.put N v) w'):wpList P ops Q (oi :: rest) a w:=by
  obtain⟨n,w',hrun,v,hv,hk⟩:=h;injection hv with hv
  subst hv;subst hd;refine wpList_plain hg fun K hK=>?_
  unfold Oper.wp;simp [execOp,ho,resolve,invoke,builtin,a6,a7,hrun,Result.andThen];exact hK _ _ hk
end
def Gzm.f (l0:List Int) (l1:List Int):Option (Int × List Int):=some ((Nat.min l1.length l0.length:Nat),l1.take l0.length ++ l0.drop l1.length)
theorem Gzm.calls {dT sT ty:TypeId} (hu:Try.prog.underlying dT=some (.slice 3)) (a6:Nat→Prop) (u9000_:Value) (l0:List Int) (a7:Option Addr) (a8:Nat) (l1:List Int) (a9:Int) (b3:List Int) (b4 w:World) (hB:Below b4.heap.size b4 w)
    (b5:Kd.R (Kd.int .i64) 3 w b4.heap.size a6 u9000_ l0) (b6:∀ W_,Kept w W_ (fun k_=>a6 k_)→Kd.C (Kd.int .i64) W_ a7 l1.length l1) (b7:l1.length≤a8) (h:Gzm.f l0 l1=some (a9,b3)) :
    BCopy Try.prog dT sT ty u9000_ (.slice a7 l1.length a8) w fun e w'=>e=.returned (.int .i64 a9)∧Kd.R (Kd.int .i64) 3 w' b4.heap.size (fun k_=>(a6 k_∨w.heap.size≤k_)) u9000_ b3∧Below b4.heap.size b4 w'∧Kept w w' (fun k_=>a6 k_):=by
  unfold Gzm.f at h;simp only[Option.some.injEq,Prod.mk.injEq] at h;obtain⟨rfl,rfl⟩:=h;have hs:(Try.prog.info? 3).map (·.size)=some 1:=by kernel_rfl
  have hlen:(l1.take l0.length ++ l0.drop l1.length).length=l0.length:=by simp;omega
  have ho:=Kd.own_of_R b5;by_cases hn:Nat.min l1.length l0.length=0
  · have hll:l1.take l0.length ++ l0.drop l1.length=l0:=by
      rcases Nat.eq_zero_or_pos l0.length with b8|b8
      · have:l0=[]:=List.eq_nil_of_length_eq_zero b8
        subst this;simp
      · have:l1=[]:=List.eq_nil_of_length_eq_zero (by have:min l1.length l0.length=0:=hn;omega)
        subst this;simp
    rw[hll,hn];obtain⟨b9,d0,rfl,_⟩:=Kd.R_reads b5;refine⟨0,w,?_,rfl,Kd.R_mono b5 (fun k hk=>.inl hk),hB,Kept.refl _ _⟩
    exact run_copy_none w dT sT ty _ b9 a7 l0.length d0 l1.length a8 hu hs hn
  · have hpos:0 < l1.length∧0 < l0.length:=by
      have:¬ min l1.length l0.length=0:=hn;omega
    obtain⟨hxs,hcase⟩:=ho;rcases hcase with ⟨_,b8⟩|⟨g,cap,cur,rfl,hbg,hcur,hnc,hcm,hcs,htk⟩
    · omega
    obtain⟨_,_,hsrc0⟩:=b6 w (Kept.refl _ _);obtain⟨ad,rfl,hsrc⟩:=hsrc0 hpos.1;have hP:a6 g:=b5.1 g rfl;obtain⟨cs,hcsd⟩:∃ cs:List Value,cs=nums .i64 (l1.take l0.length):=⟨_,rfl⟩;have hcl:cs.length=Nat.min l1.length l0.length:=by rw[hcsd,nums_length,List.length_take];show min l0.length l1.length=min l1.length l0.length;omega
    have hcell:∀ j v,cs[j]?=some v→w.cell? (ad.add j)=some v:=by
      intro j v hj;rw[hcsd] at hj;simp only[nums,List.getElem?_map,Option.map_eq_some_iff] at hj;obtain⟨x,hx,rfl⟩:=hj;rw[List.getElem?_take] at hx;split at hx
      · obtain⟨c,hc,hK,hcc⟩:=hsrc j x hx
        have b7:c=[.int .i64 x]:=hK;have d1:=hcc 0 (.int .i64 x) (by rw[b7];rfl)
        have e:j * (Kd.int IntKind.i64).sz+0=j:=by show j * 1+0=j;omega
        rwa [e] at d1
      · simp at hx
    have hcurl:cur.size=cap:=by simpa using hcs
    have hrun:=run_copy_row (P:=Try.prog) w dT sT ty _ g 0 l0.length cap ad l1.length a8 cur _ cs hu hs hcur hcl hcell (by rw[hcl,hcurl];show 0+min l1.length l0.length≤cap;omega) (by rw[hcsd];intro v hv;simp only[nums,List.mem_map] at hv;obtain⟨x,_,rfl⟩:=hv;rfl)
    refine⟨cs.length,_,hrun,by rw[hcl];rfl,?_,?_,?_⟩
    · refine Kd.R_of_own (xs:=l1.take l0.length ++ l0.drop l1.length) ?_ (fun k hk=>.inl (b5.1 k hk))
      rw[hlen];refine⟨by rw[Nat.mul_one,encs_length];exact hlen,.inr ⟨g,cap,_,rfl,hbg,setRow_heap w g _ _ _ _ hcur,hnc,hcm,?_,?_⟩⟩
      · simp only[List.size_toArray,List.length_append,List.length_take,List.length_drop,Array.length_toList]
        rw[hcl];have:min l1.length l0.length≤cap:=by omega
        show min 0 cur.size+min l1.length l0.length+(cur.size - (0+min l1.length l0.length))=cap * 1
        omega
      · have hm:cs.length=min l1.length l0.length:=hcl
        have b8:cur.toList.take l0.length=nums .i64 l0:=by rw[Nat.mul_one] at htk;rw[htk];rfl
        rw[Nat.mul_one,List.take_zero,List.nil_append,Nat.zero_add,List.toList_toArray,List.take_append,List.take_of_length_le (by omega),List.take_drop]
        have d3:cs.length+(l0.length - cs.length)=l0.length:=by omega
        have d4:(nums .i64 l0).drop cs.length=nums .i64 (l0.drop l1.length):=by
          have d5:(nums .i64 l0).drop cs.length=nums .i64 (l0.drop cs.length):=by simp [nums,List.map_drop]
          rw[d5];have d6:l0.drop cs.length=l0.drop l1.length:=by
            rcases Nat.le_total l1.length l0.length with hh|hh
            · rw[hm,Nat.min_eq_left hh]
            · rw[List.drop_eq_nil_of_le (by omega),List.drop_eq_nil_of_le hh]
          rw[d6]
        rw[d3,b8,d4,hcsd,← nums_append];rfl
    · exact below_setRow hB hbg _
    · exact⟨by simp [World.setRow],fun i hi hne=>setRow_other w g i _ (fun e=>hne (e ▸ hP))⟩

/-- A step's world is above the first one: found among what is known. -/
theorem pB {P:Prop} (h:P:=by repeat(first|(with_reducible first|exact Aside0.out (by assumption)|apply below_alloc|apply pw_below_drewN|apply below_drew1|refine below_set ?_ (Aside0.out (by assumption)))|exact Aside0.out (by assumption))):P:=h
/-- What a box holds,behind draws. -/
theorem kW {w w':World} {g:Nat} {o:Obj} (h:Aside0 (w.heap[g]?=some o)) (f:w.heap[g]?=some o→w'.heap[g]?=some o:=by intro h_;(with_reducible repeat(first|refine blk_drewN ?_ _|refine blk_drew ?_|refine blk_alloc ?_ _));exact h_):w'.heap[g]?=some o:=f h.out
/-- What a box holds,behind a step. -/
theorem kB {w a6 a7:World} {g:Nat} {o:Obj} (h:Aside0 (w.heap[g]?=some o)) (hb:Below a6.heap.size a6 a7) (f:w.heap[g]?=some o→a6.heap[g]?=some o:=by intro h_;(with_reducible repeat(first|refine blk_drewN ?_ _|refine blk_drew ?_|refine blk_alloc ?_ _));exact h_):a7.heap[g]?=some o:=blk_below (f h.out) hb
/-- A new box lies above. -/
theorem gW {w w':World} {g:Nat} (hg:g=w'.heap.size) (h:Below w.heap.size w w':=by exact pB):w.heap.size≤g:=by rw[hg];exact below_size h
/-- A new box is another one. -/
theorem nL {w w':World} {g g':Nat} {o:Obj} (hg:g'=w'.heap.size) (h:Aside0 (w.heap[g]?=some o)) (f:w.heap[g]?=some o→w'.heap[g]?=some o:=by intro h_;(with_reducible repeat(first|refine blk_drewN ?_ _|refine blk_drew ?_|refine blk_alloc ?_ _));exact h_):g≠g':=by rw[hg];exact Nat.ne_of_lt (blk_lt (f h.out))
theorem nG {w w':World} {g g':Nat} {o:Obj} (hg:g'=w'.heap.size) (h:Aside0 (w.heap[g]?=some o)) (f:w.heap[g]?=some o→w'.heap[g]?=some o:=by intro h_;(with_reducible repeat(first|refine blk_drewN ?_ _|refine blk_drew ?_|refine blk_alloc ?_ _));exact h_):g'≠g:=(nL hg h f).symm
/-- A row of the call's own,behind draws. -/
theorem rX {α:Type} {d:Kd α} {e base:Nat} {w w':World} {ok:Nat→Prop} {v:Value} {xs:List α} (h:d.R e w base ok v xs) (f:d.R e w base ok v xs→d.R e w' base ok v xs:=by intro h_;(with_reducible repeat(first|apply Kd.R_alloc|apply Kd.R_drewN|apply Kd.R_drew));exact h_):d.R e w' base ok v xs:=f h
/-- A call's arguments,laid out. -/
theorem mA {P:Prop} (h:P:=by(try simp only[List.map_toArray,List.map_cons,List.map_nil]);first|done|rfl|(simp only[List.length_drop,List.length_take];rfl)):P:=h
/-- What a box of one,two,three cells holds,cell by cell. -/
theorem bk1 {w:World} {g T:Nat} {a6:Value} (h:Aside0 (w.heap[g]?=some (.cells #[a6] T (0,0)))):w.cell? ⟨g,0,none⟩=some a6∧w.frozen? ⟨g,0,none⟩=false:=⟨(blk_cell h.out 0).trans rfl,blk_frozen h.out 0⟩
theorem bk2 {w:World} {g T:Nat} {a6 a7:Value} (h:Aside0 (w.heap[g]?=some (.cells #[a6,a7] T (0,0)))):w.cell? ⟨g,0,none⟩=some a6∧w.cell? ⟨g,1,none⟩=some a7∧w.frozen? ⟨g,0,none⟩=false∧w.frozen? ⟨g,1,none⟩=false:=⟨(blk_cell h.out 0).trans rfl,(blk_cell h.out 1).trans rfl,blk_frozen h.out 0,blk_frozen h.out 1⟩
theorem bk3 {w:World} {g T:Nat} {a6 a7 c2:Value} (h:Aside0 (w.heap[g]?=some (.cells #[a6,a7,c2] T (0,0)))):w.cell? ⟨g,0,none⟩=some a6∧w.cell? ⟨g,1,none⟩=some a7∧w.cell? ⟨g,2,none⟩=some c2∧w.frozen? ⟨g,0,none⟩=false∧w.frozen? ⟨g,1,none⟩=false∧w.frozen? ⟨g,2,none⟩=false:=⟨(blk_cell h.out 0).trans rfl,(blk_cell h.out 1).trans rfl,(blk_cell h.out 2).trans rfl,blk_frozen h.out 0,blk_frozen h.out 1,blk_frozen h.out 2⟩
section
variable {α β γ:Type} {d:Kd α} {d':Kd β} {d2:Kd γ} {e e' e2 base base' b2 g T:Nat} {w w' w0 w1 w2 w3 w4 W:World} {ok ok' ok2:Nat→Prop} {v v0 v1 u:Value} {xs:List α} {ys:List β} {zs:List γ} {A:Option Addr} {n c:Nat} {o:Obj} {cs:Array Value}
theorem rB (h:Aside0 (d.R e w base ok v xs)) (hb:Below w1.heap.size w1 w2) (f:d.R e w base ok v xs→d.R e w1 base ok v xs:=by exact fun h_=>rX h_):Aside0 (d.R e w2 base ok v xs):=⟨Kd.R_below (f h.out) hb⟩
theorem rb (h:d.R e w1 base ok v xs) (hb:Below w1.heap.size w1 w2):Aside0 (d.R e w2 base ok v xs):=⟨Kd.R_below h hb⟩
theorem vB (h:Aside0 (Kd.V d e w base ok v xs)) (hb:Below w1.heap.size w1 w2) (f:Kd.V d e w base ok v xs→Kd.V d e w1 base ok v xs:=by exact fun h_=>vX h_):Aside0 (Kd.V d e w2 base ok v xs):=⟨Kd.V_below (f h.out) hb⟩
theorem vG (h:Aside0 (Kd.V d e w base ok v xs)) (hg:g=w1.heap.size) (hb:Below w1.heap.size w1 w2) (f:Kd.V d e w base ok v xs→Kd.V d e w1 base ok v xs:=by exact fun h_=>vX h_):Aside0 (Kd.V d e w2 base (fun k=>ok k∧k≠g) v xs):=⟨Kd.V_below (Kd.V_elderB (f h.out) g (Nat.le_of_eq hg.symm)) hb⟩
theorem rE (h:Aside0 (d.R e w base ok u xs)) (ho:d'.R e' w3 w1.heap.size ok' v ys) (hb:Below w1.heap.size w1 w2) (f:d.R e w base ok u xs→d.R e w1 base ok u xs:=by exact fun h_=>rX h_):Aside0 (d.R e w2 base (fun k=>ok k∧some k≠v.ownBlock) u xs):=⟨Kd.R_elder' (f h.out) (Kd.R_base ho) hb⟩
theorem re (h:d.R e w1 base ok u xs) (ho:d'.R e' w3 w1.heap.size ok' v ys) (hb:Below w1.heap.size w1 w2):Aside0 (d.R e w2 base (fun k=>ok k∧some k≠v.ownBlock) u xs):=⟨Kd.R_elder' h (Kd.R_base ho) hb⟩
theorem vE (h:Aside0 (Kd.V d e w base ok u xs)) (ho:d'.R e' w3 w1.heap.size ok' v ys) (hb:Below w1.heap.size w1 w2) (f:Kd.V d e w base ok u xs→Kd.V d e w1 base ok u xs:=by exact fun h_=>vX h_):Aside0 (Kd.V d e w2 base (fun k=>ok k∧some k≠v.ownBlock) u xs):=⟨Kd.V_elder' (f h.out) (Kd.R_base ho) hb⟩
theorem rO (h:Aside0 (d.R e w base ok u xs)) (hb:Below w1.heap.size w1 w2) (ho:d'.R e' w3 w1.heap.size ok' v0 ys) (ho2:d2.R e2 w4 w1.heap.size ok2 v1 zs) (f:d.R e w base ok u xs→d.R e w1 base ok u xs:=by exact fun h_=>rX h_):Aside0 (d.R e w2 base (fun k=>(ok k∧some k≠v0.ownBlock)∧some k≠v1.ownBlock) u xs):=⟨Kd.R_mono (Kd.R_told (Kd.R_told (Kd.R_old (f h.out) hb) (Kd.R_base ho)) (Kd.R_base ho2)) (fun _ h_=>h_.1)⟩
theorem ro (h:d.R e w1 base ok u xs) (hb:Below w1.heap.size w1 w2) (ho:d'.R e' w3 w1.heap.size ok' v0 ys) (ho2:d2.R e2 w4 w1.heap.size ok2 v1 zs):Aside0 (d.R e w2 base (fun k=>(ok k∧some k≠v0.ownBlock)∧some k≠v1.ownBlock) u xs):=⟨Kd.R_mono (Kd.R_told (Kd.R_told (Kd.R_old h hb) (Kd.R_base ho)) (Kd.R_base ho2)) (fun _ h_=>h_.1)⟩
theorem vO (h:Aside0 (Kd.V d e w base ok u xs)) (hb:Below w1.heap.size w1 w2) (ho:d'.R e' w3 w1.heap.size ok' v0 ys) (ho2:d2.R e2 w4 w1.heap.size ok2 v1 zs) (f:Kd.V d e w base ok u xs→Kd.V d e w1 base ok u xs:=by exact fun h_=>vX h_):Aside0 (Kd.V d e w2 base (fun k=>(ok k∧some k≠v0.ownBlock)∧some k≠v1.ownBlock) u xs):=⟨Kd.V_mono (Kd.V_told (Kd.V_told (Kd.V_old (f h.out) hb) (Kd.R_base ho)) (Kd.R_base ho2)) (fun _ h_=>h_.1)⟩
theorem rL (ho:d.R e w1 W.heap.size ok v xs) (h:Below w.heap.size w W:=by exact pB):Aside0 (d.R e w1 w.heap.size ok v xs):=⟨Kd.R_lower ho (below_size h)⟩
theorem rn (h:d.R e w1 W.heap.size ok v xs) (hu:Aside0 (d'.R e' w base ok' u ys)) (f:d'.R e' w base ok' u ys→d'.R e' W base ok' u ys:=by exact fun h_=>rX h_):d.R e w1 W.heap.size (fun k=>ok k∧some k≠u.ownBlock) v xs:=Kd.R_new' h (Kd.R_lt (f hu.out))
theorem rT (h:Aside0 (d.R e w base ok v xs)) (hk:Aside0 (w.heap[g]?=some (.cells cs T (0,0)))) (ht:∀ q,q∈e::d.E→q≠T:=by decide) (f:d.R e w base (fun k=>ok k∧k≠g) v xs→d.R e w' base (fun k=>ok k∧k≠g) v xs:=by intro h_;(with_reducible repeat(first|apply Kd.R_alloc|apply Kd.R_drewN|apply Kd.R_drew|refine Kd.R_far ?_ (fun _ hk=>hk.2) _));exact h_):d.R e w' base ok v xs:=Kd.R_mono (f (Kd.R_types h.out hk.out ht)) (fun _ h_=>h_.1)
theorem nX (h:Kd.N d e w base ok v xs) (f:Kd.N d e w base ok v xs→Kd.N d e w' base ok v xs:=by intro h_;(with_reducible repeat(first|apply Kd.N_alloc|apply Kd.N_drewN|apply Kd.N_drew));exact h_):Kd.N d e w' base ok v xs:=f h
theorem nB (h:Aside0 (Kd.N d e w base ok v xs)) (hb:Below w1.heap.size w1 w2) (f:Kd.N d e w base ok v xs→Kd.N d e w1 base ok v xs:=by exact fun h_=>nX h_):Aside0 (Kd.N d e w2 base ok v xs):=⟨Kd.N_below (f h.out) hb⟩
theorem nb (h:Kd.N d e w1 base ok v xs) (hb:Below w1.heap.size w1 w2):Aside0 (Kd.N d e w2 base ok v xs):=⟨Kd.N_below h hb⟩
theorem nG' (h:Aside0 (Kd.N d e w base ok v xs)) (hg:g=w1.heap.size) (hb:Below w1.heap.size w1 w2) (f:Kd.N d e w base ok v xs→Kd.N d e w1 base ok v xs:=by exact fun h_=>nX h_):Aside0 (Kd.N d e w2 base (fun k=>ok k∧k≠g) v xs):=⟨Kd.N_below (Kd.N_elderB (f h.out) g (Nat.le_of_eq hg.symm)) hb⟩
theorem kb (h:Aside0 (w.heap[g]?=some o)) (hb:Below w1.heap.size w1 w2) (f:w.heap[g]?=some o→w1.heap[g]?=some o:=by exact fun h_=>bD h_):Aside0 (w2.heap[g]?=some o):=⟨blk_below (f h.out) hb⟩
theorem kP {o':Obj} {cs':Array Value} (h:Aside0 (w.heap[g]?=some (.cells cs T (0,0)))) (hb:Below w1.heap.size w1 w2) (f:w.heap[g]?=some (.cells cs T (0,0))→w1.heap[g]?=some (.cells cs' T (0,0)):=by intro h_;(repeat(first|(with_reducible first|refine blk_drewN ?_ _|refine blk_drew ?_|refine blk_alloc ?_ _|apply blk_set)|apply blk_set));exact h_) (e:Obj.cells cs' T (0,0)=o':=by rfl):Aside0 (w2.heap[g]?=some o'):=⟨blk_below (e ▸ f h.out) hb⟩
theorem kF {g':Nat} (h:Aside0 (w.heap[g]?=some (.cells cs T (0,0)))) (hn:Aside0 (g≠g')) (hb:Below w1.heap.size w1 w2) (f:g≠g'→w.heap[g]?=some (.cells cs T (0,0))→w1.heap[g]?=some (.cells cs T (0,0)):=by intro hn_ h_;(with_reducible repeat(first|refine blk_drewN ?_ _|refine blk_drew ?_|refine blk_alloc ?_ _|refine blk_far ?_ hn_ _));exact h_):Aside0 (w2.heap[g]?=some (.cells cs T (0,0))):=⟨blk_below (f hn.out h.out) hb⟩
theorem bB (hb:Below W.heap.size W w2) (h:Below w.heap.size w W:=by exact pB):Aside0 (Below w.heap.size w w2):=⟨below_step h hb⟩
theorem gA (w:World) (hg:g=w'.heap.size) (h:Below w.heap.size w w':=by exact pB):Aside0 (w.heap.size≤g):=⟨gW hg h⟩
theorem nl {g':Nat} (hg:g'=w'.heap.size) (h:Aside0 (w.heap[g]?=some o)) (f:w.heap[g]?=some o→w'.heap[g]?=some o:=by exact fun h_=>bD h_):Aside0 (g≠g'):=⟨nL hg h f⟩
theorem ng {g':Nat} (hg:g'=w'.heap.size) (h:Aside0 (w.heap[g]?=some o)) (f:w.heap[g]?=some o→w'.heap[g]?=some o:=by exact fun h_=>bD h_):Aside0 (g'≠g):=⟨(nL hg h f).symm⟩
theorem cR (h:Aside0 (d.R e w base ok (.slice A n c) xs)) (f:d.C w A xs.length xs→d.C w' A xs.length xs:=by exact fun h_=>cX h_):d.C w' A xs.length xs:=f (Kd.R_reads' h.out).2.2
theorem cB (h:Aside0 (d.C w A n xs)) (hb:Below w.heap.size w w':=by exact pB):d.C w' A n xs:=Kd.C_below h.out hb
theorem lR (h:Aside0 (d.R e w base ok (.slice A n c) xs)):n≤c:=(Kd.R_reads' h.out).2.1
theorem fB {w w':World} {g k:Nat} {o:Obj} (h:Aside0 (w.heap[g]?=some o)) (hk:w'.heap.size≤k) (f:w.heap[g]?=some o→w'.heap[g]?=some o:=by exact fun h_=>bD h_):k≠g:=Kd.freshB (f h.out) k hk
theorem lP {k:Nat} {w W:World} (hk:W.heap.size≤k) (h:Below w.heap.size w W:=by exact pB):w.heap.size≤k:=Nat.le_trans (below_size h) hk
theorem bE {α:Type} [DecidableEq α] {a b:α} (h:a=b):(a == b)=true∧(a != b)=false:=⟨beq_iff_eq.mpr h,bne_eq_false_iff_eq.mpr h⟩
theorem bI {α:Type} [DecidableEq α] {a b:α} (h:¬a=b):(a == b)=false∧(a != b)=true:=⟨beq_eq_false_iff_ne.mpr h,bne_iff_ne.mpr h⟩
theorem cV (h:Aside0 (Kd.V d e w base ok (.slice A n c) xs)) (f:d.C w A xs.length xs→d.C w' A xs.length xs:=by exact fun h_=>cX h_):d.C w' A xs.length xs:=f (Kd.V_reads' h.out).2.2
theorem lV (h:Aside0 (Kd.V d e w base ok (.slice A n c) xs)):n≤c:=(Kd.V_reads' h.out).2.1
theorem cN (h:Aside0 (Kd.N d e w base ok (.slice A n c) xs)) (f:d.C w A xs.length xs→d.C w' A xs.length xs:=by exact fun h_=>cX h_):d.C w' A xs.length xs:=f (Kd.N_reads' h.out).2.2
theorem lN (h:Aside0 (Kd.N d e w base ok (.slice A n c) xs)):n≤c:=(Kd.N_reads' h.out).2.1
end
section
variable {P:Program} {ops:Array Oper} {rest:List Oper} {o:Oper} {a:Act} {Q:Exit→Act→World→Prop} {W:World}
theorem gd (N:Tmp) (_hN:o.dst=some N) (h:wpList P ops Q (o::rest) a W):wpList P ops Q (o::rest) a W:=h
theorem gc (f:FuncId) {as_:Array Operand} {ts:Array TypeId} (_ho:o.op=.call { callee:=.value (.func f),args:=as_,argTypes:=ts }) (h:wpList P ops Q (o::rest) a W):wpList P ops Q (o::rest) a W:=h
theorem bx (cs:Array Value) (t:TypeId) (h:∀ g,g=W.heap.size→∀ w1,Aside0 (w1.heap[g]?=some (.cells cs t (0,0)))→Below W.heap.size W w1→wpList P ops Q rest (a.put o.dst (.pointer (some ⟨g,0,none⟩))) w1) (hgd:o.guard=none:=by rfl) (hrun:(execOp a.eval o).run P W=.ok (.value (.pointer (some ⟨W.heap.size,0,none⟩))) (W.alloc (.cells cs t (0,0))):=by first|(go_simp;done)|(go_simp;rfl)):wpList P ops Q (o::rest) a W:=Kd.event_run hgd hrun (h _ rfl _ ⟨blk_new W _⟩ (below_alloc (Below.refl _ _) _))
theorem bxg (cs:Array Value) (t:TypeId) (h:∀ g,g=W.heap.size→∀ w1,Aside0 (w1.heap[g]?=some (.cells cs t (0,0)))→Below W.heap.size W w1→wpList P ops Q rest (a.put o.dst (.pointer (some ⟨g,0,none⟩))) w1) (hw:Region.wanted o (yielded ops a.tmps)=true:=by rfl) (hrun:(execOp a.eval o).run P W=.ok (.value (.pointer (some ⟨W.heap.size,0,none⟩))) (W.alloc (.cells cs t (0,0))):=by first|(go_simp;done)|(go_simp;rfl)):wpList P ops Q (o::rest) a W:=gate_guard hw (Kd.event_run rfl hrun (h _ rfl _ ⟨blk_new W _⟩ (below_alloc (Below.refl _ _) _)))
theorem iLg (N:Tmp) (xs:List Int) (h:∀ v1 w1,(Kd.int .i64).R 3 w1 W.heap.size (fun _=>True) v1 xs→Below W.heap.size W w1→wpList P ops Q rest (a.put o.dst v1) w1) (hd:o.dst=some N:=by rfl) (hw:Region.wanted o (yielded ops a.tmps)=true:=by rfl) (hm:xs.length≤9223372036854775807:=by simp) (hrun:(execOp a.eval o).run P W=.ok (.value (.slice (some ⟨W.heap.size,0,none⟩) xs.length xs.length)) (W.alloc (.cells (xs.map (Value.int .i64)).toArray 3)):=by(simp only[List.map_cons,List.map_nil]);first|(go_simp;done)|(go_simp;rfl)):wpList P ops Q (o::rest) a W:=
  gate_guard hw (Kd.R_lit (Kd.int .i64) (w0:=W) W.heap.size 3 rfl (N:=N) hd (ok:=fun _=>True) (okp:=fun _=>True) hrun (Kd.reps_scalar (enc:=Value.int .i64) xs) (fun _ hk=>hk) trivial (Below.refl _ _) (Nat.le_refl _) hm (fun v1 w1 ho hb _ _=>h v1 w1 ho hb))
theorem iL (N:Tmp) (xs:List Int) (h:∀ v1 w1,(Kd.int .i64).R 3 w1 W.heap.size (fun _=>True) v1 xs→Below W.heap.size W w1→wpList P ops Q rest (a.put o.dst v1) w1) (hd:o.dst=some N:=by rfl) (hgd:o.guard=none:=by rfl) (hm:xs.length≤9223372036854775807:=by simp) (hrun:(execOp a.eval o).run P W=.ok (.value (.slice (some ⟨W.heap.size,0,none⟩) xs.length xs.length)) (W.alloc (.cells (xs.map (Value.int .i64)).toArray 3)):=by(simp only[List.map_cons,List.map_nil]);first|(go_simp;done)|(go_simp;rfl)):wpList P ops Q (o::rest) a W:=
  Kd.R_lit (Kd.int .i64) (w0:=W) W.heap.size 3 hgd hd (ok:=fun _=>True) (okp:=fun _=>True) hrun (Kd.reps_scalar (enc:=Value.int .i64) xs) (fun _ hk=>hk) trivial (Below.refl _ _) (Nat.le_refl _) hm (fun v1 w1 ho hb _ _=>h v1 w1 ho hb)
theorem gC (f:FuncId) (N:Option Tmp) {fn:Func} (hf:P.funcs[f]?=some fn) (args:Array Value) {as_:Array Operand} {ts:Array TypeId} (h:Calls P f args W fun e w'=>∃ v,e=.returned v∧wpList P ops Q rest (a.put N v) w') (hop:o.op=.call { callee:=.value (.func f),args:=as_,argTypes:=ts }:=by with_reducible exact rfl) (hd:o.dst=N:=by rfl) (hg:o.guard=none:=by rfl) (hname:(fn.name == "runtime.NumGoroutine")=false:=by kernel_rfl) (hb:fn.body.isSome=true:=by rfl) (hargs:as_.map a.eval=args:=by exact mA):wpList P ops Q (o::rest) a W:=goesL_ N hd hg hf hname hb args hop hargs h
end
theorem dD {P:Prop} (h:P:=by first|exact⟨rfl,_,World.drewN_drewN _ _ _⟩|exact⟨rfl,_,Eq.trans (World.drewN_drewN _ _ _) (congrArg (World.drewN _) (Nat.add_assoc _ _ _))⟩):P:=h
def bL:Nat→Nat→List Bool
 | 0,_=>[]
 | n+1,m=>(m%2==1)::bL n (m/2)
def bA (n m:Nat):Array Bool:=(bL n m).toArray
theorem bT {α β:Type} {o:Option α} {f:α→Option β} {b:β} (h:o.bind f=some b):∃ a,Aside0 (o=some a)∧f a=some b:=by
 obtain⟨a,h1,h2⟩:=bS h
 exact⟨a,⟨h1⟩,h2⟩
theorem yE {p q:Prop} {α:Type} {a b:α} (hy:a=b) (H:p) (h:a=b→p→q:=by intro hy_ H_;first|(rw[hy_];with_reducible exact H_)|(have H2_:=(Option.bind_some _ _).symm.trans H_;rw[hy_];with_reducible exact H2_)|(have H2_:=(Option.bind_some _ _).symm.trans H_;with_reducible exact H2_)|with_reducible exact H_|(rw[hy_];exact H_)|exact H_):q:=h hy H
theorem iN {c:Prop} [Decidable c] {α:Type} {x:Option α} {r:α} (h:(if c then x else none)=some r):decide c=true∧x=some r:=by
 by_cases hc:c
 · rw[if_pos hc] at h
   exact⟨decide_eq_true hc,h⟩
 · rw[if_neg hc] at h
   cases h
theorem iO {c:Prop} [Decidable c] {α:Type} {x:Option α} {r:α} (h:(if c then x else none)=some r):c∧x=some r:=by
 by_cases hc:c
 · rw[if_pos hc] at h
   exact⟨hc,h⟩
 · rw[if_neg hc] at h
   cases h
theorem iM {c:Prop} [Decidable c] {α:Type} {x:Option α} {r:α} (h:(if c then none else x)=some r):¬c∧x=some r:=by
 by_cases hc:c
 · rw[if_pos hc] at h
   cases h
 · rw[if_neg hc] at h
   exact⟨hc,h⟩
theorem aI {k:IntKind} {w:World} {A:Option Addr} {n:Nat} {xs:List Int} (h:(Kd.int k).C w A n xs) (i:Int) (h0:decide (0≤i)=true:=by exact aS) (h1:decide (i<n)=true:=by exact aS):∃ ad,A=some ad∧w.cell? (ad.add i.toNat)=some (.int k (rd xs i))∧(0≤i)=True∧(i<(n:Int))=True:=by
 obtain⟨ad,e,hx⟩:=Kd.at_int h i (oE h0) (oE h1)
 exact⟨ad,e,hx,eq_true (oE h0),eq_true (oE h1)⟩
theorem mM {P:Prop} (h:P:=by with_reducible repeat' first|apply ih0|apply ih1|apply ih2|apply ih3|apply ih4|apply ih5|apply ih6|apply ih7|apply ih8|apply ih9|apply i0|apply i1|apply i2|apply i3|apply i4|apply i5|apply i6|apply i7|apply i8|apply i9|apply i10|apply i11|apply i12|apply i13|apply i14|apply i15|apply i16|apply i17|apply i18|apply i19|apply i20|apply i21|apply i22|apply i23|exact LeO.refl _|exact LeO.none _|refine LeO.ite ?_ ?_|refine LeO.bind ?_ (fun _=>?_)):P:=h
theorem dR {P:Prop} (h:P:=by repeat(first|exact Drawn0.refl _|apply Drawn0.step)):P:=h
theorem nK {P:Prop} (h:P:=by first|exact Kd.R_nil _ _ _ _ _|exact Kd.N_nil _ _ _ _ _|exact Kd.V_nil _ _ _ _ _|exact Kd.Q_nil _ _ _ _ _|exact Kd.S_nil _ _ _ _ _):P:=h
theorem hB {w W:World} {p:Addr} {v:Value} (HB:Aside0 (Below w.heap.size w W)) (hx:w.cell? p=some v):W.cell? p=some v:=(HB.out.cell (World.block_lt_of_cell? w _ hx)).trans hx
theorem rY {α:Type} {d:Kd α} {e base:Nat} {w:World} {ok:Nat→Prop} {v:Value} {xs ys:List α} (hy:Aside0 (ys=xs)) (h:d.R e w base ok v xs):d.R e w base ok v ys:=hy.out ▸ h
theorem nY {α:Type} {d:Kd α} {e base:Nat} {w:World} {ok:Nat→Prop} {v:Value} {xs ys:List α} (hy:Aside0 (ys=xs)) (h:Kd.N d e w base ok v xs):Kd.N d e w base ok v ys:=hy.out ▸ h
theorem bN {b:Bool} (h:¬b=true):b=false:=Bool.eq_false_iff.mpr h
theorem nF:¬(false=true):=by decide
theorem kQ {w w':World} {g T:Nat} {cs cs':Array Value} {o':Obj} (h:Aside0 (w.heap[g]?=some (.cells cs T (0,0)))) (f:w.heap[g]?=some (.cells cs T (0,0))→w'.heap[g]?=some (.cells cs' T (0,0)):=by intro h_;(repeat(first|(with_reducible first|refine blk_drewN ?_ _|refine blk_drew ?_|refine blk_alloc ?_ _|apply blk_set)|apply blk_set));exact h_) (e:Obj.cells cs' T (0,0)=o':=by rfl):w'.heap[g]?=some o':=e ▸ f h.out
theorem eT (i:Int) (h:decide (0≤i)=true:=by exact aS):(0≤i)=True:=eq_true (oE h)
theorem eU (i:Int) (n:Nat) (h:decide (i<(n:Int))=true:=by exact aS):(i<(n:Int))=True:=eq_true (oE h)
theorem q2 {A B:Type} {a a':A} {b b':B} (h:some (a,b)=some (a',b')):a=a'∧b=b':=by simpa only[Option.some.injEq,Prod.mk.injEq] using h
theorem q3 {A B C:Type} {a a':A} {b b':B} {c c':C} (h:some (a,b,c)=some (a',b',c')):a=a'∧b=b'∧c=c':=by simpa only[Option.some.injEq,Prod.mk.injEq] using h
theorem q4 {A B C D:Type} {a a':A} {b b':B} {c c':C} {d d':D} (h:some (a,b,c,d)=some (a',b',c',d')):a=a'∧b=b'∧c=c'∧d=d':=by simpa only[Option.some.injEq,Prod.mk.injEq] using h
section
variable {P:Program} {ops:Array Oper} {Q:Exit→Act→World→Prop} {md:Region.Mode} {S:World→Prop} {ds:List Nat} {oi:Oper} {v:Value} {fuel:Nat} {l:Array Bool} {a a':Act} {w:World} {T:Bool × List (List Nat × List Nat)} {B:List Nat}
theorem pS (i:Nat) (N:Tmp) (HT:Aside0 (rtab md ops=T)) (h:wpAnyLast P md ops Q S ds fuel (l.setIfInBounds i true) a' w) (hi:ops[i]?=some oi:=by exact rfl) (hN:oi.dst=some N:=by exact rfl) (hc:anyT T l.toList (l.setIfInBounds i true).toList i=true:=by kernel_rfl) (hQ:∀ c a w,Q (.panic c) (a.put oi.dst v) w→Q (.panic c) a w:=by exact fun _ _ _ h=>h) (h1:Region.wanted oi (yielded ops a.tmps)=true:=by rfl) (hv:∀ w,(execOp a.eval oi).run P w=.ok (.value v) w:=by intro w';go_simp;with_reducible rfl) (ha:a.put (some N) v=a':=by simp only[Act.put,sA,sZ,sC,i64_w,i32_w];rfl):wpAnyLast P md ops Q S ds (fuel+1) l a w:=
  pure_ _ hi hN (any_of HT.out hc) hQ (Or.inl ⟨h1,hv⟩) ha h
theorem pN (i:Nat) (N:Tmp) (HT:Aside0 (rtab md ops=T)) (h:wpAnyLast P md ops Q S ds fuel (l.setIfInBounds i true) a' w) (hi:ops[i]?=some oi:=by exact rfl) (hN:oi.dst=some N:=by exact rfl) (hc:anyT T l.toList (l.setIfInBounds i true).toList i=true:=by kernel_rfl) (hQ:∀ c a w,Q (.panic c) (a.put oi.dst undef) w→Q (.panic c) a w:=by exact fun _ _ _ h=>h) (hy:Region.wanted oi (yielded ops a.tmps)=false∧undef=undef:=by exact⟨by rfl,rfl⟩) (ha:a.put (some N) undef=a':=by simp only[Act.put,sA,sZ,sC,i64_w,i32_w];rfl):wpAnyLast P md ops Q S ds (fuel+1) l a w:=
  pure_ _ hi hN (any_of HT.out hc) hQ (Or.inr hy) ha h
theorem tU (i:Nat) (N:Tmp) (HT:Aside0 (rtab md ops=T)) (HW:Aside0 (waitsOk T.2 B=true)) (hS:S w) (h:wpAnyLast P md ops Q S ds fuel (l.setIfInBounds i true) a' w) (hi:ops[i]?=some oi:=by exact rfl) (hN:oi.dst=some N:=by exact rfl) (hc:takeW T B ds l.toList (l.setIfInBounds i true).toList i=true:=by kernel_rfl) (hQ:∀ c a w,Q (.panic c) (a.put oi.dst v) w→Q (.panic c) a w:=by exact fun _ _ _ h=>h) (h1:Region.wanted oi (yielded ops a.tmps)=true:=by rfl) (hv:∀ w,S w→(execOp a.eval oi).run P w=.ok (.value v) w:=by intro w' hs_;(repeat obtain⟨s_,hs_⟩:=hs_);go_simp;with_reducible rfl) (ha:a.put (some N) v=a':=by simp only[Act.put,sA,sZ,sC,i64_w,i32_w];rfl):wpAnyLast P md ops Q S ds (fuel+1) l a w:=
  take_ _ hi hN (take_ofW HT.out HW.out hc) hQ (Or.inl ⟨h1,hv⟩) hS ha h
theorem oU (i:Nat) (N:Option Tmp) (HT:Aside0 (rtab md ops=T)) (h:∀ K:Act→World→Prop,Shut (∀ a' w',S w'→(S w'→wpAnyLast P md ops Q S ds fuel (l.setIfInBounds i true) a' w')→K a' w')→if Region.wanted oi (yielded ops a.tmps)=true then Oper.wp P oi a w K Q else K (a.put N undef) w) (hi:ops[i]?=some oi:=by exact rfl) (hN:oi.dst=N:=by exact rfl) (hc:(readyT T.2 l.toList==[i]&&l.toList.set i true==(l.setIfInBounds i true).toList)=true:=by kernel_rfl) (hd:i∉ds:=by decide):wpAnyLast P md ops Q S ds (fuel+1) l a w:=
  one_ _ hi hN (one_of HT.out hc) hd h
theorem lU (i:Nat) (N:Option Tmp) (HT:Aside0 (rtab md ops=T)) (h:∀ K:Act→World→Prop,Shut (∀ a' w',wpAnyLast P md ops Q S ds fuel (l.setIfInBounds i true) a' w'→K a' w')→if Region.wanted oi (yielded ops a.tmps)=true then Oper.wp P oi a w K Q else K (a.put N undef) w) (hi:ops[i]?=some oi:=by exact rfl) (hN:oi.dst=N:=by exact rfl) (hc:(readyT T.2 l.toList==[i]&&l.toList.set i true==(l.setIfInBounds i true).toList)=true:=by kernel_rfl) (hd:i∈ds:=by decide):wpAnyLast P md ops Q S ds (fuel+1) l a w:=
  last_ _ hi hN (one_of HT.out hc) hd h
theorem nm (N:Tmp) {a0:Act} (h:wpAnyLast P md ops Q S ds fuel l a' w) (ha:Act.put a0 (some N) v=a':=by simp only[Act.put,sA,sZ,sC,i64_w,i32_w];rfl):wpAnyLast P md ops Q S ds fuel l (Act.put a0 (some N) v) w:=norm_ ha h
end


mutual
def Czv.l0:Nat→List (S46)→List (S46)→Int→Int→Option (Int)
 | 0,_,_,_,_=>none
 | k+1,x0,x12,x13,x14=>if x14 < x13 then(if 0≤x14 then(if x14 < (x12.length:Int) then(if((rd_T46 x12 x14).f0) < 0 then(some 1) else(if((rd_T46 x12 x14).f0) > 2147483647 then(some 1) else(if((rd_T46 x12 x14).f1) < 0 then(some 1) else(if((rd_T46 x12 x14).f1) > 1125899906842624 then(some 1) else(Czv.l0 k x0 x12 x13 (wrap64 (x14+1))))))) else(none)) else(none)) else(Czv.l1 k x0 1)
def Czv.l1:Nat→List (S46)→Int→Option (Int)
 | 0,_,_=>none
 | k+1,x0,x5=>if x5 < (x0.length:Int) then(if 0≤x5 then(if 0≤(wrap64 (x5 - 1)) then(if(wrap64 (x5 - 1)) < (x0.length:Int) then(if((rd_T46 x0 x5).f0)≤((rd_T46 x0 (wrap64 (x5 - 1))).f0) then(some 9) else(if((rd_T46 x0 x5).f1) < ((rd_T46 x0 (wrap64 (x5 - 1))).f1) then(some 9) else(Czv.l1 k x0 (wrap64 (x5+1))))) else(none)) else(none)) else(none)) else(some 0)
end
def Czv.f (k:Nat) (l0:List (S46)):Option (Int):=if(l0.length:Int) < 2 then(some 10) else(if(l0.length:Int) > 512 then(some 8) else(Czv.l0 k l0 l0 (l0.length:Int) 0))
theorem Czv.mono_l:∀ k,(∀ a6 a7 a8 a9,LeO (Czv.l0 k a6 a7 a8 a9) (Czv.l0 (k+1) a6 a7 a8 a9))∧(∀ a6 a7,LeO (Czv.l1 k a6 a7) (Czv.l1 (k+1) a6 a7))
 | 0=>⟨fun _ _ _ _ r h=>by simp [Czv.l0] at h,fun _ _ r h=>by simp [Czv.l1] at h⟩
 | k+1=>by
  obtain⟨ih0,ih1⟩:=Czv.mono_l k;refine⟨?_,?_⟩
  ·intro a6 a7 a8 a9;unfold Czv.l0;exact mM
  ·intro a6 a7;unfold Czv.l1;exact mM
theorem Czv.mono:∀ a6 k,LeO (Czv.f k a6) (Czv.f (k+1) a6):=by
 intro a6 k;obtain⟨ih0,ih1⟩:=Czv.mono_l k;unfold Czv.f;exact mM
theorem Czv.calls (k:Nat) (a6:Option Addr) (a7:Nat) (l0:List (S46)) (r:Int) (w:World) (a8:Kd.C k46 w a6 l0.length l0) (a9:l0.length≤a7) (h:Czv.f k l0=some r) :
  Calls Try.prog 14 #[.slice a6 l0.length a7] w fun e w'=>e=.returned (.int .i64 r)∧Below w.heap.size w w':=by
 have hu46:=Try.underlying46;have b3:=aM a8;have b4:=aM a9;clear a8 a9;have HB:=aM (Below.refl w.heap.size w);have H:(if(l0.length:Int) < 2 then(some 10) else(if(l0.length:Int) > 512 then(some 8) else(Czv.l0 k l0 l0 (l0.length:Int) 0)))=some r:=h
 clear h;by_cases c2:(l0.length:Int) < 2
 ·rw[if_pos c2] at H;have b5:=dE c2;have b6:decide (l0.length < 2)=true:=dE (by omega)
  clear c2;obtain rfl:=Option.some.inj H;go_enter Try.func14,Try.ntmps14
  go_wp2
  repeat(go_quiet (fail);try go_wp2)
  go_ret
  exact⟨eW,pB⟩
 ·rw[if_neg c2] at H;have b5:decide ((l0.length:Int) < 2)=false:=decide_eq_false c2;have b6:decide (l0.length < 2)=false:=decide_eq_false (by omega)
  clear c2;by_cases c3:(l0.length:Int) > 512
  ·rw[if_pos c3] at H;have b7:decide (512 < (l0.length:Int))=true:=dE c3;have b8:decide (512 < l0.length)=true:=dE (by omega)
   clear c3;obtain rfl:=Option.some.inj H;go_enter Try.func14,Try.ntmps14
   go_wp2
   repeat(go_quiet (fail);try go_wp2)
   go_ret
   exact⟨eW,pB⟩
  ·rw[if_neg c3] at H;have b7:decide (512 < (l0.length:Int))=false:=decide_eq_false c3;have b8:decide (512 < l0.length)=false:=decide_eq_false (by omega)
   clear c3;have H':=aM H;clear H;go_enter Try.func14,Try.ntmps14
   go_wp2
   repeat(go_quiet (fail);try go_wp2)
   go_loopg [14] k (fun kq b9 w'=>∃ (d0:Int),b9=.int .i64 d0∧Aside0 (Czv.l0 kq l0 l0 (l0.length:Int) d0=some r)∧Aside0 (kq≤k)∧Aside0 (Below w.heap.size w w'))
   case atStart=>exact⟨(0),sD,H',⟨Nat.le_refl _⟩,⟨pB⟩⟩
   case round =>
    clear H';try clear d1
    obtain⟨d0,rfl,HA,d3,HB⟩:=hrel;cases gk with
    | zero=>exact absurd HA.out (by simp [Czv.l0])
    | succ k1 =>
     have H:=HA.out;clear HA;simp only[Czv.l0] at H;by_cases c4:d0 < (l0.length:Int)
     ·rw[if_pos c4] at H;have d4:=dE c4;clear c4;obtain⟨d5,H⟩:=iN H;obtain⟨d6,H⟩:=iN H;by_cases c7:((rd_T46 l0 d0).f0) < 0
      ·rw[if_pos c7] at H;have d7:=dE c7;clear c7;obtain rfl:=Option.some.inj H;obtain⟨d8,d9,e6,e7⟩:=at_T46 b3.out d0 (oE aS) (oE aS);cases d9
       replace e6:=hB HB e6;replace e7:=hB HB e7;have e8:=eT (d0);have f3:=eU (d0) l0.length;have fl_:True:=trivial;repeat((first|clear fl_|go_quiet (first|((with_reducible refine gd 4 rfl ?_);refine bx #[.int .i64 0,.int .i64 0] 46 ?_;intro f4 hg f5 f6 hb;have f7:=gA w hg;have f8:=gA w hg;replace HB:=bB hb;clear hb hg;obtain⟨f9,g6,g7,g8⟩:=bk2 f6)));go_wp2_with (first|((with_reducible refine gd 4 rfl ?_);refine bx #[.int .i64 0,.int .i64 0] 46 ?_;intro f4 hg f5 f6 hb;have f7:=gA w hg;have f8:=gA w hg;replace HB:=bB hb;clear hb hg;obtain⟨f9,g6,g7,g8⟩:=bk2 f6)))
       go_ret
       exact⟨eW,pB⟩
      ·rw[if_neg c7] at H;have d7:decide (((rd_T46 l0 d0).f0) < 0)=false:=decide_eq_false c7;clear c7;by_cases c10:((rd_T46 l0 d0).f0) > 2147483647
       ·rw[if_pos c10] at H;have g9:decide (2147483647 < ((rd_T46 l0 d0).f0))=true:=dE c10;clear c10;obtain rfl:=Option.some.inj H;obtain⟨d8,d9,e6,e7⟩:=at_T46 b3.out d0 (oE aS) (oE aS);cases d9
        replace e6:=hB HB e6;replace e7:=hB HB e7;have e8:=eT (d0);have f3:=eU (d0) l0.length;have fl_:True:=trivial;repeat((first|clear fl_|go_quiet (first|((with_reducible refine gd 4 rfl ?_);refine bx #[.int .i64 0,.int .i64 0] 46 ?_;intro f4 hg j5 f6 hb;have f7:=gA w hg;have f8:=gA w hg;replace HB:=bB hb;clear hb hg;obtain⟨j9,l5,l6,l7⟩:=bk2 f6)));go_wp2_with (first|((with_reducible refine gd 4 rfl ?_);refine bx #[.int .i64 0,.int .i64 0] 46 ?_;intro f4 hg j5 f6 hb;have f7:=gA w hg;have f8:=gA w hg;replace HB:=bB hb;clear hb hg;obtain⟨j9,l5,l6,l7⟩:=bk2 f6)))
        go_ret
        exact⟨eW,pB⟩
       ·rw[if_neg c10] at H;have g9:decide (2147483647 < ((rd_T46 l0 d0).f0))=false:=decide_eq_false c10;clear c10;by_cases l8:((rd_T46 l0 d0).f1) < 0
        ·rw[if_pos l8] at H;have l9:=dE l8;clear l8;obtain rfl:=Option.some.inj H;obtain⟨d8,d9,e6,e7⟩:=at_T46 b3.out d0 (oE aS) (oE aS);cases d9
         replace e6:=hB HB e6;replace e7:=hB HB e7;have e8:=eT (d0);have f3:=eU (d0) l0.length;have fl_:True:=trivial;repeat((first|clear fl_|go_quiet (first|((with_reducible refine gd 4 rfl ?_);refine bx #[.int .i64 0,.int .i64 0] 46 ?_;intro f4 hg m4 f6 hb;have f7:=gA w hg;have f8:=gA w hg;replace HB:=bB hb;clear hb hg;obtain⟨m5,m6,m7,m8⟩:=bk2 f6)));go_wp2_with (first|((with_reducible refine gd 4 rfl ?_);refine bx #[.int .i64 0,.int .i64 0] 46 ?_;intro f4 hg m4 f6 hb;have f7:=gA w hg;have f8:=gA w hg;replace HB:=bB hb;clear hb hg;obtain⟨m5,m6,m7,m8⟩:=bk2 f6)))
         go_ret
         exact⟨eW,pB⟩
        ·rw[if_neg l8] at H;have l9:decide (((rd_T46 l0 d0).f1) < 0)=false:=decide_eq_false l8;clear l8;by_cases m9:((rd_T46 l0 d0).f1) > 1125899906842624
         ·rw[if_pos m9] at H;have n0:decide (1125899906842624 < ((rd_T46 l0 d0).f1))=true:=dE m9;clear m9;obtain rfl:=Option.some.inj H;obtain⟨d8,d9,e6,e7⟩:=at_T46 b3.out d0 (oE aS) (oE aS);cases d9
          replace e6:=hB HB e6;replace e7:=hB HB e7;have e8:=eT (d0);have f3:=eU (d0) l0.length;have fl_:True:=trivial;repeat((first|clear fl_|go_quiet (first|((with_reducible refine gd 4 rfl ?_);refine bx #[.int .i64 0,.int .i64 0] 46 ?_;intro f4 hg n1 f6 hb;have f7:=gA w hg;have f8:=gA w hg;replace HB:=bB hb;clear hb hg;obtain⟨n2,n3,n4,n5⟩:=bk2 f6)));go_wp2_with (first|((with_reducible refine gd 4 rfl ?_);refine bx #[.int .i64 0,.int .i64 0] 46 ?_;intro f4 hg n1 f6 hb;have f7:=gA w hg;have f8:=gA w hg;replace HB:=bB hb;clear hb hg;obtain⟨n2,n3,n4,n5⟩:=bk2 f6)))
          go_ret
          exact⟨eW,pB⟩
         ·rw[if_neg m9] at H;have n0:decide (1125899906842624 < ((rd_T46 l0 d0).f1))=false:=decide_eq_false m9;clear m9;have H':=aM H;clear H;obtain⟨d8,d9,e6,e7⟩:=at_T46 b3.out d0 (oE aS) (oE aS);cases d9
          replace e6:=hB HB e6;replace e7:=hB HB e7;have e8:=eT (d0);have f3:=eU (d0) l0.length;have fl_:True:=trivial;repeat((first|clear fl_|go_quiet (first|((with_reducible refine gd 4 rfl ?_);refine bx #[.int .i64 0,.int .i64 0] 46 ?_;intro f4 hg n6 f6 hb;have f7:=gA w hg;have f8:=gA w hg;replace HB:=bB hb;clear hb hg;obtain⟨n7,n8,n9,o0⟩:=bk2 f6)));go_wp2_with (first|((with_reducible refine gd 4 rfl ?_);refine bx #[.int .i64 0,.int .i64 0] 46 ?_;intro f4 hg n6 f6 hb;have f7:=gA w hg;have f8:=gA w hg;replace HB:=bB hb;clear hb hg;obtain⟨n7,n8,n9,o0⟩:=bk2 f6)))
          go_roundg k1
          case measure=>have:=d3.out;omega
          case rel=>exact⟨(wrap64 (d0+1)),sD,H',⟨by have:=d3.out;omega⟩,⟨pB⟩⟩
     ·rw[if_neg c4] at H;have d4:decide (d0 < (l0.length:Int))=false:=decide_eq_false c4;clear c4;have H':=aM H;clear H;go_wp2
      repeat(go_quiet (fail);try go_wp2)
      go_loopg [5] k1 (fun kq o1 w'=>∃ (o2:Int),o1=.int .i64 o2∧Aside0 (Czv.l1 kq l0 o2=some r)∧Aside0 (kq≤k1)∧Aside0 (Below w.heap.size w w'))
      case atStart=>exact⟨(1),sD,H',⟨Nat.le_refl _⟩,⟨pB⟩⟩
      case round =>
       clear H';try clear d1
       obtain⟨o2,rfl,HA,o3,HB⟩:=hrel;cases gk with
       | zero=>exact absurd HA.out (by simp [Czv.l1])
       | succ k2 =>
        have H:=HA.out;clear HA;simp only[Czv.l1] at H;by_cases o4:o2 < (l0.length:Int)
        ·rw[if_pos o4] at H;have o5:=dE o4;clear o4;obtain⟨o6,H⟩:=iN H;obtain⟨o7,o8⟩:∃ j_:Int,(wrap64 (o2 - 1))=j_:=⟨_,rfl⟩;replace H:(if 0≤(o7) then(if(o7) < (l0.length:Int) then(if((rd_T46 l0 o2).f0)≤((rd_T46 l0 (o7)).f0) then(some 9) else(if((rd_T46 l0 o2).f1) < ((rd_T46 l0 (o7)).f1) then(some 9) else(Czv.l1 k2 l0 (wrap64 (o2+1))))) else(none)) else(none))=some r:=by first|(rw[o8] at H;exact H)|(simp only[o8] at H ⊢;exact H)
         have o9:(IntKind.i64.wrap (o2 - 1))=o7:=(i64_w _).trans o8;obtain⟨p3,H⟩:=iN H;obtain⟨p7,H⟩:=iN H;by_cases p9:((rd_T46 l0 o2).f0)≤((rd_T46 l0 (o7)).f0)
         ·rw[if_pos p9] at H;have r5:decide (((rd_T46 l0 o2).f0)≤((rd_T46 l0 (o7)).f0))=true:=dE p9;clear p9;obtain rfl:=Option.some.inj H;obtain⟨r6,r7,r8,r9⟩:=at_T46 b3.out o2 (oE aS) (oE aS);cases r7
          replace r8:=hB HB r8;replace r9:=hB HB r9;have t0:=eT (o2);have t1:=eU (o2) l0.length;have t2:0≤((o7):Int):=oE aS
          have t3:(o7) < (l0.length:Int):=oE aS
          obtain⟨t4,t5,t6,t7⟩:=at_T46 b3.out (o7) t2 t3;obtain rfl:r6=t4:=(by injection t5)
          replace t6:=hB HB t6;replace t7:=hB HB t7;replace t2:=eq_true t2;replace t3:=eq_true t3;go_wp2
          repeat(go_quiet (fail);try go_wp2)
          go_ret
          exact⟨by first|rfl|(simp [errW_none,errW_some] <;> rfl)|(simp only[← o8];first|rfl|(simp [errW_none,errW_some] <;> rfl))|(simp [*,errW_none,errW_some] <;> rfl),pB⟩
         ·rw[if_neg p9] at H;have r5:decide (((rd_T46 l0 o2).f0)≤((rd_T46 l0 (o7)).f0))=false:=decide_eq_false p9;clear p9;by_cases t8:((rd_T46 l0 o2).f1) < ((rd_T46 l0 (o7)).f1)
          ·rw[if_pos t8] at H;have t9:decide (((rd_T46 l0 o2).f1) < ((rd_T46 l0 (o7)).f1))=true:=dE t8;clear t8;obtain rfl:=Option.some.inj H;obtain⟨r6,r7,r8,r9⟩:=at_T46 b3.out o2 (oE aS) (oE aS);cases r7
           replace r8:=hB HB r8;replace r9:=hB HB r9;have t0:=eT (o2);have t1:=eU (o2) l0.length;have t2:0≤((o7):Int):=oE aS
           have t3:(o7) < (l0.length:Int):=oE aS
           obtain⟨t4,t5,t6,t7⟩:=at_T46 b3.out (o7) t2 t3;obtain rfl:r6=t4:=(by injection t5)
           replace t6:=hB HB t6;replace t7:=hB HB t7;replace t2:=eq_true t2;replace t3:=eq_true t3;obtain⟨z3,z4,z5,z6⟩:=at_T46 b3.out o2 (oE aS) (oE aS);obtain rfl:r6=z3:=(by injection z4)
           replace z5:=hB HB z5;replace z6:=hB HB z6;have z7:=eT (o2);have z8:=eU (o2) l0.length;have z9:0≤((o7):Int):=oE aS
           have B0:(o7) < (l0.length:Int):=oE aS
           obtain⟨B1,B8,C0,C1⟩:=at_T46 b3.out (o7) z9 B0;obtain rfl:r6=B1:=(by injection B8)
           replace C0:=hB HB C0;replace C1:=hB HB C1;replace z9:=eq_true z9;replace B0:=eq_true B0;go_wp2
           repeat(go_quiet (fail);try go_wp2)
           go_ret
           exact⟨by first|rfl|(simp [errW_none,errW_some] <;> rfl)|(simp only[← o8];first|rfl|(simp [errW_none,errW_some] <;> rfl))|(simp [*,errW_none,errW_some] <;> rfl),pB⟩
          ·rw[if_neg t8] at H;have t9:decide (((rd_T46 l0 o2).f1) < ((rd_T46 l0 (o7)).f1))=false:=decide_eq_false t8;clear t8;have H':=aM H;clear H;obtain⟨r6,r7,r8,r9⟩:=at_T46 b3.out o2 (oE aS) (oE aS);cases r7
           replace r8:=hB HB r8;replace r9:=hB HB r9;have t0:=eT (o2);have t1:=eU (o2) l0.length;have t2:0≤((o7):Int):=oE aS
           have t3:(o7) < (l0.length:Int):=oE aS
           obtain⟨t4,t5,t6,t7⟩:=at_T46 b3.out (o7) t2 t3;obtain rfl:r6=t4:=(by injection t5)
           replace t6:=hB HB t6;replace t7:=hB HB t7;replace t2:=eq_true t2;replace t3:=eq_true t3;obtain⟨z3,z4,z5,z6⟩:=at_T46 b3.out o2 (oE aS) (oE aS);obtain rfl:r6=z3:=(by injection z4)
           replace z5:=hB HB z5;replace z6:=hB HB z6;have z7:=eT (o2);have z8:=eU (o2) l0.length;have z9:0≤((o7):Int):=oE aS
           have B0:(o7) < (l0.length:Int):=oE aS
           obtain⟨B1,B8,C0,C1⟩:=at_T46 b3.out (o7) z9 B0;obtain rfl:r6=B1:=(by injection B8)
           replace C0:=hB HB C0;replace C1:=hB HB C1;replace z9:=eq_true z9;replace B0:=eq_true B0;go_wp2
           repeat(go_quiet (fail);try go_wp2)
           go_roundg k2
           case measure=>have:=d3.out;have:=o3.out;omega
           case rel=>exact⟨(wrap64 (o2+1)),sD,H',⟨by have:=d3.out;have:=o3.out;omega⟩,⟨pB⟩⟩
        ·rw[if_neg o4] at H;have o5:decide (o2 < (l0.length:Int))=false:=decide_eq_false o4;clear o4;obtain rfl:=Option.some.inj H;go_wp2
         repeat(go_quiet (fail);try go_wp2)
         go_ret
         exact⟨eW,pB⟩


def Fzq.f (l0:List (S46)) (a1:Int):Option (Bool):=if 0 < (l0.length:Int) then(if a1≥((rd_T46 l0 0).f0) then(if 0≤(wrap64 ((l0.length:Int) - 1)) then(if(wrap64 ((l0.length:Int) - 1)) < (l0.length:Int) then(some (decide (a1≤((rd_T46 l0 (wrap64 ((l0.length:Int) - 1))).f0)))) else(none)) else(none)) else(some false)) else(none)
theorem Fzq.calls (a6:Option Addr) (a7:Nat) (l0:List (S46)) (a8:Int) (r:Bool) (w:World) (a9:Kd.C k46 w a6 l0.length l0) (b3:l0.length≤a7) (h:Fzq.f l0 a8=some r) :
  Calls Try.prog 31 #[.slice a6 l0.length a7,.int .i64 a8] w fun e w'=>e=.returned (.bool r)∧Drawn0 w w':=by
 have b4:=aM a9;have b5:=aM b3;clear a9 b3;have H:(if 0 < (l0.length:Int) then(if a8≥((rd_T46 l0 0).f0) then(if 0≤(wrap64 ((l0.length:Int) - 1)) then(if(wrap64 ((l0.length:Int) - 1)) < (l0.length:Int) then(some (decide (a8≤((rd_T46 l0 (wrap64 ((l0.length:Int) - 1))).f0)))) else(none)) else(none)) else(some false)) else(none))=some r:=h
 clear h;by_cases c3:0 < (l0.length:Int)
 ·rw[if_pos c3] at H;have b6:=dE c3;have b7:decide (0 < l0.length)=true:=dE (by omega)
  clear c3;by_cases c4:a8≥((rd_T46 l0 0).f0)
  ·rw[if_pos c4] at H;have b8:decide (((rd_T46 l0 0).f0)≤a8)=true:=dE c4;clear c4;obtain⟨b9,d0⟩:∃ j_:Int,(wrap64 ((l0.length:Int) - 1))=j_:=⟨_,rfl⟩;replace H:(if 0≤(b9) then(if(b9) < (l0.length:Int) then(some (decide (a8≤((rd_T46 l0 (b9)).f0)))) else(none)) else(none))=some r:=by first|(rw[d0] at H;exact H)|(simp only[d0] at H ⊢;exact H)
   have d1:(IntKind.i64.wrap ((l0.length:Int) - 1))=b9:=(i64_w _).trans d0;obtain⟨d3,H⟩:=iN H;obtain⟨d4,H⟩:=iN H;obtain rfl:=Option.some.inj H;have d5:0≤(0:Int):=(by omega)
   have d6:0 < (l0.length:Int):=oE aS
   obtain⟨d7,d8,d9,e6⟩:=at_T46 b4.out 0 d5 d6;cases d8
   have e7:(0 < l0.length)=True:=eq_true (by omega)
   (try rw[show((0:Int)).toNat=0 from rfl] at d9)
   (try rw[show 0 * 2=0 from rfl] at d9)
   (try rw[Addr.add_zero'] at d9)
   (try rw[show((0:Int)).toNat=0 from rfl] at e6)
   (try rw[show 0 * 2=0 from rfl] at e6)
   (try rw[Addr.add_zero'] at e6)
   replace d5:=eq_true d5;replace d6:=eq_true d6;have e8:0≤((b9):Int):=oE aS
   have f3:(b9) < (l0.length:Int):=oE aS
   obtain⟨f4,f5,f6,f7⟩:=at_T46 b4.out (b9) e8 f3;obtain rfl:d7=f4:=(by injection f5)
   replace e8:=eq_true e8;replace f3:=eq_true f3;go_enter Try.func31,Try.ntmps31
   go_wp2
   go_ret
   exact⟨by first|rfl|(simp;done)|(simp only[← d0] <;> (first|rfl|simp))|(simp [*];done),dR⟩
  ·rw[if_neg c4] at H;have b8:decide (((rd_T46 l0 0).f0)≤a8)=false:=decide_eq_false c4;clear c4;obtain rfl:=Option.some.inj H;have d5:0≤(0:Int):=(by omega)
   have d6:0 < (l0.length:Int):=oE aS
   obtain⟨d7,d8,d9,e6⟩:=at_T46 b4.out 0 d5 d6;cases d8
   have e7:(0 < l0.length)=True:=eq_true (by omega)
   (try rw[show((0:Int)).toNat=0 from rfl] at d9)
   (try rw[show 0 * 2=0 from rfl] at d9)
   (try rw[Addr.add_zero'] at d9)
   (try rw[show((0:Int)).toNat=0 from rfl] at e6)
   (try rw[show 0 * 2=0 from rfl] at e6)
   (try rw[Addr.add_zero'] at e6)
   replace d5:=eq_true d5;replace d6:=eq_true d6;go_enter Try.func31,Try.ntmps31
   go_wp2
   go_ret
   exact⟨sD,dR⟩
 ·rw[if_neg c3] at H;exact absurd H (by simp)

theorem goesv1_ {P:Program} {ops:Array Oper} {Q:Exit→Act→World→Prop} {rest:List Oper} {oi:Oper} {a:Act} {w:World} (N:Option Tmp) (hd:oi.dst=N) (hg:oi.guard=none) {f:FuncId} {caps:Array Value} {fn:Func} {c x:Operand} {ts:Array TypeId} (hf:P.funcs[f]?=some fn) (hname:(fn.name == "runtime.NumGoroutine")=false) (hb:fn.body.isSome=true)
  (hop:oi.op=.call { callee:=.value c,args:=#[x],argTypes:=ts }) (hc:a.eval c=.func (.func f) #[] caps)
  (h:Calls P f (#[a.eval x] ++ caps) w fun e w'=>∃ v,e=.returned v∧wpList P ops Q rest (a.put N v) w'):wpList P ops Q (oi :: rest) a w:=by
 refine wpList_plain hg fun K hK=>?_
 have he:=enters_ hf hname hb (#[a.eval x] ++ caps) w;have hrun:(execOp a.eval oi).run P w=.ok (.enter f (#[a.eval x] ++ caps)) w:=by
  unfold execOp;simp [hop,resolve,hc,Deferred.ofValue,invoke] at he ⊢;simp [he]
 unfold Oper.wp;rw[hrun,Oper.upon_enter];refine h.mono fun e w'' hh=>?_
 obtain⟨v,rfl,hk⟩:=hh;subst hd;exact hK _ _ hk
def Fzf.sR (p:Int→Bool):Nat→Int→Int→Int
 | 0,i,_=>i
 | k+1,i,j=>if i < j then(if p ((i+j) / 2)=true then Fzf.sR p k i ((i+j) / 2) else Fzf.sR p k ((i+j) / 2+1) j) else i
structure Find_ (f:Nat) (caps:Array Value) (n:Int) (p:Int→Bool) (I:World→Prop):Prop where
 fn:∃ fn,Try.prog.funcs[f]?=some fn∧(fn.name == "runtime.NumGoroutine")=false∧fn.body.isSome=true
 step:∀ (i:Int) W,0≤i→i < n→I W→Calls Try.prog f (#[.int .i64 i] ++ caps) W fun e W'=>e=.returned (.bool (p i))∧I W'
theorem Fzf.calls (n:Int) (f:Nat) (caps:Array Value) (p:Int→Bool) (I:World→Prop) (w:World) (hS:Find_ f caps n p I) (a6:I w) (hn:n < 4611686018427387904) (hn0:-4611686018427387904 < n) :
  Calls Try.prog 67 #[.int .i64 n,.func (.func f) #[] caps] w fun e w'=>e=.returned (.int .i64 (Fzf.sR p (n.toNat+1) 0 n))∧I w':=by
 have HS:=aM hS;have H0:=aM a6;have HN:=aM (And.intro hn hn0);clear hS a6 hn hn0;go_enter Try.func67,Try.ntmps67
 go_wp2
 go_loopg [5,6] (n.toNat+1) (fun kq a7 a8 w'=>∃ (i_ j_:Int),a7=.int .i64 i_∧a8=.int .i64 j_∧Aside0 (Fzf.sR p kq i_ j_=Fzf.sR p (n.toNat+1) 0 n)∧Aside0 (0≤i_∧i_ < 4611686018427387904∧j_≤n∧0 < kq∧j_ - i_ < (kq:Int))∧Aside0 (I w'))
 case atStart=>exact⟨0,n,rfl,rfl,⟨rfl⟩,⟨by omega⟩,H0⟩
 case round =>
  obtain⟨i_,j_,rfl,rfl,HR,HJ,HI⟩:=hrel;cases gk with
  | zero=>exact absurd HJ.out.2.2.2.1 (by omega)
  | succ k1 =>
   by_cases c5:i_ < j_
   ·have a9:=dE c5;have b3:0≤i_+j_∧i_+j_ < 9223372036854775808:=by have:=HJ.out;have:=HN.out;omega
    have b4:wrap64 (IntKind.u64.wrap (wrap64 (i_+j_)) / 2)=(i_+j_) / 2:=by
     have b5:wrap64 (i_+j_)=i_+j_:=by unfold wrap64;omega
     rw[b5];have:IntKind.u64.wrap (i_+j_)=i_+j_:=by unfold IntKind.wrap;simp [IntKind.bits,IntKind.signed];omega
     rw[this];unfold wrap64;omega
    have hm_:0≤(i_+j_) / 2∧(i_+j_) / 2 < n∧i_≤(i_+j_) / 2∧(i_+j_) / 2 < j_:=by have:=HJ.out;omega
    obtain⟨⟨fn_,hf_,hn_,hb_⟩,hC_⟩:=HS.out;have hC:=hC_ ((i_+j_) / 2) wr hm_.1 hm_.2.1 HI.out;rw[← b4] at hC;have HC:=aM hC;have E2:=aM b4;have HM:=aM hm_;clear hC b4 hm_;have HF:=aM hf_;have HNM:=aM hn_;have HBD:=aM hb_;have b6:=aM c5;have E0:=aM b3;clear hf_ hn_ hb_ hC_ c5 b3;go_wp2_with (first|(refine goesv1_ (some 20) rfl rfl (f:=f) (caps:=caps) HF.out HNM.out HBD.out rfl (by first|rfl|(simp [Act.eval];done)) ?_;refine HC.out.mono ?_;rintro e b7 ⟨rfl,hi_⟩;refine⟨_,rfl,?_⟩;have b8:=aM hi_;clear hi_))
    ·rename_i hp_
     have hr:=HR.out;have hb:=HJ.out;have b4:=E2.out;have hm:=HM.out;have hn:=HN.out;have hq:p ((i_+j_) / 2)=false:=by rw[← b4];simpa using hp_
     rw[Fzf.sR,if_pos b6.out,hq,if_neg (by decide)] at hr
     have b9:wrap64 (wrap64 (IntKind.u64.wrap (wrap64 (i_+j_)) / 2)+1)=(i_+j_) / 2+1:=by rw[b4];unfold wrap64;omega
     clear hp_ hq;go_roundg k1
     case measure=>omega
     case rel=>exact⟨(i_+j_) / 2+1,j_,by rw[b9],rfl,⟨hr⟩,⟨by omega⟩,b8⟩
    ·rename_i hp_
     have hr:=HR.out;have hb:=HJ.out;have b4:=E2.out;have hm:=HM.out;have hn:=HN.out;have hq:p ((i_+j_) / 2)=true:=by rw[← b4];simpa using hp_
     rw[Fzf.sR,if_pos b6.out,if_pos hq] at hr;clear hp_ hq;go_roundg k1
     case measure=>omega
     case rel=>exact⟨i_,(i_+j_) / 2,rfl,by rw[b4],⟨hr⟩,⟨by omega⟩,b8⟩
   ·have a9:decide (i_ < j_)=false:=decide_eq_false c5;go_wp2
    have hr:=HR.out;rw[Fzf.sR,if_neg (by omega)] at hr
    go_ret
    exact⟨by rw[← hr];rfl,HI.out⟩



def Hzq.f (a0_0:Int) (a0_1:Int) (l1:List Int):Option (Bool):=if 0 < (l1.length:Int) then(some (decide (a0_0 < (rd l1 0)))) else(none)
theorem Hzq.calls (a6:Int) (a7:Int) (a8:Option Addr) (a9:Nat) (l1:List Int) (r:Bool) (w:World) (b3:Kd.C (Kd.int .i64) w a8 l1.length l1) (b4:l1.length≤a9) (h:Hzq.f a6 a7 l1=some r) :
  Calls Try.prog 49 #[.agg #[.int .i64 a6,.int .i64 a7],.pointer a8] w fun e w'=>e=.returned (.bool r)∧Below w.heap.size w w':=by
 have hu46:=Try.underlying46;have b5:=aM b3;have b6:=aM b4;clear b3 b4;have HB:=aM (Below.refl w.heap.size w);have H:(if 0 < (l1.length:Int) then(some (decide (a6 < (rd l1 0)))) else(none))=some r:=h
 clear h;by_cases c3:0 < (l1.length:Int)
 ·rw[if_pos c3] at H;have b7:=dE c3;have b8:decide (0 < l1.length)=true:=dE (by omega)
  clear c3;obtain rfl:=Option.some.inj H;go_enter Try.func49,Try.ntmps49
  go_wp2_with (first|((with_reducible refine gd 2 rfl ?_);refine bx #[.int .i64 a6,.int .i64 a7] 46 ?_;intro b9 hg d0 d1 hb;have d3:=gA w hg;have d4:=gA w hg;replace HB:=bB hb;clear hb hg;obtain⟨d5,d6,d7,d8⟩:=bk2 d1;have d9:0≤(0:Int):=(by omega);have e6:0 < (l1.length:Int):=oE aS;obtain⟨e7,e8,f3⟩:=Kd.at_int b5.out 0 d9 e6;cases e8;have f4:(0 < l1.length)=True:=eq_true (by omega);(try rw[show((0:Int)).toNat=0 from rfl] at f3);(try rw[Addr.add_zero'] at f3);replace f3:=hB HB f3;replace d9:=eq_true d9;replace e6:=eq_true e6))
  go_ret
  exact⟨eW,pB⟩
 ·rw[if_neg c3] at H;exact absurd H (by simp)

def Dzq.l0:Nat→List Int→Int→Int→Option (Bool)
 | 0,_,_,_=>none
 | k+1,x5,x6,x7=>if x7 < x6 then(if 0≤x7 then(if x7 < (x5.length:Int) then(if(rd x5 x7) < (-1125899906842624) then(some false) else(if(rd x5 x7) > 1125899906842624 then(some false) else(Dzq.l0 k x5 x6 (wrap64 (x7+1))))) else(none)) else(none)) else(some true)
def Dzq.f (k:Nat) (l0:List Int):Option (Bool):=Dzq.l0 k l0 (l0.length:Int) 0
theorem Dzq.mono_l:∀ k,(∀ a6 a7 a8,LeO (Dzq.l0 k a6 a7 a8) (Dzq.l0 (k+1) a6 a7 a8))
 | 0=>fun _ _ _ r h=>by simp [Dzq.l0] at h
 | k+1=>by
  have ih0:=Dzq.mono_l k
  ·intro a6 a7 a8;unfold Dzq.l0;exact mM
theorem Dzq.mono:∀ a6 k,LeO (Dzq.f k a6) (Dzq.f (k+1) a6):=by
 intro a6 k;have ih0:=Dzq.mono_l k;unfold Dzq.f;exact mM
theorem Dzq.calls (k:Nat) (a6:Option Addr) (a7:Nat) (l0:List Int) (r:Bool) (w:World) (a8:Kd.C (Kd.int .i64) w a6 l0.length l0) (a9:l0.length≤a7) (h:Dzq.f k l0=some r) :
  Calls Try.prog 69 #[.slice a6 l0.length a7] w fun e w'=>e=.returned (.bool r)∧Drawn0 w w':=by
 have b3:=aM a8;have b4:=aM a9;clear a8 a9;have H:(Dzq.l0 k l0 (l0.length:Int) 0)=some r:=h;clear h;have H':=aM H;clear H;go_enter Try.func69,Try.ntmps69
 go_wp2
 go_loopg [7] k (fun kq b5 w'=>∃ (b6:Int),b5=.int .i64 b6∧Aside0 (Dzq.l0 kq l0 (l0.length:Int) b6=some r)∧Aside0 (kq≤k)∧Drawn0 w w')
 case atStart=>exact⟨(0),sD,H',⟨Nat.le_refl _⟩,dR⟩
 case round =>
  clear H';obtain⟨b6,rfl,HA,b7,⟨b8,rfl⟩⟩:=hrel;cases gk with
  | zero=>exact absurd HA.out (by simp [Dzq.l0])
  | succ k1 =>
   have H:=HA.out;clear HA;simp only[Dzq.l0] at H;by_cases c2:b6 < (l0.length:Int)
   ·rw[if_pos c2] at H;have b9:=dE c2;clear c2;obtain⟨d0,H⟩:=iN H;obtain⟨d1,H⟩:=iN H;by_cases c5:(rd l0 b6) < (-1125899906842624)
    ·rw[if_pos c5] at H;have d3:=dE c5;clear c5;obtain rfl:=Option.some.inj H;obtain⟨d4,d5,d6,d7,d8⟩:=aI b3.out b6;cases d5;go_wp2
     go_ret
     exact⟨sD,dR⟩
    ·rw[if_neg c5] at H;have d3:decide ((rd l0 b6) < (-1125899906842624))=false:=decide_eq_false c5;clear c5;by_cases c6:(rd l0 b6) > 1125899906842624
     ·rw[if_pos c6] at H;have d9:decide (1125899906842624 < (rd l0 b6))=true:=dE c6;clear c6;obtain rfl:=Option.some.inj H;obtain⟨d4,d5,d6,d7,d8⟩:=aI b3.out b6;cases d5;go_wp2
      go_ret
      exact⟨sD,dR⟩
     ·rw[if_neg c6] at H;have d9:decide (1125899906842624 < (rd l0 b6))=false:=decide_eq_false c6;clear c6;have H':=aM H;clear H;obtain⟨d4,d5,d6,d7,d8⟩:=aI b3.out b6;cases d5;go_wp2
      go_roundg k1
      case measure=>have:=b7.out;omega
      case rel=>exact⟨(wrap64 (b6+1)),sD,H',⟨by have:=b7.out;omega⟩,dR⟩
   ·rw[if_neg c2] at H;have b9:decide (b6 < (l0.length:Int))=false:=decide_eq_false c2;clear c2;obtain rfl:=Option.some.inj H;go_wp2
    go_ret
    exact⟨sD,dR⟩

def Bzw.f (a0:Int) (a1:Int):Option (Int × Int):=if 0≤a0∧a0≤1125899906842624∧0≤a1∧a1≤1125899906842624 then some (a0 * a1 / 18446744073709551616,a0 * a1 % 18446744073709551616) else none
theorem Bzw.w64 (n:Int) (h:0≤n) (h':n < 2 ^ 64):IntKind.u64.wrap n=n:=by
 have:IntKind.u64.wrap n=n % 18446744073709551616:=by simp [IntKind.wrap,IntKind.bits,IntKind.signed]
 rw[this];omega
theorem Bzw.and32 (x:Int) (a6:0≤x) (a7:x < 18446744073709551616):Go.bits .and .u64 x 4294967295=x % 4294967296 :=
 bits_mask .u64 64 (by decide) Bzw.w64 32 (by decide) x a6 a7
theorem Bzw.or32 (x y:Int) (hx:0≤x) (a6:x < 18446744073709551616) (hm:x % 4294967296=0) (hy:0≤y) (a7:y < 4294967296):Go.bits .or .u64 x y=x+y :=
 bits_join .u64 64 (by decide) Bzw.w64 32 x y hx hm a6 hy a7 (by omega)
theorem Bzw.mul_le {a b A B:Int} (a6:0≤a) (ha:a≤A) (a7:0≤b) (hb:b≤B):0≤a * b∧a * b≤A * B :=
 ⟨Int.mul_nonneg a6 a7,Int.mul_le_mul ha hb a7 (by omega)⟩
theorem Bzw.parts (a6 a7 a8 a9:Int) (b3:0≤a6∧a6≤18446744065119617025) (b4:0≤a7∧a7≤1125899906580480) (b5:0≤a8∧a8≤1125899906580480) (b6:0≤a9∧a9≤68719476736) (low mid more:Int)
  (elow:low=IntKind.u64.wrap a6) (emid:mid=IntKind.u64.wrap (IntKind.u64.wrap a7+low / 4294967296)) (emore:more=IntKind.u64.wrap (IntKind.u64.wrap a8+Go.bits .and .u64 mid 4294967295)) :
  IntKind.u64.wrap (IntKind.u64.wrap (IntKind.u64.wrap a9+mid / 4294967296)+more / 4294967296)=(a9 * 18446744073709551616+(a7+a8) * 4294967296+a6) / 18446744073709551616 ∧
  Go.bits .or .u64 (IntKind.u64.wrap (more * 4294967296)) (Go.bits .and .u64 low 4294967295)=(a9 * 18446744073709551616+(a7+a8) * 4294967296+a6) % 18446744073709551616:=by
 rw[Bzw.w64 a6 b3.1 (by omega)] at elow
 subst elow;rw[Bzw.w64 a7 b4.1 (by omega),Bzw.w64 _ (by omega) (by omega)] at emid
 subst emid;rw[Bzw.and32 _ (by omega) (by omega),Bzw.w64 a8 b5.1 (by omega),Bzw.w64 _ (by omega) (by omega)] at emore
 subst emore;refine⟨?_,?_⟩
 ·rw[Bzw.w64 a9 b6.1 (by omega),Bzw.w64 (a9+_) (by omega) (by omega),Bzw.w64 _ (by omega) (by omega)]
  omega
 ·rw[Bzw.and32 low (by omega) (by omega)]
  have ew:∀ z:Int,IntKind.u64.wrap z=z % 18446744073709551616:=fun z=>by simp [IntKind.wrap,IntKind.bits,IntKind.signed]
  rw[ew,Bzw.or32 _ _ (by omega) (by omega) (by omega) (by omega) (by omega)]
  omega
theorem Bzw.arith (a b:Int) (a6:0≤a) (ha:a≤1125899906842624) (a7:0≤b) (hb:b≤1125899906842624) (a8 a9 b3 b4 low mid more:Int)
  (b5:a8=Go.bits .and .u64 a 4294967295) (b6:a9=a / 4294967296) (eb0:b3=Go.bits .and .u64 b 4294967295) (eb1:b4=b / 4294967296)
  (elow:low=IntKind.u64.wrap (a8 * b3)) (emid:mid=IntKind.u64.wrap (IntKind.u64.wrap (a9 * b3)+low / 4294967296)) (emore:more=IntKind.u64.wrap (IntKind.u64.wrap (a8 * b4)+Go.bits .and .u64 mid 4294967295)) :
  IntKind.u64.wrap (IntKind.u64.wrap (IntKind.u64.wrap (a9 * b4)+mid / 4294967296)+more / 4294967296)=a * b / 18446744073709551616 ∧
  Go.bits .or .u64 (IntKind.u64.wrap (more * 4294967296)) (Go.bits .and .u64 low 4294967295)=a * b % 18446744073709551616:=by
 rw[Bzw.and32 a a6 (by omega)] at b5
 rw[Bzw.and32 b a7 (by omega)] at eb0
 have ka:a=a9 * 4294967296+a8:=by omega
 have kb:b=b4 * 4294967296+b3:=by omega
 have ra0:0≤a8∧a8≤4294967295:=by omega
 have rb0:0≤b3∧b3≤4294967295:=by omega
 have ra1:0≤a9∧a9≤262144:=by omega
 have rb1:0≤b4∧b4≤262144:=by omega
 have kab:a * b=a9 * b4 * 18446744073709551616+(a9 * b3+a8 * b4) * 4294967296+a8 * b3:=by rw[ka,kb];grind
 have b7:=Bzw.mul_le ra0.1 ra0.2 rb0.1 rb0.2;have b8:=Bzw.mul_le ra1.1 ra1.2 rb0.1 rb0.2;have b9:=Bzw.mul_le ra0.1 ra0.2 rb1.1 rb1.2;have d0:=Bzw.mul_le ra1.1 ra1.2 rb1.1 rb1.2;rw[kab];exact Bzw.parts _ _ _ _ ⟨b7.1,by omega⟩ ⟨b8.1,by omega⟩ ⟨b9.1,by omega⟩ ⟨d0.1,by omega⟩ low mid more elow emid emore
theorem Bzw.calls (a6:Int) (a7:Int) (a8:Int) (a9:Int) (w:World) (h:Bzw.f a6 a7=some (a8,a9)) :
  Calls Try.prog 70 #[.int .u64 a6,.int .u64 a7] w fun e w'=>e=.returned (.agg #[.int .u64 a8,.int .u64 a9])∧Below w.heap.size w w':=by
 unfold Bzw.f at h;split at h
 ·rename_i hb
  obtain⟨b3,ha,b4,hb⟩:=hb;obtain⟨z1,z2⟩:=Bzw.arith a6 a7 b3 ha b4 hb _ _ _ _ _ _ _ rfl rfl rfl rfl rfl rfl rfl;simp only[Option.some.injEq,Prod.mk.injEq] at h;obtain⟨b5,b6⟩:=h;have Z1:=aM (z1.trans b5);have Z2:=aM (z2.trans b6);clear z1 z2 b5 b6;go_enter Try.func70,Try.ntmps70
  go_wp2
  refine bodyPost_ret (v:=.agg #[.int .u64 a8,.int .u64 a9]) ?_ rfl ⟨rfl,?_⟩
  ·rw[← Z1.out,← Z2.out];simp [results,Try.results70,go_sem]
  ·exact(Below.refl _ _).alloc (Nat.le_refl _) _
 ·simp at h


def Hzw.f (a0:Int):Option (Int):=if a0 < 0 then(some (IntKind.u64.wrap (wrap64 (-a0)))) else(some (IntKind.u64.wrap (a0)))
theorem Hzw.calls (a6:Int) (r:Int) (w:World) (h:Hzw.f a6=some r) :
  Calls Try.prog 71 #[.int .i64 a6] w fun e w'=>e=.returned (.int .u64 r)∧Drawn0 w w':=by
 have H:(if a6 < 0 then(some (IntKind.u64.wrap (wrap64 (-a6)))) else(some (IntKind.u64.wrap (a6))))=some r:=h
 clear h;by_cases c2:a6 < 0
 ·rw[if_pos c2] at H;have a7:=dE c2;clear c2;obtain rfl:=Option.some.inj H;go_enter Try.func71,Try.ntmps71
  go_wp2
  go_ret
  exact⟨sD,dR⟩
 ·rw[if_neg c2] at H;have a7:decide (a6 < 0)=false:=decide_eq_false c2;clear c2;obtain rfl:=Option.some.inj H;go_enter Try.func71,Try.ntmps71
  go_wp2
  go_ret
  exact⟨sD,dR⟩

def Azk.f (a0_0:Int) (a0_1:Int) (a1:Int):Option (Int × Int × Bool) :=
 if 0≤a0_0∧a0_0 < 18446744073709551616∧0≤a0_1∧a0_1 < 18446744073709551616∧1≤a1∧a1≤1125899906842624 then
  (if(a0_0 * 18446744073709551616+a0_1) / a1 < 4611686018427387904 then some ((a0_0 * 18446744073709551616+a0_1) / a1,(a0_0 * 18446744073709551616+a0_1) % a1,true) else some (0,0,false))
 else none
/-- What the first k bits tell. -/
def Azk.T (p:Int) (k:Nat):Int:=p / 2 ^ (128 - k)
theorem Azk.p2 (n:Nat):(0:Int) < 2 ^ n:=Int.pow_pos (by decide)
theorem Azk.T_zero {p:Int} (a6:0≤p) (h:p < 340282366920938463463374607431768211456):Azk.T p 0=0:=Int.ediv_eq_zero_of_lt a6 h
theorem Azk.T_last (p:Int):Azk.T p 128=p:=by simp [Azk.T]
theorem Azk.T_nonneg {p:Int} (a6:0≤p) (k:Nat):0≤Azk.T p k:=Int.ediv_nonneg a6 (Int.le_of_lt (Azk.p2 _))
theorem Azk.T_succ (p:Int) (k:Nat) (hk:k < 128):Azk.T p (k+1)=2 * Azk.T p k+(p / 2 ^ (127 - k)) % 2:=by
 unfold Azk.T;have a6:128 - (k+1)=127 - k:=by omega
 have a7:128 - k=(127 - k)+1:=by omega
 rw[a6,a7,Int.pow_succ,← Int.ediv_ediv_of_nonneg (Int.le_of_lt (Azk.p2 _))];generalize p / 2 ^ (127 - k)=x;omega
theorem Azk.T_le {p:Int} (a6:0≤p) (k:Nat) (hk:k < 128):2 * Azk.T p k≤p:=by
 unfold Azk.T;have a7:128 - k=(127 - k)+1:=by omega
 rw[a7,Int.pow_succ,Int.mul_comm _ 2,← Int.ediv_ediv_of_nonneg (by omega)]
 have:=Int.ediv_le_self (a:=p / 2) (2 ^ (127 - k)) (by omega)
 generalize p / 2 / 2 ^ (127 - k)=y at *;omega
theorem Azk.bit_hi (a b:Int) (hb:0≤b) (a6:b < 18446744073709551616) (k:Nat) (hk:k < 64):(a * 18446744073709551616+b) / 2 ^ (127 - k)=a / 2 ^ (63 - k):=by
 have e:127 - k=64+(63 - k):=by omega
 rw[e,Int.pow_add,← Int.ediv_ediv_of_nonneg (Int.le_of_lt (Azk.p2 _))];congr 1
 show _ / (18446744073709551616:Int)=a
 omega
theorem Azk.bit_lo (a b:Int) (k:Nat) (hk:64≤k) (hk1:k < 128):(a * 18446744073709551616+b) / 2 ^ (127 - k) % 2=b / 2 ^ (127 - k) % 2:=by
 obtain⟨j,hj⟩:∃ j,64=(127 - k)+(j+1):=⟨k - 64,by omega⟩
 have e:(18446744073709551616:Int)=2 ^ (127 - k) * 2 ^ j * 2:=by
  rw[Int.mul_assoc,← Int.pow_succ,← Int.pow_add,← hj];rfl
 have a6:a * 18446744073709551616+b=b+2 ^ (127 - k) * (2 * (a * 2 ^ j)):=by rw[e];grind
 rw[a6,Int.add_mul_ediv_left _ _ (Int.ne_of_gt (Azk.p2 _))];omega
theorem Azk.step {t c q r bit:Int} (hq:q=t / c) (hr:r=t % c):(2 * t+bit)=c * (2 * q)+(2 * r+bit):=by
 have:=Int.mul_ediv_add_emod t c;subst hq hr;grind
theorem Azk.divmod {t c q r:Int} (hc:0 < c) (h:t=c * q+r) (a6:0≤r) (a7:r < c):q=t / c∧r=t % c:=by
 subst h;constructor
 ·rw[Int.add_comm,Int.add_mul_ediv_left _ _ (by omega),Int.ediv_eq_zero_of_lt a6 a7];omega
 ·rw[Int.add_comm,Int.add_mul_emod_self_left,Int.emod_eq_of_lt a6 a7]
theorem Azk.and1 (x:Int) (a6:0≤x) (a7:x < 18446744073709551616):Go.bits .and .u64 x 1=x % 2 :=
 bits_mask .u64 64 (by decide) Bzw.w64 1 (by decide) x a6 a7
theorem Azk.or1 (x y:Int) (hx:0≤x) (a6:x < 18446744073709551616) (hm:x % 2=0) (hy:0≤y) (a7:y < 2):Go.bits .or .u64 x y=x+y :=
 bits_join .u64 64 (by decide) Bzw.w64 1 x y hx (by simpa using hm) a6 hy (by simpa using a7) (by omega)
/-- One round: from what k bits tell to what k+1 tell. -/
theorem Azk.round {p c q r:Int} {k:Nat} (hc:1≤c) (hk:k < 128) (h:q=Azk.T p k / c∧r=Azk.T p k % c) (b:Int) (hb:b=(p / 2 ^ (127 - k)) % 2) :
  (r * 2+b < c→q * 2=Azk.T p (k+1) / c∧r * 2+b=Azk.T p (k+1) % c) ∧
  (c≤r * 2+b→q * 2+1=Azk.T p (k+1) / c∧r * 2+b - c=Azk.T p (k+1) % c):=by
 have hs:=Azk.step (bit:=b) h.1 h.2;have a6:0≤r:=by rw[h.2];exact Int.emod_nonneg _ (by omega)
 have a7:r < c:=by rw[h.2];exact Int.emod_lt_of_pos _ (by omega)
 have a8:0≤b∧b < 2:=by omega
 rw[Azk.T_succ p k hk,← hb];constructor
 ·intro hl;exact Azk.divmod (by omega) (by rw[hs];grind) (by omega) hl
 ·intro hl;exact Azk.divmod (by omega) (by rw[hs];grind) (by omega) (by omega)
theorem Azk.calls0 (a b c:Int) (w:World) (ha:0≤a) (a6:a < 18446744073709551616) (hb:0≤b) (a7:b < 18446744073709551616) (hc:1≤c) (a8:c≤1125899906842624) (a9 b3:Int) (b4:Bool)
  (HR:Aside0 ((if(a * 18446744073709551616+b) / c < 4611686018427387904 then((a * 18446744073709551616+b) / c,(a * 18446744073709551616+b) % c,true) else(0,0,false))=(a9,b3,b4))) :
  Calls Try.prog 72 #[.agg #[.int .u64 a,.int .u64 b],.int .u64 c] w fun e w'=>e=.returned (.tuple #[.int .u64 a9,.int .u64 b3,.bool b4])∧Below w.heap.size w w':=by
 obtain⟨p,hp⟩:∃ p,p=a * 18446744073709551616+b:=⟨_,rfl⟩;have hp0:0≤p:=by omega
 have hp1:Aside0 (p < 340282366920938463463374607431768211456):=⟨by omega⟩
 have HP:=aM hp;rw[← hp] at HR;clear hp;go_enter Try.func72,Try.ntmps72
 go_wp2
 go_loop [7,8,12] (fun q r i=>∃ (k:Nat) (qv rv:Int),k≤128∧i=.int .i64 k∧q=.int .u64 qv∧r=.int .u64 rv∧Aside0 (qv=Azk.T p k / c∧rv=Azk.T p k % c)∧Aside0 (0 < k→qv < 4611686018427387904)) (fun _ _ i=>128 - (intOf i).toNat)
 case atStart=>exact⟨0,0,0,by omega,rfl,rfl,rfl,⟨by rw[Azk.T_zero hp0 hp1.out];simp⟩,⟨fun h=>absurd h (by omega)⟩⟩
 case round =>
  obtain⟨k,qv,rv,hk,rfl,rfl,rfl,H,HQ⟩:=hrel;have hq0:0≤qv:=by rw[H.out.1];exact Int.ediv_nonneg (Azk.T_nonneg hp0 k) (by omega)
  have b5:0≤rv:=by rw[H.out.2];exact Int.emod_nonneg _ (by omega)
  have b6:rv < c:=by rw[H.out.2];exact Int.emod_lt_of_pos _ (by omega)
  by_cases hlt:k < 128
  ·by_cases hq:qv < 2305843009213693952
   ·have hqd:Aside0 ((qv / 2305843009213693952 != 0)=false):=⟨by simp;omega⟩
    by_cases b7:k < 64
    ·have b8:k / 64=0:=by omega
     obtain⟨bv,hbv⟩:∃ bv,bv=(a / 2 ^ (63 - k % 64)) % 2:=⟨_,rfl⟩;have b9:0≤bv∧bv < 2:=by omega
     have d0:=b9.1;have d1:=b9.2;have hrd:=Azk.round hc hlt H.out bv (by
      rw[hbv,HP.out,Azk.bit_hi a b hb a7 k b7];have e:(63 - k % 64)=63 - k:=by omega
      rw[e])
     have HRD:=aM hrd;have hand:Go.bits .and .u64 (a / 2 ^ (63 - k % 64)) 1=bv:=by
      rw[hbv];exact Azk.and1 _ (Int.ediv_nonneg (by omega) (Int.le_of_lt (Azk.p2 _))) (Int.lt_of_le_of_lt (Int.ediv_le_self _ (by omega)) (by omega))
     have hor:Go.bits .or .u64 (rv * 2) bv=rv * 2+bv:=Azk.or1 _ _ (by omega) (by omega) (by omega) b9.1 b9.2
     have hor2:Go.bits .or .u64 (qv * 2) 1=qv * 2+1:=Azk.or1 _ _ (by omega) (by omega) (by omega) (by omega) (by omega)
     clear hrd hbv b9;by_cases ht:c≤rv * 2+bv
     ·go_wp2
      go_round
      case rel=>exact⟨k+1,qv * 2+1,rv * 2+bv - c,by omega,by go_num,rfl,rfl,⟨HRD.out.2 ht⟩,⟨fun _=>by omega⟩⟩
      case measure=>simp [intOf];omega
     ·go_wp2
      go_round
      case rel=>exact⟨k+1,qv * 2,rv * 2+bv,by omega,by go_num,rfl,rfl,⟨HRD.out.1 (by omega)⟩,⟨fun _=>by omega⟩⟩
      case measure=>simp [intOf];omega
    ·have b8:k / 64=1:=by omega
     obtain⟨bv,hbv⟩:∃ bv,bv=(b / 2 ^ (63 - k % 64)) % 2:=⟨_,rfl⟩;have b9:0≤bv∧bv < 2:=by omega
     have d0:=b9.1;have d1:=b9.2;have hrd:=Azk.round hc hlt H.out bv (by
      rw[hbv,HP.out,Azk.bit_lo a b k (by omega) hlt]
      have e:(63 - k % 64)=127 - k:=by omega
      rw[e])
     have HRD:=aM hrd;have hand:Go.bits .and .u64 (b / 2 ^ (63 - k % 64)) 1=bv:=by
      rw[hbv];exact Azk.and1 _ (Int.ediv_nonneg (by omega) (Int.le_of_lt (Azk.p2 _))) (Int.lt_of_le_of_lt (Int.ediv_le_self _ (by omega)) (by omega))
     have hor:Go.bits .or .u64 (rv * 2) bv=rv * 2+bv:=Azk.or1 _ _ (by omega) (by omega) (by omega) b9.1 b9.2
     have hor2:Go.bits .or .u64 (qv * 2) 1=qv * 2+1:=Azk.or1 _ _ (by omega) (by omega) (by omega) (by omega) (by omega)
     clear hrd hbv b9;by_cases ht:c≤rv * 2+bv
     ·go_wp2
      go_round
      case rel=>exact⟨k+1,qv * 2+1,rv * 2+bv - c,by omega,by go_num,rfl,rfl,⟨HRD.out.2 ht⟩,⟨fun _=>by omega⟩⟩
      case measure=>simp [intOf];omega
     ·go_wp2
      go_round
      case rel=>exact⟨k+1,qv * 2,rv * 2+bv,by omega,by go_num,rfl,rfl,⟨HRD.out.1 (by omega)⟩,⟨fun _=>by omega⟩⟩
      case measure=>simp [intOf];omega
   ·have hqt:(qv / 2305843009213693952 != 0)=true:=by
     rw[bne_iff_ne];omega
    have HQT:=aM hqt;have hbig:¬ (p / c < 4611686018427387904):=by
     intro hcon;have d3:=Azk.T_le hp0 k hlt;have d4:2 * qv≤p / c:=by
      rw[H.out.1];have d5:c * (Azk.T p k / c)≤Azk.T p k:=Int.mul_ediv_self_le (by omega)
      exact Int.le_ediv_of_mul_le (by omega) (by
       have:2 * (Azk.T p k / c) * c=2 * (c * (Azk.T p k / c)):=by grind
       omega)
     omega
    have d6:=HR.out;rw[if_neg hbig] at d6;simp only[Prod.mk.injEq] at d6;obtain⟨rfl,rfl,rfl⟩:=d6;clear HR hbig;have hqn:¬ (qv < 2305843009213693952):=hq;by_cases b7:k < 64
    ·have b8:k / 64=0:=by omega
     go_wp2
     go_ret3
     exact⟨rfl,by exact(Below.refl _ _).alloc (Nat.le_refl _) _⟩
    ·have b8:k / 64=1:=by omega
     go_wp2
     go_ret3
     exact⟨rfl,by exact(Below.refl _ _).alloc (Nat.le_refl _) _⟩
  ·obtain rfl:k=128:=by omega
   have d6:=HR.out;have d7:=H.out;rw[Azk.T_last] at d7;have hsm:p / c < 4611686018427387904:=by rw[← d7.1];exact HQ.out (by omega)
   rw[if_pos hsm] at d6;simp only[Prod.mk.injEq] at d6;obtain⟨d3,d4,rfl⟩:=d6;obtain rfl:a9=qv:=by rw[d7.1];exact d3.symm
   obtain rfl:b3=rv:=by rw[d7.2];exact d4.symm
   clear d3 d4 d7 hsm HR;go_wp2
   go_ret3
   exact⟨rfl,by exact(Below.refl _ _).alloc (Nat.le_refl _) _⟩
theorem Azk.calls (a6:Int) (a7:Int) (a8:Int) (a9:Int) (b3:Int) (b4:Bool) (w:World) (h:Azk.f a6 a7 a8=some (a9,b3,b4)) :
  Calls Try.prog 72 #[.agg #[.int .u64 a6,.int .u64 a7],.int .u64 a8] w fun e w'=>e=.returned (.tuple #[.int .u64 a9,.int .u64 b3,.bool b4])∧Below w.heap.size w w':=by
 unfold Azk.f at h;split at h
 ·rename_i hb
  obtain⟨b5,b6,b7,b8,b9,d0⟩:=hb;refine Azk.calls0 a6 a7 a8 w b5 b6 b7 b8 b9 d0 a9 b3 b4 ⟨?_⟩;split at h
  ·rename_i hs
   rw[if_pos hs];exact Option.some.inj h
  ·rename_i hs
   rw[if_neg hs];exact Option.some.inj h
 ·simp at h

end Go.Proofs.Ytnklckihalhlmaa.Print
