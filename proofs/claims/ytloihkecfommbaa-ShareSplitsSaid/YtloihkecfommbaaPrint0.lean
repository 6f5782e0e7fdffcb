import Derived.Test.YtloihkecfommbaaProg
import Derived.Below
import Derived.Deep.Draws
import Derived.Deep.AppendLies
import Derived.Maps.AppendAt
import Derived.OwnWalk
import Derived.Laws.BytesArg
import Derived.Laws.MakeOwn
import Derived.Laws.OwnMore
import Derived.Deep.OwnRows
import Derived.Tactics
import Derived.Lib.ConvBytes
import Derived.Laws.Slices
import Derived.WalkKit
import Derived.KernelRfl
import Derived.RowKit3
import Derived.Deep.LoopGhost
import Derived.Deep.QuietTactic
import Derived.BigQuiet
import Derived.WideLaws
import Derived.Deep.DeepCutAuto
import Derived.Deep.CutBlock
import Derived.Deep.RegionHeld3
import Derived.Laws.Rows
import Derived.Lib.AppendStr
import Derived.ArgAppend
import Derived.Laws.IdiomCopy
import Derived.OrdersHeld
import Derived.Laws.BitsLemmas
import Derived.RowKit
import Derived.Laws.CopyOwn
import Derived.Test.YtloihkecfommbaaWWords
import Derived.Test.YtloihkecfommbaaWLast
import Derived.Test.YtloihkecfommbaaWTab
import Derived.Test.YtloihkecfommbaaWFour
import Derived.Test.YtloihkecfommbaaWQPut
import Derived.Test.YtloihkecfommbaaWApart
import Derived.Test.YtloihkecfommbaaWArr
import Derived.Test.YtloihkecfommbaaWZeros
import Derived.Test.YtloihkecfommbaaWFoot
import Derived.Test.YtloihkecfommbaaWKept
import Derived.Test.YtloihkecfommbaaWShare
import Derived.Test.YtloihkecfommbaaWN
import Derived.Test.YtloihkecfommbaaWFootNe
import Derived.Test.YtloihkecfommbaaWAt
import Derived.Test.YtloihkecfommbaaWEqStruct
import Derived.Test.YtloihkecfommbaaWRepsOne
import Derived.Test.YtloihkecfommbaaWInv
import Derived.Test.YtloihkecfommbaaWInvWords
import Derived.Test.YtloihkecfommbaaWGuard
import Derived.Test.YtloihkecfommbaaWNEv
import Derived.Test.YtloihkecfommbaaWMore
namespace Go.Proofs.Ytloihkecfommbaa.Print
open Go.RowKit Go.Proofs.YtloihkecfommbaaW.PrintWords Go.Proofs.YtloihkecfommbaaW.PrintLast Go.Proofs.YtloihkecfommbaaW.PrintMore
attribute [local go_sem] max2_int min2_int max_two min_two max_three min_three max_four min_four
set_option linter.unusedVariables false
set_option maxRecDepth 100000
set_option maxHeartbeats 8000000
set_option linter.unusedSimpArgs false



def errW:Option Int→Value
  | none=>.nilIface
  | some c=>.iface 0 (.int .i64 c)
theorem errW_none:errW none=.nilIface:=rfl
theorem errW_some (c:Int):errW (some c)=.iface 0 (.int .i64 c):=rfl
theorem eW {P:Prop} (h:P:=by first|rfl|(simp [errW_none,errW_some] <;> rfl)|(simp [*,errW_none,errW_some] <;> rfl)):P:=h

theorem info3:(Try.prog.info? 3).map (fun i=>(i.zero,i.size,i.bytes))=some (some (.int .i64 0),1,8):=by kernel_rfl
structure S76 where
  f0:Int
  f1:Int
def z76:S76:=⟨(0:Int),(0:Int)⟩
def k76:Kd S76:=Kd.iso (Kd.pair (Kd.int .u64) (Kd.int .u64)) (fun x:S76=>(x.f0,x.f1))
theorem k76_heap:Kd.Heap k76:=Kd.heap_iso _ (Kd.heap_pair (Kd.heap_int .u64) (Kd.heap_int .u64))
theorem k76_open {w:World} {x:S76} {cs:List Value} (h:k76.K w x cs):cs=[.int .u64 x.f0,.int .u64 x.f1]:=by
  obtain⟨_,_,rfl,rfl,rfl⟩:=h;exact rfl
theorem k76_openM {w:World} {base:Nat} {ok:Nat→Prop} {x:S76} {cs:List Value} (h:k76.M w base ok x cs):cs=[.int .u64 x.f0,.int .u64 x.f1]:=by
  obtain⟨_,_,rfl,rfl,rfl⟩:=h;exact rfl
theorem k76_mk (w:World) (x:S76)  : k76.K w x [.int .u64 x.f0,.int .u64 x.f1]:=⟨[.int .u64 x.f0],[.int .u64 x.f1],rfl,rfl,rfl⟩
theorem k76_mkM (w:World) (base:Nat) (ok:Nat→Prop) (x:S76)  : k76.M w base ok x [.int .u64 x.f0,.int .u64 x.f1]:=⟨[.int .u64 x.f0],[.int .u64 x.f1],rfl,rfl,rfl⟩
theorem k76_mkF (W:World) (ok:Nat→Prop) (x:S76):Kd.FK k76 W ok x [.int .u64 x.f0,.int .u64 x.f1]:=fun W2 _=>k76_mk W2 x
def rd_T76 (xs:List S76) (i:Int):S76:=xs.getD i.toNat z76
theorem at_T76 {w:World} {A:Option Addr} {n:Nat} {xs:List S76} (h:Kd.C k76 w A n xs) (i:Int) (h0:0≤i) (h1:i < n):∃ ad,A=some ad∧w.cell? (ad.add (i.toNat * 2))=some (.int .u64 (rd_T76 xs i).f0)∧w.cell? ⟨(ad.add (i.toNat * 2)).block,(ad.add (i.toNat * 2)).off+1,none⟩=some (.int .u64 (rd_T76 xs i).f1):=by
  obtain⟨ad,c,e,_,hK,hc0⟩:=Kd.C_get h z76 i h0 h1;have hc:∀ j u,c[j]?=some u→w.cell? (ad.add (i.toNat * 2+j))=some u:=hc0;obtain rfl:=k76_open hK;exact⟨ad,e,hc 0 _ rfl,by rw[← add_field _ _ 1 (by omega)];exact hc 1 _ rfl⟩

def rd_L4 (xs:List (List Int)) (i:Int):(List Int):=xs.getD i.toNat ([]:List Int)
theorem at_L4 {w:World} {A:Option Addr} {n:Nat} {xs:List (List Int)} (h:Kd.C (Kd.slice 3 (Kd.int .i64)) w A n xs) (i:Int) (h0:0≤i) (h1:i < n):∃ ad A0 c0,A=some ad∧w.cell? (ad.add i.toNat)=some (.slice A0 (rd_L4 xs i).length c0)∧(rd_L4 xs i).length≤c0∧(Kd.int .i64).C w A0 (rd_L4 xs i).length (rd_L4 xs i):=by
  obtain⟨ad,c,e,_,hK,hc0⟩:=Kd.C_get h ([]:List Int) i h0 h1;have hc:∀ j u,c[j]?=some u→w.cell? (ad.add (i.toNat * 1+j))=some u:=hc0;obtain⟨A0,c0,rfl,l0,g0⟩:=hK;exact⟨ad,A0,c0,e,by have hq:=hc 0 _ rfl;rwa [Nat.mul_one,Nat.add_zero] at hq,l0,g0⟩

/-- What a function value has captured. -/
def capsOf:Value→Array Value
  | .func _ _ c=>c
  | _=>#[]
section
variable {P : Program} {ops : Array Oper} {Q : Exit → Act → World → Prop}
/-- A call of a closure in a region that draws: the same as goes_,its captured variables behind its arguments. -/
theorem goesv_ {oi:Oper} {N:Option Tmp} {a:Act} {w:World} {K:Act→World→Prop} {f:FuncId} {fn:Func} {c:Operand} {ars:Array Operand} {ts:Array TypeId} (hf:P.funcs[f]?=some fn) (hname:(fn.name == "runtime.NumGoroutine")=false) (hb:fn.body.isSome=true) (args:Array Value)
    (hw:Region.wanted oi (yielded ops a.tmps)=true) (hN:oi.dst=N) (hop:oi.op=.call { callee:=.value c,args:=ars,argTypes:=ts }) (hargs:ars.map a.eval ++ capsOf (a.eval c)=args)
    (h:Calls P f args w fun e w'=>∃ v,e=.returned v∧K (a.put N v) w') (hc:a.eval c=.func (.func f) #[] (capsOf (a.eval c)):=by rfl):if Region.wanted oi (yielded ops a.tmps)=true then Oper.wp P oi a w K Q else K (a.put N undef) w:=by
  refine call_ f args hw hN ?_ h;have he:=enters_ hf hname hb args w;unfold execOp;simp only[hop];simp [resolve];rw[hc];simp only[Deferred.ofValue];simp [invoke];rw[hargs];exact he
end
namespace Kd
section
variable {α : Type} {d : Kd α} {W w : World} {g : Nat} {T : TypeId} {cs : Array Value} {x : α}
/-- A variable in memory,read as a row of one element. -/
theorem cap_C (hb:W.heap[g]?=some (.cells cs T (0,0))) (hK:d.K W x cs.toList):d.C W (some ⟨g,0,none⟩) 1 [x]:=by
  refine⟨rfl,by omega,fun _=>⟨_,rfl,fun j p hj=>?_⟩⟩
  cases j with
  | zero =>
    simp only[List.getElem?_cons_zero,Option.some.injEq] at hj;subst hj;refine⟨cs.toList,d.K_len hK,hK,fun i u hu=>?_⟩
    rw[Nat.zero_mul,Nat.zero_add,add_plain];exact(blk_cell hb i).trans (by simpa using hu)
  | succ j=>simp at hj
theorem cap_kept {S:Nat→Prop} (hb:w.heap[g]?=some (.cells cs T (0,0))) (hg:¬ S g) (hK:∀ W_,Kept w W_ S→d.K W_ x cs.toList):∀ W_,Kept w W_ S→d.C W_ (some ⟨g,0,none⟩) 1 [x] :=
  fun W_ hk=>cap_C (blk_kept hb hk hg) (hK W_ hk)
end
end Kd
theorem eval_some {a:Act} {n:Tmp} {v:Value} (h:a.tmps[n]?=some v):a.eval (.tmp n)=v:=by
  simp [Act.eval,h]
/-- Two rows of the call's own are two. -/
def NEb (u v:Value):Prop:=∀ k,u.ownBlock=some k→some k≠v.ownBlock
theorem NEb.symm {u v:Value} (h:NEb u v):NEb v u:=fun k hk e=>h k e.symm hk.symm
theorem NEb_new {α:Type} {d:Kd α} {e base:Nat} {ok:Nat→Prop} {W:World} {u v:Value} {xs:List α} (hu:d.R e W base ok u xs) (hv:∀ k,v.ownBlock=some k→W.heap.size≤k):NEb v u:=fun k hk e_=>by
  obtain⟨inner,ho⟩:=Kd.R_own hu;have h1:=own_lt ho k e_.symm;have h2:=hv k hk;omega
theorem own_len (A:Option Addr) (n m c:Nat):(Value.slice A n c).ownBlock=(Value.slice A m c).ownBlock:=by
  rcases A with _|a <;> rfl
/-- The builtin copy,as a call is told. -/
def BCopy (P:Program) (dT sT ty:TypeId) (dv sv:Value) (w:World) (Q:Ending→World→Prop):Prop :=
  ∃ (n:Nat) (w':World),(Builtin.copy_ #[dT,sT] ty #[dv,sv]).run P w=.ok (goInt n) w'∧Q (.returned (goInt n)) w'
theorem BCopy.mono {P:Program} {dT sT ty:TypeId} {dv sv:Value} {w:World} {Q Q':Ending→World→Prop} (h:BCopy P dT sT ty dv sv w Q) (hq:∀ e w',Q e w'→Q' e w'):BCopy P dT sT ty dv sv w Q':=by
  obtain⟨n,w',h1,h2⟩:=h;exact⟨n,w',h1,hq _ _ h2⟩
section
variable {P : Program} {ops : Array Oper} {Q : Exit → Act → World → Prop}
theorem copyL_ {rest:List Oper} {oi:Oper} {a:Act} {w:World} (N:Option Tmp) (hd:oi.dst=N) (hg:oi.guard=none) {d s:Operand} {dT sT:TypeId} (ho:oi.op=.call { callee:=.builtin .copy,args:=#[d,s],argTypes:=#[dT,sT] }) (dv sv:Value)
    (h1:a.eval d=dv) (h2:a.eval s=sv) (h:BCopy P dT sT oi.type dv sv w fun e w'=>∃ v,e=.returned v∧wpList P ops Q rest (a.put N v) w'):wpList P ops Q (oi :: rest) a w:=by
  obtain⟨n,w',hrun,v,hv,hk⟩:=h;injection hv with hv
  subst hv;subst hd;refine wpList_plain hg fun K hK=>?_
  unfold Oper.wp;simp [execOp,ho,resolve,invoke,builtin,h1,h2,hrun,Result.andThen];exact hK _ _ hk
end
def Czb.f (l0:List Int) (l1:List Int):Option (Int × List Int):=some ((Nat.min l1.length l0.length:Nat),l1.take l0.length ++ l0.drop l1.length)
theorem Czb.calls {dT sT ty:TypeId} (hu:Try.prog.underlying dT=some (.slice 3)) (P0_:Nat→Prop) (u9000_:Value) (l0:List Int) (A1:Option Addr) (c1:Nat) (l1:List Int) (r1:Int) (r2:List Int) (w0 w:World) (hB:Below w0.heap.size w0 w)
    (ho0:Kd.R (Kd.int .i64) 3 w w0.heap.size P0_ u9000_ l0) (hr1:∀ W_,Kept w W_ (fun k_=>P0_ k_)→Kd.C (Kd.int .i64) W_ A1 l1.length l1) (hc1:l1.length≤c1) (h:Czb.f l0 l1=some (r1,r2)) :
    BCopy Try.prog dT sT ty u9000_ (.slice A1 l1.length c1) w fun e w'=>e=.returned (.int .i64 r1)∧Kd.R (Kd.int .i64) 3 w' w0.heap.size (fun k_=>(P0_ k_∨w.heap.size≤k_)) u9000_ r2∧Below w0.heap.size w0 w'∧Kept w w' (fun k_=>P0_ k_):=by
  unfold Czb.f at h;simp only[Option.some.injEq,Prod.mk.injEq] at h;obtain⟨rfl,rfl⟩:=h;have hs:(Try.prog.info? 3).map (·.size)=some 1:=by kernel_rfl
  have hlen:(l1.take l0.length ++ l0.drop l1.length).length=l0.length:=by simp;omega
  have ho:=Kd.own_of_R ho0;by_cases hn:Nat.min l1.length l0.length=0
  · have hll:l1.take l0.length ++ l0.drop l1.length=l0:=by
      rcases Nat.eq_zero_or_pos l0.length with h0|h0
      · have:l0=[]:=List.eq_nil_of_length_eq_zero h0
        subst this;simp
      · have:l1=[]:=List.eq_nil_of_length_eq_zero (by have:min l1.length l0.length=0:=hn;omega)
        subst this;simp
    rw[hll,hn];obtain⟨A0,c0,rfl,_⟩:=Kd.R_reads ho0;refine⟨0,w,?_,rfl,Kd.R_mono ho0 (fun k hk=>.inl hk),hB,Kept.refl _ _⟩
    exact run_copy_none w dT sT ty _ A0 A1 l0.length c0 l1.length c1 hu hs hn
  · have hpos:0 < l1.length∧0 < l0.length:=by
      have:¬ min l1.length l0.length=0:=hn;omega
    obtain⟨hxs,hcase⟩:=ho;rcases hcase with ⟨_,h0⟩|⟨g,cap,cur,rfl,hbg,hcur,hnc,hcm,hcs,htk⟩
    · omega
    obtain⟨_,_,hsrc0⟩:=hr1 w (Kept.refl _ _);obtain⟨ad,rfl,hsrc⟩:=hsrc0 hpos.1;have hP:P0_ g:=ho0.1 g rfl;obtain⟨cs,hcsd⟩:∃ cs:List Value,cs=nums .i64 (l1.take l0.length):=⟨_,rfl⟩;have hcl:cs.length=Nat.min l1.length l0.length:=by rw[hcsd,nums_length,List.length_take];show min l0.length l1.length=min l1.length l0.length;omega
    have hcell:∀ j v,cs[j]?=some v→w.cell? (ad.add j)=some v:=by
      intro j v hj;rw[hcsd] at hj;simp only[nums,List.getElem?_map,Option.map_eq_some_iff] at hj;obtain⟨x,hx,rfl⟩:=hj;rw[List.getElem?_take] at hx;split at hx
      · obtain⟨c,hc,hK,hcc⟩:=hsrc j x hx
        have hc1:c=[.int .i64 x]:=hK;have h3:=hcc 0 (.int .i64 x) (by rw[hc1];rfl)
        have e:j * (Kd.int IntKind.i64).sz+0=j:=by show j * 1+0=j;omega
        rwa [e] at h3
      · simp at hx
    have hcurl:cur.size=cap:=by simpa using hcs
    have hrun:=run_copy_row (P:=Try.prog) w dT sT ty _ g 0 l0.length cap ad l1.length c1 cur _ cs hu hs hcur hcl hcell (by rw[hcl,hcurl];show 0+min l1.length l0.length≤cap;omega) (by rw[hcsd];intro v hv;simp only[nums,List.mem_map] at hv;obtain⟨x,_,rfl⟩:=hv;rfl)
    refine⟨cs.length,_,hrun,by rw[hcl];rfl,?_,?_,?_⟩
    · refine Kd.R_of_own (xs:=l1.take l0.length ++ l0.drop l1.length) ?_ (fun k hk=>.inl (ho0.1 k hk))
      rw[hlen];refine⟨by rw[Nat.mul_one,encs_length];exact hlen,.inr ⟨g,cap,_,rfl,hbg,setRow_heap w g _ _ _ _ hcur,hnc,hcm,?_,?_⟩⟩
      · simp only[List.size_toArray,List.length_append,List.length_take,List.length_drop,Array.length_toList]
        rw[hcl];have:min l1.length l0.length≤cap:=by omega
        show min 0 cur.size+min l1.length l0.length+(cur.size - (0+min l1.length l0.length))=cap * 1
        omega
      · have hm:cs.length=min l1.length l0.length:=hcl
        have h0:cur.toList.take l0.length=nums .i64 l0:=by rw[Nat.mul_one] at htk;rw[htk];rfl
        rw[Nat.mul_one,List.take_zero,List.nil_append,Nat.zero_add,List.toList_toArray,List.take_append,List.take_of_length_le (by omega),List.take_drop]
        have e2:cs.length+(l0.length - cs.length)=l0.length:=by omega
        have e3:(nums .i64 l0).drop cs.length=nums .i64 (l0.drop l1.length):=by
          have e4:(nums .i64 l0).drop cs.length=nums .i64 (l0.drop cs.length):=by simp [nums,List.map_drop]
          rw[e4];have e5:l0.drop cs.length=l0.drop l1.length:=by
            rcases Nat.le_total l1.length l0.length with hh|hh
            · rw[hm,Nat.min_eq_left hh]
            · rw[List.drop_eq_nil_of_le (by omega),List.drop_eq_nil_of_le hh]
          rw[e5]
        rw[e2,h0,e3,hcsd,← nums_append];rfl
    · exact below_setRow hB hbg _
    · exact⟨by simp [World.setRow],fun i hi hne=>setRow_other w g i _ (fun e=>hne (e ▸ hP))⟩

/-- A step's world is above the first one: found among what is known. -/
theorem pB {P:Prop} (h:P:=by repeat(first|(with_reducible first|exact Aside0.out (by assumption)|apply below_alloc|apply pw_below_drewN|apply below_drew1|refine below_set ?_ (Aside0.out (by assumption)))|exact Aside0.out (by assumption))):P:=h
/-- What a box holds,behind draws. -/
theorem kW {w w':World} {g:Nat} {o:Obj} (h:Aside0 (w.heap[g]?=some o)) (f:w.heap[g]?=some o→w'.heap[g]?=some o:=by intro h_;(with_reducible repeat(first|refine blk_drewN ?_ _|refine blk_drew ?_|refine blk_alloc ?_ _));exact h_):w'.heap[g]?=some o:=f h.out
/-- What a box holds,behind a step. -/
theorem kB {w w1 w2:World} {g:Nat} {o:Obj} (h:Aside0 (w.heap[g]?=some o)) (hb:Below w1.heap.size w1 w2) (f:w.heap[g]?=some o→w1.heap[g]?=some o:=by intro h_;(with_reducible repeat(first|refine blk_drewN ?_ _|refine blk_drew ?_|refine blk_alloc ?_ _));exact h_):w2.heap[g]?=some o:=blk_below (f h.out) hb
/-- A new box lies above. -/
theorem gW {w w':World} {g:Nat} (hg:g=w'.heap.size) (h:Below w.heap.size w w':=by exact pB):w.heap.size≤g:=by rw[hg];exact below_size h
/-- A new box is another one. -/
theorem nL {w w':World} {g g':Nat} {o:Obj} (hg:g'=w'.heap.size) (h:Aside0 (w.heap[g]?=some o)) (f:w.heap[g]?=some o→w'.heap[g]?=some o:=by intro h_;(with_reducible repeat(first|refine blk_drewN ?_ _|refine blk_drew ?_|refine blk_alloc ?_ _));exact h_):g≠g':=by rw[hg];exact Nat.ne_of_lt (blk_lt (f h.out))
theorem nG {w w':World} {g g':Nat} {o:Obj} (hg:g'=w'.heap.size) (h:Aside0 (w.heap[g]?=some o)) (f:w.heap[g]?=some o→w'.heap[g]?=some o:=by intro h_;(with_reducible repeat(first|refine blk_drewN ?_ _|refine blk_drew ?_|refine blk_alloc ?_ _));exact h_):g'≠g:=(nL hg h f).symm
/-- A row of the call's own,behind draws. -/
theorem rX {α:Type} {d:Kd α} {e base:Nat} {w w':World} {ok:Nat→Prop} {v:Value} {xs:List α} (h:d.R e w base ok v xs) (f:d.R e w base ok v xs→d.R e w' base ok v xs:=by intro h_;(with_reducible repeat(first|apply Kd.R_alloc|apply Kd.R_drewN|apply Kd.R_drew));exact h_):d.R e w' base ok v xs:=f h
/-- A call's arguments,laid out. -/
theorem mA {P:Prop} (h:P:=by(try simp only[List.map_toArray,List.map_cons,List.map_nil]);first|done|rfl|(simp only[List.length_drop,List.length_take];rfl)):P:=h
/-- What a box of one,two,three cells holds,cell by cell. -/
theorem bk1 {w:World} {g T:Nat} {c0:Value} (h:Aside0 (w.heap[g]?=some (.cells #[c0] T (0,0)))):w.cell? ⟨g,0,none⟩=some c0∧w.frozen? ⟨g,0,none⟩=false:=⟨(blk_cell h.out 0).trans rfl,blk_frozen h.out 0⟩
theorem bk2 {w:World} {g T:Nat} {c0 c1:Value} (h:Aside0 (w.heap[g]?=some (.cells #[c0,c1] T (0,0)))):w.cell? ⟨g,0,none⟩=some c0∧w.cell? ⟨g,1,none⟩=some c1∧w.frozen? ⟨g,0,none⟩=false∧w.frozen? ⟨g,1,none⟩=false:=⟨(blk_cell h.out 0).trans rfl,(blk_cell h.out 1).trans rfl,blk_frozen h.out 0,blk_frozen h.out 1⟩
theorem bk3 {w:World} {g T:Nat} {c0 c1 c2:Value} (h:Aside0 (w.heap[g]?=some (.cells #[c0,c1,c2] T (0,0)))):w.cell? ⟨g,0,none⟩=some c0∧w.cell? ⟨g,1,none⟩=some c1∧w.cell? ⟨g,2,none⟩=some c2∧w.frozen? ⟨g,0,none⟩=false∧w.frozen? ⟨g,1,none⟩=false∧w.frozen? ⟨g,2,none⟩=false:=⟨(blk_cell h.out 0).trans rfl,(blk_cell h.out 1).trans rfl,(blk_cell h.out 2).trans rfl,blk_frozen h.out 0,blk_frozen h.out 1,blk_frozen h.out 2⟩




def Bzm.l0:Nat→List Int→Int→Int→Option (Bool)
 | 0,_,_,_=>none
 | k+1,x5,x6,x7=>if x7 < x6 then(if 0≤x7 then(if x7 < (x5.length:Int) then(if(rd x5 x7) < (-1125899906842624) then(some false) else(if(rd x5 x7) > 1125899906842624 then(some false) else(Bzm.l0 k x5 x6 (wrap64 (x7+1))))) else(none)) else(none)) else(some true)
def Bzm.f (k:Nat) (l0:List Int):Option (Bool):=Bzm.l0 k l0 (l0.length:Int) 0
theorem Bzm.mono_l:∀ k,(∀ y0 y1 y2,LeO (Bzm.l0 k y0 y1 y2) (Bzm.l0 (k+1) y0 y1 y2))
 | 0=>fun _ _ _ r h=>by simp [Bzm.l0] at h
 | k+1=>by
  have ih0:=Bzm.mono_l k
  ·intro y0 y1 y2;unfold Bzm.l0;with_reducible repeat' first|exact ih0 _ _ _|exact LeO.refl _|exact LeO.none _|refine LeO.ite ?_ ?_|refine LeO.bind ?_ (fun _=>?_)
theorem Bzm.mono:∀ a0 k,LeO (Bzm.f k a0) (Bzm.f (k+1) a0):=by
 intro a0 k;have ih0:=Bzm.mono_l k;unfold Bzm.f;with_reducible repeat' first|exact ih0 _ _ _|exact LeO.refl _|exact LeO.none _|refine LeO.ite ?_ ?_|refine LeO.bind ?_ (fun _=>?_)
theorem Bzm.calls (k:Nat) (A0:Option Addr) (c0:Nat) (l0:List Int) (r:Bool) (w:World) (hr0:Kd.C (Kd.int .i64) w A0 l0.length l0) (hc0:l0.length≤c0) (h:Bzm.f k l0=some r) :
  Calls Try.prog 42 #[.slice A0 l0.length c0] w fun e w'=>e=.returned (.bool r)∧Drawn0 w w':=by
 have HR0:=aM hr0;have HC0:=aM hc0;clear hr0 hc0;have H:(Bzm.l0 k l0 (l0.length:Int) 0)=some r:=h;clear h;have H':=aM H;clear H;go_enter Try.func42,Try.ntmps42
 go_wp2
 go_loopg [7] k (fun kq v7 w'=>∃ (x7_1:Int),v7=.int .i64 x7_1∧Aside0 (Bzm.l0 kq l0 (l0.length:Int) x7_1=some r)∧Aside0 (kq≤k)∧Drawn0 w w')
 case atStart=>exact⟨(0),sD,H',⟨Nat.le_refl _⟩,by repeat(first|exact Drawn0.refl _|apply Drawn0.step)⟩
 case round =>
  clear H';obtain⟨x7_1,rfl,HA,HK1,⟨m1,rfl⟩⟩:=hrel;cases gk with
  | zero=>exact absurd HA.out (by simp [Bzm.l0])
  | succ k1 =>
   have H:=HA.out;clear HA;simp only[Bzm.l0] at H;by_cases c2:x7_1 < (l0.length:Int)
   ·rw[if_pos c2] at H;have c2b0:decide (x7_1 < (l0.length:Int))=true:=dE c2;clear c2;by_cases c3:0≤x7_1
    ·rw[if_pos c3] at H;have c3b0:decide (0≤x7_1)=true:=dE c3;clear c3;by_cases c4:x7_1 < (l0.length:Int)
     ·rw[if_pos c4] at H;have c4b0:decide (x7_1 < (l0.length:Int))=true:=dE c4;clear c4;by_cases c5:(rd l0 x7_1) < (-1125899906842624)
      ·rw[if_pos c5] at H;have c5b0:decide ((rd l0 x7_1) < (-1125899906842624))=true:=dE c5;clear c5;obtain rfl:=Option.some.inj H;have p101:0≤(x7_1:Int):=oE aS
       have q101:x7_1 < (l0.length:Int):=oE aS
       obtain⟨ad101,e101,hx101_0⟩:=Kd.at_int HR0.out x7_1 p101 q101;cases e101
       replace p101:=eq_true p101;replace q101:=eq_true q101;go_wp2
       go_ret
       exact⟨by first|rfl|(simp;done)|(simp [*];done),by repeat(first|exact Drawn0.refl _|apply Drawn0.step)⟩
      ·rw[if_neg c5] at H;have c5b0:decide ((rd l0 x7_1) < (-1125899906842624))=false:=decide_eq_false c5;clear c5;by_cases c6:(rd l0 x7_1) > 1125899906842624
       ·rw[if_pos c6] at H;have c6b0:decide (1125899906842624 < (rd l0 x7_1))=true:=dE c6;clear c6;obtain rfl:=Option.some.inj H;have p101:0≤(x7_1:Int):=oE aS
        have q101:x7_1 < (l0.length:Int):=oE aS
        obtain⟨ad101,e101,hx101_0⟩:=Kd.at_int HR0.out x7_1 p101 q101;cases e101
        replace p101:=eq_true p101;replace q101:=eq_true q101;go_wp2
        go_ret
        exact⟨by first|rfl|(simp;done)|(simp [*];done),by repeat(first|exact Drawn0.refl _|apply Drawn0.step)⟩
       ·rw[if_neg c6] at H;have c6b0:decide (1125899906842624 < (rd l0 x7_1))=false:=decide_eq_false c6;clear c6;have H':=aM H;clear H;have p101:0≤(x7_1:Int):=oE aS
        have q101:x7_1 < (l0.length:Int):=oE aS
        obtain⟨ad101,e101,hx101_0⟩:=Kd.at_int HR0.out x7_1 p101 q101;cases e101
        replace p101:=eq_true p101;replace q101:=eq_true q101;go_wp2
        go_roundg k1
        case measure=>have:=HK1.out;omega
        case rel=>exact⟨(wrap64 (x7_1+1)),sD,H',⟨by have:=HK1.out;omega⟩,by repeat(first|exact Drawn0.refl _|apply Drawn0.step)⟩
     ·rw[if_neg c4] at H;exact absurd H (by simp)
    ·rw[if_neg c3] at H;exact absurd H (by simp)
   ·rw[if_neg c2] at H;have c2b0:decide (x7_1 < (l0.length:Int))=false:=decide_eq_false c2;clear c2;obtain rfl:=Option.some.inj H;go_wp2
    go_ret
    exact⟨by first|rfl|(simp;done)|(simp [*];done),by repeat(first|exact Drawn0.refl _|apply Drawn0.step)⟩

def Czv.f (k:Nat) (a0:Int):Option (Int × Int):=(Bzm.f k (([a0]:List Int))).bind fun t105=>(if t105=true then(some (a0,0)) else(some (0,2)))
theorem Czv.mono:∀ a0 k,LeO (Czv.f k a0) (Czv.f (k+1) a0):=by
 intro a0 k;unfold Czv.f;with_reducible repeat' first|exact Bzm.mono _ _|exact LeO.refl _|exact LeO.none _|refine LeO.ite ?_ ?_|refine LeO.bind ?_ (fun _=>?_)
theorem Czv.calls (k:Nat) (a0:Int) (r1:Int) (r2:Int) (w:World) (h:Czv.f k a0=some (r1,r2)) :
  Calls Try.prog 43 #[.int .i64 a0] w fun e w'=>e=.returned (.tuple #[.int .i64 r1,.int .i64 r2])∧Below w.heap.size w w':=by
 have HB:=aM (Below.refl w.heap.size w);have H:((Bzm.f k (([a0]:List Int))).bind fun t105=>(if t105=true then(some (a0,0)) else(some (0,2))))=some (r1,r2):=h
 clear h;obtain⟨y102,hy102⟩:∃ y_:List Int,y_=(([a0]:List Int)):=⟨_,rfl⟩;replace H:((Bzm.f k y102).bind fun t105=>(if t105=true then(some (a0,0)) else(some (0,2))))=some (r1,r2):=by first|(rw[hy102];with_reducible exact H)|(have H2_:=(Option.bind_some _ _).symm.trans H;rw[hy102];with_reducible exact H2_)|(have H2_:=(Option.bind_some _ _).symm.trans H;with_reducible exact H2_)|with_reducible exact H|(rw[hy102];exact H)|exact H
 have Ny102:=aM hy102;clear hy102;replace H:=bS H;obtain⟨t105,A20,H⟩:=H;(try dsimp only at H);have A2:=aM A20;clear A20;by_cases c3:t105=true
 ·subst c3;rw[if_pos rfl] at H;simp only[Option.some.injEq,Prod.mk.injEq] at H;obtain⟨rfl,rfl⟩:=H;go_enter Try.func43,Try.ntmps43
  go_wp2_with (first|((with_reducible refine gate_dst (N:=5) rfl ?_);refine Kd.R_lit (Kd.int .i64) _ 3 ?hg (N:=5) ?hd (xs:=([a0]:List Int)) (inner:=[.int .i64 a0]) (ok:=fun _=>True) (okp:=fun _=>True) ?hr ?hp (fun _ hk=>hk) trivial (Below.refl _ _) (Nat.le_refl _) (by simp) ?_;(case hd=>rfl);(case hg=>rfl);(case hr=>first|(go_simp;done)|(go_simp;rfl));(case hp=>exact(Reps.one (show Kd.M (Kd.int .i64) _ _ _ a0 [.int .i64 a0] from rfl) (Reps.none _ _)));intro v103 w4 ho5 hb hg_ hnew_;clear hg_ hnew_;(first|rw[← Ny102.out] at ho5|(simp only[Int.reduceToNat] at ho5;rw[← Ny102.out] at ho5));have HO104:=aM (Kd.R_lower ho5 (below_size pB));replace HB:=aM (below_step pB hb);clear hb ho5;obtain⟨Ao6,co6,eo6⟩:=Kd.R_slice HO104.out;subst eo6)|((with_reducible refine gate_callee (f:=42) rfl ?_);refine goesL_ (some 6) rfl rfl Try.func42 (by kernel_rfl) rfl #[.slice Ao6 y102.length co6] rfl mA ?_;(with_reducible refine(Bzm.calls k _ _ y102 true _ ?side1 ?side2 A2.out).mono ?_);(case side1=>repeat(first|exact(Kd.R_reads' HO104.out).2.2|(with_reducible refine Kd.C_alloc ?_ _)|(with_reducible refine Kd.C_drewN ?_ _)|(with_reducible refine Kd.C_drew ?_)));(case side2=>exact(Kd.R_reads' HO104.out).2.1);rintro e w' ⟨rfl,⟨nd,rfl⟩⟩;refine⟨_,rfl,?_⟩))
  go_ret2
  exact⟨eW,pB⟩
 ·replace c3:=Bool.eq_false_iff.mpr c3;subst c3;rw[if_neg (show ¬ (false=true) by decide)] at H
  simp only[Option.some.injEq,Prod.mk.injEq] at H;obtain⟨rfl,rfl⟩:=H;go_enter Try.func43,Try.ntmps43
  go_wp2_with (first|((with_reducible refine gate_dst (N:=5) rfl ?_);refine Kd.R_lit (Kd.int .i64) _ 3 ?hg (N:=5) ?hd (xs:=([a0]:List Int)) (inner:=[.int .i64 a0]) (ok:=fun _=>True) (okp:=fun _=>True) ?hr ?hp (fun _ hk=>hk) trivial (Below.refl _ _) (Nat.le_refl _) (by simp) ?_;(case hd=>rfl);(case hg=>rfl);(case hr=>first|(go_simp;done)|(go_simp;rfl));(case hp=>exact(Reps.one (show Kd.M (Kd.int .i64) _ _ _ a0 [.int .i64 a0] from rfl) (Reps.none _ _)));intro v103 w7 ho8 hb hg_ hnew_;clear hg_ hnew_;(first|rw[← Ny102.out] at ho8|(simp only[Int.reduceToNat] at ho8;rw[← Ny102.out] at ho8));have HO104:=aM (Kd.R_lower ho8 (below_size pB));replace HB:=aM (below_step pB hb);clear hb ho8;obtain⟨Ao9,co9,eo9⟩:=Kd.R_slice HO104.out;subst eo9)|((with_reducible refine gate_callee (f:=42) rfl ?_);refine goesL_ (some 6) rfl rfl Try.func42 (by kernel_rfl) rfl #[.slice Ao9 y102.length co9] rfl mA ?_;(with_reducible refine(Bzm.calls k _ _ y102 false _ ?side1 ?side2 A2.out).mono ?_);(case side1=>repeat(first|exact(Kd.R_reads' HO104.out).2.2|(with_reducible refine Kd.C_alloc ?_ _)|(with_reducible refine Kd.C_drewN ?_ _)|(with_reducible refine Kd.C_drew ?_)));(case side2=>exact(Kd.R_reads' HO104.out).2.1);rintro e w' ⟨rfl,⟨nd,rfl⟩⟩;refine⟨_,rfl,?_⟩))
  go_ret2
  exact⟨eW,pB⟩

def Czw.l0:Nat→Int→Int→List Int→Int→Int→Option (Int × Int)
 | 0,_,_,_,_,_=>none
 | k+1,x4,x5,x14,x15,x16=>if x16 < x15 then(if 0≤x16 then(if x16 < (x14.length:Int) then(Czw.l0 k (wrap64 (x4+(wrap64 (Int.tdiv (rd x14 x16) 33554432)))) (wrap64 (x5+(Int.tmod (rd x14 x16) 33554432))) x14 x15 (wrap64 (x16+1))) else(none)) else(none)) else(if(wrap64 (x4+(wrap64 (Int.tdiv x5 33554432)))) > 33554433 then(some (0,2)) else(if(wrap64 (x4+(wrap64 (Int.tdiv x5 33554432)))) < (-33554433) then(some (0,2)) else((Czv.f k (wrap64 ((wrap64 ((wrap64 (x4+(wrap64 (Int.tdiv x5 33554432)))) * 33554432))+(Int.tmod x5 33554432)))).bind fun bt108=>(some (bt108.1,bt108.2)))))
def Czw.f (k:Nat) (l0:List Int):Option (Int × Int):=if(l0.length:Int) > 65536 then(some (0,8)) else((Bzm.f k l0).bind fun t106=>(if t106=true then(Czw.l0 k 0 0 l0 (l0.length:Int) 0) else(some (0,1))))
theorem Czw.mono_l:∀ k,(∀ y0 y1 y2 y3 y4,LeO (Czw.l0 k y0 y1 y2 y3 y4) (Czw.l0 (k+1) y0 y1 y2 y3 y4))
 | 0=>fun _ _ _ _ _ r h=>by simp [Czw.l0] at h
 | k+1=>by
  have ih0:=Czw.mono_l k
  ·intro y0 y1 y2 y3 y4;unfold Czw.l0;with_reducible repeat' first|exact ih0 _ _ _ _ _|exact Bzm.mono _ _|exact Czv.mono _ _|exact LeO.refl _|exact LeO.none _|refine LeO.ite ?_ ?_|refine LeO.bind ?_ (fun _=>?_)
theorem Czw.mono:∀ a0 k,LeO (Czw.f k a0) (Czw.f (k+1) a0):=by
 intro a0 k;have ih0:=Czw.mono_l k;unfold Czw.f;with_reducible repeat' first|exact ih0 _ _ _ _ _|exact Bzm.mono _ _|exact Czv.mono _ _|exact LeO.refl _|exact LeO.none _|refine LeO.ite ?_ ?_|refine LeO.bind ?_ (fun _=>?_)
theorem Czw.calls (k:Nat) (A0:Option Addr) (c0:Nat) (l0:List Int) (r1:Int) (r2:Int) (w:World) (hr0:Kd.C (Kd.int .i64) w A0 l0.length l0) (hc0:l0.length≤c0) (h:Czw.f k l0=some (r1,r2)) :
  Calls Try.prog 31 #[.slice A0 l0.length c0] w fun e w'=>e=.returned (.tuple #[.int .i64 r1,.int .i64 r2])∧Below w.heap.size w w':=by
 have HR0:=aM hr0;have HC0:=aM hc0;clear hr0 hc0;have HB:=aM (Below.refl w.heap.size w);have H:(if(l0.length:Int) > 65536 then(some (0,8)) else((Bzm.f k l0).bind fun t106=>(if t106=true then(Czw.l0 k 0 0 l0 (l0.length:Int) 0) else(some (0,1)))))=some (r1,r2):=h
 clear h;by_cases c2:(l0.length:Int) > 65536
 ·rw[if_pos c2] at H;have c2b0:decide (65536 < (l0.length:Int))=true:=dE c2;have c2b1:decide (65536 < l0.length)=true:=dE (by omega)
  clear c2;simp only[Option.some.injEq,Prod.mk.injEq] at H;obtain⟨rfl,rfl⟩:=H;go_enter Try.func31,Try.ntmps31
  go_wp2
  go_ret2
  exact⟨eW,pB⟩
 ·rw[if_neg c2] at H;have c2b0:decide (65536 < (l0.length:Int))=false:=decide_eq_false c2;have c2b1:decide (65536 < l0.length)=false:=decide_eq_false (by omega)
  clear c2;replace H:=bS H;obtain⟨t106,A30,H⟩:=H;(try dsimp only at H);have A3:=aM A30;clear A30;by_cases c4:t106=true
  ·subst c4;rw[if_pos rfl] at H;have H':=aM H;clear H;go_enter Try.func31,Try.ntmps31
   go_wp2_with (first|((with_reducible refine gate_callee (f:=42) rfl ?_);refine goesL_ (some 12) rfl rfl Try.func42 (by kernel_rfl) rfl #[.slice A0 l0.length c0] rfl mA ?_;(with_reducible refine(Bzm.calls k _ _ l0 true _ ?side1 ?side2 A3.out).mono ?_);(case side1=>exact cX HR0.out);(case side2=>exact HC0.out);rintro e w' ⟨rfl,⟨nd,rfl⟩⟩;refine⟨_,rfl,?_⟩))
   try simp only[Act.put,sA,sZ,sC]
   go_loopg [4,5,16] k (fun kq v4 v5 v16 w'=>∃ (x4_1:Int) (x5_1:Int) (x16_1:Int),v4=.int .i64 x4_1∧v5=.int .i64 x5_1∧v16=.int .i64 x16_1∧Aside0 (Czw.l0 kq x4_1 x5_1 l0 (l0.length:Int) x16_1=some (r1,r2))∧Aside0 (kq≤k)∧Aside0 (Below w.heap.size w w'))
   case atStart=>exact⟨(0),(0),(0),sD,sD,sD,H',⟨Nat.le_refl _⟩,⟨pB⟩⟩
   case round =>
    clear H';try clear c2
    try clear c2b0
    try clear c2b1
    try clear p2
    try clear c3
    try clear c4
    obtain⟨x4_1,x5_1,x16_1,rfl,rfl,rfl,HA,HK1,HB⟩:=hrel;cases gk with
    | zero=>exact absurd HA.out (by simp [Czw.l0])
    | succ k1 =>
     have H:=HA.out;clear HA;simp only[Czw.l0] at H;by_cases c5:x16_1 < (l0.length:Int)
     ·rw[if_pos c5] at H;have c5b0:decide (x16_1 < (l0.length:Int))=true:=dE c5;clear c5;by_cases c6:0≤x16_1
      ·rw[if_pos c6] at H;have c6b0:decide (0≤x16_1)=true:=dE c6;clear c6;by_cases c7:x16_1 < (l0.length:Int)
       ·rw[if_pos c7] at H;have c7b0:decide (x16_1 < (l0.length:Int))=true:=dE c7;clear c7;have H':=aM H;clear H;have p107:0≤(x16_1:Int):=oE aS
        have q107:x16_1 < (l0.length:Int):=oE aS
        obtain⟨ad107,e107,hx107_0⟩:=Kd.at_int HR0.out x16_1 p107 q107;cases e107
        replace hx107_0:=(HB.out.cell (World.block_lt_of_cell? w _ hx107_0)).trans hx107_0;replace p107:=eq_true p107;replace q107:=eq_true q107;go_wp2
        go_roundg k1
        case measure=>have:=HK1.out;omega
        case rel=>exact⟨(wrap64 (x4_1+(wrap64 (Int.tdiv (rd l0 x16_1) 33554432)))),(wrap64 (x5_1+(Int.tmod (rd l0 x16_1) 33554432))),(wrap64 (x16_1+1)),sD,sD,sD,H',⟨by have:=HK1.out;omega⟩,⟨pB⟩⟩
       ·rw[if_neg c7] at H;exact absurd H (by simp)
      ·rw[if_neg c6] at H;exact absurd H (by simp)
     ·rw[if_neg c5] at H;have c5b0:decide (x16_1 < (l0.length:Int))=false:=decide_eq_false c5;clear c5;by_cases c8:(wrap64 (x4_1+(wrap64 (Int.tdiv x5_1 33554432)))) > 33554433
      ·rw[if_pos c8] at H;have c8b0:decide (33554433 < (wrap64 (x4_1+(wrap64 (Int.tdiv x5_1 33554432)))))=true:=dE c8;have c8b0w:decide (33554433 < (IntKind.i64.wrap (x4_1+(IntKind.i64.wrap (Int.tdiv x5_1 33554432)))))=true:=by have h_:=c8b0;first|exact h_|(simp only[i64_w];exact h_)
       clear c8;simp only[Option.some.injEq,Prod.mk.injEq] at H;obtain⟨rfl,rfl⟩:=H;go_wp2
       go_ret2
       exact⟨eW,pB⟩
      ·rw[if_neg c8] at H;have c8b0:decide (33554433 < (wrap64 (x4_1+(wrap64 (Int.tdiv x5_1 33554432)))))=false:=decide_eq_false c8;have c8b0w:decide (33554433 < (IntKind.i64.wrap (x4_1+(IntKind.i64.wrap (Int.tdiv x5_1 33554432)))))=false:=by have h_:=c8b0;first|exact h_|(simp only[i64_w];exact h_)
       clear c8;by_cases c9:(wrap64 (x4_1+(wrap64 (Int.tdiv x5_1 33554432)))) < (-33554433)
       ·rw[if_pos c9] at H;have c9b0:decide ((wrap64 (x4_1+(wrap64 (Int.tdiv x5_1 33554432)))) < (-33554433))=true:=dE c9;have c9b0w:decide ((IntKind.i64.wrap (x4_1+(IntKind.i64.wrap (Int.tdiv x5_1 33554432)))) < (-33554433))=true:=by have h_:=c9b0;first|exact h_|(simp only[i64_w];exact h_)
        clear c9;simp only[Option.some.injEq,Prod.mk.injEq] at H;obtain⟨rfl,rfl⟩:=H;go_wp2
        go_ret2
        exact⟨eW,pB⟩
       ·rw[if_neg c9] at H;have c9b0:decide ((wrap64 (x4_1+(wrap64 (Int.tdiv x5_1 33554432)))) < (-33554433))=false:=decide_eq_false c9;have c9b0w:decide ((IntKind.i64.wrap (x4_1+(IntKind.i64.wrap (Int.tdiv x5_1 33554432)))) < (-33554433))=false:=by have h_:=c9b0;first|exact h_|(simp only[i64_w];exact h_)
        clear c9;replace H:=bS H;obtain⟨⟨t108,t109⟩,A100,H⟩:=H;replace H:(some (t108,t109))=some (r1,r2):=H;have A10:=aM A100;clear A100;simp only[Option.some.injEq,Prod.mk.injEq] at H;obtain⟨rfl,rfl⟩:=H;go_wp2_with (first|((with_reducible refine gate_callee (f:=43) rfl ?_);refine goesL_ (some 45) rfl rfl Try.func43 (by kernel_rfl) rfl #[.int .i64 (wrap64 ((wrap64 ((wrap64 (x4_1+(wrap64 (Int.tdiv x5_1 33554432)))) * 33554432))+(Int.tmod x5_1 33554432)))] rfl mA ?_;(with_reducible refine(Czv.calls k1 (wrap64 ((wrap64 ((wrap64 (x4_1+(wrap64 (Int.tdiv x5_1 33554432)))) * 33554432))+(Int.tmod x5_1 33554432))) t108 t109 _ A10.out).mono ?_);rintro e w11 ⟨rfl,hb⟩;refine⟨_,rfl,?_⟩;replace HB:=aM (below_step pB hb);(try clear hb);(try clear hb2);(try clear hk);(try clear hi)))
        go_ret2
        exact⟨eW,pB⟩
  ·replace c4:=Bool.eq_false_iff.mpr c4;subst c4;rw[if_neg (show ¬ (false=true) by decide)] at H
   simp only[Option.some.injEq,Prod.mk.injEq] at H;obtain⟨rfl,rfl⟩:=H;go_enter Try.func31,Try.ntmps31
   go_wp2_with (first|((with_reducible refine gate_callee (f:=42) rfl ?_);refine goesL_ (some 12) rfl rfl Try.func42 (by kernel_rfl) rfl #[.slice A0 l0.length c0] rfl mA ?_;(with_reducible refine(Bzm.calls k _ _ l0 false _ ?side1 ?side2 A3.out).mono ?_);(case side1=>exact cX HR0.out);(case side2=>exact HC0.out);rintro e w' ⟨rfl,⟨nd,rfl⟩⟩;refine⟨_,rfl,?_⟩))
   go_ret2
   exact⟨eW,pB⟩

def Czk.f (a0:Int):Option (Bool):=if a0 < 0 then(some true) else(some (decide (a0 > 1125899906842624)))
theorem Czk.calls (a0:Int) (r:Bool) (w:World) (h:Czk.f a0=some r) :
  Calls Try.prog 38 #[.int .i64 a0] w fun e w'=>e=.returned (.bool r)∧Drawn0 w w':=by
 have H:(if a0 < 0 then(some true) else(some (decide (a0 > 1125899906842624))))=some r:=h
 clear h;by_cases c2:a0 < 0
 ·rw[if_pos c2] at H;have c2b0:decide (a0 < 0)=true:=dE c2;clear c2;obtain rfl:=Option.some.inj H;go_enter Try.func38,Try.ntmps38
  go_wp2
  go_ret
  exact⟨by first|rfl|(simp;done)|(simp [*];done),by repeat(first|exact Drawn0.refl _|apply Drawn0.step)⟩
 ·rw[if_neg c2] at H;have c2b0:decide (a0 < 0)=false:=decide_eq_false c2;clear c2;obtain rfl:=Option.some.inj H;go_enter Try.func38,Try.ntmps38
  go_wp2
  go_ret
  exact⟨by first|rfl|(simp;done)|(simp [*];done),by repeat(first|exact Drawn0.refl _|apply Drawn0.step)⟩

end Go.Proofs.Ytloihkecfommbaa.Print
