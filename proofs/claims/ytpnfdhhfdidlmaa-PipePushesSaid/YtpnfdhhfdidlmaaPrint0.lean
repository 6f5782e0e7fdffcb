import Derived.Test.YtpnfdhhfdidlmaaProg
import Derived.Below
import Derived.Deep.Draws
import Derived.Deep.AppendLies
import Derived.Maps.AppendAt
import Derived.OwnWalk
import Derived.Laws.BytesArg
import Derived.Laws.MakeOwn
import Derived.Laws.OwnMore
import Derived.Deep.OwnRows
import Derived.Tactics
import Derived.Lib.ConvBytes
import Derived.Laws.Slices
import Derived.WalkKit
import Derived.KernelRfl
import Derived.RowKit3
import Derived.Deep.LoopGhost
import Derived.Deep.QuietTactic
import Derived.BigQuiet
import Derived.WideLaws
import Derived.Deep.DeepCutAuto
import Derived.Deep.CutBlock
import Derived.Deep.RegionHeld3
import Derived.Laws.Rows
import Derived.Lib.AppendStr
import Derived.ArgAppend
import Derived.Laws.IdiomCopy
import Derived.OrdersHeld
import Derived.Laws.BitsLemmas
import Derived.RowKit
import Derived.Laws.CopyOwn
import Derived.Test.YtpnfdhhfdidlmaaWWords
import Derived.Test.YtpnfdhhfdidlmaaWLast
import Derived.Test.YtpnfdhhfdidlmaaWTab
import Derived.Test.YtpnfdhhfdidlmaaWFour
import Derived.Test.YtpnfdhhfdidlmaaWQPut
import Derived.Test.YtpnfdhhfdidlmaaWApart
import Derived.Test.YtpnfdhhfdidlmaaWArr
import Derived.Test.YtpnfdhhfdidlmaaWZeros
import Derived.Test.YtpnfdhhfdidlmaaWFoot
import Derived.Test.YtpnfdhhfdidlmaaWKept
import Derived.Test.YtpnfdhhfdidlmaaWShare
import Derived.Test.YtpnfdhhfdidlmaaWN
import Derived.Test.YtpnfdhhfdidlmaaWFootNe
import Derived.Test.YtpnfdhhfdidlmaaWAt
import Derived.Test.YtpnfdhhfdidlmaaWEqStruct
import Derived.Test.YtpnfdhhfdidlmaaWRepsOne
import Derived.Test.YtpnfdhhfdidlmaaWInv
import Derived.Test.YtpnfdhhfdidlmaaWInvWords
import Derived.Test.YtpnfdhhfdidlmaaWGuard
import Derived.Test.YtpnfdhhfdidlmaaWNEv
import Derived.Test.YtpnfdhhfdidlmaaWMore
namespace Go.Proofs.Ytpnfdhhfdidlmaa.Print
open Go.RowKit Go.Proofs.YtpnfdhhfdidlmaaW.PrintWords Go.Proofs.YtpnfdhhfdidlmaaW.PrintLast Go.Proofs.YtpnfdhhfdidlmaaW.PrintMore
attribute [local go_sem] max2_int min2_int max_two min_two max_three min_three max_four min_four
set_option linter.unusedVariables false
set_option maxRecDepth 100000
set_option maxHeartbeats 8000000
set_option linter.unusedSimpArgs false



def errW:Option Int→Value
  | none=>.nilIface
  | some c=>.iface 0 (.int .i64 c)
theorem errW_none:errW none=.nilIface:=rfl
theorem errW_some (c:Int):errW (some c)=.iface 0 (.int .i64 c):=rfl
theorem eW {P:Prop} (h:P:=by first|rfl|(simp [errW_none,errW_some] <;> rfl)|(simp [*,errW_none,errW_some] <;> rfl)):P:=h

theorem info3:(Try.prog.info? 3).map (fun i=>(i.zero,i.size,i.bytes))=some (some (.int .i64 0),1,8):=by kernel_rfl
theorem info29:(Try.prog.info? 29).map (fun i=>(i.zero,i.size,i.bytes))=some (some (.slice none 0 0),1,24):=by kernel_rfl
def rd_L1 (xs:List (List Int)) (i:Int):(List Int):=xs.getD i.toNat ([]:List Int)
theorem at_L1 {w:World} {A:Option Addr} {n:Nat} {xs:List (List Int)} (h:Kd.C (Kd.slice 3 (Kd.int .i64)) w A n xs) (i:Int) (h0:0≤i) (h1:i < n):∃ ad A0 c0,A=some ad∧w.cell? (ad.add i.toNat)=some (.slice A0 (rd_L1 xs i).length c0)∧(rd_L1 xs i).length≤c0∧(Kd.int .i64).C w A0 (rd_L1 xs i).length (rd_L1 xs i):=by
  obtain⟨ad,c,e,_,hK,hc0⟩:=Kd.C_get h ([]:List Int) i h0 h1;have hc:∀ j u,c[j]?=some u→w.cell? (ad.add (i.toNat * 1+j))=some u:=hc0;obtain⟨A0,c0,rfl,l0,g0⟩:=hK;exact⟨ad,A0,c0,e,by have hq:=hc 0 _ rfl;rwa [Nat.mul_one,Nat.add_zero] at hq,l0,g0⟩

structure S74 where
  f0:Int
  f1:Int
def z74:S74:=⟨(0:Int),(0:Int)⟩
def k74:Kd S74:=Kd.iso (Kd.pair (Kd.int .u64) (Kd.int .u64)) (fun x:S74=>(x.f0,x.f1))
theorem k74_heap:Kd.Heap k74:=Kd.heap_iso _ (Kd.heap_pair (Kd.heap_int .u64) (Kd.heap_int .u64))
theorem k74_open {w:World} {x:S74} {cs:List Value} (h:k74.K w x cs):cs=[.int .u64 x.f0,.int .u64 x.f1]:=by
  obtain⟨_,_,rfl,rfl,rfl⟩:=h;exact rfl
theorem k74_openM {w:World} {base:Nat} {ok:Nat→Prop} {x:S74} {cs:List Value} (h:k74.M w base ok x cs):cs=[.int .u64 x.f0,.int .u64 x.f1]:=by
  obtain⟨_,_,rfl,rfl,rfl⟩:=h;exact rfl
theorem k74_mk (w:World) (x:S74)  : k74.K w x [.int .u64 x.f0,.int .u64 x.f1]:=⟨[.int .u64 x.f0],[.int .u64 x.f1],rfl,rfl,rfl⟩
theorem k74_mkM (w:World) (base:Nat) (ok:Nat→Prop) (x:S74)  : k74.M w base ok x [.int .u64 x.f0,.int .u64 x.f1]:=⟨[.int .u64 x.f0],[.int .u64 x.f1],rfl,rfl,rfl⟩
theorem k74_mkF (W:World) (ok:Nat→Prop) (x:S74):Kd.FK k74 W ok x [.int .u64 x.f0,.int .u64 x.f1]:=fun W2 _=>k74_mk W2 x
def rd_T74 (xs:List S74) (i:Int):S74:=xs.getD i.toNat z74
theorem at_T74 {w:World} {A:Option Addr} {n:Nat} {xs:List S74} (h:Kd.C k74 w A n xs) (i:Int) (h0:0≤i) (h1:i < n):∃ ad,A=some ad∧w.cell? (ad.add (i.toNat * 2))=some (.int .u64 (rd_T74 xs i).f0)∧w.cell? ⟨(ad.add (i.toNat * 2)).block,(ad.add (i.toNat * 2)).off+1,none⟩=some (.int .u64 (rd_T74 xs i).f1):=by
  obtain⟨ad,c,e,_,hK,hc0⟩:=Kd.C_get h z74 i h0 h1;have hc:∀ j u,c[j]?=some u→w.cell? (ad.add (i.toNat * 2+j))=some u:=hc0;obtain rfl:=k74_open hK;exact⟨ad,e,hc 0 _ rfl,by rw[← add_field _ _ 1 (by omega)];exact hc 1 _ rfl⟩

/-- What a function value has captured. -/
def capsOf:Value→Array Value
  | .func _ _ c=>c
  | _=>#[]
section
variable {P : Program} {ops : Array Oper} {Q : Exit → Act → World → Prop}
/-- A call of a closure in a region that draws: the same as goes_,its captured variables behind its arguments. -/
theorem goesv_ {oi:Oper} {N:Option Tmp} {a:Act} {w:World} {K:Act→World→Prop} {f:FuncId} {fn:Func} {c:Operand} {ars:Array Operand} {ts:Array TypeId} (hf:P.funcs[f]?=some fn) (hname:(fn.name == "runtime.NumGoroutine")=false) (hb:fn.body.isSome=true) (args:Array Value)
    (hw:Region.wanted oi (yielded ops a.tmps)=true) (hN:oi.dst=N) (hop:oi.op=.call { callee:=.value c,args:=ars,argTypes:=ts }) (hargs:ars.map a.eval ++ capsOf (a.eval c)=args)
    (h:Calls P f args w fun e w'=>∃ v,e=.returned v∧K (a.put N v) w') (hc:a.eval c=.func (.func f) #[] (capsOf (a.eval c)):=by rfl):if Region.wanted oi (yielded ops a.tmps)=true then Oper.wp P oi a w K Q else K (a.put N undef) w:=by
  refine call_ f args hw hN ?_ h;have he:=enters_ hf hname hb args w;unfold execOp;simp only[hop];simp [resolve];rw[hc];simp only[Deferred.ofValue];simp [invoke];rw[hargs];exact he
end
namespace Kd
section
variable {α : Type} {d : Kd α} {W w : World} {g : Nat} {T : TypeId} {cs : Array Value} {x : α}
/-- A variable in memory,read as a row of one element. -/
theorem cap_C (hb:W.heap[g]?=some (.cells cs T (0,0))) (hK:d.K W x cs.toList):d.C W (some ⟨g,0,none⟩) 1 [x]:=by
  refine⟨rfl,by omega,fun _=>⟨_,rfl,fun j p hj=>?_⟩⟩
  cases j with
  | zero =>
    simp only[List.getElem?_cons_zero,Option.some.injEq] at hj;subst hj;refine⟨cs.toList,d.K_len hK,hK,fun i u hu=>?_⟩
    rw[Nat.zero_mul,Nat.zero_add,add_plain];exact(blk_cell hb i).trans (by simpa using hu)
  | succ j=>simp at hj
theorem cap_kept {S:Nat→Prop} (hb:w.heap[g]?=some (.cells cs T (0,0))) (hg:¬ S g) (hK:∀ W_,Kept w W_ S→d.K W_ x cs.toList):∀ W_,Kept w W_ S→d.C W_ (some ⟨g,0,none⟩) 1 [x] :=
  fun W_ hk=>cap_C (blk_kept hb hk hg) (hK W_ hk)
end
end Kd
theorem eval_some {a:Act} {n:Tmp} {v:Value} (h:a.tmps[n]?=some v):a.eval (.tmp n)=v:=by
  simp [Act.eval,h]
/-- Two rows of the call's own are two. -/
def NEb (u v:Value):Prop:=∀ k,u.ownBlock=some k→some k≠v.ownBlock
theorem NEb.symm {u v:Value} (h:NEb u v):NEb v u:=fun k hk e=>h k e.symm hk.symm
theorem NEb_new {α:Type} {d:Kd α} {e base:Nat} {ok:Nat→Prop} {W:World} {u v:Value} {xs:List α} (hu:d.R e W base ok u xs) (hv:∀ k,v.ownBlock=some k→W.heap.size≤k):NEb v u:=fun k hk e_=>by
  obtain⟨inner,ho⟩:=Kd.R_own hu;have h1:=own_lt ho k e_.symm;have h2:=hv k hk;omega
theorem own_len (A:Option Addr) (n m c:Nat):(Value.slice A n c).ownBlock=(Value.slice A m c).ownBlock:=by
  rcases A with _|a <;> rfl
/-- The builtin copy,as a call is told. -/
def BCopy (P:Program) (dT sT ty:TypeId) (dv sv:Value) (w:World) (Q:Ending→World→Prop):Prop :=
  ∃ (n:Nat) (w':World),(Builtin.copy_ #[dT,sT] ty #[dv,sv]).run P w=.ok (goInt n) w'∧Q (.returned (goInt n)) w'
theorem BCopy.mono {P:Program} {dT sT ty:TypeId} {dv sv:Value} {w:World} {Q Q':Ending→World→Prop} (h:BCopy P dT sT ty dv sv w Q) (hq:∀ e w',Q e w'→Q' e w'):BCopy P dT sT ty dv sv w Q':=by
  obtain⟨n,w',h1,h2⟩:=h;exact⟨n,w',h1,hq _ _ h2⟩
section
variable {P : Program} {ops : Array Oper} {Q : Exit → Act → World → Prop}
theorem copyL_ {rest:List Oper} {oi:Oper} {a:Act} {w:World} (N:Option Tmp) (hd:oi.dst=N) (hg:oi.guard=none) {d s:Operand} {dT sT:TypeId} (ho:oi.op=.call { callee:=.builtin .copy,args:=#[d,s],argTypes:=#[dT,sT] }) (dv sv:Value)
    (h1:a.eval d=dv) (h2:a.eval s=sv) (h:BCopy P dT sT oi.type dv sv w fun e w'=>∃ v,e=.returned v∧wpList P ops Q rest (a.put N v) w'):wpList P ops Q (oi :: rest) a w:=by
  obtain⟨n,w',hrun,v,hv,hk⟩:=h;injection hv with hv
  subst hv;subst hd;refine wpList_plain hg fun K hK=>?_
  unfold Oper.wp;simp [execOp,ho,resolve,invoke,builtin,h1,h2,hrun,Result.andThen];exact hK _ _ hk
end
def Ezz.f (l0:List Int) (l1:List Int):Option (Int × List Int):=some ((Nat.min l1.length l0.length:Nat),l1.take l0.length ++ l0.drop l1.length)
theorem Ezz.calls {dT sT ty:TypeId} (hu:Try.prog.underlying dT=some (.slice 3)) (P0_:Nat→Prop) (u9000_:Value) (l0:List Int) (A1:Option Addr) (c1:Nat) (l1:List Int) (r1:Int) (r2:List Int) (w0 w:World) (hB:Below w0.heap.size w0 w)
    (ho0:Kd.R (Kd.int .i64) 3 w w0.heap.size P0_ u9000_ l0) (hr1:∀ W_,Kept w W_ (fun k_=>P0_ k_)→Kd.C (Kd.int .i64) W_ A1 l1.length l1) (hc1:l1.length≤c1) (h:Ezz.f l0 l1=some (r1,r2)) :
    BCopy Try.prog dT sT ty u9000_ (.slice A1 l1.length c1) w fun e w'=>e=.returned (.int .i64 r1)∧Kd.R (Kd.int .i64) 3 w' w0.heap.size (fun k_=>(P0_ k_∨w.heap.size≤k_)) u9000_ r2∧Below w0.heap.size w0 w'∧Kept w w' (fun k_=>P0_ k_):=by
  unfold Ezz.f at h;simp only[Option.some.injEq,Prod.mk.injEq] at h;obtain⟨rfl,rfl⟩:=h;have hs:(Try.prog.info? 3).map (·.size)=some 1:=by kernel_rfl
  have hlen:(l1.take l0.length ++ l0.drop l1.length).length=l0.length:=by simp;omega
  have ho:=Kd.own_of_R ho0;by_cases hn:Nat.min l1.length l0.length=0
  · have hll:l1.take l0.length ++ l0.drop l1.length=l0:=by
      rcases Nat.eq_zero_or_pos l0.length with h0|h0
      · have:l0=[]:=List.eq_nil_of_length_eq_zero h0
        subst this;simp
      · have:l1=[]:=List.eq_nil_of_length_eq_zero (by have:min l1.length l0.length=0:=hn;omega)
        subst this;simp
    rw[hll,hn];obtain⟨A0,c0,rfl,_⟩:=Kd.R_reads ho0;refine⟨0,w,?_,rfl,Kd.R_mono ho0 (fun k hk=>.inl hk),hB,Kept.refl _ _⟩
    exact run_copy_none w dT sT ty _ A0 A1 l0.length c0 l1.length c1 hu hs hn
  · have hpos:0 < l1.length∧0 < l0.length:=by
      have:¬ min l1.length l0.length=0:=hn;omega
    obtain⟨hxs,hcase⟩:=ho;rcases hcase with ⟨_,h0⟩|⟨g,cap,cur,rfl,hbg,hcur,hnc,hcm,hcs,htk⟩
    · omega
    obtain⟨_,_,hsrc0⟩:=hr1 w (Kept.refl _ _);obtain⟨ad,rfl,hsrc⟩:=hsrc0 hpos.1;have hP:P0_ g:=ho0.1 g rfl;obtain⟨cs,hcsd⟩:∃ cs:List Value,cs=nums .i64 (l1.take l0.length):=⟨_,rfl⟩;have hcl:cs.length=Nat.min l1.length l0.length:=by rw[hcsd,nums_length,List.length_take];show min l0.length l1.length=min l1.length l0.length;omega
    have hcell:∀ j v,cs[j]?=some v→w.cell? (ad.add j)=some v:=by
      intro j v hj;rw[hcsd] at hj;simp only[nums,List.getElem?_map,Option.map_eq_some_iff] at hj;obtain⟨x,hx,rfl⟩:=hj;rw[List.getElem?_take] at hx;split at hx
      · obtain⟨c,hc,hK,hcc⟩:=hsrc j x hx
        have hc1:c=[.int .i64 x]:=hK;have h3:=hcc 0 (.int .i64 x) (by rw[hc1];rfl)
        have e:j * (Kd.int IntKind.i64).sz+0=j:=by show j * 1+0=j;omega
        rwa [e] at h3
      · simp at hx
    have hcurl:cur.size=cap:=by simpa using hcs
    have hrun:=run_copy_row (P:=Try.prog) w dT sT ty _ g 0 l0.length cap ad l1.length c1 cur _ cs hu hs hcur hcl hcell (by rw[hcl,hcurl];show 0+min l1.length l0.length≤cap;omega) (by rw[hcsd];intro v hv;simp only[nums,List.mem_map] at hv;obtain⟨x,_,rfl⟩:=hv;rfl)
    refine⟨cs.length,_,hrun,by rw[hcl];rfl,?_,?_,?_⟩
    · refine Kd.R_of_own (xs:=l1.take l0.length ++ l0.drop l1.length) ?_ (fun k hk=>.inl (ho0.1 k hk))
      rw[hlen];refine⟨by rw[Nat.mul_one,encs_length];exact hlen,.inr ⟨g,cap,_,rfl,hbg,setRow_heap w g _ _ _ _ hcur,hnc,hcm,?_,?_⟩⟩
      · simp only[List.size_toArray,List.length_append,List.length_take,List.length_drop,Array.length_toList]
        rw[hcl];have:min l1.length l0.length≤cap:=by omega
        show min 0 cur.size+min l1.length l0.length+(cur.size - (0+min l1.length l0.length))=cap * 1
        omega
      · have hm:cs.length=min l1.length l0.length:=hcl
        have h0:cur.toList.take l0.length=nums .i64 l0:=by rw[Nat.mul_one] at htk;rw[htk];rfl
        rw[Nat.mul_one,List.take_zero,List.nil_append,Nat.zero_add,List.toList_toArray,List.take_append,List.take_of_length_le (by omega),List.take_drop]
        have e2:cs.length+(l0.length - cs.length)=l0.length:=by omega
        have e3:(nums .i64 l0).drop cs.length=nums .i64 (l0.drop l1.length):=by
          have e4:(nums .i64 l0).drop cs.length=nums .i64 (l0.drop cs.length):=by simp [nums,List.map_drop]
          rw[e4];have e5:l0.drop cs.length=l0.drop l1.length:=by
            rcases Nat.le_total l1.length l0.length with hh|hh
            · rw[hm,Nat.min_eq_left hh]
            · rw[List.drop_eq_nil_of_le (by omega),List.drop_eq_nil_of_le hh]
          rw[e5]
        rw[e2,h0,e3,hcsd,← nums_append];rfl
    · exact below_setRow hB hbg _
    · exact⟨by simp [World.setRow],fun i hi hne=>setRow_other w g i _ (fun e=>hne (e ▸ hP))⟩

/-- A step's world is above the first one: found among what is known. -/
theorem pB {P:Prop} (h:P:=by repeat(first|(with_reducible first|exact Aside0.out (by assumption)|apply below_alloc|apply pw_below_drewN|apply below_drew1|refine below_set ?_ (Aside0.out (by assumption)))|exact Aside0.out (by assumption))):P:=h
/-- What a box holds,behind draws. -/
theorem kW {w w':World} {g:Nat} {o:Obj} (h:Aside0 (w.heap[g]?=some o)) (f:w.heap[g]?=some o→w'.heap[g]?=some o:=by intro h_;(with_reducible repeat(first|refine blk_drewN ?_ _|refine blk_drew ?_|refine blk_alloc ?_ _));exact h_):w'.heap[g]?=some o:=f h.out
/-- What a box holds,behind a step. -/
theorem kB {w w1 w2:World} {g:Nat} {o:Obj} (h:Aside0 (w.heap[g]?=some o)) (hb:Below w1.heap.size w1 w2) (f:w.heap[g]?=some o→w1.heap[g]?=some o:=by intro h_;(with_reducible repeat(first|refine blk_drewN ?_ _|refine blk_drew ?_|refine blk_alloc ?_ _));exact h_):w2.heap[g]?=some o:=blk_below (f h.out) hb
/-- A new box lies above. -/
theorem gW {w w':World} {g:Nat} (hg:g=w'.heap.size) (h:Below w.heap.size w w':=by exact pB):w.heap.size≤g:=by rw[hg];exact below_size h
/-- A new box is another one. -/
theorem nL {w w':World} {g g':Nat} {o:Obj} (hg:g'=w'.heap.size) (h:Aside0 (w.heap[g]?=some o)) (f:w.heap[g]?=some o→w'.heap[g]?=some o:=by intro h_;(with_reducible repeat(first|refine blk_drewN ?_ _|refine blk_drew ?_|refine blk_alloc ?_ _));exact h_):g≠g':=by rw[hg];exact Nat.ne_of_lt (blk_lt (f h.out))
theorem nG {w w':World} {g g':Nat} {o:Obj} (hg:g'=w'.heap.size) (h:Aside0 (w.heap[g]?=some o)) (f:w.heap[g]?=some o→w'.heap[g]?=some o:=by intro h_;(with_reducible repeat(first|refine blk_drewN ?_ _|refine blk_drew ?_|refine blk_alloc ?_ _));exact h_):g'≠g:=(nL hg h f).symm
/-- A row of the call's own,behind draws. -/
theorem rX {α:Type} {d:Kd α} {e base:Nat} {w w':World} {ok:Nat→Prop} {v:Value} {xs:List α} (h:d.R e w base ok v xs) (f:d.R e w base ok v xs→d.R e w' base ok v xs:=by intro h_;(with_reducible repeat(first|apply Kd.R_alloc|apply Kd.R_drewN|apply Kd.R_drew));exact h_):d.R e w' base ok v xs:=f h
/-- A call's arguments,laid out. -/
theorem mA {P:Prop} (h:P:=by(try simp only[List.map_toArray,List.map_cons,List.map_nil]);first|done|rfl|(simp only[List.length_drop,List.length_take];rfl)):P:=h
/-- What a box of one,two,three cells holds,cell by cell. -/
theorem bk1 {w:World} {g T:Nat} {c0:Value} (h:Aside0 (w.heap[g]?=some (.cells #[c0] T (0,0)))):w.cell? ⟨g,0,none⟩=some c0∧w.frozen? ⟨g,0,none⟩=false:=⟨(blk_cell h.out 0).trans rfl,blk_frozen h.out 0⟩
theorem bk2 {w:World} {g T:Nat} {c0 c1:Value} (h:Aside0 (w.heap[g]?=some (.cells #[c0,c1] T (0,0)))):w.cell? ⟨g,0,none⟩=some c0∧w.cell? ⟨g,1,none⟩=some c1∧w.frozen? ⟨g,0,none⟩=false∧w.frozen? ⟨g,1,none⟩=false:=⟨(blk_cell h.out 0).trans rfl,(blk_cell h.out 1).trans rfl,blk_frozen h.out 0,blk_frozen h.out 1⟩
theorem bk3 {w:World} {g T:Nat} {c0 c1 c2:Value} (h:Aside0 (w.heap[g]?=some (.cells #[c0,c1,c2] T (0,0)))):w.cell? ⟨g,0,none⟩=some c0∧w.cell? ⟨g,1,none⟩=some c1∧w.cell? ⟨g,2,none⟩=some c2∧w.frozen? ⟨g,0,none⟩=false∧w.frozen? ⟨g,1,none⟩=false∧w.frozen? ⟨g,2,none⟩=false:=⟨(blk_cell h.out 0).trans rfl,(blk_cell h.out 1).trans rfl,(blk_cell h.out 2).trans rfl,blk_frozen h.out 0,blk_frozen h.out 1,blk_frozen h.out 2⟩


def Bzj.l0:Nat→Int→Int→List (List Int)→Option (Bool)
 | 0,_,_,_=>none
 | k+1,x3,x102000,x102001=>if x3 < (x102001.length:Int) then(if 0≤x3 then(if((rd_L1 x102001 x3).length:Int) > 20 then(some true) else(Bzj.l0 k (wrap64 (x3+1)) x102000 x102001)) else(none)) else(some false)
def Bzj.f (k:Nat) (a0_0:Int) (l0_1:List (List Int)):Option (Bool):=if(l0_1.length:Int) > 300 then(some true) else(Bzj.l0 k 0 a0_0 l0_1)
theorem Bzj.mono_l:∀ k,(∀ y0 y1 y2,LeO (Bzj.l0 k y0 y1 y2) (Bzj.l0 (k+1) y0 y1 y2))
 | 0=>fun _ _ _ r h=>by simp [Bzj.l0] at h
 | k+1=>by
  have ih0:=Bzj.mono_l k
  ·intro y0 y1 y2;unfold Bzj.l0;with_reducible repeat' first|exact ih0 _ _ _|exact LeO.refl _|exact LeO.none _|refine LeO.ite ?_ ?_|refine LeO.bind ?_ (fun _=>?_)
theorem Bzj.mono:∀ a0 a1 k,LeO (Bzj.f k a0 a1) (Bzj.f (k+1) a0 a1):=by
 intro a0 a1 k;have ih0:=Bzj.mono_l k;unfold Bzj.f;with_reducible repeat' first|exact ih0 _ _ _|exact LeO.refl _|exact LeO.none _|refine LeO.ite ?_ ?_|refine LeO.bind ?_ (fun _=>?_)
theorem Bzj.calls (k:Nat) (a0_0:Int) (A0_1:Option Addr) (c0_1:Nat) (l0_1:List (List Int)) (r:Bool) (w:World) (hr0_1:Kd.C (Kd.slice 3 (Kd.int .i64)) w A0_1 l0_1.length l0_1) (hc0_1:l0_1.length≤c0_1) (h:Bzj.f k a0_0 l0_1=some r) :
  Calls Try.prog 11 #[.agg #[.int .i64 a0_0,.slice A0_1 l0_1.length c0_1]] w fun e w'=>e=.returned (.bool r)∧Below w.heap.size w w':=by
 have hu24:=Try.underlying24;have HR0_1:=aM hr0_1;have HC0_1:=aM hc0_1;clear hr0_1 hc0_1;have HB:=aM (Below.refl w.heap.size w);have H:(if(l0_1.length:Int) > 300 then(some true) else(Bzj.l0 k 0 a0_0 l0_1))=some r:=h
 clear h;by_cases c2:(l0_1.length:Int) > 300
 ·rw[if_pos c2] at H;have c2b0:decide (300 < (l0_1.length:Int))=true:=dE c2;have c2b1:decide (300 < l0_1.length)=true:=dE (by omega)
  clear c2;obtain rfl:=Option.some.inj H;go_enter Try.func11,Try.ntmps11
  go_wp2_with (first|((with_reducible refine gate_dst (N:=1) rfl ?_);refine box_event ?hg (N:=1) ?hd (cs:=#[.int .i64 a0_0,.slice A0_1 l0_1.length c0_1]) (t:=24) ?hr ?_;(case hd=>rfl);(case hg=>rfl);(case hr=>first|(go_simp;done)|(go_simp;rfl));intro gb101 hg w3 hbox hb;have BK101:=aM (hbox);have GW101:=aM (gW hg:w.heap.size≤gb101);have GE101:=aM (gW hg:w.heap.size≤gb101);replace HB:=aM (below_step pB hb);clear hb hbox hg;obtain⟨hcz4_0,hcz4_1,hfz4_0,hfz4_1⟩:=bk2 BK101))
  go_ret
  exact⟨eW,pB⟩
 ·rw[if_neg c2] at H;have c2b0:decide (300 < (l0_1.length:Int))=false:=decide_eq_false c2;have c2b1:decide (300 < l0_1.length)=false:=decide_eq_false (by omega)
  clear c2;have H':=aM H;clear H;go_enter Try.func11,Try.ntmps11
  go_wp2_with (first|((with_reducible refine gate_dst (N:=1) rfl ?_);refine box_event ?hg (N:=1) ?hd (cs:=#[.int .i64 a0_0,.slice A0_1 l0_1.length c0_1]) (t:=24) ?hr ?_;(case hd=>rfl);(case hg=>rfl);(case hr=>first|(go_simp;done)|(go_simp;rfl));intro gb101 hg w5 hbox hb;have BK101:=aM (hbox);have GW101:=aM (gW hg:w.heap.size≤gb101);have GE101:=aM (gW hg:w.heap.size≤gb101);replace HB:=aM (below_step pB hb);clear hb hbox hg;obtain⟨hcz6_0,hcz6_1,hfz6_0,hfz6_1⟩:=bk2 BK101))
  go_loopg [3] k (fun kq v3 w'=>∃ (x3_1:Int),v3=.int .i64 x3_1∧Aside0 (Bzj.l0 kq x3_1 a0_0 l0_1=some r)∧Aside0 (kq≤k)∧Aside0 (w'.heap[gb101]?=some (.cells #[.int .i64 a0_0,(.slice A0_1 l0_1.length c0_1)] 24 (0,0)))∧Aside0 (Below w.heap.size w w'))
  case atStart=>exact⟨(0),sD,H',⟨Nat.le_refl _⟩,⟨by(with_reducible repeat(first|refine blk_drewN ?_ _|refine blk_drew ?_|refine blk_alloc ?_ _));exact BK101.out⟩,⟨pB⟩⟩
  case round =>
   clear H';try clear c1
   try clear c2
   try clear c2b0
   try clear c2b1
   try clear p2
   try clear hcz4_0
   try clear hcz4_1
   try clear hcz6_0
   try clear hcz6_1
   try clear hfz4_0
   try clear hfz4_1
   try clear hfz6_0
   try clear hfz6_1
   obtain⟨x3_1,rfl,HA,HK1,BK101,HB⟩:=hrel;cases gk with
   | zero=>exact absurd HA.out (by simp [Bzj.l0])
   | succ k1 =>
    have H:=HA.out;clear HA;simp only[Bzj.l0] at H;by_cases c7:x3_1 < (l0_1.length:Int)
    ·rw[if_pos c7] at H;have c7b0:decide (x3_1 < (l0_1.length:Int))=true:=dE c7;clear c7;by_cases c8:0≤x3_1
     ·rw[if_pos c8] at H;have c8b0:decide (0≤x3_1)=true:=dE c8;clear c8;by_cases c9:((rd_L1 l0_1 x3_1).length:Int) > 20
      ·rw[if_pos c9] at H;have c9b0:decide (20 < ((rd_L1 l0_1 x3_1).length:Int))=true:=dE c9;have c9b1:decide (20 < (rd_L1 l0_1 x3_1).length)=true:=dE (by omega)
       clear c9;obtain rfl:=Option.some.inj H;obtain⟨hcz10_0,hcz10_1,hfz10_0,hfz10_1⟩:=bk2 BK101;have p102:0≤(x3_1:Int):=oE aS
       have q102:x3_1 < (l0_1.length:Int):=oE aS
       obtain⟨ad102,A102_0,c102_0,e102,hx102_0,hl102_0,hi102_0⟩:=at_L1 HR0_1.out x3_1 p102 q102;cases e102
       replace hx102_0:=(HB.out.cell (World.block_lt_of_cell? w _ hx102_0)).trans hx102_0;have HR102_0:=aM hi102_0;have HC102_0:=aM hl102_0;clear hi102_0 hl102_0;replace p102:=eq_true p102;replace q102:=eq_true q102;go_wp2
       go_ret
       exact⟨eW,pB⟩
      ·rw[if_neg c9] at H;have c9b0:decide (20 < ((rd_L1 l0_1 x3_1).length:Int))=false:=decide_eq_false c9;have c9b1:decide (20 < (rd_L1 l0_1 x3_1).length)=false:=decide_eq_false (by omega)
       clear c9;have H':=aM H;clear H;obtain⟨hcz11_0,hcz11_1,hfz11_0,hfz11_1⟩:=bk2 BK101;have p102:0≤(x3_1:Int):=oE aS
       have q102:x3_1 < (l0_1.length:Int):=oE aS
       obtain⟨ad102,A102_0,c102_0,e102,hx102_0,hl102_0,hi102_0⟩:=at_L1 HR0_1.out x3_1 p102 q102;cases e102
       replace hx102_0:=(HB.out.cell (World.block_lt_of_cell? w _ hx102_0)).trans hx102_0;have HR102_0:=aM hi102_0;have HC102_0:=aM hl102_0;clear hi102_0 hl102_0;replace p102:=eq_true p102;replace q102:=eq_true q102;go_wp2
       go_roundg k1
       case measure=>have:=HK1.out;omega
       case rel=>exact⟨(wrap64 (x3_1+1)),sD,H',⟨by have:=HK1.out;omega⟩,⟨by(with_reducible repeat(first|refine blk_drewN ?_ _|refine blk_drew ?_|refine blk_alloc ?_ _));exact BK101.out⟩,⟨pB⟩⟩
     ·rw[if_neg c8] at H;exact absurd H (by simp)
    ·rw[if_neg c7] at H;have c7b0:decide (x3_1 < (l0_1.length:Int))=false:=decide_eq_false c7;clear c7;obtain rfl:=Option.some.inj H;obtain⟨hcz12_0,hcz12_1,hfz12_0,hfz12_1⟩:=bk2 BK101;go_wp2
     go_ret
     exact⟨eW,pB⟩

def Dzk.f (l0:List Int) (a1:Int):Option (Bool):=if a1≥1 then(if a1≤8 then(some ((l0.length:Int) == a1)) else(some false)) else(some false)
theorem Dzk.calls (A0:Option Addr) (c0:Nat) (l0:List Int) (a1:Int) (r:Bool) (w:World) (hr0:Kd.C (Kd.int .i64) w A0 l0.length l0) (hc0:l0.length≤c0) (h:Dzk.f l0 a1=some r) :
  Calls Try.prog 35 #[.slice A0 l0.length c0,.int .i64 a1] w fun e w'=>e=.returned (.bool r)∧Drawn0 w w':=by
 have HR0:=aM hr0;have HC0:=aM hc0;clear hr0 hc0;have H:(if a1≥1 then(if a1≤8 then(some ((l0.length:Int) == a1)) else(some false)) else(some false))=some r:=h
 clear h;by_cases c3:a1≥1
 ·rw[if_pos c3] at H;have c3b0:decide (1≤a1)=true:=dE c3;clear c3;by_cases c4:a1≤8
  ·rw[if_pos c4] at H;have c4b0:decide (a1≤8)=true:=dE c4;clear c4;obtain rfl:=Option.some.inj H;go_enter Try.func35,Try.ntmps35
   go_wp2
   go_ret
   exact⟨by first|rfl|(simp;done)|(simp [*];done),by repeat(first|exact Drawn0.refl _|apply Drawn0.step)⟩
  ·rw[if_neg c4] at H;have c4b0:decide (a1≤8)=false:=decide_eq_false c4;clear c4;obtain rfl:=Option.some.inj H;go_enter Try.func35,Try.ntmps35
   go_wp2
   go_ret
   exact⟨by first|rfl|(simp;done)|(simp [*];done),by repeat(first|exact Drawn0.refl _|apply Drawn0.step)⟩
 ·rw[if_neg c3] at H;have c3b0:decide (1≤a1)=false:=decide_eq_false c3;clear c3;obtain rfl:=Option.some.inj H;go_enter Try.func35,Try.ntmps35
  go_wp2
  go_ret
  exact⟨by first|rfl|(simp;done)|(simp [*];done),by repeat(first|exact Drawn0.refl _|apply Drawn0.step)⟩


def Dzb.f (a0:Int) (l1:List Int):Option (Bool):=if a0≥0 then(if 0 < (l1.length:Int) then(some (decide (a0≤(rd l1 0)))) else(none)) else(some false)
theorem Dzb.calls (a0:Int) (A1:Option Addr) (c1:Nat) (l1:List Int) (r:Bool) (w:World) (hr1:Kd.C (Kd.int .i64) w A1 l1.length l1) (hc1:l1.length≤c1) (h:Dzb.f a0 l1=some r) :
  Calls Try.prog 44 #[.int .i64 a0,.pointer A1] w fun e w'=>e=.returned (.bool r)∧Drawn0 w w':=by
 have HR1:=aM hr1;have HC1:=aM hc1;clear hr1 hc1;have H:(if a0≥0 then(if 0 < (l1.length:Int) then(some (decide (a0≤(rd l1 0)))) else(none)) else(some false))=some r:=h
 clear h;by_cases c3:a0≥0
 ·rw[if_pos c3] at H;have c3b0:decide (0≤a0)=true:=dE c3;clear c3;by_cases c4:0 < (l1.length:Int)
  ·rw[if_pos c4] at H;have c4b0:decide (0 < (l1.length:Int))=true:=dE c4;have c4b1:decide (0 < l1.length)=true:=dE (by omega)
   clear c4;obtain rfl:=Option.some.inj H;have p103:0≤(0:Int):=(by omega)
   have q103:0 < (l1.length:Int):=oE aS
   obtain⟨ad103,e103,hx103_0⟩:=Kd.at_int HR1.out 0 p103 q103;cases e103
   have qi103:(0 < l1.length)=True:=eq_true (by omega)
   (try rw[show((0:Int)).toNat=0 from rfl] at hx103_0)
   (try rw[Addr.add_zero'] at hx103_0)
   replace p103:=eq_true p103;replace q103:=eq_true q103;go_enter Try.func44,Try.ntmps44
   go_wp2
   go_ret
   exact⟨by first|rfl|(simp;done)|(simp [*];done),by repeat(first|exact Drawn0.refl _|apply Drawn0.step)⟩
  ·rw[if_neg c4] at H;exact absurd H (by simp)
 ·rw[if_neg c3] at H;have c3b0:decide (0≤a0)=false:=decide_eq_false c3;clear c3;obtain rfl:=Option.some.inj H;go_enter Try.func44,Try.ntmps44
  go_wp2
  go_ret
  exact⟨by first|rfl|(simp;done)|(simp [*];done),by repeat(first|exact Drawn0.refl _|apply Drawn0.step)⟩

def Bzk.l0:Nat→List Int→Int→Int→List Int→Option (Bool)
 | 0,_,_,_,_=>none
 | k+1,x7,x8,x9,x910=>if x9 < x8 then(if 0≤x9 then(if x9 < (x7.length:Int) then((Dzb.f (rd x7 x9) x910).bind fun t106=>(if t106=true then(Bzk.l0 k x7 x8 (wrap64 (x9+1)) x910) else(some false))) else(none)) else(none)) else(some true)
def Bzk.f (k:Nat) (l0:List Int) (l1_0:List Int):Option (Bool):=Bzk.l0 k l0 (l0.length:Int) 0 l1_0
theorem Bzk.mono_l:∀ k,(∀ y0 y1 y2 y3,LeO (Bzk.l0 k y0 y1 y2 y3) (Bzk.l0 (k+1) y0 y1 y2 y3))
 | 0=>fun _ _ _ _ r h=>by simp [Bzk.l0] at h
 | k+1=>by
  have ih0:=Bzk.mono_l k
  ·intro y0 y1 y2 y3;unfold Bzk.l0;with_reducible repeat' first|exact ih0 _ _ _ _|exact LeO.refl _|exact LeO.none _|refine LeO.ite ?_ ?_|refine LeO.bind ?_ (fun _=>?_)
theorem Bzk.mono:∀ a0 a1 k,LeO (Bzk.f k a0 a1) (Bzk.f (k+1) a0 a1):=by
 intro a0 a1 k;have ih0:=Bzk.mono_l k;unfold Bzk.f;with_reducible repeat' first|exact ih0 _ _ _ _|exact LeO.refl _|exact LeO.none _|refine LeO.ite ?_ ?_|refine LeO.bind ?_ (fun _=>?_)
theorem Bzk.calls (k:Nat) (A0:Option Addr) (c0:Nat) (l0:List Int) (A1_0:Option Addr) (c1_0:Nat) (l1_0:List Int) (r:Bool) (w:World) (hr0:Kd.C (Kd.int .i64) w A0 l0.length l0) (hc0:l0.length≤c0) (hr1_0:Kd.C (Kd.int .i64) w A1_0 l1_0.length l1_0) (hc1_0:l1_0.length≤c1_0) (h:Bzk.f k l0 l1_0=some r) :
  Calls Try.prog 43 #[.slice A0 l0.length c0,.func (.func 44) #[] #[.pointer A1_0]] w fun e w'=>e=.returned (.bool r)∧Drawn0 w w':=by
 have HR0:=aM hr0;have HC0:=aM hc0;clear hr0 hc0;have HR1_0:=aM hr1_0;have HC1_0:=aM hc1_0;clear hr1_0 hc1_0;have H:(Bzk.l0 k l0 (l0.length:Int) 0 l1_0)=some r:=h;clear h;have H':=aM H;clear H;go_enter Try.func43,Try.ntmps43
 go_wp2
 go_loopg [9] k (fun kq v9 w'=>∃ (x9_1:Int),v9=.int .i64 x9_1∧Aside0 (Bzk.l0 kq l0 (l0.length:Int) x9_1 l1_0=some r)∧Aside0 (kq≤k)∧Drawn0 w w')
 case atStart=>exact⟨(0),sD,H',⟨Nat.le_refl _⟩,by repeat(first|exact Drawn0.refl _|apply Drawn0.step)⟩
 case round =>
  clear H';try clear c1
  try clear p2
  obtain⟨x9_1,rfl,HA,HK1,⟨m1,rfl⟩⟩:=hrel;cases gk with
  | zero=>exact absurd HA.out (by simp [Bzk.l0])
  | succ k1 =>
   have H:=HA.out;clear HA;simp only[Bzk.l0] at H;by_cases c3:x9_1 < (l0.length:Int)
   ·rw[if_pos c3] at H;have c3b0:decide (x9_1 < (l0.length:Int))=true:=dE c3;clear c3;by_cases c4:0≤x9_1
    ·rw[if_pos c4] at H;have c4b0:decide (0≤x9_1)=true:=dE c4;clear c4;by_cases c5:x9_1 < (l0.length:Int)
     ·rw[if_pos c5] at H;have c5b0:decide (x9_1 < (l0.length:Int))=true:=dE c5;clear c5;replace H:=bS H;obtain⟨t106,A60,H⟩:=H;(try dsimp only at H);have A6:=aM A60;clear A60;by_cases c7:t106=true
      ·subst c7;rw[if_pos rfl] at H;have H':=aM H;clear H;have p105:0≤(x9_1:Int):=oE aS
       have q105:x9_1 < (l0.length:Int):=oE aS
       obtain⟨ad105,e105,hx105_0⟩:=Kd.at_int HR0.out x9_1 p105 q105;cases e105
       replace p105:=eq_true p105;replace q105:=eq_true q105;go_wp2_with (first|(go_at_call 44;(with_reducible refine(Dzb.calls (rd l0 x9_1) _ c1_0 l1_0 true _ ?side1 ?side2 A6.out).mono ?_);(case side1=>exact cX HR1_0.out);(case side2=>exact HC1_0.out);rintro e w' ⟨rfl,⟨nd,rfl⟩⟩))
       go_roundg k1
       case measure=>have:=HK1.out;omega
       case rel=>exact⟨(wrap64 (x9_1+1)),sD,H',⟨by have:=HK1.out;omega⟩,by repeat(first|exact Drawn0.refl _|apply Drawn0.step)⟩
      ·replace c7:=Bool.eq_false_iff.mpr c7;subst c7;rw[if_neg (show ¬ (false=true) by decide)] at H
       obtain rfl:=Option.some.inj H;have p105:0≤(x9_1:Int):=oE aS
       have q105:x9_1 < (l0.length:Int):=oE aS
       obtain⟨ad105,e105,hx105_0⟩:=Kd.at_int HR0.out x9_1 p105 q105;cases e105
       replace p105:=eq_true p105;replace q105:=eq_true q105;go_wp2_with (first|(go_at_call 44;(with_reducible refine(Dzb.calls (rd l0 x9_1) _ c1_0 l1_0 false _ ?side1 ?side2 A6.out).mono ?_);(case side1=>exact cX HR1_0.out);(case side2=>exact HC1_0.out);rintro e w' ⟨rfl,⟨nd,rfl⟩⟩))
       go_ret
       exact⟨by first|rfl|(simp;done)|(simp [*];done),by repeat(first|exact Drawn0.refl _|apply Drawn0.step)⟩
     ·rw[if_neg c5] at H;exact absurd H (by simp)
    ·rw[if_neg c4] at H;exact absurd H (by simp)
   ·rw[if_neg c3] at H;have c3b0:decide (x9_1 < (l0.length:Int))=false:=decide_eq_false c3;clear c3;obtain rfl:=Option.some.inj H;go_wp2
    go_ret
    exact⟨by first|rfl|(simp;done)|(simp [*];done),by repeat(first|exact Drawn0.refl _|apply Drawn0.step)⟩

def Dzw.f (k:Nat) (l0:List Int) (a1:Int):Option (Bool):=(Bzk.f k l0 [a1]).bind fun t108=>(some t108)
theorem Dzw.mono:∀ a0 a1 k,LeO (Dzw.f k a0 a1) (Dzw.f (k+1) a0 a1):=by
 intro a0 a1 k;unfold Dzw.f;with_reducible repeat' first|exact Bzk.mono _ _ _|exact LeO.refl _|exact LeO.none _|refine LeO.ite ?_ ?_|refine LeO.bind ?_ (fun _=>?_)
theorem Dzw.calls (k:Nat) (A0:Option Addr) (c0:Nat) (l0:List Int) (a1:Int) (r:Bool) (w:World) (hr0:Kd.C (Kd.int .i64) w A0 l0.length l0) (hc0:l0.length≤c0) (h:Dzw.f k l0 a1=some r) :
  Calls Try.prog 36 #[.slice A0 l0.length c0,.int .i64 a1] w fun e w'=>e=.returned (.bool r)∧Below w.heap.size w w':=by
 have HR0:=aM hr0;have HC0:=aM hc0;clear hr0 hc0;have HB:=aM (Below.refl w.heap.size w);have H:((Bzk.f k l0 [a1]).bind fun t108=>(some t108))=some r:=h
 clear h;replace H:=bS H;obtain⟨t108,A30,H⟩:=H;replace H:(some t108)=some r:=H;have A3:=aM A30;clear A30;obtain rfl:=Option.some.inj H;have hmf_:∀ (fn:Fn) (first cap:Array Value) (w:World),(Instr.makeFunc fn first cap).run Try.prog w=.ok (.func fn first cap) w:=fun _ _ _ _=>rfl
 go_enter Try.func36,Try.ntmps36
 go_wp2_with (first|((with_reducible refine gate_dst (N:=3) rfl ?_);refine box_event ?hg (N:=3) ?hd (cs:=#[.int .i64 a1]) (t:=3) ?hr ?_;(case hd=>rfl);(case hg=>rfl);(case hr=>first|(go_simp;done)|(go_simp;rfl));intro gb107 hg w4 hbox hb;have BK107:=aM (hbox);have GW107:=aM (gW hg:w.heap.size≤gb107);have GE107:=aM (gW hg:w.heap.size≤gb107);replace HB:=aM (below_step pB hb);clear hb hbox hg)|((with_reducible refine gate_callee (f:=43) rfl ?_);refine goesL_ (some 7) rfl rfl Try.func43 (by kernel_rfl) rfl #[.slice A0 l0.length c0,.func (.func 44) #[] #[.pointer (some ⟨gb107,0,none⟩)]] rfl mA ?_;(with_reducible refine(Bzk.calls k _ _ l0 _ 1 [a1] t108 _ ?side1 ?side2 ?side3 ?side4 A3.out).mono ?_);(case side1=>exact cX (Kd.C_below HR0.out HB.out));(case side2=>exact HC0.out);(case side3=>exact Kd.cap_C (kW BK107) rfl);(case side4=>exact Nat.le_refl _);rintro e w' ⟨rfl,⟨nd,rfl⟩⟩;refine⟨_,rfl,?_⟩))
 go_ret
 exact⟨eW,pB⟩

end Go.Proofs.Ytpnfdhhfdidlmaa.Print
