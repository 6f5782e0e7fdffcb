import Derived.Test.YtblifmmcmngdnaaProg
import Derived.Below
import Derived.Deep.Draws
import Derived.Deep.AppendLies
import Derived.Maps.AppendAt
import Derived.OwnWalk
import Derived.Laws.BytesArg
import Derived.Laws.MakeOwn
import Derived.Laws.OwnMore
import Derived.Deep.OwnRows
import Derived.Tactics
import Derived.Lib.ConvBytes
import Derived.Laws.Slices
import Derived.WalkKit
import Derived.KernelRfl
import Derived.RowKit3
import Derived.Deep.LoopGhost
import Derived.Deep.QuietTactic
import Derived.BigQuiet
import Derived.WideLaws
import Derived.Deep.DeepCutAuto
import Derived.Deep.CutBlock
import Derived.Deep.RegionHeld3
import Derived.Laws.Rows
import Derived.Lib.AppendStr
import Derived.ArgAppend
import Derived.Laws.IdiomCopy
import Derived.OrdersHeld
import Derived.Laws.BitsLemmas
import Derived.RowKit
import Derived.Laws.CopyOwn
import Derived.Test.YtblifmmcmngdnaaWWords
import Derived.Test.YtblifmmcmngdnaaWLast
import Derived.Test.YtblifmmcmngdnaaWTab
import Derived.Test.YtblifmmcmngdnaaWFour
import Derived.Test.YtblifmmcmngdnaaWQPut
import Derived.Test.YtblifmmcmngdnaaWApart
import Derived.Test.YtblifmmcmngdnaaWArr
import Derived.Test.YtblifmmcmngdnaaWZeros
import Derived.Test.YtblifmmcmngdnaaWFoot
import Derived.Test.YtblifmmcmngdnaaWKept
import Derived.Test.YtblifmmcmngdnaaWShare
import Derived.Test.YtblifmmcmngdnaaWN
import Derived.Test.YtblifmmcmngdnaaWFootNe
import Derived.Test.YtblifmmcmngdnaaWAt
import Derived.Test.YtblifmmcmngdnaaWEqStruct
import Derived.Test.YtblifmmcmngdnaaWRepsOne
import Derived.Test.YtblifmmcmngdnaaWInv
import Derived.Test.YtblifmmcmngdnaaWInvWords
import Derived.Test.YtblifmmcmngdnaaWGuard
import Derived.Test.YtblifmmcmngdnaaWNEv
import Derived.Test.YtblifmmcmngdnaaWMore
namespace Go.Proofs.Ytblifmmcmngdnaa.Print
open Go.RowKit Go.Proofs.YtblifmmcmngdnaaW.PrintWords Go.Proofs.YtblifmmcmngdnaaW.PrintLast Go.Proofs.YtblifmmcmngdnaaW.PrintMore
attribute [local go_sem] max2_int min2_int max_two min_two max_three min_three max_four min_four
set_option linter.unusedVariables false
set_option maxRecDepth 100000
set_option maxHeartbeats 8000000
set_option linter.unusedSimpArgs false



def errW:Option Int→Value
  | none=>.nilIface
  | some c=>.iface 0 (.int .i64 c)
theorem errW_none:errW none=.nilIface:=rfl
theorem errW_some (c:Int):errW (some c)=.iface 0 (.int .i64 c):=rfl
theorem eW {P:Prop} (h:P:=by first|rfl|(simp [errW_none,errW_some] <;> rfl)|(simp [*,errW_none,errW_some] <;> rfl)):P:=h

theorem info3:(Try.prog.info? 3).map (fun i=>(i.zero,i.size,i.bytes))=some (some (.int .i64 0),1,8):=by kernel_rfl

def rd_L4 (xs:List (List Int)) (i:Int):(List Int):=xs.getD i.toNat ([]:List Int)
theorem at_L4 {w:World} {A:Option Addr} {n:Nat} {xs:List (List Int)} (h:Kd.C (Kd.slice 3 (Kd.int .i64)) w A n xs) (i:Int) (a5:0≤i) (a6:i < n):∃ ad a7 a8,A=some ad∧w.cell? (ad.add i.toNat)=some (.slice a7 (rd_L4 xs i).length a8)∧(rd_L4 xs i).length≤a8∧(Kd.int .i64).C w a7 (rd_L4 xs i).length (rd_L4 xs i):=by
  obtain⟨ad,c,e,_,hK,a9⟩:=Kd.C_get h ([]:List Int) i a5 a6;have hc:∀ j u,c[j]?=some u→w.cell? (ad.add (i.toNat * 1+j))=some u:=a9;obtain⟨a7,a8,rfl,l0,g0⟩:=hK;exact⟨ad,a7,a8,e,by have hq:=hc 0 _ rfl;rwa [Nat.mul_one,Nat.add_zero] at hq,l0,g0⟩

/-- What a function value has captured. -/
def capsOf:Value→Array Value
  | .func _ _ c=>c
  | _=>#[]
section
variable {P : Program} {ops : Array Oper} {Q : Exit → Act → World → Prop}
/-- A call of a closure in a region that draws: the same as goes_,its captured variables behind its arguments. -/
theorem goesv_ {oi:Oper} {N:Option Tmp} {a:Act} {w:World} {K:Act→World→Prop} {f:FuncId} {fn:Func} {c:Operand} {ars:Array Operand} {ts:Array TypeId} (hf:P.funcs[f]?=some fn) (hname:(fn.name == "runtime.NumGoroutine")=false) (hb:fn.body.isSome=true) (args:Array Value)
    (hw:Region.wanted oi (yielded ops a.tmps)=true) (hN:oi.dst=N) (hop:oi.op=.call { callee:=.value c,args:=ars,argTypes:=ts }) (hargs:ars.map a.eval ++ capsOf (a.eval c)=args)
    (h:Calls P f args w fun e w'=>∃ v,e=.returned v∧K (a.put N v) w') (hc:a.eval c=.func (.func f) #[] (capsOf (a.eval c)):=by rfl):if Region.wanted oi (yielded ops a.tmps)=true then Oper.wp P oi a w K Q else K (a.put N undef) w:=by
  refine call_ f args hw hN ?_ h;have he:=enters_ hf hname hb args w;unfold execOp;simp only[hop];simp [resolve];rw[hc];simp only[Deferred.ofValue];simp [invoke];rw[hargs];exact he
end
namespace Kd
section
variable {α : Type} {d : Kd α} {W w : World} {g : Nat} {T : TypeId} {cs : Array Value} {x : α}
/-- A variable in memory,read as a row of one element. -/
theorem cap_C (hb:W.heap[g]?=some (.cells cs T (0,0))) (hK:d.K W x cs.toList):d.C W (some ⟨g,0,none⟩) 1 [x]:=by
  refine⟨rfl,by omega,fun _=>⟨_,rfl,fun j p hj=>?_⟩⟩
  cases j with
  | zero =>
    simp only[List.getElem?_cons_zero,Option.some.injEq] at hj;subst hj;refine⟨cs.toList,d.K_len hK,hK,fun i u hu=>?_⟩
    rw[Nat.zero_mul,Nat.zero_add,add_plain];exact(blk_cell hb i).trans (by simpa using hu)
  | succ j=>simp at hj
theorem cap_kept {S:Nat→Prop} (hb:w.heap[g]?=some (.cells cs T (0,0))) (hg:¬ S g) (hK:∀ W_,Kept w W_ S→d.K W_ x cs.toList):∀ W_,Kept w W_ S→d.C W_ (some ⟨g,0,none⟩) 1 [x] :=
  fun W_ hk=>cap_C (blk_kept hb hk hg) (hK W_ hk)
end
end Kd
theorem eval_some {a:Act} {n:Tmp} {v:Value} (h:a.tmps[n]?=some v):a.eval (.tmp n)=v:=by
  simp [Act.eval,h]
/-- Two rows of the call's own are two. -/
def NEb (u v:Value):Prop:=∀ k,u.ownBlock=some k→some k≠v.ownBlock
theorem NEb.symm {u v:Value} (h:NEb u v):NEb v u:=fun k hk e=>h k e.symm hk.symm
theorem NEb_new {α:Type} {d:Kd α} {e base:Nat} {ok:Nat→Prop} {W:World} {u v:Value} {xs:List α} (hu:d.R e W base ok u xs) (hv:∀ k,v.ownBlock=some k→W.heap.size≤k):NEb v u:=fun k hk e_=>by
  obtain⟨inner,ho⟩:=Kd.R_own hu;have a5:=own_lt ho k e_.symm;have a6:=hv k hk;omega
theorem own_len (A:Option Addr) (n m c:Nat):(Value.slice A n c).ownBlock=(Value.slice A m c).ownBlock:=by
  rcases A with _|a <;> rfl
/-- The builtin copy,as a call is told. -/
def BCopy (P:Program) (dT sT ty:TypeId) (dv sv:Value) (w:World) (Q:Ending→World→Prop):Prop :=
  ∃ (n:Nat) (w':World),(Builtin.copy_ #[dT,sT] ty #[dv,sv]).run P w=.ok (goInt n) w'∧Q (.returned (goInt n)) w'
theorem BCopy.mono {P:Program} {dT sT ty:TypeId} {dv sv:Value} {w:World} {Q Q':Ending→World→Prop} (h:BCopy P dT sT ty dv sv w Q) (hq:∀ e w',Q e w'→Q' e w'):BCopy P dT sT ty dv sv w Q':=by
  obtain⟨n,w',a5,a6⟩:=h;exact⟨n,w',a5,hq _ _ a6⟩
section
variable {P : Program} {ops : Array Oper} {Q : Exit → Act → World → Prop}
end
def Czm.f (l0:List Int) (l1:List Int):Option (Int × List Int):=some ((Nat.min l1.length l0.length:Nat),l1.take l0.length ++ l0.drop l1.length)
theorem Czm.calls {dT sT ty:TypeId} (hu:Try.prog.underlying dT=some (.slice 3)) (a5:Nat→Prop) (u9000_:Value) (l0:List Int) (a6:Option Addr) (a7:Nat) (l1:List Int) (a8:Int) (a9:List Int) (b3 w:World) (hB:Below b3.heap.size b3 w)
    (b4:Kd.R (Kd.int .i64) 3 w b3.heap.size a5 u9000_ l0) (b5:∀ W_,Kept w W_ (fun k_=>a5 k_)→Kd.C (Kd.int .i64) W_ a6 l1.length l1) (b6:l1.length≤a7) (h:Czm.f l0 l1=some (a8,a9)) :
    BCopy Try.prog dT sT ty u9000_ (.slice a6 l1.length a7) w fun e w'=>e=.returned (.int .i64 a8)∧Kd.R (Kd.int .i64) 3 w' b3.heap.size (fun k_=>(a5 k_∨w.heap.size≤k_)) u9000_ a9∧Below b3.heap.size b3 w'∧Kept w w' (fun k_=>a5 k_):=by
  unfold Czm.f at h;simp only[Option.some.injEq,Prod.mk.injEq] at h;obtain⟨rfl,rfl⟩:=h;have hs:(Try.prog.info? 3).map (·.size)=some 1:=by kernel_rfl
  have hlen:(l1.take l0.length ++ l0.drop l1.length).length=l0.length:=by simp;omega
  have ho:=Kd.own_of_R b4;by_cases hn:Nat.min l1.length l0.length=0
  · have hll:l1.take l0.length ++ l0.drop l1.length=l0:=by
      rcases Nat.eq_zero_or_pos l0.length with b7|b7
      · have:l0=[]:=List.eq_nil_of_length_eq_zero b7
        subst this;simp
      · have:l1=[]:=List.eq_nil_of_length_eq_zero (by have:min l1.length l0.length=0:=hn;omega)
        subst this;simp
    rw[hll,hn];obtain⟨b8,b9,rfl,_⟩:=Kd.R_reads b4;refine⟨0,w,?_,rfl,Kd.R_mono b4 (fun k hk=>.inl hk),hB,Kept.refl _ _⟩
    exact run_copy_none w dT sT ty _ b8 a6 l0.length b9 l1.length a7 hu hs hn
  · have hpos:0 < l1.length∧0 < l0.length:=by
      have:¬ min l1.length l0.length=0:=hn;omega
    obtain⟨hxs,hcase⟩:=ho;rcases hcase with ⟨_,b7⟩|⟨g,cap,cur,rfl,hbg,hcur,hnc,hcm,hcs,htk⟩
    · omega
    obtain⟨_,_,hsrc0⟩:=b5 w (Kept.refl _ _);obtain⟨ad,rfl,hsrc⟩:=hsrc0 hpos.1;have hP:a5 g:=b4.1 g rfl;obtain⟨cs,hcsd⟩:∃ cs:List Value,cs=nums .i64 (l1.take l0.length):=⟨_,rfl⟩;have hcl:cs.length=Nat.min l1.length l0.length:=by rw[hcsd,nums_length,List.length_take];show min l0.length l1.length=min l1.length l0.length;omega
    have hcell:∀ j v,cs[j]?=some v→w.cell? (ad.add j)=some v:=by
      intro j v hj;rw[hcsd] at hj;simp only[nums,List.getElem?_map,Option.map_eq_some_iff] at hj;obtain⟨x,hx,rfl⟩:=hj;rw[List.getElem?_take] at hx;split at hx
      · obtain⟨c,hc,hK,hcc⟩:=hsrc j x hx
        have b6:c=[.int .i64 x]:=hK;have d0:=hcc 0 (.int .i64 x) (by rw[b6];rfl)
        have e:j * (Kd.int IntKind.i64).sz+0=j:=by show j * 1+0=j;omega
        rwa [e] at d0
      · simp at hx
    have hcurl:cur.size=cap:=by simpa using hcs
    have hrun:=run_copy_row (P:=Try.prog) w dT sT ty _ g 0 l0.length cap ad l1.length a7 cur _ cs hu hs hcur hcl hcell (by rw[hcl,hcurl];show 0+min l1.length l0.length≤cap;omega) (by rw[hcsd];intro v hv;simp only[nums,List.mem_map] at hv;obtain⟨x,_,rfl⟩:=hv;rfl)
    refine⟨cs.length,_,hrun,by rw[hcl];rfl,?_,?_,?_⟩
    · refine Kd.R_of_own (xs:=l1.take l0.length ++ l0.drop l1.length) ?_ (fun k hk=>.inl (b4.1 k hk))
      rw[hlen];refine⟨by rw[Nat.mul_one,encs_length];exact hlen,.inr ⟨g,cap,_,rfl,hbg,setRow_heap w g _ _ _ _ hcur,hnc,hcm,?_,?_⟩⟩
      · simp only[List.size_toArray,List.length_append,List.length_take,List.length_drop,Array.length_toList]
        rw[hcl];have:min l1.length l0.length≤cap:=by omega
        show min 0 cur.size+min l1.length l0.length+(cur.size - (0+min l1.length l0.length))=cap * 1
        omega
      · have hm:cs.length=min l1.length l0.length:=hcl
        have b7:cur.toList.take l0.length=nums .i64 l0:=by rw[Nat.mul_one] at htk;rw[htk];rfl
        rw[Nat.mul_one,List.take_zero,List.nil_append,Nat.zero_add,List.toList_toArray,List.take_append,List.take_of_length_le (by omega),List.take_drop]
        have d3:cs.length+(l0.length - cs.length)=l0.length:=by omega
        have d4:(nums .i64 l0).drop cs.length=nums .i64 (l0.drop l1.length):=by
          have d5:(nums .i64 l0).drop cs.length=nums .i64 (l0.drop cs.length):=by simp [nums,List.map_drop]
          rw[d5];have d6:l0.drop cs.length=l0.drop l1.length:=by
            rcases Nat.le_total l1.length l0.length with hh|hh
            · rw[hm,Nat.min_eq_left hh]
            · rw[List.drop_eq_nil_of_le (by omega),List.drop_eq_nil_of_le hh]
          rw[d6]
        rw[d3,b7,d4,hcsd,← nums_append];rfl
    · exact below_setRow hB hbg _
    · exact⟨by simp [World.setRow],fun i hi hne=>setRow_other w g i _ (fun e=>hne (e ▸ hP))⟩

/-- A step's world is above the first one: found among what is known. -/
theorem pB {P:Prop} (h:P:=by repeat(first|(with_reducible first|exact Aside0.out (by assumption)|apply below_alloc|apply pw_below_drewN|apply below_drew1|refine below_set ?_ (Aside0.out (by assumption)))|exact Aside0.out (by assumption))):P:=h
/-- What a box holds,behind draws. -/
theorem kW {w w':World} {g:Nat} {o:Obj} (h:Aside0 (w.heap[g]?=some o)) (f:w.heap[g]?=some o→w'.heap[g]?=some o:=by intro h_;(with_reducible repeat(first|refine blk_drewN ?_ _|refine blk_drew ?_|refine blk_alloc ?_ _));exact h_):w'.heap[g]?=some o:=f h.out
/-- A new box lies above. -/
theorem gW {w w':World} {g:Nat} (hg:g=w'.heap.size) (h:Below w.heap.size w w':=by exact pB):w.heap.size≤g:=by rw[hg];exact below_size h
/-- A row of the call's own,behind draws. -/
theorem rX {α:Type} {d:Kd α} {e base:Nat} {w w':World} {ok:Nat→Prop} {v:Value} {xs:List α} (h:d.R e w base ok v xs) (f:d.R e w base ok v xs→d.R e w' base ok v xs:=by intro h_;(with_reducible repeat(first|apply Kd.R_alloc|apply Kd.R_drewN|apply Kd.R_drew));exact h_):d.R e w' base ok v xs:=f h
/-- A call's arguments,laid out. -/
theorem mA {P:Prop} (h:P:=by(try simp only[List.map_toArray,List.map_cons,List.map_nil]);first|done|rfl|(simp only[List.length_drop,List.length_take];rfl)):P:=h
section
variable {α β γ:Type} {d:Kd α} {d':Kd β} {d2:Kd γ} {e e' e2 base base' b2 g T:Nat} {w w' w0 w1 w2 w3 w4 W:World} {ok ok' ok2:Nat→Prop} {v v0 v1 u:Value} {xs:List α} {ys:List β} {zs:List γ} {A:Option Addr} {n c:Nat} {o:Obj} {cs:Array Value}
theorem rB (h:Aside0 (d.R e w base ok v xs)) (hb:Below w1.heap.size w1 w2) (f:d.R e w base ok v xs→d.R e w1 base ok v xs:=by exact fun h_=>rX h_):Aside0 (d.R e w2 base ok v xs):=⟨Kd.R_below (f h.out) hb⟩
theorem rE (h:Aside0 (d.R e w base ok u xs)) (ho:d'.R e' w3 w1.heap.size ok' v ys) (hb:Below w1.heap.size w1 w2) (f:d.R e w base ok u xs→d.R e w1 base ok u xs:=by exact fun h_=>rX h_):Aside0 (d.R e w2 base (fun k=>ok k∧some k≠v.ownBlock) u xs):=⟨Kd.R_elder' (f h.out) (Kd.R_base ho) hb⟩
theorem rL (ho:d.R e w1 W.heap.size ok v xs) (h:Below w.heap.size w W:=by exact pB):Aside0 (d.R e w1 w.heap.size ok v xs):=⟨Kd.R_lower ho (below_size h)⟩
theorem rn (h:d.R e w1 W.heap.size ok v xs) (hu:Aside0 (d'.R e' w base ok' u ys)) (f:d'.R e' w base ok' u ys→d'.R e' W base ok' u ys:=by exact fun h_=>rX h_):d.R e w1 W.heap.size (fun k=>ok k∧some k≠u.ownBlock) v xs:=Kd.R_new' h (Kd.R_lt (f hu.out))
theorem rT (h:Aside0 (d.R e w base ok v xs)) (hk:Aside0 (w.heap[g]?=some (.cells cs T (0,0)))) (ht:∀ q,q∈e::d.E→q≠T:=by decide) (f:d.R e w base (fun k=>ok k∧k≠g) v xs→d.R e w' base (fun k=>ok k∧k≠g) v xs:=by intro h_;(with_reducible repeat(first|apply Kd.R_alloc|apply Kd.R_drewN|apply Kd.R_drew|refine Kd.R_far ?_ (fun _ hk=>hk.2) _));exact h_):d.R e w' base ok v xs:=Kd.R_mono (f (Kd.R_types h.out hk.out ht)) (fun _ h_=>h_.1)
theorem kb (h:Aside0 (w.heap[g]?=some o)) (hb:Below w1.heap.size w1 w2) (f:w.heap[g]?=some o→w1.heap[g]?=some o:=by exact fun h_=>bD h_):Aside0 (w2.heap[g]?=some o):=⟨blk_below (f h.out) hb⟩
theorem bB (hb:Below W.heap.size W w2) (h:Below w.heap.size w W:=by exact pB):Aside0 (Below w.heap.size w w2):=⟨below_step h hb⟩
theorem gA (w:World) (hg:g=w'.heap.size) (h:Below w.heap.size w w':=by exact pB):Aside0 (w.heap.size≤g):=⟨gW hg h⟩
theorem cR (h:Aside0 (d.R e w base ok (.slice A n c) xs)) (f:d.C w A xs.length xs→d.C w' A xs.length xs:=by exact fun h_=>cX h_):d.C w' A xs.length xs:=f (Kd.R_reads' h.out).2.2
theorem cB (h:Aside0 (d.C w A n xs)) (hb:Below w.heap.size w w':=by exact pB):d.C w' A n xs:=Kd.C_below h.out hb
theorem lR (h:Aside0 (d.R e w base ok (.slice A n c) xs)):n≤c:=(Kd.R_reads' h.out).2.1
theorem bE {α:Type} [DecidableEq α] {a b:α} (h:a=b):(a == b)=true∧(a != b)=false:=⟨beq_iff_eq.mpr h,bne_eq_false_iff_eq.mpr h⟩
theorem bI {α:Type} [DecidableEq α] {a b:α} (h:¬a=b):(a == b)=false∧(a != b)=true:=⟨beq_eq_false_iff_ne.mpr h,bne_iff_ne.mpr h⟩
end
section
variable {P:Program} {ops:Array Oper} {rest:List Oper} {o:Oper} {a:Act} {Q:Exit→Act→World→Prop} {W:World}
theorem gd (N:Tmp) (_hN:o.dst=some N) (h:wpList P ops Q (o::rest) a W):wpList P ops Q (o::rest) a W:=h
theorem gc (f:FuncId) {as_:Array Operand} {ts:Array TypeId} (_ho:o.op=.call { callee:=.value (.func f),args:=as_,argTypes:=ts }) (h:wpList P ops Q (o::rest) a W):wpList P ops Q (o::rest) a W:=h
theorem iLg (N:Tmp) (xs:List Int) (h:∀ v1 w1,(Kd.int .i64).R 3 w1 W.heap.size (fun _=>True) v1 xs→Below W.heap.size W w1→wpList P ops Q rest (a.put o.dst v1) w1) (hd:o.dst=some N:=by rfl) (hw:Region.wanted o (yielded ops a.tmps)=true:=by rfl) (hm:xs.length≤9223372036854775807:=by simp) (hrun:(execOp a.eval o).run P W=.ok (.value (.slice (some ⟨W.heap.size,0,none⟩) xs.length xs.length)) (W.alloc (.cells (xs.map (Value.int .i64)).toArray 3)):=by(simp only[List.map_cons,List.map_nil]);first|(go_simp;done)|(go_simp;rfl)):wpList P ops Q (o::rest) a W:=
  gate_guard hw (Kd.R_lit (Kd.int .i64) (w0:=W) W.heap.size 3 rfl (N:=N) hd (ok:=fun _=>True) (okp:=fun _=>True) hrun (Kd.reps_scalar (enc:=Value.int .i64) xs) (fun _ hk=>hk) trivial (Below.refl _ _) (Nat.le_refl _) hm (fun v1 w1 ho hb _ _=>h v1 w1 ho hb))
theorem iL (N:Tmp) (xs:List Int) (h:∀ v1 w1,(Kd.int .i64).R 3 w1 W.heap.size (fun _=>True) v1 xs→Below W.heap.size W w1→wpList P ops Q rest (a.put o.dst v1) w1) (hd:o.dst=some N:=by rfl) (hgd:o.guard=none:=by rfl) (hm:xs.length≤9223372036854775807:=by simp) (hrun:(execOp a.eval o).run P W=.ok (.value (.slice (some ⟨W.heap.size,0,none⟩) xs.length xs.length)) (W.alloc (.cells (xs.map (Value.int .i64)).toArray 3)):=by(simp only[List.map_cons,List.map_nil]);first|(go_simp;done)|(go_simp;rfl)):wpList P ops Q (o::rest) a W:=
  Kd.R_lit (Kd.int .i64) (w0:=W) W.heap.size 3 hgd hd (ok:=fun _=>True) (okp:=fun _=>True) hrun (Kd.reps_scalar (enc:=Value.int .i64) xs) (fun _ hk=>hk) trivial (Below.refl _ _) (Nat.le_refl _) hm (fun v1 w1 ho hb _ _=>h v1 w1 ho hb)
theorem gC (f:FuncId) (N:Option Tmp) {fn:Func} (hf:P.funcs[f]?=some fn) (args:Array Value) {as_:Array Operand} {ts:Array TypeId} (h:Calls P f args W fun e w'=>∃ v,e=.returned v∧wpList P ops Q rest (a.put N v) w') (hop:o.op=.call { callee:=.value (.func f),args:=as_,argTypes:=ts }:=by with_reducible exact rfl) (hd:o.dst=N:=by rfl) (hg:o.guard=none:=by rfl) (hname:(fn.name == "runtime.NumGoroutine")=false:=by kernel_rfl) (hb:fn.body.isSome=true:=by rfl) (hargs:as_.map a.eval=args:=by exact mA):wpList P ops Q (o::rest) a W:=goesL_ N hd hg hf hname hb args hop hargs h
end
theorem dD {P:Prop} (h:P:=by first|exact⟨rfl,_,World.drewN_drewN _ _ _⟩|exact⟨rfl,_,Eq.trans (World.drewN_drewN _ _ _) (congrArg (World.drewN _) (Nat.add_assoc _ _ _))⟩):P:=h
def bL:Nat→Nat→List Bool
 | 0,_=>[]
 | n+1,m=>(m%2==1)::bL n (m/2)
def bA (n m:Nat):Array Bool:=(bL n m).toArray
theorem bT {α β:Type} {o:Option α} {f:α→Option β} {b:β} (h:o.bind f=some b):∃ a,Aside0 (o=some a)∧f a=some b:=by
 obtain⟨a,h1,h2⟩:=bS h
 exact⟨a,⟨h1⟩,h2⟩
theorem yE {p q:Prop} {α:Type} {a b:α} (hy:a=b) (H:p) (h:a=b→p→q:=by intro hy_ H_;first|(rw[hy_];with_reducible exact H_)|(have H2_:=(Option.bind_some _ _).symm.trans H_;rw[hy_];with_reducible exact H2_)|(have H2_:=(Option.bind_some _ _).symm.trans H_;with_reducible exact H2_)|with_reducible exact H_|(rw[hy_];exact H_)|exact H_):q:=h hy H
theorem iN {c:Prop} [Decidable c] {α:Type} {x:Option α} {r:α} (h:(if c then x else none)=some r):decide c=true∧x=some r:=by
 by_cases hc:c
 · rw[if_pos hc] at h
   exact⟨decide_eq_true hc,h⟩
 · rw[if_neg hc] at h
   cases h
theorem iO {c:Prop} [Decidable c] {α:Type} {x:Option α} {r:α} (h:(if c then x else none)=some r):c∧x=some r:=by
 by_cases hc:c
 · rw[if_pos hc] at h
   exact⟨hc,h⟩
 · rw[if_neg hc] at h
   cases h
theorem aI {k:IntKind} {w:World} {A:Option Addr} {n:Nat} {xs:List Int} (h:(Kd.int k).C w A n xs) (i:Int) (h0:decide (0≤i)=true:=by exact aS) (h1:decide (i<n)=true:=by exact aS):∃ ad,A=some ad∧w.cell? (ad.add i.toNat)=some (.int k (rd xs i))∧(0≤i)=True∧(i<(n:Int))=True:=by
 obtain⟨ad,e,hx⟩:=Kd.at_int h i (oE h0) (oE h1)
 exact⟨ad,e,hx,eq_true (oE h0),eq_true (oE h1)⟩
theorem mM {P:Prop} (h:P:=by with_reducible repeat' first|apply ih0|apply ih1|apply ih2|apply ih3|apply ih4|apply ih5|apply ih6|apply ih7|apply ih8|apply ih9|apply i0|apply i1|apply i2|apply i3|apply i4|apply i5|apply i6|apply i7|apply i8|apply i9|apply i10|apply i11|apply i12|apply i13|apply i14|apply i15|apply i16|apply i17|apply i18|apply i19|apply i20|apply i21|apply i22|apply i23|exact LeO.refl _|exact LeO.none _|refine LeO.ite ?_ ?_|refine LeO.bind ?_ (fun _=>?_)):P:=h
theorem dR {P:Prop} (h:P:=by repeat(first|exact Drawn0.refl _|apply Drawn0.step)):P:=h
theorem nK {P:Prop} (h:P:=by first|exact Kd.R_nil _ _ _ _ _|exact Kd.N_nil _ _ _ _ _|exact Kd.V_nil _ _ _ _ _|exact Kd.Q_nil _ _ _ _ _|exact Kd.S_nil _ _ _ _ _):P:=h
theorem hB {w W:World} {p:Addr} {v:Value} (HB:Aside0 (Below w.heap.size w W)) (hx:w.cell? p=some v):W.cell? p=some v:=(HB.out.cell (World.block_lt_of_cell? w _ hx)).trans hx
theorem rY {α:Type} {d:Kd α} {e base:Nat} {w:World} {ok:Nat→Prop} {v:Value} {xs ys:List α} (hy:Aside0 (ys=xs)) (h:d.R e w base ok v xs):d.R e w base ok v ys:=hy.out ▸ h
theorem bN {b:Bool} (h:¬b=true):b=false:=Bool.eq_false_iff.mpr h
theorem nF:¬(false=true):=by decide
theorem kQ {w w':World} {g T:Nat} {cs cs':Array Value} {o':Obj} (h:Aside0 (w.heap[g]?=some (.cells cs T (0,0)))) (f:w.heap[g]?=some (.cells cs T (0,0))→w'.heap[g]?=some (.cells cs' T (0,0)):=by intro h_;(repeat(first|(with_reducible first|refine blk_drewN ?_ _|refine blk_drew ?_|refine blk_alloc ?_ _|apply blk_set)|apply blk_set));exact h_) (e:Obj.cells cs' T (0,0)=o':=by rfl):w'.heap[g]?=some o':=e ▸ f h.out
theorem eT (i:Int) (h:decide (0≤i)=true:=by exact aS):(0≤i)=True:=eq_true (oE h)
theorem eU (i:Int) (n:Nat) (h:decide (i<(n:Int))=true:=by exact aS):(i<(n:Int))=True:=eq_true (oE h)
theorem q2 {A B:Type} {a a':A} {b b':B} (h:some (a,b)=some (a',b')):a=a'∧b=b':=by simpa only[Option.some.injEq,Prod.mk.injEq] using h
section
variable {P:Program} {ops:Array Oper} {Q:Exit→Act→World→Prop} {md:Region.Mode} {S:World→Prop} {ds:List Nat} {oi:Oper} {v:Value} {fuel:Nat} {l:Array Bool} {a a':Act} {w:World} {T:Bool × List (List Nat × List Nat)} {B:List Nat}
theorem pS (i:Nat) (N:Tmp) (HT:Aside0 (rtab md ops=T)) (h:wpAnyLast P md ops Q S ds fuel (l.setIfInBounds i true) a' w) (hi:ops[i]?=some oi:=by exact rfl) (hN:oi.dst=some N:=by exact rfl) (hc:anyT T l.toList (l.setIfInBounds i true).toList i=true:=by kernel_rfl) (hQ:∀ c a w,Q (.panic c) (a.put oi.dst v) w→Q (.panic c) a w:=by exact fun _ _ _ h=>h) (h1:Region.wanted oi (yielded ops a.tmps)=true:=by rfl) (hv:∀ w,(execOp a.eval oi).run P w=.ok (.value v) w:=by intro w';go_simp;with_reducible rfl) (ha:a.put (some N) v=a':=by simp only[Act.put,sA,sZ,sC,i64_w,i32_w];rfl):wpAnyLast P md ops Q S ds (fuel+1) l a w:=
  pure_ _ hi hN (any_of HT.out hc) hQ (Or.inl ⟨h1,hv⟩) ha h
theorem pN (i:Nat) (N:Tmp) (HT:Aside0 (rtab md ops=T)) (h:wpAnyLast P md ops Q S ds fuel (l.setIfInBounds i true) a' w) (hi:ops[i]?=some oi:=by exact rfl) (hN:oi.dst=some N:=by exact rfl) (hc:anyT T l.toList (l.setIfInBounds i true).toList i=true:=by kernel_rfl) (hQ:∀ c a w,Q (.panic c) (a.put oi.dst undef) w→Q (.panic c) a w:=by exact fun _ _ _ h=>h) (hy:Region.wanted oi (yielded ops a.tmps)=false∧undef=undef:=by exact⟨by rfl,rfl⟩) (ha:a.put (some N) undef=a':=by simp only[Act.put,sA,sZ,sC,i64_w,i32_w];rfl):wpAnyLast P md ops Q S ds (fuel+1) l a w:=
  pure_ _ hi hN (any_of HT.out hc) hQ (Or.inr hy) ha h
theorem tU (i:Nat) (N:Tmp) (HT:Aside0 (rtab md ops=T)) (HW:Aside0 (waitsOk T.2 B=true)) (hS:S w) (h:wpAnyLast P md ops Q S ds fuel (l.setIfInBounds i true) a' w) (hi:ops[i]?=some oi:=by exact rfl) (hN:oi.dst=some N:=by exact rfl) (hc:takeW T B ds l.toList (l.setIfInBounds i true).toList i=true:=by kernel_rfl) (hQ:∀ c a w,Q (.panic c) (a.put oi.dst v) w→Q (.panic c) a w:=by exact fun _ _ _ h=>h) (h1:Region.wanted oi (yielded ops a.tmps)=true:=by rfl) (hv:∀ w,S w→(execOp a.eval oi).run P w=.ok (.value v) w:=by intro w' hs_;(repeat obtain⟨s_,hs_⟩:=hs_);go_simp;with_reducible rfl) (ha:a.put (some N) v=a':=by simp only[Act.put,sA,sZ,sC,i64_w,i32_w];rfl):wpAnyLast P md ops Q S ds (fuel+1) l a w:=
  take_ _ hi hN (take_ofW HT.out HW.out hc) hQ (Or.inl ⟨h1,hv⟩) hS ha h
theorem oU (i:Nat) (N:Option Tmp) (HT:Aside0 (rtab md ops=T)) (h:∀ K:Act→World→Prop,Shut (∀ a' w',S w'→(S w'→wpAnyLast P md ops Q S ds fuel (l.setIfInBounds i true) a' w')→K a' w')→if Region.wanted oi (yielded ops a.tmps)=true then Oper.wp P oi a w K Q else K (a.put N undef) w) (hi:ops[i]?=some oi:=by exact rfl) (hN:oi.dst=N:=by exact rfl) (hc:(readyT T.2 l.toList==[i]&&l.toList.set i true==(l.setIfInBounds i true).toList)=true:=by kernel_rfl) (hd:i∉ds:=by decide):wpAnyLast P md ops Q S ds (fuel+1) l a w:=
  one_ _ hi hN (one_of HT.out hc) hd h
theorem lU (i:Nat) (N:Option Tmp) (HT:Aside0 (rtab md ops=T)) (h:∀ K:Act→World→Prop,Shut (∀ a' w',wpAnyLast P md ops Q S ds fuel (l.setIfInBounds i true) a' w'→K a' w')→if Region.wanted oi (yielded ops a.tmps)=true then Oper.wp P oi a w K Q else K (a.put N undef) w) (hi:ops[i]?=some oi:=by exact rfl) (hN:oi.dst=N:=by exact rfl) (hc:(readyT T.2 l.toList==[i]&&l.toList.set i true==(l.setIfInBounds i true).toList)=true:=by kernel_rfl) (hd:i∈ds:=by decide):wpAnyLast P md ops Q S ds (fuel+1) l a w:=
  last_ _ hi hN (one_of HT.out hc) hd h
theorem nm (N:Tmp) {a0:Act} (h:wpAnyLast P md ops Q S ds fuel l a' w) (ha:Act.put a0 (some N) v=a':=by simp only[Act.put,sA,sZ,sC,i64_w,i32_w];rfl):wpAnyLast P md ops Q S ds fuel l (Act.put a0 (some N) v) w:=norm_ ha h
end
abbrev oN (A:Option Addr) (n c k:Nat):Prop:=some k≠(.slice A n c:Value).ownBlock
abbrev oV (v:Value) (k:Nat):Prop:=some k≠v.ownBlock
abbrev rI (W w:World) (ok:Nat→Prop) (v:Value) (l:List Int):Prop:=Kd.R (Kd.int .i64) 3 W w.heap.size ok v l
abbrev cI (w:World) (A:Option Addr) (l:List Int):Prop:=Kd.C (Kd.int .i64) w A l.length l
abbrev bw (w W:World):Prop:=Below w.heap.size w W
section
variable {P:Program} {ops:Array Oper} {rest:List Oper} {o:Oper} {a:Act} {Q:Exit→Act→World→Prop} {W:World}
end
theorem iD {c:Prop} [Decidable c] {α:Type} {x y:Option α} {r:α} (h:(if c then x else y)=some r):(decide c=true∧x=some r)∨(decide c=false∧y=some r):=by
 by_cases hc:c
 · rw[if_pos hc] at h
   exact .inl ⟨decide_eq_true hc,h⟩
 · rw[if_neg hc] at h
   exact .inr ⟨decide_eq_false hc,h⟩
theorem iE {β:Type} [DecidableEq β] {u v:β} {α:Type} {x y:Option α} {r:α} (h:(if u=v then x else y)=some r):((u == v)=true∧(u != v)=false∧x=some r)∨(¬u=v∧(u == v)=false∧(u != v)=true∧y=some r):=by
 by_cases hc:u=v
 · rw[if_pos hc] at h
   exact .inl ⟨(bE hc).1,(bE hc).2,h⟩
 · rw[if_neg hc] at h
   exact .inr ⟨hc,(bI hc).1,(bI hc).2,h⟩
section
variable {P:Program} {ops:Array Oper} {Q:Exit→Act→World→Prop} {md:Region.Mode} {S:World→Prop} {ds:List Nat} {oi:Oper} {v:Value} {fuel:Nat} {l:Array Bool} {a a':Act} {w:World}
theorem pV (i:Nat) (N:Tmp) (l':Array Bool) (h:wpAnyLast P md ops Q S ds fuel l' a' w) (hi:ops[i]?=some oi:=by exact rfl) (hN:oi.dst=some N:=by exact rfl) (hc:anyB md ops l l' i=true:=by kernel_rfl) (hQ:∀ c a w,Q (.panic c) (a.put oi.dst v) w→Q (.panic c) a w:=by exact fun _ _ _ h=>h) (h1:Region.wanted oi (yielded ops a.tmps)=true:=by rfl) (hv:∀ w,(execOp a.eval oi).run P w=.ok (.value v) w:=by intro w';go_simp;with_reducible rfl) (ha:a.put (some N) v=a':=by simp only[Act.put,sA,sZ,sC,i64_w,i32_w];rfl):wpAnyLast P md ops Q S ds (fuel+1) l a w:=
  pure_ l' hi hN hc hQ (Or.inl ⟨h1,hv⟩) ha h
end




def Bzb.l0:Nat→List Int→Int→Int→Option (Bool)
 | 0,_,_,_=>none
 | k+1,x5,x6,x7=>if x7 < x6 then(if 0≤x7 then(if x7 < (x5.length:Int) then(if(rd x5 x7) < (-1125899906842624) then(some false) else(if(rd x5 x7) > 1125899906842624 then(some false) else(Bzb.l0 k x5 x6 (wrap64 (x7+1))))) else(none)) else(none)) else(some true)
def Bzb.f (k:Nat) (l0:List Int):Option (Bool):=Bzb.l0 k l0 (l0.length:Int) 0
theorem Bzb.mono_l:∀ k,(∀ a5 a6 a7,LeO (Bzb.l0 k a5 a6 a7) (Bzb.l0 (k+1) a5 a6 a7))
 | 0=>fun _ _ _ r h=>by simp [Bzb.l0] at h
 | k+1=>by
  have ih0:=Bzb.mono_l k
  ·intro a5 a6 a7;unfold Bzb.l0;exact mM
theorem Bzb.mono:∀ a5 k,LeO (Bzb.f k a5) (Bzb.f (k+1) a5):=by
 intro a5 k;have ih0:=Bzb.mono_l k;unfold Bzb.f;exact mM
theorem Bzb.calls (k:Nat) (a5:Option Addr) (a6:Nat) (l0:List Int) (r:Bool) (w:World) (a7:cI w a5 l0) (a8:l0.length≤a6) (h:Bzb.f k l0=some r) :
  Calls Try.prog 30 #[.slice a5 l0.length a6] w fun e w'=>e=.returned (.bool r)∧Drawn0 w w':=by
 have a9:=aM a7;have b3:=aM a8;clear a7 a8;have H:(Bzb.l0 k l0 (l0.length:Int) 0)=some r:=h;clear h;have H':=aM H;clear H;go_enter Try.func30,Try.ntmps30
 go_wp2
 go_loopg [7] k (fun kq b4 w'=>∃ (b5:Int),b4=.int .i64 b5∧Aside0 (Bzb.l0 kq l0 (l0.length:Int) b5=some r)∧Aside0 (kq≤k)∧Drawn0 w w')
 case atStart=>exact⟨(0),sD,H',⟨Nat.le_refl _⟩,dR⟩
 case round =>
  clear H';obtain⟨b5,rfl,HA,b6,⟨b7,rfl⟩⟩:=hrel;cases gk with
  | zero=>exact absurd HA.out (by simp [Bzb.l0])
  | succ k1 =>
   have H:=HA.out;clear HA;simp only[Bzb.l0] at H;replace H:=iD H;rcases H with⟨b8,H⟩|⟨b8,H⟩
   ·obtain⟨b9,H⟩:=iN H;obtain⟨d0,H⟩:=iN H;replace H:=iD H;rcases H with⟨d3,H⟩|⟨d3,H⟩
    ·obtain rfl:=Option.some.inj H;obtain⟨d4,d5,d6,d7,d8⟩:=aI a9.out b5;cases d5;go_wp2
     go_ret
     exact⟨sD,dR⟩
    ·by_cases c6:(rd l0 b5) > 1125899906842624
     ·rw[if_pos c6] at H;have d9:decide (1125899906842624 < (rd l0 b5))=true:=dE c6;clear c6;obtain rfl:=Option.some.inj H;obtain⟨d4,d5,d6,d7,d8⟩:=aI a9.out b5;cases d5;go_wp2
      go_ret
      exact⟨sD,dR⟩
     ·rw[if_neg c6] at H;have d9:decide (1125899906842624 < (rd l0 b5))=false:=decide_eq_false c6;clear c6;have H':=aM H;clear H;obtain⟨d4,d5,d6,d7,d8⟩:=aI a9.out b5;cases d5;go_wp2
      go_roundg k1
      case measure=>have:=b6.out;omega
      case rel=>exact⟨(wrap64 (b5+1)),sD,H',⟨by have:=b6.out;omega⟩,dR⟩
   ·obtain rfl:=Option.some.inj H;go_wp2
    go_ret
    exact⟨sD,dR⟩

def Czy.f (k:Nat) (a0:Int):Option (Int × Int):=(Bzb.f k (([a0]:List Int))).bind fun t105=>(if t105=true then(some (a0,0)) else(some (0,2)))
theorem Czy.mono:∀ a5 k,LeO (Czy.f k a5) (Czy.f (k+1) a5):=by
 intro a5 k;unfold Czy.f;have i0:=@Bzb.mono;exact mM
theorem Czy.calls (k:Nat) (a5:Int) (a6:Int) (a7:Int) (w:World) (h:Czy.f k a5=some (a6,a7)) :
  Calls Try.prog 31 #[.int .i64 a5] w fun e w'=>e=.returned (.tuple #[.int .i64 a6,.int .i64 a7])∧bw w w':=by
 have HB:=aM (Below.refl w.heap.size w);have H:((Bzb.f k (([a5]:List Int))).bind fun a8=>(if a8=true then(some (a5,0)) else(some (0,2))))=some (a6,a7):=h
 clear h;obtain⟨a9,b3⟩:∃ y_:List Int,y_=(([a5]:List Int)):=⟨_,rfl⟩;replace H:((Bzb.f k a9).bind fun a8=>(if a8=true then(some (a5,0)) else(some (0,2))))=some (a6,a7):=yE b3 H
 have b4:=aM b3;clear b3;obtain⟨a8,b5,H⟩:=bT H;(try dsimp only at H);by_cases c3:a8=true
 ·subst c3;rw[if_pos rfl] at H;obtain⟨rfl,rfl⟩:=q2 H;go_enter Try.func31,Try.ntmps31
  go_wp2_with (first|((with_reducible refine gd 5 rfl ?_);refine iL 5 [a5] ?_;intro b6 b7 b8 hb;replace b8:=rY b4 b8;have b9:=rL b8;replace HB:=bB hb;clear hb b8;obtain⟨d0,d3,rfl⟩:=Kd.R_slice b9.out)|((with_reducible refine gc 30 rfl ?_);refine gC 30 (some 6) Try.func30 #[.slice d0 a9.length d3] ?_;(with_reducible refine(Bzb.calls k _ _ a9 true _ ?_ ?_ b5.out).mono ?_);exact cR b9;exact lR b9;rintro e w' ⟨rfl,⟨nd,rfl⟩⟩;refine⟨_,rfl,?_⟩))
  go_ret2
  exact⟨eW,pB⟩
 ·obtain rfl:=bN c3;rw[if_neg nF] at H
  obtain⟨rfl,rfl⟩:=q2 H;go_enter Try.func31,Try.ntmps31
  go_wp2_with (first|((with_reducible refine gd 5 rfl ?_);refine iL 5 [a5] ?_;intro b6 d4 d5 hb;replace d5:=rY b4 d5;have b9:=rL d5;replace HB:=bB hb;clear hb d5;obtain⟨d6,d7,rfl⟩:=Kd.R_slice b9.out)|((with_reducible refine gc 30 rfl ?_);refine gC 30 (some 6) Try.func30 #[.slice d6 a9.length d7] ?_;(with_reducible refine(Bzb.calls k _ _ a9 false _ ?_ ?_ b5.out).mono ?_);exact cR b9;exact lR b9;rintro e w' ⟨rfl,⟨nd,rfl⟩⟩;refine⟨_,rfl,?_⟩))
  go_ret2
  exact⟨eW,pB⟩

def Czw.l0:Nat→Int→Int→List Int→Int→Int→Option (Int × Int)
 | 0,_,_,_,_,_=>none
 | k+1,x4,x5,x14,x15,x16=>if x16 < x15 then(if 0≤x16 then(if x16 < (x14.length:Int) then(Czw.l0 k (wrap64 (x4+(wrap64 (Int.tdiv (rd x14 x16) 33554432)))) (wrap64 (x5+(Int.tmod (rd x14 x16) 33554432))) x14 x15 (wrap64 (x16+1))) else(none)) else(none)) else(if(wrap64 (x4+(wrap64 (Int.tdiv x5 33554432)))) > 33554433 then(some (0,2)) else(if(wrap64 (x4+(wrap64 (Int.tdiv x5 33554432)))) < (-33554433) then(some (0,2)) else((Czy.f k (wrap64 ((wrap64 ((wrap64 (x4+(wrap64 (Int.tdiv x5 33554432)))) * 33554432))+(Int.tmod x5 33554432)))).bind fun bt108=>(some (bt108.1,bt108.2)))))
def Czw.f (k:Nat) (l0:List Int):Option (Int × Int):=if(l0.length:Int) > 65536 then(some (0,8)) else((Bzb.f k l0).bind fun t106=>(if t106=true then(Czw.l0 k 0 0 l0 (l0.length:Int) 0) else(some (0,1))))
theorem Czw.mono_l:∀ k,(∀ a5 a6 a7 a8 a9,LeO (Czw.l0 k a5 a6 a7 a8 a9) (Czw.l0 (k+1) a5 a6 a7 a8 a9))
 | 0=>fun _ _ _ _ _ r h=>by simp [Czw.l0] at h
 | k+1=>by
  have ih0:=Czw.mono_l k
  ·intro a5 a6 a7 a8 a9;unfold Czw.l0;have i0:=@Bzb.mono;have i1:=@Czy.mono;exact mM
theorem Czw.mono:∀ a5 k,LeO (Czw.f k a5) (Czw.f (k+1) a5):=by
 intro a5 k;have ih0:=Czw.mono_l k;unfold Czw.f;have i0:=@Bzb.mono;have i1:=@Czy.mono;exact mM
theorem Czw.calls (k:Nat) (a5:Option Addr) (a6:Nat) (l0:List Int) (a7:Int) (a8:Int) (w:World) (a9:cI w a5 l0) (b3:l0.length≤a6) (h:Czw.f k l0=some (a7,a8)) :
  Calls Try.prog 22 #[.slice a5 l0.length a6] w fun e w'=>e=.returned (.tuple #[.int .i64 a7,.int .i64 a8])∧bw w w':=by
 have b4:=aM a9;have b5:=aM b3;clear a9 b3;have HB:=aM (Below.refl w.heap.size w);have H:(if(l0.length:Int) > 65536 then(some (0,8)) else((Bzb.f k l0).bind fun b6=>(if b6=true then(Czw.l0 k 0 0 l0 (l0.length:Int) 0) else(some (0,1)))))=some (a7,a8):=h
 clear h;by_cases c2:(l0.length:Int) > 65536
 ·rw[if_pos c2] at H;have b7:decide (65536 < (l0.length:Int))=true:=dE c2;have b8:decide (65536 < l0.length)=true:=dE (by omega)
  clear c2;obtain⟨rfl,rfl⟩:=q2 H;go_enter Try.func22,Try.ntmps22
  go_wp2
  go_ret2
  exact⟨eW,pB⟩
 ·rw[if_neg c2] at H;have b7:decide (65536 < (l0.length:Int))=false:=decide_eq_false c2;have b8:decide (65536 < l0.length)=false:=decide_eq_false (by omega)
  clear c2;obtain⟨b6,b9,H⟩:=bT H;(try dsimp only at H);by_cases c4:b6=true
  ·subst c4;rw[if_pos rfl] at H;have H':=aM H;clear H;go_enter Try.func22,Try.ntmps22
   go_wp2_with (first|((with_reducible refine gc 30 rfl ?_);refine gC 30 (some 12) Try.func30 #[.slice a5 l0.length a6] ?_;(with_reducible refine(Bzb.calls k _ _ l0 true _ ?_ ?_ b9.out).mono ?_);exact cX b4.out;exact b5.out;rintro e w' ⟨rfl,⟨nd,rfl⟩⟩;refine⟨_,rfl,?_⟩))
   try simp only[Act.put,sA,sZ,sC]
   go_loopg [4,5,16] k (fun kq d0 d3 d4 w'=>∃ (d5:Int) (d6:Int) (d7:Int),d0=.int .i64 d5∧d3=.int .i64 d6∧d4=.int .i64 d7∧Aside0 (Czw.l0 kq d5 d6 l0 (l0.length:Int) d7=some (a7,a8))∧Aside0 (kq≤k)∧Aside0 (bw w w'))
   case atStart=>exact⟨(0),(0),(0),sD,sD,sD,H',⟨Nat.le_refl _⟩,⟨pB⟩⟩
   case round =>
    clear H';try clear c2
    obtain⟨d5,d6,d7,rfl,rfl,rfl,HA,d8,HB⟩:=hrel;cases gk with
    | zero=>exact absurd HA.out (by simp [Czw.l0])
    | succ k1 =>
     have H:=HA.out;clear HA;simp only[Czw.l0] at H;replace H:=iD H;rcases H with⟨d9,H⟩|⟨d9,H⟩
     ·obtain⟨e0,H⟩:=iN H;obtain⟨e8,H⟩:=iN H;have H':=aM H;clear H;obtain⟨f2,f3,f4,f5,f6⟩:=aI b4.out d7;cases f3
      replace f4:=hB HB f4;go_wp2
      go_roundg k1
      case measure=>have:=d8.out;omega
      case rel=>exact⟨(wrap64 (d5+(wrap64 (Int.tdiv (rd l0 d7) 33554432)))),(wrap64 (d6+(Int.tmod (rd l0 d7) 33554432))),(wrap64 (d7+1)),sD,sD,sD,H',⟨by have:=d8.out;omega⟩,⟨pB⟩⟩
     ·by_cases c8:(wrap64 (d5+(wrap64 (Int.tdiv d6 33554432)))) > 33554433
      ·rw[if_pos c8] at H;have f7:decide (33554433 < (wrap64 (d5+(wrap64 (Int.tdiv d6 33554432)))))=true:=dE c8;have f9:decide (33554433 < (IntKind.i64.wrap (d5+(IntKind.i64.wrap (Int.tdiv d6 33554432)))))=true:=by have h_:=f7;first|exact h_|(simp only[i64_w];exact h_)
       clear c8;obtain⟨rfl,rfl⟩:=q2 H;go_wp2
       go_ret2
       exact⟨eW,pB⟩
      ·rw[if_neg c8] at H;have f7:decide (33554433 < (wrap64 (d5+(wrap64 (Int.tdiv d6 33554432)))))=false:=decide_eq_false c8;have f9:decide (33554433 < (IntKind.i64.wrap (d5+(IntKind.i64.wrap (Int.tdiv d6 33554432)))))=false:=by have h_:=f7;first|exact h_|(simp only[i64_w];exact h_)
       clear c8;by_cases c9:(wrap64 (d5+(wrap64 (Int.tdiv d6 33554432)))) < (-33554433)
       ·rw[if_pos c9] at H;have g4:decide ((wrap64 (d5+(wrap64 (Int.tdiv d6 33554432)))) < (-33554433))=true:=dE c9;have g5:decide ((IntKind.i64.wrap (d5+(IntKind.i64.wrap (Int.tdiv d6 33554432)))) < (-33554433))=true:=by have h_:=g4;first|exact h_|(simp only[i64_w];exact h_)
        clear c9;obtain⟨rfl,rfl⟩:=q2 H;go_wp2
        go_ret2
        exact⟨eW,pB⟩
       ·rw[if_neg c9] at H;have g4:decide ((wrap64 (d5+(wrap64 (Int.tdiv d6 33554432)))) < (-33554433))=false:=decide_eq_false c9;have g5:decide ((IntKind.i64.wrap (d5+(IntKind.i64.wrap (Int.tdiv d6 33554432)))) < (-33554433))=false:=by have h_:=g4;first|exact h_|(simp only[i64_w];exact h_)
        clear c9;replace H:=bS H;obtain⟨⟨g6,g7⟩,g8,H⟩:=H;replace H:(some (g6,g7))=some (a7,a8):=H;have g9:=aM g8;clear g8;obtain⟨rfl,rfl⟩:=q2 H;go_wp2_with (first|((with_reducible refine gc 31 rfl ?_);refine gC 31 (some 45) Try.func31 #[.int .i64 (wrap64 ((wrap64 ((wrap64 (d5+(wrap64 (Int.tdiv d6 33554432)))) * 33554432))+(Int.tmod d6 33554432)))] ?_;(with_reducible refine(Czy.calls k1 (wrap64 ((wrap64 ((wrap64 (d5+(wrap64 (Int.tdiv d6 33554432)))) * 33554432))+(Int.tmod d6 33554432))) g6 g7 _ g9.out).mono ?_);rintro e j2 ⟨rfl,hb⟩;refine⟨_,rfl,?_⟩;replace HB:=bB hb;clear hb))
        go_ret2
        exact⟨eW,pB⟩
  ·obtain rfl:=bN c4;rw[if_neg nF] at H
   obtain⟨rfl,rfl⟩:=q2 H;go_enter Try.func22,Try.ntmps22
   go_wp2_with (first|((with_reducible refine gc 30 rfl ?_);refine gC 30 (some 12) Try.func30 #[.slice a5 l0.length a6] ?_;(with_reducible refine(Bzb.calls k _ _ l0 false _ ?_ ?_ b9.out).mono ?_);exact cX b4.out;exact b5.out;rintro e w' ⟨rfl,⟨nd,rfl⟩⟩;refine⟨_,rfl,?_⟩))
   go_ret2
   exact⟨eW,pB⟩

def Czx.f (a0:Int):Option (Bool):=if a0 < 0 then(some true) else(some (decide (a0 > 1125899906842624)))
theorem Czx.calls (a5:Int) (r:Bool) (w:World) (h:Czx.f a5=some r) :
  Calls Try.prog 24 #[.int .i64 a5] w fun e w'=>e=.returned (.bool r)∧Drawn0 w w':=by
 have H:(if a5 < 0 then(some true) else(some (decide (a5 > 1125899906842624))))=some r:=h
 clear h;replace H:=iD H;rcases H with⟨a6,H⟩|⟨a6,H⟩
 ·obtain rfl:=Option.some.inj H;go_enter Try.func24,Try.ntmps24
  go_wp2
  go_ret
  exact⟨sD,dR⟩
 ·obtain rfl:=Option.some.inj H;go_enter Try.func24,Try.ntmps24
  go_wp2
  go_ret
  exact⟨sD,dR⟩


def Bzz.l0:Nat→List Int→Int→Int→Option (Int)
 | 0,_,_,_=>none
 | k+1,x0,x7,x8=>if x8 < x7 then(if 0≤x8 then(if x8 < (x0.length:Int) then((Czx.f (rd x0 x8)).bind fun t111=>(if t111=true then(some x8) else(Bzz.l0 k x0 x7 (wrap64 (x8+1))))) else(none)) else(none)) else(some (-1))
def Bzz.f (k:Nat) (l0:List Int)  : Option (Int):=Bzz.l0 k l0 (l0.length:Int) 0
theorem Bzz.mono_l:∀ k,(∀ a5 a6 a7,LeO (Bzz.l0 k a5 a6 a7) (Bzz.l0 (k+1) a5 a6 a7))
 | 0=>fun _ _ _ r h=>by simp [Bzz.l0] at h
 | k+1=>by
  have ih0:=Bzz.mono_l k
  ·intro a5 a6 a7;unfold Bzz.l0;exact mM
theorem Bzz.mono:∀ a5 k,LeO (Bzz.f k a5) (Bzz.f (k+1) a5):=by
 intro a5 k;have ih0:=Bzz.mono_l k;unfold Bzz.f;exact mM
theorem Bzz.calls (k:Nat) (a5:Option Addr) (a6:Nat) (l0:List Int)  (r:Int) (w:World) (a7:cI w a5 l0) (a8:l0.length≤a6) (h:Bzz.f k l0=some r) :
  Calls Try.prog 29 #[.slice a5 l0.length a6,.func (.func 24) #[] #[]] w fun e w'=>e=.returned (.int .i64 r)∧Drawn0 w w':=by
 have a9:=aM a7;have b3:=aM a8;clear a7 a8;have H:(Bzz.l0 k l0 (l0.length:Int) 0)=some r:=h;clear h;have H':=aM H;clear H;go_enter Try.func29,Try.ntmps29
 go_wp2
 go_loopg [8] k (fun kq b4 w'=>∃ (b5:Int),b4=.int .i64 b5∧Aside0 (Bzz.l0 kq l0 (l0.length:Int) b5=some r)∧Aside0 (kq≤k)∧Drawn0 w w')
 case atStart=>exact⟨(0),sD,H',⟨Nat.le_refl _⟩,dR⟩
 case round =>
  clear H';try clear p2
  obtain⟨b5,rfl,HA,b6,⟨b7,rfl⟩⟩:=hrel;cases gk with
  | zero=>exact absurd HA.out (by simp [Bzz.l0])
  | succ k1 =>
   have H:=HA.out;clear HA;simp only[Bzz.l0] at H;replace H:=iD H;rcases H with⟨b8,H⟩|⟨b8,H⟩
   ·obtain⟨b9,H⟩:=iN H;obtain⟨d0,H⟩:=iN H;obtain⟨d3,d4,H⟩:=bT H;(try dsimp only at H);by_cases c7:d3=true
    ·subst c7;rw[if_pos rfl] at H;obtain rfl:=Option.some.inj H;obtain⟨d5,d6,d7,d8,d9⟩:=aI a9.out b5;cases d6;go_wp2_with (first|(go_at_call 24;(with_reducible refine(Czx.calls (rd l0 b5) true _ d4.out).mono ?_);rintro e w' ⟨rfl,⟨nd,rfl⟩⟩))
     go_ret
     exact⟨sD,dR⟩
    ·obtain rfl:=bN c7;rw[if_neg nF] at H
     have H':=aM H;clear H;obtain⟨d5,d6,d7,d8,d9⟩:=aI a9.out b5;cases d6;go_wp2_with (first|(go_at_call 24;(with_reducible refine(Czx.calls (rd l0 b5) false _ d4.out).mono ?_);rintro e w' ⟨rfl,⟨nd,rfl⟩⟩))
     go_roundg k1
     case measure=>have:=b6.out;omega
     case rel=>exact⟨(wrap64 (b5+1)),sD,H',⟨by have:=b6.out;omega⟩,dR⟩
   ·obtain rfl:=Option.some.inj H;go_wp2
    go_ret
    exact⟨sD,dR⟩

def Bzy.f (k:Nat) (l0:List Int)  : Option (Bool):=(Bzz.f k l0).bind fun t112=>(some (decide (t112≥0)))
theorem Bzy.mono:∀ a5 k,LeO (Bzy.f k a5) (Bzy.f (k+1) a5):=by
 intro a5 k;unfold Bzy.f;have i0:=@Bzz.mono;exact mM
theorem Bzy.calls (k:Nat) (a5:Option Addr) (a6:Nat) (l0:List Int)  (r:Bool) (w:World) (a7:cI w a5 l0) (a8:l0.length≤a6) (h:Bzy.f k l0=some r) :
  Calls Try.prog 20 #[.slice a5 l0.length a6,.func (.func 24) #[] #[]] w fun e w'=>e=.returned (.bool r)∧Drawn0 w w':=by
 have a9:=aM a7;have b3:=aM a8;clear a7 a8;have H:((Bzz.f k l0).bind fun b4=>(some (decide (b4≥0))))=some r:=h
 clear h;replace H:=bS H;obtain⟨b4,b5,H⟩:=H;replace H:(some (decide (b4≥0)))=some r:=H;have b6:=aM b5;clear b5;obtain rfl:=Option.some.inj H;go_enter Try.func20,Try.ntmps20
 go_wp2_with (first|((with_reducible refine gc 29 rfl ?_);refine gC 29 (some 7) Try.func29 #[.slice a5 l0.length a6,.func (.func 24) #[] #[]] ?_;(with_reducible refine(Bzz.calls k _ _ l0  b4 _ ?_ ?_ b6.out).mono ?_);exact cX a9.out;exact b3.out;rintro e w' ⟨rfl,⟨nd,rfl⟩⟩;refine⟨_,rfl,?_⟩))
 go_ret
 exact⟨sD,dR⟩

def Bzf.j0:Nat→Int→List Int→Bool→Option (Int × Int)
 | 0,_,_,_=>none
 | k+1,x0,x1,x8=>if x8=true then(some (0,1)) else(if(x1.length:Int)=0 then(some (0,10)) else(if(x1.length:Int) > 512 then(some (0,8)) else((Bzy.f k x1).bind fun t113=>(if t113=true then(some (0,1)) else((Czw.f k x1).bind fun bt114=>(if bt114.2=0 then(if bt114.1=0 then(if x0 > 0 then(some (0,16)) else(some (bt114.1,0))) else(some (bt114.1,0))) else(some (0,2))))))))
def Bzf.f (k:Nat) (a0:Int) (l1:List Int):Option (Int × Int):=if a0 < 0 then(Bzf.j0 k a0 l1 true) else(Bzf.j0 k a0 l1 (decide (a0 > 1125899906842624)))
theorem Bzf.mono_l:∀ k,(∀ a5 a6 a7,LeO (Bzf.j0 k a5 a6 a7) (Bzf.j0 (k+1) a5 a6 a7))
 | 0=>fun _ _ _ r h=>by simp [Bzf.j0] at h
 | k+1=>by
  have ih0:=Bzf.mono_l k
  ·intro a5 a6 a7;unfold Bzf.j0;have i0:=@Czw.mono;have i1:=@Bzy.mono;exact mM
theorem Bzf.mono:∀ a5 a6 k,LeO (Bzf.f k a5 a6) (Bzf.f (k+1) a5 a6):=by
 intro a5 a6 k;have ih0:=Bzf.mono_l k;unfold Bzf.f;have i0:=@Czw.mono;have i1:=@Bzy.mono;exact mM
theorem Bzf.calls (k:Nat) (a5:Int) (a6:Option Addr) (a7:Nat) (l1:List Int) (a8:Int) (a9:Int) (w:World) (b3:cI w a6 l1) (b4:l1.length≤a7) (h:Bzf.f k a5 l1=some (a8,a9)) :
  Calls Try.prog 13 #[.int .i64 a5,.slice a6 l1.length a7] w fun e w'=>e=.returned (.tuple #[.int .i64 a8,.int .i64 a9])∧bw w w':=by
 have b5:=aM b3;have b6:=aM b4;clear b3 b4;have HB:=aM (Below.refl w.heap.size w);have H:(if a5 < 0 then(Bzf.j0 k a5 l1 true) else(Bzf.j0 k a5 l1 (decide (a5 > 1125899906842624))))=some (a8,a9):=h
 clear h;have b7:=aM H;clear H;go_enter Try.func13,Try.ntmps13
 go_upto_region 1 with (fail)
 go_cut [8] (fun b8 wc=>∃ (kq:Nat) (b9:Bool),b8=.bool b9∧Aside0 (Bzf.j0 kq a5 l1 b9=some (a8,a9))∧Aside0 (kq≤k)∧Aside0 (bw w wc))
 case first =>
  have H:=b7.out;clear b7;replace H:=iD H;rcases H with⟨d0,H⟩|⟨d0,H⟩
  ·(first|rw[d0]|(simp only[i64_w,i32_w];rw[d0])|skip)
   have H':=aM H;clear H;go_wp2
   go_meet
   case rel=>exact⟨_,(true),sD,H',⟨by first|omega|exact Nat.le_refl _⟩,⟨pB⟩⟩
  ·(first|rw[d0]|(simp only[i64_w,i32_w];rw[d0])|skip)
   have H':=aM H;clear H;go_wp2
   go_meet
   case rel=>exact⟨_,(decide (a5 > 1125899906842624)),sD,H',⟨by first|omega|exact Nat.le_refl _⟩,⟨pB⟩⟩
 case rest =>
  clear b7;try clear a7
  obtain⟨kq,b9,rfl,HA,d3,HB⟩:=hcut;cases kq with
  | zero=>exact absurd HA.out (by simp [Bzf.j0])
  | succ d4 =>
   have H:=HA.out;clear HA;simp only[Bzf.j0] at H;by_cases c5:b9=true
   ·subst c5;rw[if_pos rfl] at H;obtain⟨rfl,rfl⟩:=q2 H;go_wp2
    go_ret2
    exact⟨eW,pB⟩
   ·obtain rfl:=bN c5;rw[if_neg nF] at H
    replace H:=iE H;rcases H with⟨d5,d6,H⟩|⟨c6,d5,d6,H⟩
    ·obtain⟨rfl,rfl⟩:=q2 H;go_wp2
     go_ret2
     exact⟨eW,pB⟩
    ·have d7:¬ (l1=[]):=fun h_=>c6 (by rw[h_];rfl)
     by_cases c7:(l1.length:Int) > 512
     ·rw[if_pos c7] at H;have d8:decide (512 < (l1.length:Int))=true:=dE c7;have d9:decide (512 < l1.length)=true:=dE (by omega)
      clear c7;obtain⟨rfl,rfl⟩:=q2 H;go_wp2
      go_ret2
      exact⟨eW,pB⟩
     ·rw[if_neg c7] at H;have d8:decide (512 < (l1.length:Int))=false:=decide_eq_false c7;have d9:decide (512 < l1.length)=false:=decide_eq_false (by omega)
      clear c7;obtain⟨e0,e8,H⟩:=bT H;(try dsimp only at H);by_cases c9:e0=true
      ·subst c9;rw[if_pos rfl] at H;obtain⟨rfl,rfl⟩:=q2 H;go_wp2_with (first|((with_reducible refine gc 20 rfl ?_);refine gC 20 (some 25) Try.func20 #[.slice a6 l1.length a7,.func (.func 24) #[] #[]] ?_;(with_reducible refine(Bzy.calls d4 _ _ l1  true _ ?_ ?_ e8.out).mono ?_);exact cB b5;exact b6.out;rintro e w' ⟨rfl,⟨nd,rfl⟩⟩;refine⟨_,rfl,?_⟩))
       go_ret2
       exact⟨eW,pB⟩
      ·obtain rfl:=bN c9;rw[if_neg nF] at H
       obtain⟨⟨f2,f3⟩,f4,H⟩:=bT H;(try dsimp only at H);replace H:=iE H;rcases H with⟨f6,f7,H⟩|⟨f5,f6,f7,H⟩
       ·replace H:=iE H;rcases H with⟨g4,g5,H⟩|⟨f9,g4,g5,H⟩
        ·by_cases g6:a5 > 0
         ·rw[if_pos g6] at H;have g7:decide (0 < a5)=true:=dE g6;clear g6;obtain⟨rfl,rfl⟩:=q2 H;go_wp2_with (first|((with_reducible refine gc 20 rfl ?_);refine gC 20 (some 25) Try.func20 #[.slice a6 l1.length a7,.func (.func 24) #[] #[]] ?_;(with_reducible refine(Bzy.calls d4 _ _ l1  false _ ?_ ?_ e8.out).mono ?_);exact cB b5;exact b6.out;rintro e w' ⟨rfl,⟨nd,rfl⟩⟩;refine⟨_,rfl,?_⟩)|((with_reducible refine gc 22 rfl ?_);refine gC 22 (some 28) Try.func22 #[.slice a6 l1.length a7] ?_;(with_reducible refine(Czw.calls d4 _ _ l1 f2 f3 _ ?_ ?_ f4.out).mono ?_);exact cB b5;exact b6.out;rintro e g8 ⟨rfl,hb⟩;refine⟨_,rfl,?_⟩;replace HB:=bB hb;clear hb))
          go_ret2
          exact⟨eW,pB⟩
         ·rw[if_neg g6] at H;have g7:decide (0 < a5)=false:=decide_eq_false g6;clear g6;obtain⟨rfl,rfl⟩:=q2 H;go_wp2_with (first|((with_reducible refine gc 20 rfl ?_);refine gC 20 (some 25) Try.func20 #[.slice a6 l1.length a7,.func (.func 24) #[] #[]] ?_;(with_reducible refine(Bzy.calls d4 _ _ l1  false _ ?_ ?_ e8.out).mono ?_);exact cB b5;exact b6.out;rintro e w' ⟨rfl,⟨nd,rfl⟩⟩;refine⟨_,rfl,?_⟩)|((with_reducible refine gc 22 rfl ?_);refine gC 22 (some 28) Try.func22 #[.slice a6 l1.length a7] ?_;(with_reducible refine(Czw.calls d4 _ _ l1 f2 f3 _ ?_ ?_ f4.out).mono ?_);exact cB b5;exact b6.out;rintro e g9 ⟨rfl,hb⟩;refine⟨_,rfl,?_⟩;replace HB:=bB hb;clear hb))
          go_ret2
          exact⟨eW,pB⟩
        ·obtain⟨rfl,rfl⟩:=q2 H;go_wp2_with (first|((with_reducible refine gc 20 rfl ?_);refine gC 20 (some 25) Try.func20 #[.slice a6 l1.length a7,.func (.func 24) #[] #[]] ?_;(with_reducible refine(Bzy.calls d4 _ _ l1  false _ ?_ ?_ e8.out).mono ?_);exact cB b5;exact b6.out;rintro e w' ⟨rfl,⟨nd,rfl⟩⟩;refine⟨_,rfl,?_⟩)|((with_reducible refine gc 22 rfl ?_);refine gC 22 (some 28) Try.func22 #[.slice a6 l1.length a7] ?_;(with_reducible refine(Czw.calls d4 _ _ l1 f2 f3 _ ?_ ?_ f4.out).mono ?_);exact cB b5;exact b6.out;rintro e j2 ⟨rfl,hb⟩;refine⟨_,rfl,?_⟩;replace HB:=bB hb;clear hb))
         go_ret2
         exact⟨eW,pB⟩
       ·obtain⟨rfl,rfl⟩:=q2 H;go_wp2_with (first|((with_reducible refine gc 20 rfl ?_);refine gC 20 (some 25) Try.func20 #[.slice a6 l1.length a7,.func (.func 24) #[] #[]] ?_;(with_reducible refine(Bzy.calls d4 _ _ l1  false _ ?_ ?_ e8.out).mono ?_);exact cB b5;exact b6.out;rintro e w' ⟨rfl,⟨nd,rfl⟩⟩;refine⟨_,rfl,?_⟩)|((with_reducible refine gc 22 rfl ?_);refine gC 22 (some 28) Try.func22 #[.slice a6 l1.length a7] ?_;(with_reducible refine(Czw.calls d4 _ _ l1 f2 f3 _ ?_ ?_ f4.out).mono ?_);exact cB b5;exact b6.out;rintro e j3 ⟨rfl,hb⟩;refine⟨_,rfl,?_⟩;replace HB:=bB hb;clear hb))
        go_ret2
        exact⟨eW,pB⟩


def Bzv.f (a0:Int) (a1:Int):Option (Int × Int):=if 0≤a0∧a0≤1125899906842624∧0≤a1∧a1≤1125899906842624 then some (a0 * a1 / 18446744073709551616,a0 * a1 % 18446744073709551616) else none
theorem Bzv.w64 (n:Int) (h:0≤n) (h':n < 2 ^ 64):IntKind.u64.wrap n=n:=by
 have:IntKind.u64.wrap n=n % 18446744073709551616:=by simp [IntKind.wrap,IntKind.bits,IntKind.signed]
 rw[this];omega
theorem Bzv.and32 (x:Int) (a5:0≤x) (a6:x < 18446744073709551616):Go.bits .and .u64 x 4294967295=x % 4294967296 :=
 bits_mask .u64 64 (by decide) Bzv.w64 32 (by decide) x a5 a6
theorem Bzv.or32 (x y:Int) (hx:0≤x) (a5:x < 18446744073709551616) (hm:x % 4294967296=0) (hy:0≤y) (a6:y < 4294967296):Go.bits .or .u64 x y=x+y :=
 bits_join .u64 64 (by decide) Bzv.w64 32 x y hx hm a5 hy a6 (by omega)
theorem Bzv.mul_le {a b A B:Int} (a5:0≤a) (ha:a≤A) (a6:0≤b) (hb:b≤B):0≤a * b∧a * b≤A * B :=
 ⟨Int.mul_nonneg a5 a6,Int.mul_le_mul ha hb a6 (by omega)⟩
theorem Bzv.parts (a5 a6 a7 a8:Int) (a9:0≤a5∧a5≤18446744065119617025) (b3:0≤a6∧a6≤1125899906580480) (b4:0≤a7∧a7≤1125899906580480) (b5:0≤a8∧a8≤68719476736) (low mid more:Int)
  (elow:low=IntKind.u64.wrap a5) (emid:mid=IntKind.u64.wrap (IntKind.u64.wrap a6+low / 4294967296)) (emore:more=IntKind.u64.wrap (IntKind.u64.wrap a7+Go.bits .and .u64 mid 4294967295)) :
  IntKind.u64.wrap (IntKind.u64.wrap (IntKind.u64.wrap a8+mid / 4294967296)+more / 4294967296)=(a8 * 18446744073709551616+(a6+a7) * 4294967296+a5) / 18446744073709551616 ∧
  Go.bits .or .u64 (IntKind.u64.wrap (more * 4294967296)) (Go.bits .and .u64 low 4294967295)=(a8 * 18446744073709551616+(a6+a7) * 4294967296+a5) % 18446744073709551616:=by
 rw[Bzv.w64 a5 a9.1 (by omega)] at elow
 subst elow;rw[Bzv.w64 a6 b3.1 (by omega),Bzv.w64 _ (by omega) (by omega)] at emid
 subst emid;rw[Bzv.and32 _ (by omega) (by omega),Bzv.w64 a7 b4.1 (by omega),Bzv.w64 _ (by omega) (by omega)] at emore
 subst emore;refine⟨?_,?_⟩
 ·rw[Bzv.w64 a8 b5.1 (by omega),Bzv.w64 (a8+_) (by omega) (by omega),Bzv.w64 _ (by omega) (by omega)]
  omega
 ·rw[Bzv.and32 low (by omega) (by omega)]
  have ew:∀ z:Int,IntKind.u64.wrap z=z % 18446744073709551616:=fun z=>by simp [IntKind.wrap,IntKind.bits,IntKind.signed]
  rw[ew,Bzv.or32 _ _ (by omega) (by omega) (by omega) (by omega) (by omega)]
  omega
theorem Bzv.arith (a b:Int) (a5:0≤a) (ha:a≤1125899906842624) (a6:0≤b) (hb:b≤1125899906842624) (a7 a8 a9 b3 low mid more:Int)
  (b4:a7=Go.bits .and .u64 a 4294967295) (b5:a8=a / 4294967296) (eb0:a9=Go.bits .and .u64 b 4294967295) (eb1:b3=b / 4294967296)
  (elow:low=IntKind.u64.wrap (a7 * a9)) (emid:mid=IntKind.u64.wrap (IntKind.u64.wrap (a8 * a9)+low / 4294967296)) (emore:more=IntKind.u64.wrap (IntKind.u64.wrap (a7 * b3)+Go.bits .and .u64 mid 4294967295)) :
  IntKind.u64.wrap (IntKind.u64.wrap (IntKind.u64.wrap (a8 * b3)+mid / 4294967296)+more / 4294967296)=a * b / 18446744073709551616 ∧
  Go.bits .or .u64 (IntKind.u64.wrap (more * 4294967296)) (Go.bits .and .u64 low 4294967295)=a * b % 18446744073709551616:=by
 rw[Bzv.and32 a a5 (by omega)] at b4
 rw[Bzv.and32 b a6 (by omega)] at eb0
 have ka:a=a8 * 4294967296+a7:=by omega
 have kb:b=b3 * 4294967296+a9:=by omega
 have ra0:0≤a7∧a7≤4294967295:=by omega
 have rb0:0≤a9∧a9≤4294967295:=by omega
 have ra1:0≤a8∧a8≤262144:=by omega
 have rb1:0≤b3∧b3≤262144:=by omega
 have kab:a * b=a8 * b3 * 18446744073709551616+(a8 * a9+a7 * b3) * 4294967296+a7 * a9:=by rw[ka,kb];grind
 have b6:=Bzv.mul_le ra0.1 ra0.2 rb0.1 rb0.2;have b7:=Bzv.mul_le ra1.1 ra1.2 rb0.1 rb0.2;have b8:=Bzv.mul_le ra0.1 ra0.2 rb1.1 rb1.2;have b9:=Bzv.mul_le ra1.1 ra1.2 rb1.1 rb1.2;rw[kab];exact Bzv.parts _ _ _ _ ⟨b6.1,by omega⟩ ⟨b7.1,by omega⟩ ⟨b8.1,by omega⟩ ⟨b9.1,by omega⟩ low mid more elow emid emore
theorem Bzv.calls (a5:Int) (a6:Int) (a7:Int) (a8:Int) (w:World) (h:Bzv.f a5 a6=some (a7,a8)) :
  Calls Try.prog 32 #[.int .u64 a5,.int .u64 a6] w fun e w'=>e=.returned (.agg #[.int .u64 a7,.int .u64 a8])∧bw w w':=by
 unfold Bzv.f at h;split at h
 ·rename_i hb
  obtain⟨a9,ha,b3,hb⟩:=hb;obtain⟨z1,z2⟩:=Bzv.arith a5 a6 a9 ha b3 hb _ _ _ _ _ _ _ rfl rfl rfl rfl rfl rfl rfl;simp only[Option.some.injEq,Prod.mk.injEq] at h;obtain⟨b4,b5⟩:=h;have Z1:=aM (z1.trans b4);have Z2:=aM (z2.trans b5);clear z1 z2 b4 b5;go_enter Try.func32,Try.ntmps32
  go_wp2
  refine bodyPost_ret (v:=.agg #[.int .u64 a7,.int .u64 a8]) ?_ rfl ⟨rfl,?_⟩
  ·rw[← Z1.out,← Z2.out];simp [results,Try.results32,go_sem]
  ·exact(Below.refl _ _).alloc (Nat.le_refl _) _
 ·simp at h

def Czb.f (a0:Int):Option (Int):=if a0 < 0 then(some (IntKind.u64.wrap (wrap64 (-a0)))) else(some (IntKind.u64.wrap (a0)))
theorem Czb.calls (a5:Int) (r:Int) (w:World) (h:Czb.f a5=some r) :
  Calls Try.prog 33 #[.int .i64 a5] w fun e w'=>e=.returned (.int .u64 r)∧Drawn0 w w':=by
 have H:(if a5 < 0 then(some (IntKind.u64.wrap (wrap64 (-a5)))) else(some (IntKind.u64.wrap (a5))))=some r:=h
 clear h;replace H:=iD H;rcases H with⟨a6,H⟩|⟨a6,H⟩
 ·obtain rfl:=Option.some.inj H;go_enter Try.func33,Try.ntmps33
  go_wp2
  go_ret
  exact⟨sD,dR⟩
 ·obtain rfl:=Option.some.inj H;go_enter Try.func33,Try.ntmps33
  go_wp2
  go_ret
  exact⟨sD,dR⟩

def Azy.f (a0_0:Int) (a0_1:Int) (a1:Int):Option (Int × Int × Bool) :=
 if 0≤a0_0∧a0_0 < 18446744073709551616∧0≤a0_1∧a0_1 < 18446744073709551616∧1≤a1∧a1≤1125899906842624 then
  (if(a0_0 * 18446744073709551616+a0_1) / a1 < 4611686018427387904 then some ((a0_0 * 18446744073709551616+a0_1) / a1,(a0_0 * 18446744073709551616+a0_1) % a1,true) else some (0,0,false))
 else none
/-- What the first k bits tell. -/
def Azy.T (p:Int) (k:Nat):Int:=p / 2 ^ (128 - k)
theorem Azy.p2 (n:Nat):(0:Int) < 2 ^ n:=Int.pow_pos (by decide)
theorem Azy.T_zero {p:Int} (a5:0≤p) (h:p < 340282366920938463463374607431768211456):Azy.T p 0=0:=Int.ediv_eq_zero_of_lt a5 h
theorem Azy.T_last (p:Int):Azy.T p 128=p:=by simp [Azy.T]
theorem Azy.T_nonneg {p:Int} (a5:0≤p) (k:Nat):0≤Azy.T p k:=Int.ediv_nonneg a5 (Int.le_of_lt (Azy.p2 _))
theorem Azy.T_succ (p:Int) (k:Nat) (hk:k < 128):Azy.T p (k+1)=2 * Azy.T p k+(p / 2 ^ (127 - k)) % 2:=by
 unfold Azy.T;have a5:128 - (k+1)=127 - k:=by omega
 have a6:128 - k=(127 - k)+1:=by omega
 rw[a5,a6,Int.pow_succ,← Int.ediv_ediv_of_nonneg (Int.le_of_lt (Azy.p2 _))];generalize p / 2 ^ (127 - k)=x;omega
theorem Azy.T_le {p:Int} (a5:0≤p) (k:Nat) (hk:k < 128):2 * Azy.T p k≤p:=by
 unfold Azy.T;have a6:128 - k=(127 - k)+1:=by omega
 rw[a6,Int.pow_succ,Int.mul_comm _ 2,← Int.ediv_ediv_of_nonneg (by omega)]
 have:=Int.ediv_le_self (a:=p / 2) (2 ^ (127 - k)) (by omega)
 generalize p / 2 / 2 ^ (127 - k)=y at *;omega
theorem Azy.bit_hi (a b:Int) (hb:0≤b) (a5:b < 18446744073709551616) (k:Nat) (hk:k < 64):(a * 18446744073709551616+b) / 2 ^ (127 - k)=a / 2 ^ (63 - k):=by
 have e:127 - k=64+(63 - k):=by omega
 rw[e,Int.pow_add,← Int.ediv_ediv_of_nonneg (Int.le_of_lt (Azy.p2 _))];congr 1
 show _ / (18446744073709551616:Int)=a
 omega
theorem Azy.bit_lo (a b:Int) (k:Nat) (hk:64≤k) (hk1:k < 128):(a * 18446744073709551616+b) / 2 ^ (127 - k) % 2=b / 2 ^ (127 - k) % 2:=by
 obtain⟨j,hj⟩:∃ j,64=(127 - k)+(j+1):=⟨k - 64,by omega⟩
 have e:(18446744073709551616:Int)=2 ^ (127 - k) * 2 ^ j * 2:=by
  rw[Int.mul_assoc,← Int.pow_succ,← Int.pow_add,← hj];rfl
 have a5:a * 18446744073709551616+b=b+2 ^ (127 - k) * (2 * (a * 2 ^ j)):=by rw[e];grind
 rw[a5,Int.add_mul_ediv_left _ _ (Int.ne_of_gt (Azy.p2 _))];omega
theorem Azy.step {t c q r bit:Int} (hq:q=t / c) (hr:r=t % c):(2 * t+bit)=c * (2 * q)+(2 * r+bit):=by
 have:=Int.mul_ediv_add_emod t c;subst hq hr;grind
theorem Azy.divmod {t c q r:Int} (hc:0 < c) (h:t=c * q+r) (a5:0≤r) (a6:r < c):q=t / c∧r=t % c:=by
 subst h;constructor
 ·rw[Int.add_comm,Int.add_mul_ediv_left _ _ (by omega),Int.ediv_eq_zero_of_lt a5 a6];omega
 ·rw[Int.add_comm,Int.add_mul_emod_self_left,Int.emod_eq_of_lt a5 a6]
theorem Azy.and1 (x:Int) (a5:0≤x) (a6:x < 18446744073709551616):Go.bits .and .u64 x 1=x % 2 :=
 bits_mask .u64 64 (by decide) Bzv.w64 1 (by decide) x a5 a6
theorem Azy.or1 (x y:Int) (hx:0≤x) (a5:x < 18446744073709551616) (hm:x % 2=0) (hy:0≤y) (a6:y < 2):Go.bits .or .u64 x y=x+y :=
 bits_join .u64 64 (by decide) Bzv.w64 1 x y hx (by simpa using hm) a5 hy (by simpa using a6) (by omega)
/-- One round: from what k bits tell to what k+1 tell. -/
theorem Azy.round {p c q r:Int} {k:Nat} (hc:1≤c) (hk:k < 128) (h:q=Azy.T p k / c∧r=Azy.T p k % c) (b:Int) (hb:b=(p / 2 ^ (127 - k)) % 2) :
  (r * 2+b < c→q * 2=Azy.T p (k+1) / c∧r * 2+b=Azy.T p (k+1) % c) ∧
  (c≤r * 2+b→q * 2+1=Azy.T p (k+1) / c∧r * 2+b - c=Azy.T p (k+1) % c):=by
 have hs:=Azy.step (bit:=b) h.1 h.2;have a5:0≤r:=by rw[h.2];exact Int.emod_nonneg _ (by omega)
 have a6:r < c:=by rw[h.2];exact Int.emod_lt_of_pos _ (by omega)
 have a7:0≤b∧b < 2:=by omega
 rw[Azy.T_succ p k hk,← hb];constructor
 ·intro hl;exact Azy.divmod (by omega) (by rw[hs];grind) (by omega) hl
 ·intro hl;exact Azy.divmod (by omega) (by rw[hs];grind) (by omega) (by omega)
theorem Azy.calls0 (a b c:Int) (w:World) (ha:0≤a) (a5:a < 18446744073709551616) (hb:0≤b) (a6:b < 18446744073709551616) (hc:1≤c) (a7:c≤1125899906842624) (a8 a9:Int) (b3:Bool)
  (HR:Aside0 ((if(a * 18446744073709551616+b) / c < 4611686018427387904 then((a * 18446744073709551616+b) / c,(a * 18446744073709551616+b) % c,true) else(0,0,false))=(a8,a9,b3))) :
  Calls Try.prog 34 #[.agg #[.int .u64 a,.int .u64 b],.int .u64 c] w fun e w'=>e=.returned (.tuple #[.int .u64 a8,.int .u64 a9,.bool b3])∧bw w w':=by
 obtain⟨p,hp⟩:∃ p,p=a * 18446744073709551616+b:=⟨_,rfl⟩;have hp0:0≤p:=by omega
 have hp1:Aside0 (p < 340282366920938463463374607431768211456):=⟨by omega⟩
 have HP:=aM hp;rw[← hp] at HR;clear hp;go_enter Try.func34,Try.ntmps34
 go_wp2
 go_loop [7,8,12] (fun q r i=>∃ (k:Nat) (qv rv:Int),k≤128∧i=.int .i64 k∧q=.int .u64 qv∧r=.int .u64 rv∧Aside0 (qv=Azy.T p k / c∧rv=Azy.T p k % c)∧Aside0 (0 < k→qv < 4611686018427387904)) (fun _ _ i=>128 - (intOf i).toNat)
 case atStart=>exact⟨0,0,0,by omega,rfl,rfl,rfl,⟨by rw[Azy.T_zero hp0 hp1.out];simp⟩,⟨fun h=>absurd h (by omega)⟩⟩
 case round =>
  obtain⟨k,qv,rv,hk,rfl,rfl,rfl,H,HQ⟩:=hrel;have hq0:0≤qv:=by rw[H.out.1];exact Int.ediv_nonneg (Azy.T_nonneg hp0 k) (by omega)
  have b4:0≤rv:=by rw[H.out.2];exact Int.emod_nonneg _ (by omega)
  have b5:rv < c:=by rw[H.out.2];exact Int.emod_lt_of_pos _ (by omega)
  by_cases hlt:k < 128
  ·by_cases hq:qv < 2305843009213693952
   ·have hqd:Aside0 ((qv / 2305843009213693952 != 0)=false):=⟨by simp;omega⟩
    by_cases b6:k < 64
    ·have b7:k / 64=0:=by omega
     obtain⟨bv,hbv⟩:∃ bv,bv=(a / 2 ^ (63 - k % 64)) % 2:=⟨_,rfl⟩;have b8:0≤bv∧bv < 2:=by omega
     have b9:=b8.1;have d0:=b8.2;have hrd:=Azy.round hc hlt H.out bv (by
      rw[hbv,HP.out,Azy.bit_hi a b hb a6 k b6];have e:(63 - k % 64)=63 - k:=by omega
      rw[e])
     have HRD:=aM hrd;have hand:Go.bits .and .u64 (a / 2 ^ (63 - k % 64)) 1=bv:=by
      rw[hbv];exact Azy.and1 _ (Int.ediv_nonneg (by omega) (Int.le_of_lt (Azy.p2 _))) (Int.lt_of_le_of_lt (Int.ediv_le_self _ (by omega)) (by omega))
     have hor:Go.bits .or .u64 (rv * 2) bv=rv * 2+bv:=Azy.or1 _ _ (by omega) (by omega) (by omega) b8.1 b8.2
     have hor2:Go.bits .or .u64 (qv * 2) 1=qv * 2+1:=Azy.or1 _ _ (by omega) (by omega) (by omega) (by omega) (by omega)
     clear hrd hbv b8;by_cases ht:c≤rv * 2+bv
     ·go_wp2
      go_round
      case rel=>exact⟨k+1,qv * 2+1,rv * 2+bv - c,by omega,by go_num,rfl,rfl,⟨HRD.out.2 ht⟩,⟨fun _=>by omega⟩⟩
      case measure=>simp [intOf];omega
     ·go_wp2
      go_round
      case rel=>exact⟨k+1,qv * 2,rv * 2+bv,by omega,by go_num,rfl,rfl,⟨HRD.out.1 (by omega)⟩,⟨fun _=>by omega⟩⟩
      case measure=>simp [intOf];omega
    ·have b7:k / 64=1:=by omega
     obtain⟨bv,hbv⟩:∃ bv,bv=(b / 2 ^ (63 - k % 64)) % 2:=⟨_,rfl⟩;have b8:0≤bv∧bv < 2:=by omega
     have b9:=b8.1;have d0:=b8.2;have hrd:=Azy.round hc hlt H.out bv (by
      rw[hbv,HP.out,Azy.bit_lo a b k (by omega) hlt]
      have e:(63 - k % 64)=127 - k:=by omega
      rw[e])
     have HRD:=aM hrd;have hand:Go.bits .and .u64 (b / 2 ^ (63 - k % 64)) 1=bv:=by
      rw[hbv];exact Azy.and1 _ (Int.ediv_nonneg (by omega) (Int.le_of_lt (Azy.p2 _))) (Int.lt_of_le_of_lt (Int.ediv_le_self _ (by omega)) (by omega))
     have hor:Go.bits .or .u64 (rv * 2) bv=rv * 2+bv:=Azy.or1 _ _ (by omega) (by omega) (by omega) b8.1 b8.2
     have hor2:Go.bits .or .u64 (qv * 2) 1=qv * 2+1:=Azy.or1 _ _ (by omega) (by omega) (by omega) (by omega) (by omega)
     clear hrd hbv b8;by_cases ht:c≤rv * 2+bv
     ·go_wp2
      go_round
      case rel=>exact⟨k+1,qv * 2+1,rv * 2+bv - c,by omega,by go_num,rfl,rfl,⟨HRD.out.2 ht⟩,⟨fun _=>by omega⟩⟩
      case measure=>simp [intOf];omega
     ·go_wp2
      go_round
      case rel=>exact⟨k+1,qv * 2,rv * 2+bv,by omega,by go_num,rfl,rfl,⟨HRD.out.1 (by omega)⟩,⟨fun _=>by omega⟩⟩
      case measure=>simp [intOf];omega
   ·have hqt:(qv / 2305843009213693952 != 0)=true:=by
     rw[bne_iff_ne];omega
    have HQT:=aM hqt;have hbig:¬ (p / c < 4611686018427387904):=by
     intro hcon;have d3:=Azy.T_le hp0 k hlt;have d4:2 * qv≤p / c:=by
      rw[H.out.1];have d5:c * (Azy.T p k / c)≤Azy.T p k:=Int.mul_ediv_self_le (by omega)
      exact Int.le_ediv_of_mul_le (by omega) (by
       have:2 * (Azy.T p k / c) * c=2 * (c * (Azy.T p k / c)):=by grind
       omega)
     omega
    have d6:=HR.out;rw[if_neg hbig] at d6;simp only[Prod.mk.injEq] at d6;obtain⟨rfl,rfl,rfl⟩:=d6;clear HR hbig;have hqn:¬ (qv < 2305843009213693952):=hq;by_cases b6:k < 64
    ·have b7:k / 64=0:=by omega
     go_wp2
     go_ret3
     exact⟨rfl,by exact(Below.refl _ _).alloc (Nat.le_refl _) _⟩
    ·have b7:k / 64=1:=by omega
     go_wp2
     go_ret3
     exact⟨rfl,by exact(Below.refl _ _).alloc (Nat.le_refl _) _⟩
  ·obtain rfl:k=128:=by omega
   have d6:=HR.out;have d7:=H.out;rw[Azy.T_last] at d7;have hsm:p / c < 4611686018427387904:=by rw[← d7.1];exact HQ.out (by omega)
   rw[if_pos hsm] at d6;simp only[Prod.mk.injEq] at d6;obtain⟨d3,d4,rfl⟩:=d6;obtain rfl:a8=qv:=by rw[d7.1];exact d3.symm
   obtain rfl:a9=rv:=by rw[d7.2];exact d4.symm
   clear d3 d4 d7 hsm HR;go_wp2
   go_ret3
   exact⟨rfl,by exact(Below.refl _ _).alloc (Nat.le_refl _) _⟩
theorem Azy.calls (a5:Int) (a6:Int) (a7:Int) (a8:Int) (a9:Int) (b3:Bool) (w:World) (h:Azy.f a5 a6 a7=some (a8,a9,b3)) :
  Calls Try.prog 34 #[.agg #[.int .u64 a5,.int .u64 a6],.int .u64 a7] w fun e w'=>e=.returned (.tuple #[.int .u64 a8,.int .u64 a9,.bool b3])∧bw w w':=by
 unfold Azy.f at h;split at h
 ·rename_i hb
  obtain⟨b4,b5,b6,b7,b8,b9⟩:=hb;refine Azy.calls0 a5 a6 a7 w b4 b5 b6 b7 b8 b9 a8 a9 b3 ⟨?_⟩;split at h
  ·rename_i hs
   rw[if_pos hs];exact Option.some.inj h
  ·rename_i hs
   rw[if_neg hs];exact Option.some.inj h
 ·simp at h


/--|x|-/
def Azj.ab (x:Int):Int:=if x < 0 then -x else x
def Azj.inB (x:Int):Bool:=decide (-1125899906842624≤x) && decide (x≤1125899906842624)
/-- Is the quotient's amount one more? -/
def Azj.grows (neg:Bool) (mode q r c:Int):Bool :=
 if mode=0 then neg && decide (0 < r) else if mode=1 then !neg && decide (0 < r) else decide (c < 2 * r) || (decide (2 * r=c) && decide (q % 2=1))
def Azj.fin (neg:Bool) (g:Bool) (q:Int):Int × Int :=
 if 1125899906842624 < (if g then q+1 else q) then(0,2) else(if neg then -(if g then q+1 else q) else(if g then q+1 else q),0)
def Azj.val (a b c mode:Int):Int × Int :=
 Azj.fin ((decide (a < 0) != decide (b < 0)) != decide (c < 0))
  (Azj.grows ((decide (a < 0) != decide (b < 0)) != decide (c < 0)) mode (Azj.ab a * Azj.ab b / Azj.ab c) (Azj.ab a * Azj.ab b % Azj.ab c) (Azj.ab c))
  (Azj.ab a * Azj.ab b / Azj.ab c)
def Azj.f (a0:Int) (a1:Int) (a2:Int) (a3:Int):Option (Int × Int) :=
 some (if Azj.inB a0 && Azj.inB a1 && Azj.inB a2 then(if a2=0 then(0,16) else if a3 < 0 then(0,17) else if 3≤a3 then(0,17) else Azj.val a0 a1 a2 a3) else(0,1))
theorem Azj.in_l0 (l:List Int) (hl:l.length≤9223372036854775806) (d:Nat):∀ (k i:Nat),l.length - i=d→i≤l.length→d < k→Bzb.l0 k l (l.length:Int) (i:Int)=some ((l.drop i).all Azj.inB):=by
 induction d with
 | zero =>
  intro k i a5 a6 a7;obtain⟨k,rfl⟩:∃ m,k=m+1:=⟨k - 1,by omega⟩
  simp only[Bzb.l0];rw[if_neg (by omega),List.drop_eq_nil_of_le (by omega)];rfl
 | succ d ih =>
  intro k i a5 a6 a7;obtain⟨k,rfl⟩:∃ m,k=m+1:=⟨k - 1,by omega⟩
  have hi:i < l.length:=by omega
  have er:rd l (i:Int)=l[i]:=by simp [rd,List.getD,hi]
  have ew:wrap64 ((i:Int)+1)=((i+1:Nat):Int):=by unfold wrap64;omega
  rw[List.drop_eq_getElem_cons hi,List.all_cons];simp only[Bzb.l0];rw[if_pos (by omega),if_pos (by omega),if_pos (by omega),er,ew,ih k (i+1) (by omega) (by omega) (by omega)]
  unfold Azj.inB;by_cases a8:l[i] < -1125899906842624
  ·rw[if_pos a8,decide_eq_false (by omega:¬ -1125899906842624≤l[i])];rfl
  ·rw[if_neg a8,dE (by omega:-1125899906842624≤l[i])]
   by_cases c2:l[i] > 1125899906842624
   ·rw[if_pos c2,decide_eq_false (by omega:¬ l[i]≤1125899906842624)];rfl
   ·rw[if_neg c2,dE (by omega:l[i]≤1125899906842624)];rfl
theorem Azj.in_f (l:List Int) (hl:l.length≤9223372036854775806):Bzb.f (l.length+1) l=some (l.all Azj.inB):=by
 have:=Azj.in_l0 l hl l.length (l.length+1) 0 (by omega) (by omega) (by omega)
 unfold Bzb.f;simpa using this
theorem Azj.in_val (a b c:Int):Bzb.f 4 [a,b,c]=some (Azj.inB a && Azj.inB b && Azj.inB c):=by
 have:=Azj.in_f [a,b,c] (by simp)
 simpa [Bool.and_assoc] using this
theorem Azj.size_val (x:Int) (h:Azj.inB x=true):Czb.f x=some (Azj.ab x):=by
 simp only[Azj.inB,Bool.and_eq_true,decide_eq_true_eq] at h;have e:∀ y:Int,0≤y→y≤1125899906842624→IntKind.u64.wrap y=y:=fun y a5 a6=>Bzv.w64 y a5 (by omega)
 unfold Czb.f Azj.ab;split
 ·have:wrap64 (-x)=-x:=by unfold wrap64;omega
  rw[this,e _ (by omega) (by omega)]
 ·rw[e _ (by omega) (by omega)]
theorem Azj.ab_range (x:Int) (h:Azj.inB x=true):0≤Azj.ab x∧Azj.ab x≤1125899906842624:=by
 simp only[Azj.inB,Bool.and_eq_true,decide_eq_true_eq] at h;unfold Azj.ab;split <;> omega
/-- What the body computes,once the amounts are there. -/
theorem Azj.size_calls (x:Int) (w:World) (h:Azj.inB x=true):Calls Try.prog 33 #[.int .i64 x] w fun e w'=>e=.returned (.int .u64 (Azj.ab x))∧Drawn0 w w' :=
 Czb.calls x _ w (Azj.size_val x h)
theorem Azj.hilo {A B C:Int} (hA:0≤A∧A≤1125899906842624) (hB:0≤B∧B≤1125899906842624) (hC:1≤C∧C≤1125899906842624) :
  Bzv.f A B=some (A * B / 18446744073709551616,A * B % 18446744073709551616) ∧
  Azy.f (A * B / 18446744073709551616) (A * B % 18446744073709551616) C=some (if A * B / C < 4611686018427387904 then(A * B / C,A * B % C,true) else(0,0,false)):=by
 have h:=Bzv.mul_le hA.1 hA.2 hB.1 hB.2;have e:A * B / 18446744073709551616 * 18446744073709551616+A * B % 18446744073709551616=A * B:=by omega
 constructor
 ·unfold Bzv.f;rw[if_pos ⟨hA.1,hA.2,hB.1,hB.2⟩]
 ·unfold Azy.f;rw[if_pos ⟨by omega,by omega,by omega,by omega,hC.1,hC.2⟩,e]
  split <;> rfl
theorem Azj.calls_out (a5 a6 a7 a8:Int) (w:World) (hb:(Azj.inB a5 && Azj.inB a6 && Azj.inB a7)=false) :
  Calls Try.prog 25 #[.int .i64 a5,.int .i64 a6,.int .i64 a7,.int .i64 a8] w fun e w'=>e=.returned (.tuple #[.int .i64 0,.int .i64 1])∧bw w w':=by
 have hin:=Azj.in_val a5 a6 a7;rw[hb] at hin;have HIN:=aM hin;clear hin hb;go_enter Try.func25,Try.ntmps25
 go_wp2_with (first|((with_reducible refine gd 19 rfl ?_);refine iL 19 [a5,a6,a7] ?_;intro a9 b3 b4 hb;have HB:=aM hb;have HO:=aM b4;clear hb b4;obtain⟨b5,b6,rfl⟩:=Kd.R_slice HO.out)|(go_at_call 30;(refine(Bzb.calls 4 _ _ [a5,a6,a7] false _ ?_ ?_ HIN.out).mono ?_);(focus(exact(Kd.R_reads' HO.out).2.2));exact lR HO;rintro e w' ⟨rfl,⟨nd,rfl⟩⟩))
 go_ret2
 exact⟨rfl,pB⟩
theorem zz0_0 {P:Prop} (h:P:=by
 go_wp2_with (first|((with_reducible refine gd 19 rfl ?_);refine iL 19 [a5,a6,a7] ?_;intro b4 b5 b6 hb;have HB:=aM hb;have HO:=aM b6;clear hb b6;obtain⟨b7,b8,rfl⟩:=Kd.R_slice HO.out)|(go_at_call 30;(refine(Bzb.calls 4 _ _ [a5,a6,a7] true _ ?_ ?_ HIN.out).mono ?_);(focus(exact(Kd.R_reads' HO.out).2.2));exact lR HO;rintro e w' ⟨rfl,⟨nd,rfl⟩⟩))
 go_ret2
 exact⟨rfl,pB⟩):P:=h
theorem Azj.calls_bad (a5 a6 a7 a8:Int) (w:World) (hb:(Azj.inB a5 && Azj.inB a6 && Azj.inB a7)=true) (a9:Int) (hr:a9=if a7=0 then 16 else 17) (hbad:a7=0∨a8 < 0∨3≤a8) :
  Calls Try.prog 25 #[.int .i64 a5,.int .i64 a6,.int .i64 a7,.int .i64 a8] w fun e w'=>e=.returned (.tuple #[.int .i64 0,.int .i64 a9])∧bw w w':=by
 have hin:=Azj.in_val a5 a6 a7;rw[hb] at hin;have HIN:=aM hin;clear hin hb;by_cases hc:a7=0
 ·rw[if_pos hc] at hr;subst hr;have b3:(a7 == 0)=true:=beq_iff_eq.mpr hc;clear hc hbad;go_enter Try.func25,Try.ntmps25
  exact zz0_0
 ·rw[if_neg hc] at hr;subst hr;have b3:(a7 == 0)=false:=beq_eq_false_iff_ne.mpr hc;by_cases hm:a8 < 0
  ·have b9:decide (a8 < 0)=true:=dE hm;clear hc hbad hm;go_enter Try.func25,Try.ntmps25
   exact zz0_0
  ·have b9:decide (a8 < 0)=false:=decide_eq_false hm;have c2:decide (3≤a8)=true:=dE (by omega)
   clear hc hbad hm;go_enter Try.func25,Try.ntmps25
   exact zz0_0
theorem Azj.fin_big {neg g:Bool} {q:Int} (h:4611686018427387904≤q):Azj.fin neg g q=(0,2):=by
 unfold Azj.fin;rw[if_pos (by split <;> omega)]
theorem Azj.calls_big (a5 a6 a7 a8:Int) (w:World) (a9:Aside0 (Azj.inB a5=true)) (b3:Aside0 (Azj.inB a6=true)) (b4:Aside0 (Azj.inB a7=true)) (HIN:Aside0 (Bzb.f 4 [a5,a6,a7]=some true))
  (b5:(a7 == 0)=false) (b6:decide (a8 < 0)=false) (c2:decide (3≤a8)=false) (hi lo q r:Int) (HP:Aside0 (Bzv.f (Azj.ab a5) (Azj.ab a6)=some (hi,lo))) (HD:Aside0 (Azy.f hi lo (Azj.ab a7)=some (q,r,false))) :
  Calls Try.prog 25 #[.int .i64 a5,.int .i64 a6,.int .i64 a7,.int .i64 a8] w fun e w'=>e=.returned (.tuple #[.int .i64 0,.int .i64 2])∧bw w w':=by
 go_enter Try.func25,Try.ntmps25
 go_wp2_with (first|((with_reducible refine gd 19 rfl ?_);refine iL 19 [a5,a6,a7] ?_;intro b7 b8 b9 hb;have HB:=aM hb;have HO:=aM b9;clear hb b9;obtain⟨d0,d3,rfl⟩:=Kd.R_slice HO.out)|(go_at_call 30;(refine(Bzb.calls 4 _ _ [a5,a6,a7] true _ ?_ ?_ HIN.out).mono ?_);(focus(exact(Kd.R_reads' HO.out).2.2));exact lR HO;rintro e w' ⟨rfl,⟨nd,rfl⟩⟩)|(go_at_call 33;(with_reducible refine(Azj.size_calls _ _ ?_).mono ?_);(focus(first|exact a9.out|exact b3.out|exact b4.out));rintro e w' ⟨rfl,⟨nd,rfl⟩⟩)|(go_at_call 32;(with_reducible refine(Bzv.calls _ _ _ _ _ HP.out).mono ?_);rintro e d4 ⟨rfl,hb⟩;replace HB:=bB hb;clear hb)|(go_at_call 34;(with_reducible refine(Azy.calls _ _ _ _ _ _ _ HD.out).mono ?_);rintro e d5 ⟨rfl,hb⟩;replace HB:=bB hb;clear hb))
 go_ret2
 exact⟨rfl,pB⟩
set_option maxHeartbeats 16000000 in
theorem zz0_1 {P:Prop} (h:P:=by
 go_wp2_with (first|((with_reducible refine gd 19 rfl ?_);refine iL 19 [a5,a6,a7] ?_;intro d0 d3 d4 hb;have HB:=aM hb;have HO:=aM d4;clear hb d4;obtain⟨d5,d6,rfl⟩:=Kd.R_slice HO.out)|(go_at_call 30;(refine(Bzb.calls 4 _ _ [a5,a6,a7] true _ ?_ ?_ HIN.out).mono ?_);(focus(exact(Kd.R_reads' HO.out).2.2));exact lR HO;rintro e w' ⟨rfl,⟨nd,rfl⟩⟩)|(go_at_call 33;(with_reducible refine(Azj.size_calls _ _ ?_).mono ?_);(focus(first|exact a8.out|exact a9.out|exact b3.out));rintro e w' ⟨rfl,⟨nd,rfl⟩⟩)|(go_at_call 32;(with_reducible refine(Bzv.calls _ _ _ _ _ HP.out).mono ?_);rintro e d7 ⟨rfl,hb⟩;replace HB:=bB hb;clear hb)|(go_at_call 34;(with_reducible refine(Azy.calls _ _ _ _ _ _ _ HD.out).mono ?_);rintro e d8 ⟨rfl,hb⟩;replace HB:=bB hb;clear hb))
 go_ret2
 exact⟨by first|rfl|(simp;done),pB⟩):P:=h
theorem Azj.calls_m0 (a5 a6 a7:Int) (w:World) (a8:Aside0 (Azj.inB a5=true)) (a9:Aside0 (Azj.inB a6=true)) (b3:Aside0 (Azj.inB a7=true)) (HIN:Aside0 (Bzb.f 4 [a5,a6,a7]=some true))
  (b4:(a7 == 0)=false) (hi lo q r:Int) (HP:Aside0 (Bzv.f (Azj.ab a5) (Azj.ab a6)=some (hi,lo))) (HD:Aside0 (Azy.f hi lo (Azj.ab a7)=some (q,r,true)))
  (hq0:0≤q) (hq1:q < 4611686018427387904) (b5:0≤r) (b6:r < Azj.ab a7) (hab:Azj.ab a7≤1125899906842624) (nb:Bool) (hn:(!((!(decide (a5 < 0) == decide (a6 < 0))) == decide (a7 < 0)))=nb)
  (b7 b8:Int) (hr:Azj.fin nb (Azj.grows nb 0 q r (Azj.ab a7)) q=(b7,b8)) :
  Calls Try.prog 25 #[.int .i64 a5,.int .i64 a6,.int .i64 a7,.int .i64 0] w fun e w'=>e=.returned (.tuple #[.int .i64 b7,.int .i64 b8])∧bw w w':=by
 cases nb
 ·skip
  have hg:Azj.grows false 0 q r (Azj.ab a7)=false:=by unfold Azj.grows;simp
  by_cases ho:1125899906842624 < q
  ·have b9:Azj.fin false false q=(0,2):=by unfold Azj.fin;simp;omega
   rw[hg,b9] at hr;simp only[Prod.mk.injEq] at hr;obtain⟨rfl,rfl⟩:=hr;have c9:decide (1125899906842624 < q)=true:=dE ho;clear b9 hg;go_enter Try.func25,Try.ntmps25
   exact zz0_1
  ·have b9:Azj.fin false false q=(q,0):=by unfold Azj.fin;simp;omega
   rw[hg,b9] at hr;simp only[Prod.mk.injEq] at hr;obtain⟨rfl,rfl⟩:=hr;have c9:decide (1125899906842624 < q)=false:=decide_eq_false ho;clear b9 hg;go_enter Try.func25,Try.ntmps25
   exact zz0_1
 ·skip
  by_cases hp:0 < r
  ·have c5:decide (0 < r)=true:=dE hp;have hg:Azj.grows true 0 q r (Azj.ab a7)=true:=by unfold Azj.grows;simp;omega
   by_cases ho:1125899906842624 < q+1
   ·have b9:Azj.fin true true q=(0,2):=by unfold Azj.fin;simp;omega
    rw[hg,b9] at hr;simp only[Prod.mk.injEq] at hr;obtain⟨rfl,rfl⟩:=hr;have c9:decide (1125899906842624 < q+1)=true:=dE ho;clear b9 hg;go_enter Try.func25,Try.ntmps25
    exact zz0_1
   ·have b9:Azj.fin true true q=(-(q+1),0):=by unfold Azj.fin;simp;omega
    rw[hg,b9] at hr;simp only[Prod.mk.injEq] at hr;obtain⟨rfl,rfl⟩:=hr;have c9:decide (1125899906842624 < q+1)=false:=decide_eq_false ho;clear b9 hg;go_enter Try.func25,Try.ntmps25
    exact zz0_1
  ·have c5:decide (0 < r)=false:=decide_eq_false hp;have hg:Azj.grows true 0 q r (Azj.ab a7)=false:=by unfold Azj.grows;simp;omega
   by_cases ho:1125899906842624 < q
   ·have b9:Azj.fin true false q=(0,2):=by unfold Azj.fin;simp;omega
    rw[hg,b9] at hr;simp only[Prod.mk.injEq] at hr;obtain⟨rfl,rfl⟩:=hr;have c9:decide (1125899906842624 < q)=true:=dE ho;clear b9 hg;go_enter Try.func25,Try.ntmps25
    exact zz0_1
   ·have b9:Azj.fin true false q=(-(q),0):=by unfold Azj.fin;simp;omega
    rw[hg,b9] at hr;simp only[Prod.mk.injEq] at hr;obtain⟨rfl,rfl⟩:=hr;have c9:decide (1125899906842624 < q)=false:=decide_eq_false ho;clear b9 hg;go_enter Try.func25,Try.ntmps25
    exact zz0_1

set_option maxHeartbeats 16000000 in
theorem Azj.calls_m1 (a5 a6 a7:Int) (w:World) (a8:Aside0 (Azj.inB a5=true)) (a9:Aside0 (Azj.inB a6=true)) (b3:Aside0 (Azj.inB a7=true)) (HIN:Aside0 (Bzb.f 4 [a5,a6,a7]=some true))
  (b4:(a7 == 0)=false) (hi lo q r:Int) (HP:Aside0 (Bzv.f (Azj.ab a5) (Azj.ab a6)=some (hi,lo))) (HD:Aside0 (Azy.f hi lo (Azj.ab a7)=some (q,r,true)))
  (hq0:0≤q) (hq1:q < 4611686018427387904) (b5:0≤r) (b6:r < Azj.ab a7) (hab:Azj.ab a7≤1125899906842624) (nb:Bool) (hn:(!((!(decide (a5 < 0) == decide (a6 < 0))) == decide (a7 < 0)))=nb)
  (b7 b8:Int) (hr:Azj.fin nb (Azj.grows nb 1 q r (Azj.ab a7)) q=(b7,b8)) :
  Calls Try.prog 25 #[.int .i64 a5,.int .i64 a6,.int .i64 a7,.int .i64 1] w fun e w'=>e=.returned (.tuple #[.int .i64 b7,.int .i64 b8])∧bw w w':=by
 cases nb
 ·skip
  by_cases hp:0 < r
  ·have c5:decide (0 < r)=true:=dE hp;have hg:Azj.grows false 1 q r (Azj.ab a7)=true:=by unfold Azj.grows;simp;omega
   by_cases ho:1125899906842624 < q+1
   ·have b9:Azj.fin false true q=(0,2):=by unfold Azj.fin;simp;omega
    rw[hg,b9] at hr;simp only[Prod.mk.injEq] at hr;obtain⟨rfl,rfl⟩:=hr;have c9:decide (1125899906842624 < q+1)=true:=dE ho;clear b9 hg;go_enter Try.func25,Try.ntmps25
    exact zz0_1
   ·have b9:Azj.fin false true q=(q+1,0):=by unfold Azj.fin;simp;omega
    rw[hg,b9] at hr;simp only[Prod.mk.injEq] at hr;obtain⟨rfl,rfl⟩:=hr;have c9:decide (1125899906842624 < q+1)=false:=decide_eq_false ho;clear b9 hg;go_enter Try.func25,Try.ntmps25
    exact zz0_1
  ·have c5:decide (0 < r)=false:=decide_eq_false hp;have hg:Azj.grows false 1 q r (Azj.ab a7)=false:=by unfold Azj.grows;simp;omega
   by_cases ho:1125899906842624 < q
   ·have b9:Azj.fin false false q=(0,2):=by unfold Azj.fin;simp;omega
    rw[hg,b9] at hr;simp only[Prod.mk.injEq] at hr;obtain⟨rfl,rfl⟩:=hr;have c9:decide (1125899906842624 < q)=true:=dE ho;clear b9 hg;go_enter Try.func25,Try.ntmps25
    exact zz0_1
   ·have b9:Azj.fin false false q=(q,0):=by unfold Azj.fin;simp;omega
    rw[hg,b9] at hr;simp only[Prod.mk.injEq] at hr;obtain⟨rfl,rfl⟩:=hr;have c9:decide (1125899906842624 < q)=false:=decide_eq_false ho;clear b9 hg;go_enter Try.func25,Try.ntmps25
    exact zz0_1
 ·skip
  have hg:Azj.grows true 1 q r (Azj.ab a7)=false:=by unfold Azj.grows;simp
  by_cases ho:1125899906842624 < q
  ·have b9:Azj.fin true false q=(0,2):=by unfold Azj.fin;simp;omega
   rw[hg,b9] at hr;simp only[Prod.mk.injEq] at hr;obtain⟨rfl,rfl⟩:=hr;have c9:decide (1125899906842624 < q)=true:=dE ho;clear b9 hg;go_enter Try.func25,Try.ntmps25
   exact zz0_1
  ·have b9:Azj.fin true false q=(-(q),0):=by unfold Azj.fin;simp;omega
   rw[hg,b9] at hr;simp only[Prod.mk.injEq] at hr;obtain⟨rfl,rfl⟩:=hr;have c9:decide (1125899906842624 < q)=false:=decide_eq_false ho;clear b9 hg;go_enter Try.func25,Try.ntmps25
   exact zz0_1

set_option maxHeartbeats 16000000 in
theorem zz0_2 {P:Prop} (h:P:=by
 go_wp2_with (first|((with_reducible refine gd 19 rfl ?_);refine iL 19 [a5,a6,a7] ?_;intro d3 d4 d5 hb;have HB:=aM hb;have HO:=aM d5;clear hb d5;obtain⟨d6,d7,rfl⟩:=Kd.R_slice HO.out)|(go_at_call 30;(refine(Bzb.calls 4 _ _ [a5,a6,a7] true _ ?_ ?_ HIN.out).mono ?_);(focus(exact(Kd.R_reads' HO.out).2.2));exact lR HO;rintro e w' ⟨rfl,⟨nd,rfl⟩⟩)|(go_at_call 33;(with_reducible refine(Azj.size_calls _ _ ?_).mono ?_);(focus(first|exact a8.out|exact a9.out|exact b3.out));rintro e w' ⟨rfl,⟨nd,rfl⟩⟩)|(go_at_call 32;(with_reducible refine(Bzv.calls _ _ _ _ _ HP.out).mono ?_);rintro e d8 ⟨rfl,hb⟩;replace HB:=bB hb;clear hb)|(go_at_call 34;(with_reducible refine(Azy.calls _ _ _ _ _ _ _ HD.out).mono ?_);rintro e d9 ⟨rfl,hb⟩;replace HB:=bB hb;clear hb))
 go_ret2
 exact⟨by first|rfl|(simp;done),pB⟩):P:=h
theorem Azj.calls_m2 (a5 a6 a7:Int) (w:World) (a8:Aside0 (Azj.inB a5=true)) (a9:Aside0 (Azj.inB a6=true)) (b3:Aside0 (Azj.inB a7=true)) (HIN:Aside0 (Bzb.f 4 [a5,a6,a7]=some true))
  (b4:(a7 == 0)=false) (hi lo q r:Int) (HP:Aside0 (Bzv.f (Azj.ab a5) (Azj.ab a6)=some (hi,lo))) (HD:Aside0 (Azy.f hi lo (Azj.ab a7)=some (q,r,true)))
  (hq0:0≤q) (hq1:q < 4611686018427387904) (b5:0≤r) (b6:r < Azj.ab a7) (hab:Azj.ab a7≤1125899906842624) (nb:Bool) (hn:(!((!(decide (a5 < 0) == decide (a6 < 0))) == decide (a7 < 0)))=nb)
  (b7 b8:Int) (hr:Azj.fin nb (Azj.grows nb 2 q r (Azj.ab a7)) q=(b7,b8)) :
  Calls Try.prog 25 #[.int .i64 a5,.int .i64 a6,.int .i64 a7,.int .i64 2] w fun e w'=>e=.returned (.tuple #[.int .i64 b7,.int .i64 b8])∧bw w w':=by
 cases nb
 ·skip
  by_cases b9:Azj.ab a7 < 2 * r
  ·have c5:decide (Azj.ab a7 < 2 * r)=true:=dE b9;have hg:Azj.grows false 2 q r (Azj.ab a7)=true:=by unfold Azj.grows;simp;omega
   by_cases ho:1125899906842624 < q+1
   ·have d0:Azj.fin false true q=(0,2):=by unfold Azj.fin;simp;omega
    rw[hg,d0] at hr;simp only[Prod.mk.injEq] at hr;obtain⟨rfl,rfl⟩:=hr;have c9:decide (1125899906842624 < q+1)=true:=dE ho;clear d0 hg;go_enter Try.func25,Try.ntmps25
    exact zz0_2
   ·have d0:Azj.fin false true q=(q+1,0):=by unfold Azj.fin;simp;omega
    rw[hg,d0] at hr;simp only[Prod.mk.injEq] at hr;obtain⟨rfl,rfl⟩:=hr;have c9:decide (1125899906842624 < q+1)=false:=decide_eq_false ho;clear d0 hg;go_enter Try.func25,Try.ntmps25
    exact zz0_2
  ·have c5:decide (Azj.ab a7 < 2 * r)=false:=decide_eq_false b9;by_cases e0:2 * r=Azj.ab a7
   ·have c6:(2 * r == Azj.ab a7)=true:=beq_iff_eq.mpr e0;by_cases e8:q % 2=1
    ·have c7:(q % 2 == 1)=true:=beq_iff_eq.mpr e8;have hg:Azj.grows false 2 q r (Azj.ab a7)=true:=by unfold Azj.grows;simp;omega
     clear e0 e8;by_cases ho:1125899906842624 < q+1
     ·have d0:Azj.fin false true q=(0,2):=by unfold Azj.fin;simp;omega
      rw[hg,d0] at hr;simp only[Prod.mk.injEq] at hr;obtain⟨rfl,rfl⟩:=hr;have c9:decide (1125899906842624 < q+1)=true:=dE ho;clear d0 hg;go_enter Try.func25,Try.ntmps25
      exact zz0_2
     ·have d0:Azj.fin false true q=(q+1,0):=by unfold Azj.fin;simp;omega
      rw[hg,d0] at hr;simp only[Prod.mk.injEq] at hr;obtain⟨rfl,rfl⟩:=hr;have c9:decide (1125899906842624 < q+1)=false:=decide_eq_false ho;clear d0 hg;go_enter Try.func25,Try.ntmps25
      exact zz0_2
    ·have c7:(q % 2 == 1)=false:=beq_eq_false_iff_ne.mpr e8;have hg:Azj.grows false 2 q r (Azj.ab a7)=false:=by unfold Azj.grows;simp;omega
     clear e0 e8;by_cases ho:1125899906842624 < q
     ·have d0:Azj.fin false false q=(0,2):=by unfold Azj.fin;simp;omega
      rw[hg,d0] at hr;simp only[Prod.mk.injEq] at hr;obtain⟨rfl,rfl⟩:=hr;have c9:decide (1125899906842624 < q)=true:=dE ho;clear d0 hg;go_enter Try.func25,Try.ntmps25
      exact zz0_2
     ·have d0:Azj.fin false false q=(q,0):=by unfold Azj.fin;simp;omega
      rw[hg,d0] at hr;simp only[Prod.mk.injEq] at hr;obtain⟨rfl,rfl⟩:=hr;have c9:decide (1125899906842624 < q)=false:=decide_eq_false ho;clear d0 hg;go_enter Try.func25,Try.ntmps25
      exact zz0_2
   ·have c6:(2 * r == Azj.ab a7)=false:=beq_eq_false_iff_ne.mpr e0;have hg:Azj.grows false 2 q r (Azj.ab a7)=false:=by unfold Azj.grows;simp;omega
    clear e0;by_cases ho:1125899906842624 < q
    ·have d0:Azj.fin false false q=(0,2):=by unfold Azj.fin;simp;omega
     rw[hg,d0] at hr;simp only[Prod.mk.injEq] at hr;obtain⟨rfl,rfl⟩:=hr;have c9:decide (1125899906842624 < q)=true:=dE ho;clear d0 hg;go_enter Try.func25,Try.ntmps25
     exact zz0_2
    ·have d0:Azj.fin false false q=(q,0):=by unfold Azj.fin;simp;omega
     rw[hg,d0] at hr;simp only[Prod.mk.injEq] at hr;obtain⟨rfl,rfl⟩:=hr;have c9:decide (1125899906842624 < q)=false:=decide_eq_false ho;clear d0 hg;go_enter Try.func25,Try.ntmps25
     exact zz0_2
 ·skip
  by_cases b9:Azj.ab a7 < 2 * r
  ·have c5:decide (Azj.ab a7 < 2 * r)=true:=dE b9;have hg:Azj.grows true 2 q r (Azj.ab a7)=true:=by unfold Azj.grows;simp;omega
   by_cases ho:1125899906842624 < q+1
   ·have d0:Azj.fin true true q=(0,2):=by unfold Azj.fin;simp;omega
    rw[hg,d0] at hr;simp only[Prod.mk.injEq] at hr;obtain⟨rfl,rfl⟩:=hr;have c9:decide (1125899906842624 < q+1)=true:=dE ho;clear d0 hg;go_enter Try.func25,Try.ntmps25
    exact zz0_2
   ·have d0:Azj.fin true true q=(-(q+1),0):=by unfold Azj.fin;simp;omega
    rw[hg,d0] at hr;simp only[Prod.mk.injEq] at hr;obtain⟨rfl,rfl⟩:=hr;have c9:decide (1125899906842624 < q+1)=false:=decide_eq_false ho;clear d0 hg;go_enter Try.func25,Try.ntmps25
    exact zz0_2
  ·have c5:decide (Azj.ab a7 < 2 * r)=false:=decide_eq_false b9;by_cases e0:2 * r=Azj.ab a7
   ·have c6:(2 * r == Azj.ab a7)=true:=beq_iff_eq.mpr e0;by_cases e8:q % 2=1
    ·have c7:(q % 2 == 1)=true:=beq_iff_eq.mpr e8;have hg:Azj.grows true 2 q r (Azj.ab a7)=true:=by unfold Azj.grows;simp;omega
     clear e0 e8;by_cases ho:1125899906842624 < q+1
     ·have d0:Azj.fin true true q=(0,2):=by unfold Azj.fin;simp;omega
      rw[hg,d0] at hr;simp only[Prod.mk.injEq] at hr;obtain⟨rfl,rfl⟩:=hr;have c9:decide (1125899906842624 < q+1)=true:=dE ho;clear d0 hg;go_enter Try.func25,Try.ntmps25
      exact zz0_2
     ·have d0:Azj.fin true true q=(-(q+1),0):=by unfold Azj.fin;simp;omega
      rw[hg,d0] at hr;simp only[Prod.mk.injEq] at hr;obtain⟨rfl,rfl⟩:=hr;have c9:decide (1125899906842624 < q+1)=false:=decide_eq_false ho;clear d0 hg;go_enter Try.func25,Try.ntmps25
      exact zz0_2
    ·have c7:(q % 2 == 1)=false:=beq_eq_false_iff_ne.mpr e8;have hg:Azj.grows true 2 q r (Azj.ab a7)=false:=by unfold Azj.grows;simp;omega
     clear e0 e8;by_cases ho:1125899906842624 < q
     ·have d0:Azj.fin true false q=(0,2):=by unfold Azj.fin;simp;omega
      rw[hg,d0] at hr;simp only[Prod.mk.injEq] at hr;obtain⟨rfl,rfl⟩:=hr;have c9:decide (1125899906842624 < q)=true:=dE ho;clear d0 hg;go_enter Try.func25,Try.ntmps25
      exact zz0_2
     ·have d0:Azj.fin true false q=(-(q),0):=by unfold Azj.fin;simp;omega
      rw[hg,d0] at hr;simp only[Prod.mk.injEq] at hr;obtain⟨rfl,rfl⟩:=hr;have c9:decide (1125899906842624 < q)=false:=decide_eq_false ho;clear d0 hg;go_enter Try.func25,Try.ntmps25
      exact zz0_2
   ·have c6:(2 * r == Azj.ab a7)=false:=beq_eq_false_iff_ne.mpr e0;have hg:Azj.grows true 2 q r (Azj.ab a7)=false:=by unfold Azj.grows;simp;omega
    clear e0;by_cases ho:1125899906842624 < q
    ·have d0:Azj.fin true false q=(0,2):=by unfold Azj.fin;simp;omega
     rw[hg,d0] at hr;simp only[Prod.mk.injEq] at hr;obtain⟨rfl,rfl⟩:=hr;have c9:decide (1125899906842624 < q)=true:=dE ho;clear d0 hg;go_enter Try.func25,Try.ntmps25
     exact zz0_2
    ·have d0:Azj.fin true false q=(-(q),0):=by unfold Azj.fin;simp;omega
     rw[hg,d0] at hr;simp only[Prod.mk.injEq] at hr;obtain⟨rfl,rfl⟩:=hr;have c9:decide (1125899906842624 < q)=false:=decide_eq_false ho;clear d0 hg;go_enter Try.func25,Try.ntmps25
     exact zz0_2

theorem Azj.calls (a5:Int) (a6:Int) (a7:Int) (a8:Int) (a9:Int) (b3:Int) (w:World) (h:Azj.f a5 a6 a7 a8=some (a9,b3)) :
  Calls Try.prog 25 #[.int .i64 a5,.int .i64 a6,.int .i64 a7,.int .i64 a8] w fun e w'=>e=.returned (.tuple #[.int .i64 a9,.int .i64 b3])∧bw w w':=by
 unfold Azj.f at h;have h:=Option.some.inj h;by_cases hb:(Azj.inB a5 && Azj.inB a6 && Azj.inB a7)=true
 case neg =>
  rw[if_neg hb] at h;simp only[Prod.mk.injEq] at h;obtain⟨rfl,rfl⟩:=h;exact Azj.calls_out a5 a6 a7 a8 w (by simpa using hb)
 case pos =>
  rw[if_pos hb] at h;by_cases hc:a7=0
  ·rw[if_pos hc] at h;simp only[Prod.mk.injEq] at h;obtain⟨rfl,rfl⟩:=h;exact Azj.calls_bad a5 a6 a7 a8 w hb 16 (by rw[if_pos hc]) (.inl hc)
  rw[if_neg hc] at h;by_cases b4:a8 < 0
  ·rw[if_pos b4] at h;simp only[Prod.mk.injEq] at h;obtain⟨rfl,rfl⟩:=h;exact Azj.calls_bad a5 a6 a7 a8 w hb 17 (by rw[if_neg hc]) (.inr (.inl b4))
  rw[if_neg b4] at h;by_cases b5:3≤a8
  ·rw[if_pos b5] at h;simp only[Prod.mk.injEq] at h;obtain⟨rfl,rfl⟩:=h;exact Azj.calls_bad a5 a6 a7 a8 w hb 17 (by rw[if_neg hc]) (.inr (.inr b5))
  rw[if_neg b5] at h;have hin:=Azj.in_val a5 a6 a7;rw[hb] at hin;simp only[Bool.and_eq_true] at hb;obtain⟨⟨b6,b7⟩,b8⟩:=hb;have hA:=Azj.ab_range a5 b6;have hB:=Azj.ab_range a6 b7;have hC:=Azj.ab_range a7 b8;have hC1:1≤Azj.ab a7:=by unfold Azj.ab;split <;> omega
  obtain⟨b9,d0⟩:=Azj.hilo hA hB ⟨hC1,hC.2⟩;unfold Azj.val at h;by_cases hs:Azj.ab a5 * Azj.ab a6 / Azj.ab a7 < 4611686018427387904
  ·rw[if_pos hs] at d0;have hq0:0≤Azj.ab a5 * Azj.ab a6 / Azj.ab a7:=Int.ediv_nonneg (Int.mul_nonneg hA.1 hB.1) (by omega)
   have d3:0≤Azj.ab a5 * Azj.ab a6 % Azj.ab a7:=Int.emod_nonneg _ (by omega)
   have d4:Azj.ab a5 * Azj.ab a6 % Azj.ab a7 < Azj.ab a7:=Int.emod_lt_of_pos _ (by omega)
   have d5:(a7 == 0)=false:=beq_eq_false_iff_ne.mpr hc;have hn:(!((!(decide (a5 < 0) == decide (a6 < 0))) == decide (a7 < 0)))=((decide (a5 < 0) != decide (a6 < 0)) != decide (a7 < 0)):=rfl;obtain rfl|rfl|rfl:a8=0∨a8=1∨a8=2:=by omega
   ·exact Azj.calls_m0 a5 a6 a7 w ⟨b6⟩ ⟨b7⟩ ⟨b8⟩ ⟨hin⟩ d5 _ _ _ _ ⟨b9⟩ ⟨d0⟩ hq0 hs d3 d4 hC.2 _ hn a9 b3 h
   ·exact Azj.calls_m1 a5 a6 a7 w ⟨b6⟩ ⟨b7⟩ ⟨b8⟩ ⟨hin⟩ d5 _ _ _ _ ⟨b9⟩ ⟨d0⟩ hq0 hs d3 d4 hC.2 _ hn a9 b3 h
   ·exact Azj.calls_m2 a5 a6 a7 w ⟨b6⟩ ⟨b7⟩ ⟨b8⟩ ⟨hin⟩ d5 _ _ _ _ ⟨b9⟩ ⟨d0⟩ hq0 hs d3 d4 hC.2 _ hn a9 b3 h
  ·rw[if_neg hs] at d0;rw[Azj.fin_big (by omega)] at h
   simp only[Prod.mk.injEq] at h;obtain⟨rfl,rfl⟩:=h;exact Azj.calls_big a5 a6 a7 a8 w ⟨b6⟩ ⟨b7⟩ ⟨b8⟩ ⟨hin⟩ (beq_eq_false_iff_ne.mpr hc) (decide_eq_false b4) (decide_eq_false b5) _ _ _ _ ⟨b9⟩ ⟨d0⟩

end Go.Proofs.Ytblifmmcmngdnaa.Print
