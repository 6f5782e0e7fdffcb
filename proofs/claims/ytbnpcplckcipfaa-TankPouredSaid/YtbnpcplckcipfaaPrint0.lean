import Derived.Test.YtbnpcplckcipfaaProg
import Derived.Below
import Derived.Deep.Draws
import Derived.Deep.AppendLies
import Derived.Maps.AppendAt
import Derived.OwnWalk
import Derived.Laws.BytesArg
import Derived.Laws.MakeOwn
import Derived.Laws.OwnMore
import Derived.Deep.OwnRows
import Derived.Tactics
import Derived.Lib.ConvBytes
import Derived.Laws.Slices
import Derived.WalkKit
import Derived.KernelRfl
import Derived.RowKit3
import Derived.Deep.LoopGhost
import Derived.Deep.QuietTactic
import Derived.BigQuiet
import Derived.WideLaws
import Derived.Deep.DeepCutAuto
import Derived.Deep.CutBlock
import Derived.Deep.RegionHeld3
import Derived.Laws.Rows
import Derived.Lib.AppendStr
import Derived.ArgAppend
import Derived.Laws.IdiomCopy
import Derived.OrdersHeld
import Derived.Laws.BitsLemmas
import Derived.RowKit
import Derived.Laws.CopyOwn
import Derived.Test.YtbnpcplckcipfaaWWords
import Derived.Test.YtbnpcplckcipfaaWLast
import Derived.Test.YtbnpcplckcipfaaWTab
import Derived.Test.YtbnpcplckcipfaaWFour
import Derived.Test.YtbnpcplckcipfaaWQPut
import Derived.Test.YtbnpcplckcipfaaWApart
import Derived.Test.YtbnpcplckcipfaaWArr
import Derived.Test.YtbnpcplckcipfaaWZeros
import Derived.Test.YtbnpcplckcipfaaWFoot
import Derived.Test.YtbnpcplckcipfaaWKept
import Derived.Test.YtbnpcplckcipfaaWShare
import Derived.Test.YtbnpcplckcipfaaWN
import Derived.Test.YtbnpcplckcipfaaWFootNe
import Derived.Test.YtbnpcplckcipfaaWAt
import Derived.Test.YtbnpcplckcipfaaWEqStruct
import Derived.Test.YtbnpcplckcipfaaWRepsOne
import Derived.Test.YtbnpcplckcipfaaWInv
import Derived.Test.YtbnpcplckcipfaaWInvWords
import Derived.Test.YtbnpcplckcipfaaWGuard
import Derived.Test.YtbnpcplckcipfaaWNEv
import Derived.Test.YtbnpcplckcipfaaWMore
namespace Go.Proofs.Ytbnpcplckcipfaa.Print
open Go.RowKit Go.Proofs.YtbnpcplckcipfaaW.PrintWords Go.Proofs.YtbnpcplckcipfaaW.PrintLast Go.Proofs.YtbnpcplckcipfaaW.PrintMore
attribute [local go_sem] dF dG eB eD dm dn dH dI
set_option linter.unusedVariables false
set_option maxRecDepth 100000
set_option maxHeartbeats 8000000
set_option linter.unusedSimpArgs false



def DL:Option Int→Value
  | none=>.nilIface
  | some c=>.iface 0 (.int .i64 c)
theorem bv:DL none=.nilIface:=rfl
theorem bC (c:Int):DL (some c)=.iface 0 (.int .i64 c):=rfl
theorem eW {P:Prop} (h:P:=by first|rfl|(simp [bv,bC] <;> rfl)|(simp [*,bv,bC] <;> rfl)):P:=h

theorem info3:(Try.prog.info? 3).map (fun i=>(i.zero,i.size,i.bytes))=some (some (.int .i64 0),1,8):=by kernel_rfl
theorem pq:(Try.prog.info? 33).map (fun i=>(i.zero,i.size,i.bytes))=some (some (.agg #[(.bool false),(.slice none 0 0),(.slice none 0 0)]),3,56):=by kernel_rfl
def lW (xs:List (List Int)) (i:Int):(List Int):=xs.getD i.toNat ([]:List Int)
theorem DN {w:World} {A:Option Addr} {n:Nat} {xs:List (List Int)} (h:Kd.C (Kd.slice 3 (Kd.int .i64)) w A n xs) (i:Int) (a6:0≤i) (a7:i < n):∃ ad a8 a9,A=some ad∧w.cell? (ad.add i.toNat)=some (.slice a8 (lW xs i).length a9)∧(lW xs i).length≤a9∧(Kd.int .i64).C w a8 (lW xs i).length (lW xs i):=by
  obtain⟨ad,c,e,_,hK,b4⟩:=Kd.AC h ([]:List Int) i a6 a7;have hc:∀ j u,c[j]?=some u→w.cell? (ad.add (i.toNat * 1+j))=some u:=b4;obtain⟨a8,a9,rfl,l0,g0⟩:=hK;exact⟨ad,a8,a9,e,by have hq:=hc 0 _ rfl;rwa [Nat.mul_one,Nat.add_zero] at hq,l0,g0⟩

structure S33 where
  f0:Bool
  f1:(List Int)
  f2:(List Int)
def z33:S33:=⟨false,([]:List Int),([]:List Int)⟩
def k33:Kd S33:=Kd.iso (Kd.pair Kd.bool (Kd.pair (Kd.slice 3 (Kd.int .i64)) (Kd.slice 3 (Kd.int .i64)))) (fun x:S33=>(x.f0,x.f1,x.f2))
theorem kN {w:World} {x:S33} {cs:List Value} (h:k33.K w x cs):∃ a6 a7 a8 c2,cs=[.bool x.f0,.slice a6 x.f1.length a7,.slice a8 x.f2.length c2]∧x.f1.length≤a7∧(Kd.int .i64).C w a6 x.f1.length x.f1∧x.f2.length≤c2∧(Kd.int .i64).C w a8 x.f2.length x.f2:=by
  obtain⟨_,_,rfl,rfl,⟨_,_,rfl,⟨a6,a7,rfl,l1,g1⟩,⟨a8,c2,rfl,l2,g2⟩⟩⟩:=h;exact⟨a6,a7,a8,c2,rfl,l1,g1,l2,g2⟩
theorem uE (w:World) (x:S33) {a6:Option Addr} {a7:Nat} (l1:x.f1.length≤a7) (g1:(Kd.int .i64).C w a6 x.f1.length x.f1) {a8:Option Addr} {c2:Nat} (l2:x.f2.length≤c2) (g2:(Kd.int .i64).C w a8 x.f2.length x.f2):k33.K w x [.bool x.f0,.slice a6 x.f1.length a7,.slice a8 x.f2.length c2]:=⟨[.bool x.f0],[.slice a6 x.f1.length a7,.slice a8 x.f2.length c2],rfl,rfl,⟨[.slice a6 x.f1.length a7],[.slice a8 x.f2.length c2],rfl,⟨a6,a7,rfl,l1,g1⟩,⟨a8,c2,rfl,l2,g2⟩⟩⟩
theorem zq (w:World) (base:Nat) (ok:Nat→Prop) (x:S33) {a6:Value} (g1:(Kd.int .i64).R 3 w base ok a6 x.f1) {a7:Value} (g2:(Kd.int .i64).R 3 w base ok a7 x.f2):k33.M w base ok x [.bool x.f0,a6,a7]:=⟨[.bool x.f0],[a6,a7],rfl,rfl,⟨[a6],[a7],rfl,⟨a6,rfl,g1⟩,⟨a7,rfl,g2⟩⟩⟩
theorem qH {W:World} {ok:Nat→Prop} {x:S33} {cs:List Value} (h:Kd.FK k33 W ok x cs):∃ a6 a7 a8 c2,cs=[.bool x.f0,.slice a6 x.f1.length a7,.slice a8 x.f2.length c2]∧x.f1.length≤a7∧Kd.F (Kd.int .i64) W ok a6 x.f1.length x.f1∧x.f2.length≤c2∧Kd.F (Kd.int .i64) W ok a8 x.f2.length x.f2:=by
  obtain⟨a6,a7,a8,c2,rfl,l1,_,l2,_⟩:=kN (Kd.mJ h);exact⟨a6,a7,a8,c2,rfl,l1,(fun W' hW=>by obtain⟨a9,c1_,b4,c2_,he,l1_,g1_,l2_,g2_⟩:=kN (h W' hW);injection (Option.some.inj (show some (Value.slice a6 x.f1.length a7)=some (Value.slice a9 x.f1.length c1_) from congrArg (fun l=>l[1]?) he)) with ha_ _ _;rw[ha_];exact g1_),l2,(fun W' hW=>by obtain⟨a9,c1_,b4,c2_,he,l1_,g1_,l2_,g2_⟩:=kN (h W' hW);injection (Option.some.inj (show some (Value.slice a8 x.f2.length c2)=some (Value.slice b4 x.f2.length c2_) from congrArg (fun l=>l[2]?) he)) with ha_ _ _;rw[ha_];exact g2_)⟩
theorem eG (W:World) (ok:Nat→Prop) (x:S33) {a6:Option Addr} {a7:Nat} (l1:x.f1.length≤a7) (g1:Kd.F (Kd.int .i64) W ok a6 x.f1.length x.f1) {a8:Option Addr} {c2:Nat} (l2:x.f2.length≤c2) (g2:Kd.F (Kd.int .i64) W ok a8 x.f2.length x.f2):Kd.FK k33 W ok x [.bool x.f0,.slice a6 x.f1.length a7,.slice a8 x.f2.length c2]:=fun W2 hW=>uE W2 x l1 (g1 W2 hW) l2 (g2 W2 hW)
def ag (xs:List S33) (i:Int):S33:=xs.getD i.toNat z33
theorem gT {w:World} {A:Option Addr} {n:Nat} {xs:List S33} (h:Kd.C k33 w A n xs) (i:Int) (a6:0≤i) (a7:i < n):∃ ad a8 a9 b4 c2,A=some ad∧w.cell? (ad.add (i.toNat * 3))=some (.bool (ag xs i).f0)∧w.cell? ⟨(ad.add (i.toNat * 3)).block,(ad.add (i.toNat * 3)).off+1,none⟩=some (.slice a8 (ag xs i).f1.length a9)∧w.cell? ⟨(ad.add (i.toNat * 3)).block,(ad.add (i.toNat * 3)).off+2,none⟩=some (.slice b4 (ag xs i).f2.length c2)∧(ag xs i).f1.length≤a9∧(Kd.int .i64).C w a8 (ag xs i).f1.length (ag xs i).f1∧(ag xs i).f2.length≤c2∧(Kd.int .i64).C w b4 (ag xs i).f2.length (ag xs i).f2:=by
  obtain⟨ad,c,e,_,hK,b5⟩:=Kd.AC h z33 i a6 a7;have hc:∀ j u,c[j]?=some u→w.cell? (ad.add (i.toNat * 3+j))=some u:=b5;obtain⟨a8,a9,b4,c2,rfl,l1,g1,l2,g2⟩:=kN hK;exact⟨ad,a8,a9,b4,c2,e,hc 0 _ rfl,by rw[← jK _ _ 1 (by omega)];exact hc 1 _ rfl,by rw[← jK _ _ 2 (by omega)];exact hc 2 _ rfl,l1,g1,l2,g2⟩



/-- What a function value has captured. -/
def uF:Value→Array Value
  | .func _ _ c=>c
  | _=>#[]
section
variable {P : Program} {ops : Array Oper} {Q : Exit → Act → World → Prop}
/-- A call of a closure in a region that draws: the same as eH,its captured variables behind its arguments. -/
theorem BC {oi:Oper} {N:Option Tmp} {a:Act} {w:World} {K:Act→World→Prop} {f:FuncId} {fn:Func} {c:Operand} {ars:Array Operand} {ts:Array TypeId} (hf:P.funcs[f]?=some fn) (hname:(fn.name == "runtime.NumGoroutine")=false) (hb:fn.body.isSome=true) (args:Array Value)
    (hw:Region.wanted oi (yielded ops a.tmps)=true) (hN:oi.dst=N) (hop:oi.op=.call { callee:=.value c,args:=ars,argTypes:=ts }) (hargs:ars.map a.eval ++ uF (a.eval c)=args)
    (h:Calls P f args w fun e w'=>∃ v,e=.returned v∧K (a.put N v) w') (hc:a.eval c=.func (.func f) #[] (uF (a.eval c)):=by rfl):if Region.wanted oi (yielded ops a.tmps)=true then Oper.wp P oi a w K Q else K (a.put N undef) w:=by
  refine call_ f args hw hN ?_ h;have he:=mZ hf hname hb args w;unfold execOp;simp only[hop];simp [resolve];rw[hc];simp only[Deferred.ofValue];simp [invoke];rw[hargs];exact he
end
namespace Kd
section
variable {α : Type} {d : Kd α} {W w : World} {g : Nat} {T : TypeId} {cs : Array Value} {x : α}
/-- A variable in memory,read as a row of one element. -/
theorem AB (hb:W.heap[g]?=some (.cells cs T (0,0))) (hK:d.K W x cs.toList):d.C W (some ⟨g,0,none⟩) 1 [x]:=by
  refine⟨rfl,by omega,fun _=>⟨_,rfl,fun j p hj=>?_⟩⟩
  cases j with
  | zero =>
    simp only[List.getElem?_cons_zero,Option.some.injEq] at hj;subst hj;refine⟨cs.toList,d.K_len hK,hK,fun i u hu=>?_⟩
    rw[Nat.zero_mul,Nat.zero_add,add_plain];exact(af hb i).trans (by simpa using hu)
  | succ j=>simp at hj
end
end Kd
/-- Two rows of the call's own are two. -/
def NEb (u v:Value):Prop:=∀ k,u.ownBlock=some k→some k≠v.ownBlock
theorem NEb.symm {u v:Value} (h:NEb u v):NEb v u:=fun k hk e=>h k e.symm hk.symm
theorem mU (A:Option Addr) (n m c:Nat):(Value.slice A n c).ownBlock=(Value.slice A m c).ownBlock:=by
  rcases A with _|a <;> rfl
/-- The builtin copy,as a call is told. -/
def sP (P:Program) (dT sT ty:TypeId) (dv sv:Value) (w:World) (Q:Ending→World→Prop):Prop :=
  ∃ (n:Nat) (w':World),(Builtin.copy_ #[dT,sT] ty #[dv,sv]).run P w=.ok (goInt n) w'∧Q (.returned (goInt n)) w'
theorem sP.mono {P:Program} {dT sT ty:TypeId} {dv sv:Value} {w:World} {Q Q':Ending→World→Prop} (h:sP P dT sT ty dv sv w Q) (hq:∀ e w',Q e w'→Q' e w'):sP P dT sT ty dv sv w Q':=by
  obtain⟨n,w',a6,a7⟩:=h;exact⟨n,w',a6,hq _ _ a7⟩
section
variable {P : Program} {ops : Array Oper} {Q : Exit → Act → World → Prop}
theorem BD {rest:List Oper} {oi:Oper} {a:Act} {w:World} (N:Option Tmp) (hd:oi.dst=N) (hg:oi.guard=none) {d s:Operand} {dT sT:TypeId} (ho:oi.op=.call { callee:=.builtin .copy,args:=#[d,s],argTypes:=#[dT,sT] }) (dv sv:Value)
    (a6:a.eval d=dv) (a7:a.eval s=sv) (h:sP P dT sT oi.type dv sv w fun e w'=>∃ v,e=.returned v∧wpList P ops Q rest (a.put N v) w'):wpList P ops Q (oi :: rest) a w:=by
  obtain⟨n,w',hrun,v,hv,hk⟩:=h;injection hv with hv
  subst hv;subst hd;refine wpList_plain hg fun K hK=>?_
  unfold Oper.wp;simp [execOp,ho,resolve,invoke,builtin,a6,a7,hrun,Result.andThen];exact hK _ _ hk
end
def Hzq.f (l0:List Int) (l1:List Int):Option (Int × List Int):=some ((Nat.min l1.length l0.length:Nat),l1.take l0.length ++ l0.drop l1.length)
theorem Hzq.calls {dT sT ty:TypeId} (hu:Try.prog.underlying dT=some (.slice 3)) (a6:Nat→Prop) (u9000_:Value) (l0:List Int) (a7:Option Addr) (a8:Nat) (l1:List Int) (a9:Int) (b4:List Int) (b5 w:World) (hB:Below b5.heap.size b5 w)
    (b6:Kd.R (Kd.int .i64) 3 w b5.heap.size a6 u9000_ l0) (b7:∀ W_,Kept w W_ (fun k_=>a6 k_)→Kd.C (Kd.int .i64) W_ a7 l1.length l1) (b8:l1.length≤a8) (h:Hzq.f l0 l1=some (a9,b4)) :
    sP Try.prog dT sT ty u9000_ (.slice a7 l1.length a8) w fun e w'=>e=.returned (.int .i64 a9)∧Kd.R (Kd.int .i64) 3 w' b5.heap.size (fun k_=>(a6 k_∨w.heap.size≤k_)) u9000_ b4∧Below b5.heap.size b5 w'∧Kept w w' (fun k_=>a6 k_):=by
  unfold Hzq.f at h;simp only[Option.some.injEq,Prod.mk.injEq] at h;obtain⟨rfl,rfl⟩:=h;have hs:(Try.prog.info? 3).map (·.size)=some 1:=by kernel_rfl
  have hlen:(l1.take l0.length ++ l0.drop l1.length).length=l0.length:=by simp;omega
  have ho:=Kd.pG b6;by_cases hn:Nat.min l1.length l0.length=0
  · have hll:l1.take l0.length ++ l0.drop l1.length=l0:=by
      rcases Nat.eq_zero_or_pos l0.length with b9|b9
      · have:l0=[]:=List.eq_nil_of_length_eq_zero b9
        subst this;simp
      · have:l1=[]:=List.eq_nil_of_length_eq_zero (by have:min l1.length l0.length=0:=hn;omega)
        subst this;simp
    rw[hll,hn];obtain⟨d6,d7,rfl,_⟩:=Kd.oL b6;refine⟨0,w,?_,rfl,Kd.ah b6 (fun k hk=>.inl hk),hB,Kept.refl _ _⟩
    exact run_copy_none w dT sT ty _ d6 a7 l0.length d7 l1.length a8 hu hs hn
  · have hpos:0 < l1.length∧0 < l0.length:=by
      have:¬ min l1.length l0.length=0:=hn;omega
    obtain⟨hxs,hcase⟩:=ho;rcases hcase with ⟨_,b9⟩|⟨g,cap,cur,rfl,hbg,hcur,hnc,hcm,hcs,htk⟩
    · omega
    obtain⟨_,_,hsrc0⟩:=b7 w (Kept.refl _ _);obtain⟨ad,rfl,hsrc⟩:=hsrc0 hpos.1;have hP:a6 g:=b6.1 g rfl;obtain⟨cs,hcsd⟩:∃ cs:List Value,cs=nums .i64 (l1.take l0.length):=⟨_,rfl⟩;have hcl:cs.length=Nat.min l1.length l0.length:=by rw[hcsd,nums_length,List.length_take];show min l0.length l1.length=min l1.length l0.length;omega
    have hcell:∀ j v,cs[j]?=some v→w.cell? (ad.add j)=some v:=by
      intro j v hj;rw[hcsd] at hj;simp only[nums,List.getElem?_map,Option.map_eq_some_iff] at hj;obtain⟨x,hx,rfl⟩:=hj;rw[List.getElem?_take] at hx;split at hx
      · obtain⟨c,hc,hK,hcc⟩:=hsrc j x hx
        have b8:c=[.int .i64 x]:=hK;have d8:=hcc 0 (.int .i64 x) (by rw[b8];rfl)
        have e:j * (Kd.int IntKind.i64).sz+0=j:=by show j * 1+0=j;omega
        rwa [e] at d8
      · simp at hx
    have hcurl:cur.size=cap:=by simpa using hcs
    have hrun:=run_copy_row (P:=Try.prog) w dT sT ty _ g 0 l0.length cap ad l1.length a8 cur _ cs hu hs hcur hcl hcell (by rw[hcl,hcurl];show 0+min l1.length l0.length≤cap;omega) (by rw[hcsd];intro v hv;simp only[nums,List.mem_map] at hv;obtain⟨x,_,rfl⟩:=hv;rfl)
    refine⟨cs.length,_,hrun,by rw[hcl];rfl,?_,?_,?_⟩
    · refine Kd.sQ (xs:=l1.take l0.length ++ l0.drop l1.length) ?_ (fun k hk=>.inl (b6.1 k hk))
      rw[hlen];refine⟨by rw[Nat.mul_one,kR];exact hlen,.inr ⟨g,cap,_,rfl,hbg,setRow_heap w g _ _ _ _ hcur,hnc,hcm,?_,?_⟩⟩
      · simp only[List.size_toArray,List.length_append,List.length_take,List.length_drop,Array.length_toList]
        rw[hcl];have:min l1.length l0.length≤cap:=by omega
        show min 0 cur.size+min l1.length l0.length+(cur.size - (0+min l1.length l0.length))=cap * 1
        omega
      · have hm:cs.length=min l1.length l0.length:=hcl
        have b9:cur.toList.take l0.length=nums .i64 l0:=by rw[Nat.mul_one] at htk;rw[htk];rfl
        rw[Nat.mul_one,List.take_zero,List.nil_append,Nat.zero_add,List.toList_toArray,List.take_append,List.take_of_length_le (by omega),List.take_drop]
        have d9:cs.length+(l0.length - cs.length)=l0.length:=by omega
        have e6:(nums .i64 l0).drop cs.length=nums .i64 (l0.drop l1.length):=by
          have e7:(nums .i64 l0).drop cs.length=nums .i64 (l0.drop cs.length):=by simp [nums,List.map_drop]
          rw[e7];have f6:l0.drop cs.length=l0.drop l1.length:=by
            rcases Nat.le_total l1.length l0.length with hh|hh
            · rw[hm,Nat.min_eq_left hh]
            · rw[List.drop_eq_nil_of_le (by omega),List.drop_eq_nil_of_le hh]
          rw[f6]
        rw[d9,b9,e6,hcsd,← nums_append];rfl
    · exact below_setRow hB hbg _
    · exact⟨by simp [World.setRow],fun i hi hne=>setRow_other w g i _ (fun e=>hne (e ▸ hP))⟩

/-- A step's world is above the first one: found among what is known. -/
theorem pB {P:Prop} (h:P:=by repeat(first|(with_reducible first|exact ae.out (by assumption)|apply dV|apply fT|apply dA|refine cZ ?_ (ae.out (by assumption)))|exact ae.out (by assumption))):P:=h
/-- What a box holds,behind draws. -/
theorem kW {w w':World} {g:Nat} {o:Obj} (h:ae (w.heap[g]?=some o)) (f:w.heap[g]?=some o→w'.heap[g]?=some o:=by intro h_;(with_reducible repeat(first|refine cK ?_ _|refine az ?_|refine aK ?_ _));exact h_):w'.heap[g]?=some o:=f h.out
/-- What a box holds,behind a step. -/
theorem kB {w a6 a7:World} {g:Nat} {o:Obj} (h:ae (w.heap[g]?=some o)) (hb:Below a6.heap.size a6 a7) (f:w.heap[g]?=some o→a6.heap[g]?=some o:=by intro h_;(with_reducible repeat(first|refine cK ?_ _|refine az ?_|refine aK ?_ _));exact h_):a7.heap[g]?=some o:=aD (f h.out) hb
/-- A new box lies above. -/
theorem gW {w w':World} {g:Nat} (hg:g=w'.heap.size) (h:Below w.heap.size w w':=by exact pB):w.heap.size≤g:=by rw[hg];exact ay h
/-- A new box is another one. -/
theorem nL {w w':World} {g g':Nat} {o:Obj} (hg:g'=w'.heap.size) (h:ae (w.heap[g]?=some o)) (f:w.heap[g]?=some o→w'.heap[g]?=some o:=by intro h_;(with_reducible repeat(first|refine cK ?_ _|refine az ?_|refine aK ?_ _));exact h_):g≠g':=by rw[hg];exact Nat.ne_of_lt (aV (f h.out))
/-- A row of the call's own,behind draws. -/
theorem rX {α:Type} {d:Kd α} {e base:Nat} {w w':World} {ok:Nat→Prop} {v:Value} {xs:List α} (h:d.R e w base ok v xs) (f:d.R e w base ok v xs→d.R e w' base ok v xs:=by intro h_;(with_reducible repeat(first|apply Kd.fE|apply Kd.fo|apply Kd.eZ));exact h_):d.R e w' base ok v xs:=f h
/-- A call's arguments,laid out. -/
theorem mA {P:Prop} (h:P:=by(try simp only[List.map_toArray,List.map_cons,List.map_nil]);first|done|rfl|(simp only[List.length_drop,List.length_take];rfl)):P:=h
/-- What a box of one,two,three cells holds,cell by cell. -/
theorem bk1 {w:World} {g T:Nat} {a6:Value} (h:ae (w.heap[g]?=some (.cells #[a6] T (0,0)))):w.cell? ⟨g,0,none⟩=some a6∧w.frozen? ⟨g,0,none⟩=false:=⟨(af h.out 0).trans rfl,bO h.out 0⟩
theorem bk2 {w:World} {g T:Nat} {a6 a7:Value} (h:ae (w.heap[g]?=some (.cells #[a6,a7] T (0,0)))):w.cell? ⟨g,0,none⟩=some a6∧w.cell? ⟨g,1,none⟩=some a7∧w.frozen? ⟨g,0,none⟩=false∧w.frozen? ⟨g,1,none⟩=false:=⟨(af h.out 0).trans rfl,(af h.out 1).trans rfl,bO h.out 0,bO h.out 1⟩
theorem bk3 {w:World} {g T:Nat} {a6 a7 c2:Value} (h:ae (w.heap[g]?=some (.cells #[a6,a7,c2] T (0,0)))):w.cell? ⟨g,0,none⟩=some a6∧w.cell? ⟨g,1,none⟩=some a7∧w.cell? ⟨g,2,none⟩=some c2∧w.frozen? ⟨g,0,none⟩=false∧w.frozen? ⟨g,1,none⟩=false∧w.frozen? ⟨g,2,none⟩=false:=⟨(af h.out 0).trans rfl,(af h.out 1).trans rfl,(af h.out 2).trans rfl,bO h.out 0,bO h.out 1,bO h.out 2⟩
section
variable {α β γ:Type} {d:Kd α} {d':Kd β} {d2:Kd γ} {e e' e2 base base' b2 g T:Nat} {w w' w0 w1 w2 w3 w4 W:World} {ok ok' ok2:Nat→Prop} {v v0 v1 u:Value} {xs:List α} {ys:List β} {zs:List γ} {A:Option Addr} {n c:Nat} {o:Obj} {cs:Array Value}
theorem rB (h:ae (d.R e w base ok v xs)) (hb:Below w1.heap.size w1 w2) (f:d.R e w base ok v xs→d.R e w1 base ok v xs:=by exact fun h_=>rX h_):ae (d.R e w2 base ok v xs):=⟨Kd.fM (f h.out) hb⟩
theorem rb (h:d.R e w1 base ok v xs) (hb:Below w1.heap.size w1 w2):ae (d.R e w2 base ok v xs):=⟨Kd.fM h hb⟩
theorem vB (h:ae (Kd.V d e w base ok v xs)) (hb:Below w1.heap.size w1 w2) (f:Kd.V d e w base ok v xs→Kd.V d e w1 base ok v xs:=by exact fun h_=>vX h_):ae (Kd.V d e w2 base ok v xs):=⟨Kd.rJ (f h.out) hb⟩
theorem vG (h:ae (Kd.V d e w base ok v xs)) (hg:g=w1.heap.size) (hb:Below w1.heap.size w1 w2) (f:Kd.V d e w base ok v xs→Kd.V d e w1 base ok v xs:=by exact fun h_=>vX h_):ae (Kd.V d e w2 base (fun k=>ok k∧k≠g) v xs):=⟨Kd.rJ (Kd.yA (f h.out) g (Nat.le_of_eq hg.symm)) hb⟩
theorem rE (h:ae (d.R e w base ok u xs)) (ho:d'.R e' w3 w1.heap.size ok' v ys) (hb:Below w1.heap.size w1 w2) (f:d.R e w base ok u xs→d.R e w1 base ok u xs:=by exact fun h_=>rX h_):ae (d.R e w2 base (fun k=>ok k∧some k≠v.ownBlock) u xs):=⟨Kd.pK (f h.out) (Kd.dW ho) hb⟩
theorem re (h:d.R e w1 base ok u xs) (ho:d'.R e' w3 w1.heap.size ok' v ys) (hb:Below w1.heap.size w1 w2):ae (d.R e w2 base (fun k=>ok k∧some k≠v.ownBlock) u xs):=⟨Kd.pK h (Kd.dW ho) hb⟩
theorem vE (h:ae (Kd.V d e w base ok u xs)) (ho:d'.R e' w3 w1.heap.size ok' v ys) (hb:Below w1.heap.size w1 w2) (f:Kd.V d e w base ok u xs→Kd.V d e w1 base ok u xs:=by exact fun h_=>vX h_):ae (Kd.V d e w2 base (fun k=>ok k∧some k≠v.ownBlock) u xs):=⟨Kd.bW (f h.out) (Kd.dW ho) hb⟩
theorem rO (h:ae (d.R e w base ok u xs)) (hb:Below w1.heap.size w1 w2) (ho:d'.R e' w3 w1.heap.size ok' v0 ys) (ho2:d2.R e2 w4 w1.heap.size ok2 v1 zs) (f:d.R e w base ok u xs→d.R e w1 base ok u xs:=by exact fun h_=>rX h_):ae (d.R e w2 base (fun k=>(ok k∧some k≠v0.ownBlock)∧some k≠v1.ownBlock) u xs):=⟨Kd.ah (Kd.rH (Kd.rH (Kd.AR (f h.out) hb) (Kd.dW ho)) (Kd.dW ho2)) (fun _ h_=>h_.1)⟩
theorem ro (h:d.R e w1 base ok u xs) (hb:Below w1.heap.size w1 w2) (ho:d'.R e' w3 w1.heap.size ok' v0 ys) (ho2:d2.R e2 w4 w1.heap.size ok2 v1 zs):ae (d.R e w2 base (fun k=>(ok k∧some k≠v0.ownBlock)∧some k≠v1.ownBlock) u xs):=⟨Kd.ah (Kd.rH (Kd.rH (Kd.AR h hb) (Kd.dW ho)) (Kd.dW ho2)) (fun _ h_=>h_.1)⟩
theorem vO (h:ae (Kd.V d e w base ok u xs)) (hb:Below w1.heap.size w1 w2) (ho:d'.R e' w3 w1.heap.size ok' v0 ys) (ho2:d2.R e2 w4 w1.heap.size ok2 v1 zs) (f:Kd.V d e w base ok u xs→Kd.V d e w1 base ok u xs:=by exact fun h_=>vX h_):ae (Kd.V d e w2 base (fun k=>(ok k∧some k≠v0.ownBlock)∧some k≠v1.ownBlock) u xs):=⟨Kd.aC (Kd.yB (Kd.yB (Kd.EE (f h.out) hb) (Kd.dW ho)) (Kd.dW ho2)) (fun _ h_=>h_.1)⟩
theorem rL (ho:d.R e w1 W.heap.size ok v xs) (h:Below w.heap.size w W:=by exact pB):ae (d.R e w1 w.heap.size ok v xs):=⟨Kd.dO ho (ay h)⟩
theorem rn (h:d.R e w1 W.heap.size ok v xs) (hu:ae (d'.R e' w base ok' u ys)) (f:d'.R e' w base ok' u ys→d'.R e' W base ok' u ys:=by exact fun h_=>rX h_):d.R e w1 W.heap.size (fun k=>ok k∧some k≠u.ownBlock) v xs:=Kd.dL h (Kd.dS (f hu.out))
theorem rT (h:ae (d.R e w base ok v xs)) (hk:ae (w.heap[g]?=some (.cells cs T (0,0)))) (ht:∀ q,q∈e::d.E→q≠T:=by decide) (f:d.R e w base (fun k=>ok k∧k≠g) v xs→d.R e w' base (fun k=>ok k∧k≠g) v xs:=by intro h_;(with_reducible repeat(first|apply Kd.fE|apply Kd.fo|apply Kd.eZ|refine Kd.bF ?_ (fun _ hk=>hk.2) _));exact h_):d.R e w' base ok v xs:=Kd.ah (f (Kd.aA h.out hk.out ht)) (fun _ h_=>h_.1)
theorem vT (h:ae (Kd.V d e w base ok v xs)) (hne:∀ k,ok k→k≠g) (f:(∀ k,ok k→k≠g)→Kd.V d e w base ok v xs→Kd.V d e w' base ok v xs:=by intro hn_ h_;(with_reducible repeat(first|apply Kd.wy|apply Kd.wB|apply Kd.fw|refine Kd.ED ?_ hn_ _));exact h_):Kd.V d e w' base ok v xs:=f hne h.out
theorem vb (h:Kd.V d e w1 base ok v xs) (hb:Below w1.heap.size w1 w2):ae (Kd.V d e w2 base ok v xs):=⟨Kd.rJ h hb⟩
theorem nX (h:Kd.N d e w base ok v xs) (f:Kd.N d e w base ok v xs→Kd.N d e w' base ok v xs:=by intro h_;(with_reducible repeat(first|apply Kd.wu|apply Kd.ww|apply Kd.jm));exact h_):Kd.N d e w' base ok v xs:=f h
theorem nT (h:ae (Kd.N d e w base ok v xs)) (hne:∀ k,ok k→k≠g) (f:(∀ k,ok k→k≠g)→Kd.N d e w base ok v xs→Kd.N d e w' base ok v xs:=by intro hn_ h_;(with_reducible repeat(first|apply Kd.wu|apply Kd.ww|apply Kd.jm|refine Kd.bJ ?_ hn_ _));exact h_):Kd.N d e w' base ok v xs:=f hne h.out
theorem nB (h:ae (Kd.N d e w base ok v xs)) (hb:Below w1.heap.size w1 w2) (f:Kd.N d e w base ok v xs→Kd.N d e w1 base ok v xs:=by exact fun h_=>nX h_):ae (Kd.N d e w2 base ok v xs):=⟨Kd.dQ (f h.out) hb⟩
theorem nb (h:Kd.N d e w1 base ok v xs) (hb:Below w1.heap.size w1 w2):ae (Kd.N d e w2 base ok v xs):=⟨Kd.dQ h hb⟩
theorem nG' (h:ae (Kd.N d e w base ok v xs)) (hg:g=w1.heap.size) (hb:Below w1.heap.size w1 w2) (f:Kd.N d e w base ok v xs→Kd.N d e w1 base ok v xs:=by exact fun h_=>nX h_):ae (Kd.N d e w2 base (fun k=>ok k∧k≠g) v xs):=⟨Kd.dQ (Kd.yw (f h.out) g (Nat.le_of_eq hg.symm)) hb⟩
theorem ne (h:Kd.N d e w1 base ok u xs) (ho:d'.R e' w3 w1.heap.size ok' v ys) (hb:Below w1.heap.size w1 w2):ae (Kd.N d e w2 base (fun k=>ok k∧some k≠v.ownBlock) u xs):=⟨Kd.gP h (Kd.dW ho) hb⟩
theorem nO (h:ae (Kd.N d e w base ok u xs)) (hb:Below w1.heap.size w1 w2) (ho:d'.R e' w3 w1.heap.size ok' v0 ys) (ho2:d2.R e2 w4 w1.heap.size ok2 v1 zs) (f:Kd.N d e w base ok u xs→Kd.N d e w1 base ok u xs:=by exact fun h_=>nX h_):ae (Kd.N d e w2 base (fun k=>(ok k∧some k≠v0.ownBlock)∧some k≠v1.ownBlock) u xs):=⟨Kd.aG (Kd.nW (Kd.nW (Kd.yx (f h.out) hb) (Kd.dW ho)) (Kd.dW ho2)) (fun _ h_=>h_.1)⟩
theorem no (h:Kd.N d e w1 base ok u xs) (hb:Below w1.heap.size w1 w2) (ho:d'.R e' w3 w1.heap.size ok' v0 ys) (ho2:d2.R e2 w4 w1.heap.size ok2 v1 zs):ae (Kd.N d e w2 base (fun k=>(ok k∧some k≠v0.ownBlock)∧some k≠v1.ownBlock) u xs):=⟨Kd.aG (Kd.nW (Kd.nW (Kd.yx h hb) (Kd.dW ho)) (Kd.dW ho2)) (fun _ h_=>h_.1)⟩
theorem sX (h:Kd.S d e w base ok v xs) (f:Kd.S d e w base ok v xs→Kd.S d e w' base ok v xs:=by intro h_;(with_reducible repeat(first|apply Kd.vU|apply Kd.vV|apply Kd.uK));exact h_):Kd.S d e w' base ok v xs:=f h
theorem sT (h:ae (Kd.S d e w base ok v xs)) (hne:∀ k,ok k→k≠g) (f:(∀ k,ok k→k≠g)→Kd.S d e w base ok v xs→Kd.S d e w' base ok v xs:=by intro hn_ h_;(with_reducible repeat(first|apply Kd.vU|apply Kd.vV|apply Kd.uK|refine Kd.vW ?_ hn_ _));exact h_):Kd.S d e w' base ok v xs:=f hne h.out
theorem sO (h:ae (Kd.S d e w base ok u xs)) (hb:Below w1.heap.size w1 w2) (ho:d'.R e' w3 w1.heap.size ok' v0 ys) (ho2:d2.R e2 w4 w1.heap.size ok2 v1 zs) (f:Kd.S d e w base ok u xs→Kd.S d e w1 base ok u xs:=by exact fun h_=>sX h_):ae (Kd.S d e w2 base (fun k=>(ok k∧some k≠v0.ownBlock)∧some k≠v1.ownBlock) u xs):=⟨Kd.mH (Kd.yj (Kd.yj (Kd.DU (f h.out) hb) (Kd.dW ho)) (Kd.dW ho2)) (fun _ h_=>h_.1)⟩
theorem kb (h:ae (w.heap[g]?=some o)) (hb:Below w1.heap.size w1 w2) (f:w.heap[g]?=some o→w1.heap[g]?=some o:=by exact fun h_=>bD h_):ae (w2.heap[g]?=some o):=⟨aD (f h.out) hb⟩
theorem kP {o':Obj} {cs':Array Value} (h:ae (w.heap[g]?=some (.cells cs T (0,0)))) (hb:Below w1.heap.size w1 w2) (f:w.heap[g]?=some (.cells cs T (0,0))→w1.heap[g]?=some (.cells cs' T (0,0)):=by intro h_;(repeat(first|(with_reducible first|refine cK ?_ _|refine az ?_|refine aK ?_ _|apply mV)|apply mV));exact h_) (e:Obj.cells cs' T (0,0)=o':=by rfl):ae (w2.heap[g]?=some o'):=⟨aD (e ▸ f h.out) hb⟩
theorem kF {g':Nat} (h:ae (w.heap[g]?=some (.cells cs T (0,0)))) (hn:ae (g≠g')) (hb:Below w1.heap.size w1 w2) (f:g≠g'→w.heap[g]?=some (.cells cs T (0,0))→w1.heap[g]?=some (.cells cs T (0,0)):=by intro hn_ h_;(with_reducible repeat(first|refine cK ?_ _|refine az ?_|refine aK ?_ _|refine av ?_ hn_ _));exact h_):ae (w2.heap[g]?=some (.cells cs T (0,0))):=⟨aD (f hn.out h.out) hb⟩
theorem kf {g1:Nat} (h:ae (w.heap[g]?=some (.cells cs T (0,0)))) (hn1:ae (g≠g1)) (f:g≠g1→w.heap[g]?=some (.cells cs T (0,0))→w'.heap[g]?=some (.cells cs T (0,0)):=by intro h1_ h_;(with_reducible repeat(first|refine cK ?_ _|refine az ?_|refine aK ?_ _|refine av ?_ h1_ _));exact h_):w'.heap[g]?=some (.cells cs T (0,0)):=f hn1.out h.out
theorem kf2 {g1 g2:Nat} (h:ae (w.heap[g]?=some (.cells cs T (0,0)))) (hn1:ae (g≠g1)) (hn2:ae (g≠g2)) (f:g≠g1→g≠g2→w.heap[g]?=some (.cells cs T (0,0))→w'.heap[g]?=some (.cells cs T (0,0)):=by intro h1_ h2_ h_;(with_reducible repeat(first|refine cK ?_ _|refine az ?_|refine aK ?_ _|refine av ?_ h1_ _|refine av ?_ h2_ _));exact h_):w'.heap[g]?=some (.cells cs T (0,0)):=f hn1.out hn2.out h.out
theorem bB (hb:Below W.heap.size W w2) (h:Below w.heap.size w W:=by exact pB):ae (Below w.heap.size w w2):=⟨uI h hb⟩
theorem gA (w:World) (hg:g=w'.heap.size) (h:Below w.heap.size w w':=by exact pB):ae (w.heap.size≤g):=⟨gW hg h⟩
theorem nl {g':Nat} (hg:g'=w'.heap.size) (h:ae (w.heap[g]?=some o)) (f:w.heap[g]?=some o→w'.heap[g]?=some o:=by exact fun h_=>bD h_):ae (g≠g'):=⟨nL hg h f⟩
theorem ng {g':Nat} (hg:g'=w'.heap.size) (h:ae (w.heap[g]?=some o)) (f:w.heap[g]?=some o→w'.heap[g]?=some o:=by exact fun h_=>bD h_):ae (g'≠g):=⟨(nL hg h f).symm⟩
theorem cR (h:ae (d.R e w base ok (.slice A n c) xs)) (f:d.C w A xs.length xs→d.C w' A xs.length xs:=by exact fun h_=>cX h_):d.C w' A xs.length xs:=f (Kd.ax h.out).2.2
theorem cB (h:ae (d.C w A n xs)) (hb:Below w.heap.size w w':=by exact pB):d.C w' A n xs:=Kd.aT h.out hb
theorem lR (h:ae (d.R e w base ok (.slice A n c) xs)):n≤c:=(Kd.ax h.out).2.1
theorem nC {P:Prop} {w:World} {ad:Addr} {v:Value} {g:Nat} (h:w.cell? ad=some v) (hk:ae (w.heap.size≤g)) (f:ad.block<w.heap.size→w.heap.size≤g→P:=by intro hb_ hk_;first|exact Nat.ne_of_lt (Nat.lt_of_lt_of_le (by first|rwa [add_block] at hb_|exact hb_) hk_)|(rw[add_block];exact Nat.ne_of_lt (Nat.lt_of_lt_of_le (by first|rwa [add_block] at hb_|exact hb_) hk_))|(show(Addr.add _ _).block≠_;rw[add_block];exact Nat.ne_of_lt (Nat.lt_of_lt_of_le (by first|rwa [add_block] at hb_|exact hb_) hk_))|(dsimp only;exact Nat.ne_of_lt (Nat.lt_of_lt_of_le (by first|rwa [add_block] at hb_|exact hb_) hk_))):P:=f (World.block_lt_of_cell? _ _ h) hk.out
theorem fB {w w':World} {g k:Nat} {o:Obj} (h:ae (w.heap[g]?=some o)) (hk:w'.heap.size≤k) (f:w.heap[g]?=some o→w'.heap[g]?=some o:=by exact fun h_=>bD h_):k≠g:=Kd.jB (f h.out) k hk
theorem lP {k:Nat} {w W:World} (hk:W.heap.size≤k) (h:Below w.heap.size w W:=by exact pB):w.heap.size≤k:=Nat.le_trans (ay h) hk
theorem bE {α:Type} [DecidableEq α] {a b:α} (h:a=b):(a == b)=true∧(a != b)=false:=⟨beq_iff_eq.mpr h,bne_eq_false_iff_eq.mpr h⟩
theorem bI {α:Type} [DecidableEq α] {a b:α} (h:¬a=b):(a == b)=false∧(a != b)=true:=⟨beq_eq_false_iff_ne.mpr h,bne_iff_ne.mpr h⟩
theorem cV (h:ae (Kd.V d e w base ok (.slice A n c) xs)) (f:d.C w A xs.length xs→d.C w' A xs.length xs:=by exact fun h_=>cX h_):d.C w' A xs.length xs:=f (Kd.aW h.out).2.2
theorem lV (h:ae (Kd.V d e w base ok (.slice A n c) xs)):n≤c:=(Kd.aW h.out).2.1
theorem cN (h:ae (Kd.N d e w base ok (.slice A n c) xs)) (f:d.C w A xs.length xs→d.C w' A xs.length xs:=by exact fun h_=>cX h_):d.C w' A xs.length xs:=f (Kd.gQ h.out).2.2
theorem lN (h:ae (Kd.N d e w base ok (.slice A n c) xs)):n≤c:=(Kd.gQ h.out).2.1
end
section
variable {P:Program} {ops:Array Oper} {rest:List Oper} {o:Oper} {a:Act} {Q:Exit→Act→World→Prop} {W:World}
theorem gd (N:Tmp) (_hN:o.dst=some N) (h:wpList P ops Q (o::rest) a W):wpList P ops Q (o::rest) a W:=h
theorem gc (f:FuncId) {as_:Array Operand} {ts:Array TypeId} (_ho:o.op=.call { callee:=.value (.func f),args:=as_,argTypes:=ts }) (h:wpList P ops Q (o::rest) a W):wpList P ops Q (o::rest) a W:=h
theorem bx (cs:Array Value) (t:TypeId) (h:∀ g,g=W.heap.size→∀ w1,ae (w1.heap[g]?=some (.cells cs t (0,0)))→Below W.heap.size W w1→wpList P ops Q rest (a.put o.dst (.pointer (some ⟨g,0,none⟩))) w1) (hgd:o.guard=none:=by rfl) (hrun:(execOp a.eval o).run P W=.ok (.value (.pointer (some ⟨W.heap.size,0,none⟩))) (W.alloc (.cells cs t (0,0))):=by first|(go_simp;done)|(go_simp;rfl)):wpList P ops Q (o::rest) a W:=Kd.lw hgd hrun (h _ rfl _ ⟨gL W _⟩ (dV (Below.refl _ _) _))
theorem bxg (cs:Array Value) (t:TypeId) (h:∀ g,g=W.heap.size→∀ w1,ae (w1.heap[g]?=some (.cells cs t (0,0)))→Below W.heap.size W w1→wpList P ops Q rest (a.put o.dst (.pointer (some ⟨g,0,none⟩))) w1) (hw:Region.wanted o (yielded ops a.tmps)=true:=by rfl) (hrun:(execOp a.eval o).run P W=.ok (.value (.pointer (some ⟨W.heap.size,0,none⟩))) (W.alloc (.cells cs t (0,0))):=by first|(go_simp;done)|(go_simp;rfl)):wpList P ops Q (o::rest) a W:=jP hw (Kd.lw rfl hrun (h _ rfl _ ⟨gL W _⟩ (dV (Below.refl _ _) _)))
theorem iLg (N:Tmp) (xs:List Int) (h:∀ v1 w1,(Kd.int .i64).R 3 w1 W.heap.size (fun _=>True) v1 xs→Below W.heap.size W w1→wpList P ops Q rest (a.put o.dst v1) w1) (hd:o.dst=some N:=by rfl) (hw:Region.wanted o (yielded ops a.tmps)=true:=by rfl) (hm:xs.length≤9223372036854775807:=by simp) (hrun:(execOp a.eval o).run P W=.ok (.value (.slice (some ⟨W.heap.size,0,none⟩) xs.length xs.length)) (W.alloc (.cells (xs.map (Value.int .i64)).toArray 3)):=by(simp only[List.map_cons,List.map_nil]);first|(go_simp;done)|(go_simp;rfl)):wpList P ops Q (o::rest) a W:=
  jP hw (Kd.sS (Kd.int .i64) (w0:=W) W.heap.size 3 rfl (N:=N) hd (ok:=fun _=>True) (okp:=fun _=>True) hrun (Kd.kS (enc:=Value.int .i64) xs) (fun _ hk=>hk) trivial (Below.refl _ _) (Nat.le_refl _) hm (fun v1 w1 ho hb _ _=>h v1 w1 ho hb))
theorem iL (N:Tmp) (xs:List Int) (h:∀ v1 w1,(Kd.int .i64).R 3 w1 W.heap.size (fun _=>True) v1 xs→Below W.heap.size W w1→wpList P ops Q rest (a.put o.dst v1) w1) (hd:o.dst=some N:=by rfl) (hgd:o.guard=none:=by rfl) (hm:xs.length≤9223372036854775807:=by simp) (hrun:(execOp a.eval o).run P W=.ok (.value (.slice (some ⟨W.heap.size,0,none⟩) xs.length xs.length)) (W.alloc (.cells (xs.map (Value.int .i64)).toArray 3)):=by(simp only[List.map_cons,List.map_nil]);first|(go_simp;done)|(go_simp;rfl)):wpList P ops Q (o::rest) a W:=
  Kd.sS (Kd.int .i64) (w0:=W) W.heap.size 3 hgd hd (ok:=fun _=>True) (okp:=fun _=>True) hrun (Kd.kS (enc:=Value.int .i64) xs) (fun _ hk=>hk) trivial (Below.refl _ _) (Nat.le_refl _) hm (fun v1 w1 ho hb _ _=>h v1 w1 ho hb)
theorem gC (f:FuncId) (N:Option Tmp) {fn:Func} (hf:P.funcs[f]?=some fn) (args:Array Value) {as_:Array Operand} {ts:Array TypeId} (h:Calls P f args W fun e w'=>∃ v,e=.returned v∧wpList P ops Q rest (a.put N v) w') (hop:o.op=.call { callee:=.value (.func f),args:=as_,argTypes:=ts }:=by with_reducible exact rfl) (hd:o.dst=N:=by rfl) (hg:o.guard=none:=by rfl) (hname:(fn.name == "runtime.NumGoroutine")=false:=by kernel_rfl) (hb:fn.body.isSome=true:=by rfl) (hargs:as_.map a.eval=args:=by exact mA):wpList P ops Q (o::rest) a W:=gJ N hd hg hf hname hb args hop hargs h
end
theorem dD {P:Prop} (h:P:=by first|exact⟨rfl,_,World.drewN_drewN _ _ _⟩|exact⟨rfl,_,Eq.trans (World.drewN_drewN _ _ _) (congrArg (World.drewN _) (Nat.add_assoc _ _ _))⟩):P:=h
def bL:Nat→Nat→List Bool
 | 0,_=>[]
 | n+1,m=>(m%2==1)::bL n (m/2)
def bA (n m:Nat):Array Bool:=(bL n m).toArray
theorem bT {α β:Type} {o:Option α} {f:α→Option β} {b:β} (h:o.bind f=some b):∃ a,ae (o=some a)∧f a=some b:=by
 obtain⟨a,h1,h2⟩:=bS h
 exact⟨a,⟨h1⟩,h2⟩
theorem yE {p q:Prop} {α:Type} {a b:α} (hy:a=b) (H:p) (h:a=b→p→q:=by intro hy_ H_;first|(rw[hy_];with_reducible exact H_)|(have H2_:=(Option.bind_some _ _).symm.trans H_;rw[hy_];with_reducible exact H2_)|(have H2_:=(Option.bind_some _ _).symm.trans H_;with_reducible exact H2_)|with_reducible exact H_|(rw[hy_];exact H_)|exact H_):q:=h hy H
theorem iN {c:Prop} [Decidable c] {α:Type} {x:Option α} {r:α} (h:(if c then x else none)=some r):decide c=true∧x=some r:=by
 by_cases hc:c
 · rw[if_pos hc] at h
   exact⟨decide_eq_true hc,h⟩
 · rw[if_neg hc] at h
   cases h
theorem iO {c:Prop} [Decidable c] {α:Type} {x:Option α} {r:α} (h:(if c then x else none)=some r):c∧x=some r:=by
 by_cases hc:c
 · rw[if_pos hc] at h
   exact⟨hc,h⟩
 · rw[if_neg hc] at h
   cases h
theorem iM {c:Prop} [Decidable c] {α:Type} {x:Option α} {r:α} (h:(if c then none else x)=some r):¬c∧x=some r:=by
 by_cases hc:c
 · rw[if_pos hc] at h
   cases h
 · rw[if_neg hc] at h
   exact⟨hc,h⟩
theorem aI {k:IntKind} {w:World} {A:Option Addr} {n:Nat} {xs:List Int} (h:(Kd.int k).C w A n xs) (i:Int) (h0:decide (0≤i)=true:=by exact aS) (h1:decide (i<n)=true:=by exact aS):∃ ad,A=some ad∧w.cell? (ad.add i.toNat)=some (.int k (rd xs i))∧(0≤i)=True∧(i<(n:Int))=True:=by
 obtain⟨ad,e,hx⟩:=Kd.pJ h i (oE h0) (oE h1)
 exact⟨ad,e,hx,eq_true (oE h0),eq_true (oE h1)⟩
theorem mM {P:Prop} (h:P:=by with_reducible repeat' first|apply ih0|apply ih1|apply ih2|apply ih3|apply ih4|apply ih5|apply ih6|apply ih7|apply ih8|apply ih9|apply i0|apply i1|apply i2|apply i3|apply i4|apply i5|apply i6|apply i7|apply i8|apply i9|apply i10|apply i11|apply i12|apply i13|apply i14|apply i15|apply i16|apply i17|apply i18|apply i19|apply i20|apply i21|apply i22|apply i23|exact LeO.refl _|exact LeO.none _|refine LeO.ite ?_ ?_|refine LeO.bind ?_ (fun _=>?_)):P:=h
theorem dR {P:Prop} (h:P:=by repeat(first|exact dC.refl _|apply dC.step)):P:=h
theorem nK {P:Prop} (h:P:=by first|exact Kd.iX _ _ _ _ _|exact Kd.fU _ _ _ _ _|exact Kd.qN _ _ _ _ _|exact Kd.vN _ _ _ _ _|exact Kd.vS _ _ _ _ _):P:=h
theorem hB {w W:World} {p:Addr} {v:Value} (HB:ae (Below w.heap.size w W)) (hx:w.cell? p=some v):W.cell? p=some v:=(HB.out.cell (World.block_lt_of_cell? w _ hx)).trans hx
theorem rY {α:Type} {d:Kd α} {e base:Nat} {w:World} {ok:Nat→Prop} {v:Value} {xs ys:List α} (hy:ae (ys=xs)) (h:d.R e w base ok v xs):d.R e w base ok v ys:=hy.out ▸ h
theorem nY {α:Type} {d:Kd α} {e base:Nat} {w:World} {ok:Nat→Prop} {v:Value} {xs ys:List α} (hy:ae (ys=xs)) (h:Kd.N d e w base ok v xs):Kd.N d e w base ok v ys:=hy.out ▸ h
theorem bN {b:Bool} (h:¬b=true):b=false:=Bool.eq_false_iff.mpr h
theorem nF:¬(false=true):=by decide
theorem kQ {w w':World} {g T:Nat} {cs cs':Array Value} {o':Obj} (h:ae (w.heap[g]?=some (.cells cs T (0,0)))) (f:w.heap[g]?=some (.cells cs T (0,0))→w'.heap[g]?=some (.cells cs' T (0,0)):=by intro h_;(repeat(first|(with_reducible first|refine cK ?_ _|refine az ?_|refine aK ?_ _|apply mV)|apply mV));exact h_) (e:Obj.cells cs' T (0,0)=o':=by rfl):w'.heap[g]?=some o':=e ▸ f h.out
theorem eT (i:Int) (h:decide (0≤i)=true:=by exact aS):(0≤i)=True:=eq_true (oE h)
theorem eU (i:Int) (n:Nat) (h:decide (i<(n:Int))=true:=by exact aS):(i<(n:Int))=True:=eq_true (oE h)
theorem q2 {A B:Type} {a a':A} {b b':B} (h:some (a,b)=some (a',b')):a=a'∧b=b':=by simpa only[Option.some.injEq,Prod.mk.injEq] using h
theorem q3 {A B C:Type} {a a':A} {b b':B} {c c':C} (h:some (a,b,c)=some (a',b',c')):a=a'∧b=b'∧c=c':=by simpa only[Option.some.injEq,Prod.mk.injEq] using h
theorem q4 {A B C D:Type} {a a':A} {b b':B} {c c':C} {d d':D} (h:some (a,b,c,d)=some (a',b',c',d')):a=a'∧b=b'∧c=c'∧d=d':=by simpa only[Option.some.injEq,Prod.mk.injEq] using h
theorem q6 {A B C D E F:Type} {a a':A} {b b':B} {c c':C} {d d':D} {e e':E} {f f':F} (h:some (a,b,c,d,e,f)=some (a',b',c',d',e',f')):a=a'∧b=b'∧c=c'∧d=d'∧e=e'∧f=f':=by simpa only[Option.some.injEq,Prod.mk.injEq] using h
theorem q7 {A B C D E F G:Type} {a a':A} {b b':B} {c c':C} {d d':D} {e e':E} {f f':F} {g g':G} (h:some (a,b,c,d,e,f,g)=some (a',b',c',d',e',f',g')):a=a'∧b=b'∧c=c'∧d=d'∧e=e'∧f=f'∧g=g':=by simpa only[Option.some.injEq,Prod.mk.injEq] using h
section
variable {P:Program} {ops:Array Oper} {Q:Exit→Act→World→Prop} {md:Region.Mode} {S:World→Prop} {ds:List Nat} {oi:Oper} {v:Value} {fuel:Nat} {l:Array Bool} {a a':Act} {w:World} {T:Bool × List (List Nat × List Nat)} {B:List Nat}
theorem pS (i:Nat) (N:Tmp) (HT:ae (ik md ops=T)) (h:aJ P md ops Q S ds fuel (l.setIfInBounds i true) a' w) (hi:ops[i]?=some oi:=by exact rfl) (hN:oi.dst=some N:=by exact rfl) (hc:zx T l.toList (l.setIfInBounds i true).toList i=true:=by kernel_rfl) (hQ:∀ c a w,Q (.panic c) (a.put oi.dst v) w→Q (.panic c) a w:=by exact fun _ _ _ h=>h) (h1:Region.wanted oi (yielded ops a.tmps)=true:=by rfl) (hv:∀ w,(execOp a.eval oi).run P w=.ok (.value v) w:=by intro w';go_simp;with_reducible rfl) (ha:a.put (some N) v=a':=by simp only[Act.put,sA,sZ,sC,aH,bg];rfl):aJ P md ops Q S ds (fuel+1) l a w:=
  xV _ hi hN (xX HT.out hc) hQ (Or.inl ⟨h1,hv⟩) ha h
theorem pN (i:Nat) (N:Tmp) (HT:ae (ik md ops=T)) (h:aJ P md ops Q S ds fuel (l.setIfInBounds i true) a' w) (hi:ops[i]?=some oi:=by exact rfl) (hN:oi.dst=some N:=by exact rfl) (hc:zx T l.toList (l.setIfInBounds i true).toList i=true:=by kernel_rfl) (hQ:∀ c a w,Q (.panic c) (a.put oi.dst undef) w→Q (.panic c) a w:=by exact fun _ _ _ h=>h) (hy:Region.wanted oi (yielded ops a.tmps)=false∧undef=undef:=by exact⟨by rfl,rfl⟩) (ha:a.put (some N) undef=a':=by simp only[Act.put,sA,sZ,sC,aH,bg];rfl):aJ P md ops Q S ds (fuel+1) l a w:=
  xV _ hi hN (xX HT.out hc) hQ (Or.inr hy) ha h
theorem tU (i:Nat) (N:Tmp) (HT:ae (ik md ops=T)) (HW:ae (gM T.2 B=true)) (hS:S w) (h:aJ P md ops Q S ds fuel (l.setIfInBounds i true) a' w) (hi:ops[i]?=some oi:=by exact rfl) (hN:oi.dst=some N:=by exact rfl) (hc:yf T B ds l.toList (l.setIfInBounds i true).toList i=true:=by kernel_rfl) (hQ:∀ c a w,Q (.panic c) (a.put oi.dst v) w→Q (.panic c) a w:=by exact fun _ _ _ h=>h) (h1:Region.wanted oi (yielded ops a.tmps)=true:=by rfl) (hv:∀ w,S w→(execOp a.eval oi).run P w=.ok (.value v) w:=by intro w' hs_;(repeat obtain⟨s_,hs_⟩:=hs_);go_simp;with_reducible rfl) (ha:a.put (some N) v=a':=by simp only[Act.put,sA,sZ,sC,aH,bg];rfl):aJ P md ops Q S ds (fuel+1) l a w:=
  take_ _ hi hN (yg HT.out HW.out hc) hQ (Or.inl ⟨h1,hv⟩) hS ha h
theorem oU (i:Nat) (N:Option Tmp) (HT:ae (ik md ops=T)) (h:∀ K:Act→World→Prop,Shut (∀ a' w',S w'→(S w'→aJ P md ops Q S ds fuel (l.setIfInBounds i true) a' w')→K a' w')→if Region.wanted oi (yielded ops a.tmps)=true then Oper.wp P oi a w K Q else K (a.put N undef) w) (hi:ops[i]?=some oi:=by exact rfl) (hN:oi.dst=N:=by exact rfl) (hc:(kU T.2 l.toList==[i]&&l.toList.set i true==(l.setIfInBounds i true).toList)=true:=by kernel_rfl) (hd:i∉ds:=by decide):aJ P md ops Q S ds (fuel+1) l a w:=
  iK _ hi hN (xZ HT.out hc) hd h
theorem lU (i:Nat) (N:Option Tmp) (HT:ae (ik md ops=T)) (h:∀ K:Act→World→Prop,Shut (∀ a' w',aJ P md ops Q S ds fuel (l.setIfInBounds i true) a' w'→K a' w')→if Region.wanted oi (yielded ops a.tmps)=true then Oper.wp P oi a w K Q else K (a.put N undef) w) (hi:ops[i]?=some oi:=by exact rfl) (hN:oi.dst=N:=by exact rfl) (hc:(kU T.2 l.toList==[i]&&l.toList.set i true==(l.setIfInBounds i true).toList)=true:=by kernel_rfl) (hd:i∈ds:=by decide):aJ P md ops Q S ds (fuel+1) l a w:=
  xW _ hi hN (xZ HT.out hc) hd h
theorem nm (N:Tmp) {a0:Act} (h:aJ P md ops Q S ds fuel l a' w) (ha:Act.put a0 (some N) v=a':=by simp only[Act.put,sA,sZ,sC,aH,bg];rfl):aJ P md ops Q S ds fuel l (Act.put a0 (some N) v) w:=pU ha h
end
abbrev oN (A:Option Addr) (n c k:Nat):Prop:=some k≠(.slice A n c:Value).ownBlock
abbrev oV (v:Value) (k:Nat):Prop:=some k≠v.ownBlock
abbrev rI (W w:World) (ok:Nat→Prop) (v:Value) (l:List Int):Prop:=Kd.R (Kd.int .i64) 3 W w.heap.size ok v l
abbrev cI (w:World) (A:Option Addr) (l:List Int):Prop:=Kd.C (Kd.int .i64) w A l.length l
abbrev bw (w W:World):Prop:=Below w.heap.size w W
section
variable {P:Program} {ops:Array Oper} {rest:List Oper} {o:Oper} {a:Act} {Q:Exit→Act→World→Prop} {W:World}
theorem bz (t:TypeId) (h:∀ g,g=W.heap.size→∀ w1,ae (w1.heap[g]?=some (.cells #[.bool false,.slice none 0 0,.slice none 0 0] t (0,0)))→Below W.heap.size W w1→wpList P ops Q rest (a.put o.dst (.pointer (some ⟨g,0,none⟩))) w1) (hgd:o.guard=none:=by rfl) (hrun:(execOp a.eval o).run P W=.ok (.value (.pointer (some ⟨W.heap.size,0,none⟩))) (W.alloc (.cells #[.bool false,.slice none 0 0,.slice none 0 0] t (0,0))):=by first|(go_simp;done)|(go_simp;rfl)):wpList P ops Q (o::rest) a W:=bx _ t h hgd hrun
theorem bzg (t:TypeId) (h:∀ g,g=W.heap.size→∀ w1,ae (w1.heap[g]?=some (.cells #[.bool false,.slice none 0 0,.slice none 0 0] t (0,0)))→Below W.heap.size W w1→wpList P ops Q rest (a.put o.dst (.pointer (some ⟨g,0,none⟩))) w1) (hw:Region.wanted o (yielded ops a.tmps)=true:=by rfl) (hrun:(execOp a.eval o).run P W=.ok (.value (.pointer (some ⟨W.heap.size,0,none⟩))) (W.alloc (.cells #[.bool false,.slice none 0 0,.slice none 0 0] t (0,0))):=by first|(go_simp;done)|(go_simp;rfl)):wpList P ops Q (o::rest) a W:=bxg _ t h hw hrun
theorem rC {fn:Func} {R:Ending→World→Prop} {p u:Tmp} {ty:TypeId} {d:TypeDesc} (g:Nat) (t:TypeId) (cs:Array Value) (hg:W.heap[g]?=some (.cells cs t (0,0))) (hu:P.underlying ty=some d) (hR:R (.returned (.tuple #[.agg cs,a.tmps.getD u undef])) W) (h:fn.results=#[.cell p ty,.tmp u]:=by exact rfl) (hp:a.tmps.getD p undef=.pointer (some ⟨g,0,none⟩):=by exact rfl) (hd:(match d with|.struct _|.array _ _=>true|_=>false)=true:=by exact rfl) (hi:(P.info? ty).map (·.size)=some cs.size:=by kernel_rfl) (hf:a.defers=[]:=by exact rfl):bodyPost P fn R .ret a W:=bodyPost_ret (uH h _ _ g t cs (0,0) d hp hg hu hd hi) hf hR
end
theorem iD {c:Prop} [Decidable c] {α:Type} {x y:Option α} {r:α} (h:(if c then x else y)=some r):(decide c=true∧x=some r)∨(decide c=false∧y=some r):=by
 by_cases hc:c
 · rw[if_pos hc] at h
   exact .inl ⟨decide_eq_true hc,h⟩
 · rw[if_neg hc] at h
   exact .inr ⟨decide_eq_false hc,h⟩
theorem iE {β:Type} [DecidableEq β] {u v:β} {α:Type} {x y:Option α} {r:α} (h:(if u=v then x else y)=some r):((u == v)=true∧(u != v)=false∧x=some r)∨(¬u=v∧(u == v)=false∧(u != v)=true∧y=some r):=by
 by_cases hc:u=v
 · rw[if_pos hc] at h
   exact .inl ⟨(bE hc).1,(bE hc).2,h⟩
 · rw[if_neg hc] at h
   exact .inr ⟨hc,(bI hc).1,(bI hc).2,h⟩
section
variable {P:Program} {ops:Array Oper} {Q:Exit→Act→World→Prop} {md:Region.Mode} {S:World→Prop} {ds:List Nat} {oi:Oper} {v:Value} {fuel:Nat} {l:Array Bool} {a a':Act} {w:World}
theorem pV (i:Nat) (N:Tmp) (l':Array Bool) (h:aJ P md ops Q S ds fuel l' a' w) (hi:ops[i]?=some oi:=by exact rfl) (hN:oi.dst=some N:=by exact rfl) (hc:xU md ops l l' i=true:=by kernel_rfl) (hQ:∀ c a w,Q (.panic c) (a.put oi.dst v) w→Q (.panic c) a w:=by exact fun _ _ _ h=>h) (h1:Region.wanted oi (yielded ops a.tmps)=true:=by rfl) (hv:∀ w,(execOp a.eval oi).run P w=.ok (.value v) w:=by intro w';go_simp;with_reducible rfl) (ha:a.put (some N) v=a':=by simp only[Act.put,sA,sZ,sC,aH,bg];rfl):aJ P md ops Q S ds (fuel+1) l a w:=
  xV l' hi hN hc hQ (Or.inl ⟨h1,hv⟩) ha h
theorem tV (i:Nat) (N:Tmp) (l':Array Bool) (hS:S w) (h:aJ P md ops Q S ds fuel l' a' w) (hi:ops[i]?=some oi:=by exact rfl) (hN:oi.dst=some N:=by exact rfl) (hc:takeB md ops ds l l' i=true:=by kernel_rfl) (hQ:∀ c a w,Q (.panic c) (a.put oi.dst v) w→Q (.panic c) a w:=by exact fun _ _ _ h=>h) (h1:Region.wanted oi (yielded ops a.tmps)=true:=by rfl) (hv:∀ w,S w→(execOp a.eval oi).run P w=.ok (.value v) w:=by intro w' hs_;(repeat obtain⟨s_,hs_⟩:=hs_);go_simp;with_reducible rfl) (ha:a.put (some N) v=a':=by simp only[Act.put,sA,sZ,sC,aH,bg];rfl):aJ P md ops Q S ds (fuel+1) l a w:=
  take_ l' hi hN hc hQ (Or.inl ⟨h1,hv⟩) hS ha h
end


def Bzv.l0:Nat→Int→Int→List (S33)→Option (Bool)
 | 0,_,_,_=>none
 | k+1,x3,x102000,x102001=>if x3 < (x102001.length:Int) then(if 0≤x3 then(if(((ag x102001 x3).f1).length:Int) > 5 then(some false) else(if(((ag x102001 x3).f2).length:Int) > 5 then(some false) else(Bzv.l0 k (wrap64 (x3+1)) x102000 x102001))) else(none)) else(some true)
def Bzv.f (k:Nat) (a0_0:Int) (l0_1:List (S33)):Option (Bool):=if(l0_1.length:Int) > 20 then(some false) else(Bzv.l0 k 0 a0_0 l0_1)
theorem Bzv.mono_l:∀ k,(∀ a6 a7 a8,LeO (Bzv.l0 k a6 a7 a8) (Bzv.l0 (k+1) a6 a7 a8))
 | 0=>fun _ _ _ r h=>by simp [Bzv.l0] at h
 | k+1=>by
  have ih0:=Bzv.mono_l k
  ·intro a6 a7 a8;unfold Bzv.l0;exact mM
theorem Bzv.mono:∀ a6 a7 k,LeO (Bzv.f k a6 a7) (Bzv.f (k+1) a6 a7):=by
 intro a6 a7 k;have ih0:=Bzv.mono_l k;unfold Bzv.f;exact mM
theorem Bzv.calls (k:Nat) (a6:Int) (a7:Option Addr) (a8:Nat) (a9:List (S33)) (r:Bool) (w:World) (b4:Kd.C k33 w a7 a9.length a9) (b5:a9.length≤a8) (h:Bzv.f k a6 a9=some r) :
  Calls Try.prog 10 #[.agg #[.int .i64 a6,.slice a7 a9.length a8]] w fun e w'=>e=.returned (.bool r)∧bw w w':=by
 have hu24:=Try.underlying24;have b6:=aM b4;have b7:=aM b5;clear b4 b5;have HB:=aM (Below.refl w.heap.size w);have H:(if(a9.length:Int) > 20 then(some false) else(Bzv.l0 k 0 a6 a9))=some r:=h
 clear h;have b8:=aM H;clear H;go_enter Try.func10,Try.ntmps10
 go_upto_if 7 with (first|((with_reducible refine gd 1 rfl ?_);refine bxg #[.int .i64 a6,.slice a7 a9.length a8] 24 ?_;intro b9 hg d6 d7 hb;have d8:=gA w hg;replace HB:=bB hb;clear hb hg;obtain⟨e6,e7,f6,f7⟩:=bk2 d7))
 have H:=b8.out;clear b8;by_cases c5:(a9.length:Int) > 20
 ·rw[if_pos c5] at H;have f8:decide (20 < (a9.length:Int))=true:=dE c5;have g5:decide (20 < a9.length)=true:=dE (by omega)
  clear c5;(first|rw[f8]|(simp only[aH,bg];rw[f8])|skip)
  obtain rfl:=Option.some.inj H;go_wp2
  go_ret
  exact⟨eW,pB⟩
 ·rw[if_neg c5] at H;have f8:decide (20 < (a9.length:Int))=false:=decide_eq_false c5;have g5:decide (20 < a9.length)=false:=decide_eq_false (by omega)
  clear c5;(first|rw[f8]|(simp only[aH,bg];rw[f8])|skip)
  have H':=aM H;clear H;go_wp2
  go_loopg [3] k (fun kq g8 w'=>∃ (g9:Int),g8=.int .i64 g9∧ae (Bzv.l0 kq g9 a6 a9=some r)∧ae (kq≤k)∧ae (w'.heap[b9]?=some (.cells #[.int .i64 a6,(.slice a7 a9.length a8)] 24 (0,0)))∧ae (bw w w'))
  case atStart=>exact⟨(0),sD,H',⟨Nat.le_refl _⟩,⟨by exact kW d7⟩,⟨pB⟩⟩
  case round =>
   clear H';try clear j3
   obtain⟨g9,rfl,HA,j4,d7,HB⟩:=hrel;cases gk with
   | zero=>exact absurd HA.out (by simp [Bzv.l0])
   | succ k1 =>
    have H:=HA.out;clear HA;simp only[Bzv.l0] at H;replace H:=iD H;rcases H with⟨j5,H⟩|⟨j5,H⟩
    ·obtain⟨j6,H⟩:=iN H;by_cases c8:(((ag a9 g9).f1).length:Int) > 5
     ·rw[if_pos c8] at H;have j7:decide (5 < (((ag a9 g9).f1).length:Int))=true:=dE c8;have j8:decide (5 < ((ag a9 g9).f1).length)=true:=dE (by omega)
      clear c8;obtain rfl:=Option.some.inj H;obtain⟨j9,l5,l6,l7⟩:=bk2 d7;obtain⟨l8,l9,m0,m4,m5,m6,m7,m8,m9,n0,n7,n8,n9⟩:=gT b6.out g9 (oE aS) (oE aS);cases m6
      replace m7:=hB HB m7;replace m8:=hB HB m8;replace m9:=hB HB m9;have o0:=aM n7;have o8:=aM n0;clear n7 n0;have o9:=aM n9;have p9:=aM n8;clear n9 n8;have r6:=eT (g9);have r7:=eU (g9) a9.length;go_wp2
      go_ret
      exact⟨eW,pB⟩
     ·rw[if_neg c8] at H;have j7:decide (5 < (((ag a9 g9).f1).length:Int))=false:=decide_eq_false c8;have j8:decide (5 < ((ag a9 g9).f1).length)=false:=decide_eq_false (by omega)
      clear c8;by_cases c10:(((ag a9 g9).f2).length:Int) > 5
      ·rw[if_pos c10] at H;have r8:decide (5 < (((ag a9 g9).f2).length:Int))=true:=dE c10;have r9:decide (5 < ((ag a9 g9).f2).length)=true:=dE (by omega)
       clear c10;obtain rfl:=Option.some.inj H;obtain⟨t4,t5,t6,t7⟩:=bk2 d7;obtain⟨l8,l9,m0,m4,m5,m6,m7,m8,m9,n0,n7,n8,n9⟩:=gT b6.out g9 (oE aS) (oE aS);cases m6
       replace m7:=hB HB m7;replace m8:=hB HB m8;replace m9:=hB HB m9;have o0:=aM n7;have o8:=aM n0;clear n7 n0;have o9:=aM n9;have p9:=aM n8;clear n9 n8;have r6:=eT (g9);have r7:=eU (g9) a9.length;obtain⟨t8,t9,z3,z4,z5,z6,z7,z8,z9,B0,B5,B9,C0⟩:=gT b6.out g9 (oE aS) (oE aS);obtain rfl:l8=t8:=(by injection z6)
       replace z7:=hB HB z7;replace z8:=hB HB z8;replace z9:=hB HB z9;have C1:=aM B5;have C2:=aM B0;clear B5 B0;have C3:=aM C0;have C4:=aM B9;clear C0 B9;have C6:=eT (g9);have C7:=eU (g9) a9.length;have ea_:=Option.some.inj (m8.symm.trans z8);injection ea_ with ea_ en_ ec_
       subst ea_;subst ec_;clear en_;have ea_:=Option.some.inj (m9.symm.trans z9);injection ea_ with ea_ en_ ec_
       subst ea_;subst ec_;clear en_;go_wp2
       go_ret
       exact⟨eW,pB⟩
      ·rw[if_neg c10] at H;have r8:decide (5 < (((ag a9 g9).f2).length:Int))=false:=decide_eq_false c10;have r9:decide (5 < ((ag a9 g9).f2).length)=false:=decide_eq_false (by omega)
       clear c10;have H':=aM H;clear H;obtain⟨C8,C9,D4,D5⟩:=bk2 d7;obtain⟨l8,l9,m0,m4,m5,m6,m7,m8,m9,n0,n7,n8,n9⟩:=gT b6.out g9 (oE aS) (oE aS);cases m6
       replace m7:=hB HB m7;replace m8:=hB HB m8;replace m9:=hB HB m9;have o0:=aM n7;have o8:=aM n0;clear n7 n0;have o9:=aM n9;have p9:=aM n8;clear n9 n8;have r6:=eT (g9);have r7:=eU (g9) a9.length;obtain⟨t8,t9,z3,z4,z5,z6,z7,z8,z9,B0,B5,B9,C0⟩:=gT b6.out g9 (oE aS) (oE aS);obtain rfl:l8=t8:=(by injection z6)
       replace z7:=hB HB z7;replace z8:=hB HB z8;replace z9:=hB HB z9;have C1:=aM B5;have C2:=aM B0;clear B5 B0;have C3:=aM C0;have C4:=aM B9;clear C0 B9;have C6:=eT (g9);have C7:=eU (g9) a9.length;have ea_:=Option.some.inj (m8.symm.trans z8);injection ea_ with ea_ en_ ec_
       subst ea_;subst ec_;clear en_;have ea_:=Option.some.inj (m9.symm.trans z9);injection ea_ with ea_ en_ ec_
       subst ea_;subst ec_;clear en_;go_wp2
       go_roundg k1
       case measure=>have:=j4.out;omega
       case rel=>exact⟨(wrap64 (g9+1)),sD,H',⟨by have:=j4.out;omega⟩,⟨by exact kW d7⟩,⟨pB⟩⟩
    ·obtain rfl:=Option.some.inj H;obtain⟨D6,D7,D8,D9⟩:=bk2 d7;go_wp2
     go_ret
     exact⟨eW,pB⟩


def Azv.l0:Nat→List Int→Int→Int→Option (Bool)
 | 0,_,_,_=>none
 | k+1,x0,x8,x9=>if x9 < x8 then(if 0≤x9 then(if x9 < (x0.length:Int) then(if(rd x0 x9) < 0 then(some false) else(if(rd x0 x9)≥1000000000 then(some false) else(Azv.l0 k x0 x8 (wrap64 (x9+1))))) else(none)) else(none)) else(if(x0.length:Int)=0 then(some true) else(if 0≤(wrap64 ((x0.length:Int) - 1)) then(if(wrap64 ((x0.length:Int) - 1)) < (x0.length:Int) then(some ((rd x0 (wrap64 ((x0.length:Int) - 1))) != 0)) else(none)) else(none)))
def Azv.f (k:Nat) (l0:List Int):Option (Bool):=if(l0.length:Int) > 48 then(some false) else(Azv.l0 k l0 (l0.length:Int) 0)
theorem Azv.mono_l:∀ k,(∀ a6 a7 a8,LeO (Azv.l0 k a6 a7 a8) (Azv.l0 (k+1) a6 a7 a8))
 | 0=>fun _ _ _ r h=>by simp [Azv.l0] at h
 | k+1=>by
  have ih0:=Azv.mono_l k
  ·intro a6 a7 a8;unfold Azv.l0;exact mM
theorem Azv.mono:∀ a6 k,LeO (Azv.f k a6) (Azv.f (k+1) a6):=by
 intro a6 k;have ih0:=Azv.mono_l k;unfold Azv.f;exact mM
theorem Azv.calls (k:Nat) (a6:Option Addr) (a7:Nat) (l0:List Int) (r:Bool) (w:World) (a8:cI w a6 l0) (a9:l0.length≤a7) (h:Azv.f k l0=some r) :
  Calls Try.prog 65 #[.slice a6 l0.length a7] w fun e w'=>e=.returned (.bool r)∧dC w w':=by
 have b4:=aM a8;have b5:=aM a9;clear a8 a9;have H:(if(l0.length:Int) > 48 then(some false) else(Azv.l0 k l0 (l0.length:Int) 0))=some r:=h
 clear h;by_cases c2:(l0.length:Int) > 48
 ·rw[if_pos c2] at H;have b6:decide (48 < (l0.length:Int))=true:=dE c2;have b7:decide (48 < l0.length)=true:=dE (by omega)
  clear c2;obtain rfl:=Option.some.inj H;go_enter Try.func65,Try.ntmps65
  go_wp2
  go_ret
  exact⟨sD,dR⟩
 ·rw[if_neg c2] at H;have b6:decide (48 < (l0.length:Int))=false:=decide_eq_false c2;have b7:decide (48 < l0.length)=false:=decide_eq_false (by omega)
  clear c2;have H':=aM H;clear H;go_enter Try.func65,Try.ntmps65
  go_wp2
  go_loopg [9] k (fun kq b8 w'=>∃ (b9:Int),b8=.int .i64 b9∧ae (Azv.l0 kq l0 (l0.length:Int) b9=some r)∧ae (kq≤k)∧dC w w')
  case atStart=>exact⟨(0),sD,H',⟨Nat.le_refl _⟩,dR⟩
  case round =>
   clear H';try clear c2
   obtain⟨b9,rfl,HA,d6,⟨d7,rfl⟩⟩:=hrel;cases gk with
   | zero=>exact absurd HA.out (by simp [Azv.l0])
   | succ k1 =>
    have H:=HA.out;clear HA;simp only[Azv.l0] at H;replace H:=iD H;rcases H with⟨d8,H⟩|⟨d8,H⟩
    ·obtain⟨d9,H⟩:=iN H;obtain⟨e6,H⟩:=iN H;replace H:=iD H;rcases H with⟨e7,H⟩|⟨e7,H⟩
     ·obtain rfl:=Option.some.inj H;obtain⟨f6,f7,f8,g5,g8⟩:=aI b4.out b9;cases f7;go_wp2
      go_ret
      exact⟨sD,dR⟩
     ·by_cases c7:(rd l0 b9)≥1000000000
      ·rw[if_pos c7] at H;have g9:decide (1000000000≤(rd l0 b9))=true:=dE c7;clear c7;obtain rfl:=Option.some.inj H;obtain⟨f6,f7,f8,g5,g8⟩:=aI b4.out b9;cases f7;obtain⟨j3,j4,j5,j6,j7⟩:=aI b4.out b9;obtain rfl:f6=j3:=(by injection j4);go_wp2
       go_ret
       exact⟨sD,dR⟩
      ·rw[if_neg c7] at H;have g9:decide (1000000000≤(rd l0 b9))=false:=decide_eq_false c7;clear c7;have H':=aM H;clear H;obtain⟨f6,f7,f8,g5,g8⟩:=aI b4.out b9;cases f7;obtain⟨j3,j4,j5,j6,j7⟩:=aI b4.out b9;obtain rfl:f6=j3:=(by injection j4);go_wp2
       go_roundg k1
       case measure=>have:=d6.out;omega
       case rel=>exact⟨(wrap64 (b9+1)),sD,H',⟨by have:=d6.out;omega⟩,dR⟩
    ·replace H:=iE H;rcases H with⟨j8,j9,H⟩|⟨c8,j8,j9,H⟩
     ·obtain rfl:=Option.some.inj H;go_wp2
      go_ret
      exact⟨sD,dR⟩
     ·have l5:¬ (l0=[]):=fun h_=>c8 (by rw[h_];rfl)
      obtain⟨l6,l7⟩:∃ j_:Int,(wrap64 ((l0.length:Int) - 1))=j_:=⟨_,rfl⟩;replace H:(if 0≤(l6) then(if(l6) < (l0.length:Int) then(some ((rd l0 (l6)) != 0)) else(none)) else(none))=some r:=by first|(rw[l7] at H;exact H)|(simp only[l7] at H ⊢;exact H)
      have l8:(IntKind.i64.wrap ((l0.length:Int) - 1))=l6:=(aH _).trans l7;by_cases c10:0≤(l6)
      ·rw[if_pos c10] at H;have l9:=dE c10;clear c10;obtain⟨m0,H⟩:=iN H;obtain rfl:=Option.some.inj H;obtain⟨m4,m5,m6,m7,m8⟩:=aI b4.out (l6);cases m5;go_wp2
       go_ret
       exact⟨by first|rfl|(simp;done)|(simp only[← l7] <;> (first|rfl|simp))|(simp [*];done),dR⟩
      ·rw[if_neg c10] at H;exact absurd H (by simp)

def Bzy.l0:Nat→List Int→Int→Option (List Int)
 | 0,_,_=>none
 | k+1,x0,x3=>if x3 > 0 then(if 0≤(wrap64 (x3 - 1)) then(if(wrap64 (x3 - 1)) < (x0.length:Int) then(if(rd x0 (wrap64 (x3 - 1)))=0 then(Bzy.l0 k x0 (wrap64 (x3 - 1))) else(if 0≤x3 then(if x3≤(x0.length:Int) then(some (x0.take (x3:Int).toNat)) else(none)) else(none))) else(none)) else(none)) else(if 0≤x3 then(if x3≤(x0.length:Int) then(some (x0.take (x3:Int).toNat)) else(none)) else(none))
def Bzy.f (k:Nat) (l0:List Int):Option (List Int):=Bzy.l0 k l0 (l0.length:Int)
theorem Bzy.mono_l:∀ k,(∀ a6 a7,LeO (Bzy.l0 k a6 a7) (Bzy.l0 (k+1) a6 a7))
 | 0=>fun _ _ r h=>by simp [Bzy.l0] at h
 | k+1=>by
  have ih0:=Bzy.mono_l k
  ·intro a6 a7;unfold Bzy.l0;exact mM
theorem Bzy.mono:∀ a6 k,LeO (Bzy.f k a6) (Bzy.f (k+1) a6):=by
 intro a6 k;have ih0:=Bzy.mono_l k;unfold Bzy.f;exact mM
theorem Bzy.calls (k:Nat) (a6:Nat→Prop) (u9000_:Value) (l0:List Int) (r:List Int) (a7 w:World) (hB:Below a7.heap.size a7 w) (a8:Kd.R (Kd.int .i64) 3 w a7.heap.size a6 u9000_ l0) (h:Bzy.f k l0=some r) :
  Calls Try.prog 92 #[u9000_] w fun e w'=>∃ v0_:Value,e=.returned (v0_)∧Kd.R (Kd.int .i64) 3 w' a7.heap.size (fun k_=>(a6 k_∨w.heap.size≤k_)) v0_ r∧Below a7.heap.size a7 w'∧Kept w w' (fun k_=>a6 k_):=by
 have a9:=aM (show Kd.R (Kd.int .i64) 3 w a7.heap.size (fun k_=>(a6 k_∨w.heap.size≤k_)) u9000_ l0 from Kd.ah a8 (fun k_ hk=>(.inl hk)))
 have HK:=aM (Kept.refl w (fun k_=>a6 k_))
 have HW0:=aM hB.size;have HB:=aM hB;clear hB;have H:(Bzy.l0 k l0 (l0.length:Int))=some r:=h;clear h;have H':=aM H;clear H;obtain⟨b4,b5,rfl⟩:=Kd.aj a9.out;go_enter Try.func92,Try.ntmps92
 go_wp2
 go_loopg [3] k (fun kq b6 w'=>∃ (b7:Int),b6=.int .i64 b7∧ae (Bzy.l0 kq l0 b7=some r)∧ae (kq≤k)∧ae (Kd.R (Kd.int .i64) 3 w' a7.heap.size (fun k_=>(a6 k_∨w.heap.size≤k_)) (.slice b4 l0.length b5) l0)∧ae (Kept w w' (fun k_=>a6 k_))∧ae (Below a7.heap.size a7 w'))
 case atStart=>exact⟨((l0.length:Int)),sD,H',⟨Nat.le_refl _⟩,⟨rX a9.out⟩,⟨kK HK⟩,⟨pB⟩⟩
 case round =>
  clear H';try clear b8
  obtain⟨b7,rfl,HA,b9,d6,HK,HB⟩:=hrel;cases gk with
  | zero=>exact absurd HA.out (by simp [Bzy.l0])
  | succ k1 =>
   have H:=HA.out;clear HA;simp only[Bzy.l0] at H;by_cases c3:b7 > 0
   ·rw[if_pos c3] at H;have d7:decide (0 < b7)=true:=dE c3;clear c3;obtain⟨d8,d9⟩:∃ j_:Int,(wrap64 (b7 - 1))=j_:=⟨_,rfl⟩;replace H:(if 0≤(d8) then(if(d8) < (l0.length:Int) then(if(rd l0 (d8))=0 then(Bzy.l0 k1 l0 d8) else(if 0≤b7 then(if b7≤(l0.length:Int) then(some (l0.take (b7:Int).toNat)) else(none)) else(none))) else(none)) else(none))=some r:=by first|(rw[d9] at H;exact H)|(simp only[d9] at H ⊢;exact H)
    have e6:(IntKind.i64.wrap (b7 - 1))=d8:=(aH _).trans d9;obtain⟨e7,H⟩:=iN H;obtain⟨f6,H⟩:=iN H;by_cases c7:(rd l0 (d8))=0
    ·rw[if_pos c7] at H;obtain⟨f7,f8⟩:=bE c7;clear c7;have H':=aM H;clear H;obtain⟨g5,g8,g9,j3,j4⟩:=aI (Kd.ax d6.out).2.2 (d8);cases g8;go_wp2
     go_roundg k1
     case measure=>have:=b9.out;omega
     case rel=>exact⟨(d8),(by first|rfl|(simp;done)|(simp only[← d9] <;> (first|rfl|simp))|(simp [*];done)),H',⟨by have:=b9.out;omega⟩,⟨rX d6.out⟩,⟨kK HK⟩,⟨pB⟩⟩
    ·rw[if_neg c7] at H;obtain⟨f7,f8⟩:=bI c7;obtain⟨c8,H⟩:=iO H;have j5:=eq_true c8;have j6:decide (0≤b7)=true:=dE c8;clear c8;obtain⟨c9,H⟩:=iO H;have j7:=eq_true c9;have j8:decide (b7≤(l0.length:Int))=true:=dE c9;clear c9;obtain⟨j9,l5⟩:∃ y_:List Int,y_=(l0.take (b7:Int).toNat):=⟨_,rfl⟩;replace H:(some j9)=some r:=yE l5 H
     have l6:=aM l5;clear l5;obtain rfl:=Option.some.inj H;obtain⟨g5,g8,g9,j3,j4⟩:=aI (Kd.ax d6.out).2.2 (d8);cases g8;have l7:(b7:Int)≤((l0.length:Int):Int):=oE aS
     obtain⟨i010,l8,_,hsz10,_⟩:=info_parts info3;have hcut10:=nM (P:=Try.prog) 30 3 .i64 Try.underlying30 l8 (some g5) l0.length b5 b7 (oE aS) l7 (Kd.ax d6.out).2.1
     have l9:=Kd.mG (m:=(b7:Int).toNat) d6.out (by omega)
     have m0:j9.length=(b7:Int).toNat:=(by rw[l6.out,List.length_take];omega)
     rw[← l6.out] at l9;rw[← m0] at l9 hcut10;clear m0 l8 hsz10 d6;have m4:=aM l9;clear l9;replace l7:=eq_true l7;go_wp2
     go_ret
     exact⟨_,by first|rfl|(simp [bv,bC] <;> rfl)|(simp only[← d9];first|rfl|(simp [bv,bC] <;> rfl))|(simp [*,bv,bC] <;> rfl),rX m4.out,pB,kK HK⟩
   ·rw[if_neg c3] at H;have d7:decide (0 < b7)=false:=decide_eq_false c3;clear c3;by_cases m5:0≤b7
    ·rw[if_pos m5] at H;have m6:=eq_true m5;have m7:=dE m5;clear m5;obtain⟨m8,H⟩:=iO H;have m9:=eq_true m8;have n0:decide (b7≤(l0.length:Int))=true:=dE m8;clear m8;obtain⟨n7,n8⟩:∃ y_:List Int,y_=(l0.take (b7:Int).toNat):=⟨_,rfl⟩;replace H:(some n7)=some r:=yE n8 H
     have n9:=aM n8;clear n8;obtain rfl:=Option.some.inj H;have o0:(b7:Int)≤((l0.length:Int):Int):=oE aS
     obtain⟨i013,o8,_,hsz13,_⟩:=info_parts info3;have hcut13:=nM (P:=Try.prog) 30 3 .i64 Try.underlying30 o8 b4 l0.length b5 b7 (oE aS) o0 (Kd.ax d6.out).2.1
     have o9:=Kd.mG (m:=(b7:Int).toNat) d6.out (by omega)
     have p9:n7.length=(b7:Int).toNat:=(by rw[n9.out,List.length_take];omega)
     rw[← n9.out] at o9;rw[← p9] at o9 hcut13;clear p9 o8 hsz13 d6;have r6:=aM o9;clear o9;replace o0:=eq_true o0;go_wp2
     go_ret
     exact⟨_,eW,rX r6.out,pB,kK HK⟩
    ·rw[if_neg m5] at H;exact absurd H (by simp)


def Gzz.f (l0:List Int) (a1:Int):Option (List Int):=if 0≤(mx a1 (l0.length:Int)) then(if(mx a1 (l0.length:Int):Int).toNat≤35184372088832 then((Hzq.f (List.replicate (mx a1 (l0.length:Int):Int).toNat 0) l0).bind fun bt117=>(some bt117.2)) else(none)) else(none)
theorem Gzz.calls (a6:Option Addr) (a7:Nat) (l0:List Int) (a8:Int) (r:List Int) (w:World) (a9:cI w a6 l0) (b4:l0.length≤a7) (h:Gzz.f l0 a8=some r) :
  Calls Try.prog 93 #[.slice a6 l0.length a7,.int .i64 a8] w fun e w'=>∃ v0_:Value,e=.returned (v0_)∧rI w' w (fun _=>True) v0_ r∧bw w w':=by
 have b5:=aM a9;have b6:=aM b4;clear a9 b4;have HB:=aM (Below.refl w.heap.size w);have H:(if 0≤(mx a8 (l0.length:Int)) then(if(mx a8 (l0.length:Int):Int).toNat≤35184372088832 then((Hzq.f (List.replicate (mx a8 (l0.length:Int):Int).toNat 0) l0).bind fun b7=>(some b7.2)) else(none)) else(none))=some r:=h
 clear h;obtain⟨b8,b9⟩:∃ j_:Int,(mx a8 (l0.length:Int))=j_:=⟨_,rfl⟩;replace H:(if 0≤(b8) then(if(b8:Int).toNat≤35184372088832 then((Hzq.f (List.replicate (b8:Int).toNat 0) l0).bind fun b7=>(some b7.2)) else(none)) else(none))=some r:=by first|(rw[b9] at H;exact H)|(simp only[b9] at H ⊢;exact H)
 (try(have d6:0≤b8:=by(rw[← b9];unfold mx;(repeat' split) <;> omega)))
 (try(have d7:0≤b8:=by omega))
 have d8:(if a8 < (l0.length:Int) then(l0.length:Int) else a8)=b8:=b9
 by_cases c4:0≤(b8)
 ·rw[if_pos c4] at H;have d9:=eq_true c4;have e6:=dE c4;clear c4;obtain⟨c5,H⟩:=iO H;have e7:=eq_true c5;have f6:decide ((b8:Int).toNat≤35184372088832)=true:=dE c5;clear c5;obtain⟨f7,f8⟩:∃ y_:List Int,y_=(List.replicate (b8:Int).toNat 0):=⟨_,rfl⟩;replace H:((Hzq.f f7 l0).bind fun b7=>(some b7.2))=some r:=yE f8 H
  have g5:=aM f8;clear f8;replace H:=bS H;obtain⟨⟨g8,g9⟩,j3,H⟩:=H;replace H:(some g9)=some r:=H;have j4:=aM j3;clear j3;obtain rfl:=Option.some.inj H;go_enter Try.func93,Try.ntmps93
  go_wp2_with (first|((with_reducible refine dY (N:=10) rfl ?_);refine Kd.kz (Kd.int .i64) _ 3 rfl (N:=10) rfl 30 _ _ rfl b8 rfl rfl Try.underlying30 (.int .i64 0) 8 info3 rfl (by decide) (by omega) 0 (ok:=fun _=>True) (okp:=fun _=>True) rfl (fun _ hk=>hk) trivial (oE aS) (Nat.le_trans (Nat.mul_le_mul_right _ (oE aS:b8.toNat≤35184372088832)) (by omega)) (Below.refl _ _) (Nat.le_refl _) ?_;intro j5 j6 j7 hb hg_ hnew_;clear hg_ hnew_;replace j7:=rY g5 j7;have j8:=rL j7;replace HB:=bB hb;clear hb j7;obtain⟨j9,l5,rfl⟩:=Kd.aj j8.out)|((with_reducible refine dw (b:=.copy) rfl ?_);refine BD (some 13) rfl rfl rfl (.slice j9 f7.length l5) (.slice a6 l0.length a7) rfl rfl ?_;(with_reducible refine(Hzq.calls (by kernel_rfl) (fun k_=>some k_=(.slice j9 f7.length l5:Value).ownBlock) (.slice j9 f7.length l5) f7 _ _ l0 g8 g9 w _ ?_ ?_ ?_ ?_ j4.out).mono ?_);exact pB;exact Kd.dJ rfl j8.out;exact Kd.sW (Kd.dZ .i64) b5.out pB (fun k_ hs_=>(fun e_=>Kd.dW j8.out k_ e_.symm) hs_);exact b6.out;rintro e l6 ⟨rfl,l7,hb,hkp⟩;refine⟨_,rfl,?_⟩;replace j8:=aM (Kd.jE rfl l7 (fun k_ e_=>j8.out.1 k_ e_));replace HB:=aM (hb);clear hb hkp l7))
  go_ret
  exact⟨_,by first|rfl|(simp [bv,bC] <;> rfl)|(simp only[← b9];first|rfl|(simp [bv,bC] <;> rfl))|(simp [*,bv,bC] <;> rfl),rX j8.out,pB⟩
 ·rw[if_neg c4] at H;exact absurd H (by simp)

def Czf.l0:Nat→List Int→List Int→Int→Option (Int)
 | 0,_,_,_=>none
 | k+1,x0,x1,x5=>if x5≥0 then(if 0≤x5 then(if x5 < (x0.length:Int) then(if x5 < (x1.length:Int) then(if(rd x0 x5) < (rd x1 x5) then(some (-1)) else(if(rd x0 x5) > (rd x1 x5) then(some 1) else(Czf.l0 k x0 x1 (wrap64 (x5 - 1))))) else(none)) else(none)) else(none)) else(some 0)
def Czf.f (k:Nat) (l0:List Int) (l1:List Int):Option (Int):=if(l0.length:Int)=(l1.length:Int) then(Czf.l0 k l0 l1 (wrap64 ((l0.length:Int) - 1))) else(if(l0.length:Int) < (l1.length:Int) then(some (-1)) else(some 1))
theorem Czf.mono_l:∀ k,(∀ a6 a7 a8,LeO (Czf.l0 k a6 a7 a8) (Czf.l0 (k+1) a6 a7 a8))
 | 0=>fun _ _ _ r h=>by simp [Czf.l0] at h
 | k+1=>by
  have ih0:=Czf.mono_l k
  ·intro a6 a7 a8;unfold Czf.l0;exact mM
theorem Czf.mono:∀ a6 a7 k,LeO (Czf.f k a6 a7) (Czf.f (k+1) a6 a7):=by
 intro a6 a7 k;have ih0:=Czf.mono_l k;unfold Czf.f;exact mM
theorem Czf.calls (k:Nat) (a6:Option Addr) (a7:Nat) (l0:List Int) (a8:Option Addr) (a9:Nat) (l1:List Int) (r:Int) (w:World) (b4:cI w a6 l0) (b5:l0.length≤a7) (b6:cI w a8 l1) (b7:l1.length≤a9) (h:Czf.f k l0 l1=some r) :
  Calls Try.prog 98 #[.slice a6 l0.length a7,.slice a8 l1.length a9] w fun e w'=>e=.returned (.int .i64 r)∧dC w w':=by
 have b8:=aM b4;have b9:=aM b5;clear b4 b5;have d6:=aM b6;have d7:=aM b7;clear b6 b7;have H:(if(l0.length:Int)=(l1.length:Int) then(Czf.l0 k l0 l1 (wrap64 ((l0.length:Int) - 1))) else(if(l0.length:Int) < (l1.length:Int) then(some (-1)) else(some 1)))=some r:=h
 clear h;by_cases c3:(l0.length:Int)=(l1.length:Int)
 ·rw[if_pos c3] at H;obtain⟨d8,d9⟩:=bE c3;have e6:(l0.length == l1.length)=true:=by first|simpa using c3|(simp at c3 ⊢;omega)
  clear c3;have H':=aM H;clear H;go_enter Try.func98,Try.ntmps98
  go_wp2
  repeat(go_quiet (fail);try go_wp2)
  go_loopg [5] k (fun kq e7 w'=>∃ (f6:Int),e7=.int .i64 f6∧ae (Czf.l0 kq l0 l1 f6=some r)∧ae (kq≤k)∧dC w w')
  case atStart=>exact⟨(wrap64 ((l0.length:Int) - 1)),sD,H',⟨Nat.le_refl _⟩,dR⟩
  case round =>
   clear H';try clear a9
   obtain⟨f6,rfl,HA,f7,⟨f8,rfl⟩⟩:=hrel;cases gk with
   | zero=>exact absurd HA.out (by simp [Czf.l0])
   | succ k1 =>
    have H:=HA.out;clear HA;simp only[Czf.l0] at H;by_cases c4:f6≥0
    ·rw[if_pos c4] at H;have g5:decide (0≤f6)=true:=dE c4;clear c4;obtain⟨g8,H⟩:=iN H;obtain⟨g9,H⟩:=iN H;obtain⟨j3,H⟩:=iN H;replace H:=iD H;rcases H with⟨j4,H⟩|⟨j4,H⟩
     ·obtain rfl:=Option.some.inj H;obtain⟨j5,j6,j7,j8,j9⟩:=aI b8.out f6;cases j6;obtain⟨l5,l6,l7,l8,l9⟩:=aI d6.out f6;cases l6;go_wp2
      repeat(go_quiet (fail);try go_wp2)
      go_ret
      exact⟨sD,dR⟩
     ·by_cases c9:(rd l0 f6) > (rd l1 f6)
      ·rw[if_pos c9] at H;have m0:decide ((rd l1 f6) < (rd l0 f6))=true:=dE c9;clear c9;obtain rfl:=Option.some.inj H;obtain⟨j5,j6,j7,j8,j9⟩:=aI b8.out f6;cases j6;obtain⟨l5,l6,l7,l8,l9⟩:=aI d6.out f6;cases l6;obtain⟨m4,m5,m6,m7,m8⟩:=aI b8.out f6;obtain rfl:j5=m4:=(by injection m5);obtain⟨m9,n0,n7,n8,n9⟩:=aI d6.out f6;obtain rfl:l5=m9:=(by injection n0);go_wp2
       repeat(go_quiet (fail);try go_wp2)
       go_ret
       exact⟨sD,dR⟩
      ·rw[if_neg c9] at H;have m0:decide ((rd l1 f6) < (rd l0 f6))=false:=decide_eq_false c9;clear c9;have H':=aM H;clear H;obtain⟨j5,j6,j7,j8,j9⟩:=aI b8.out f6;cases j6;obtain⟨l5,l6,l7,l8,l9⟩:=aI d6.out f6;cases l6;obtain⟨m4,m5,m6,m7,m8⟩:=aI b8.out f6;obtain rfl:j5=m4:=(by injection m5);obtain⟨m9,n0,n7,n8,n9⟩:=aI d6.out f6;obtain rfl:l5=m9:=(by injection n0);go_wp2
       repeat(go_quiet (fail);try go_wp2)
       go_roundg k1
       case measure=>have:=f7.out;omega
       case rel=>exact⟨(wrap64 (f6 - 1)),sD,H',⟨by have:=f7.out;omega⟩,dR⟩
    ·rw[if_neg c4] at H;have g5:decide (0≤f6)=false:=decide_eq_false c4;clear c4;obtain rfl:=Option.some.inj H;go_wp2
     repeat(go_quiet (fail);try go_wp2)
     go_ret
     exact⟨sD,dR⟩
 ·rw[if_neg c3] at H;obtain⟨d8,d9⟩:=bI c3;have e6:(l0.length == l1.length)=false:=by first|simpa using c3|(simp at c3 ⊢;omega)
  by_cases c10:(l0.length:Int) < (l1.length:Int)
  ·rw[if_pos c10] at H;have o0:=dE c10;have o8:decide (l0.length < l1.length)=true:=dE (Int.ofNat_lt.mp c10);clear c10;obtain rfl:=Option.some.inj H;go_enter Try.func98,Try.ntmps98
   go_wp2
   repeat(go_quiet (fail);try go_wp2)
   go_ret
   exact⟨sD,dR⟩
  ·rw[if_neg c10] at H;have o0:decide ((l0.length:Int) < (l1.length:Int))=false:=decide_eq_false c10;have o8:decide (l0.length < l1.length)=false:=decide_eq_false (fun h=>c10 (Int.ofNat_lt.mpr h))
   clear c10;obtain rfl:=Option.some.inj H;go_enter Try.func98,Try.ntmps98
   go_wp2
   repeat(go_quiet (fail);try go_wp2)
   go_ret
   exact⟨sD,dR⟩

end Go.Proofs.Ytbnpcplckcipfaa.Print
