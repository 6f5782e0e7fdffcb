import Derived.Test.YtokkiljkgejnhaaGreatProg
import Derived.Below
import Derived.Deep.Draws
import Derived.Deep.AppendLies
import Derived.Maps.AppendAt
import Derived.OwnWalk
import Derived.Laws.BytesArg
import Derived.Laws.MakeOwn
import Derived.Laws.OwnMore
import Derived.Deep.OwnRows
import Derived.Tactics
import Derived.Lib.ConvBytes
import Derived.Laws.Slices
import Derived.WalkKit
import Derived.KernelRfl
import Derived.RowKit3
import Derived.Deep.LoopGhost
import Derived.Deep.QuietTactic
import Derived.BigQuiet
import Derived.WideLaws
import Derived.Deep.DeepCutAuto
import Derived.Deep.CutBlock
import Derived.Deep.RegionHeld3
import Derived.Laws.Rows
import Derived.Lib.AppendStr
import Derived.ArgAppend
import Derived.Laws.IdiomCopy
import Derived.OrdersHeld
import Derived.Laws.BitsLemmas
import Derived.RowKit
import Derived.Laws.CopyOwn
import Derived.Test.YtokkiljkgejnhaaGreatWWords
import Derived.Test.YtokkiljkgejnhaaGreatWLast
import Derived.Test.YtokkiljkgejnhaaGreatWTab
import Derived.Test.YtokkiljkgejnhaaGreatWFour
import Derived.Test.YtokkiljkgejnhaaGreatWQPut
import Derived.Test.YtokkiljkgejnhaaGreatWApart
import Derived.Test.YtokkiljkgejnhaaGreatWArr
import Derived.Test.YtokkiljkgejnhaaGreatWZeros
import Derived.Test.YtokkiljkgejnhaaGreatWFoot
import Derived.Test.YtokkiljkgejnhaaGreatWKept
import Derived.Test.YtokkiljkgejnhaaGreatWShare
import Derived.Test.YtokkiljkgejnhaaGreatWN
import Derived.Test.YtokkiljkgejnhaaGreatWFootNe
import Derived.Test.YtokkiljkgejnhaaGreatWAt
import Derived.Test.YtokkiljkgejnhaaGreatWEqStruct
import Derived.Test.YtokkiljkgejnhaaGreatWRepsOne
import Derived.Test.YtokkiljkgejnhaaGreatWInv
import Derived.Test.YtokkiljkgejnhaaGreatWInvWords
import Derived.Test.YtokkiljkgejnhaaGreatWGuard
import Derived.Test.YtokkiljkgejnhaaGreatWNEv
import Derived.Test.YtokkiljkgejnhaaGreatWMore
namespace Go.Proofs.YtokkiljkgejnhaaGreat.Print
open Go.RowKit Go.Proofs.YtokkiljkgejnhaaGreatW.PrintWords Go.Proofs.YtokkiljkgejnhaaGreatW.PrintLast Go.Proofs.YtokkiljkgejnhaaGreatW.PrintMore
attribute [local go_sem] max2_int min2_int max_two min_two max_three min_three max_four min_four
set_option linter.unusedVariables false
set_option maxRecDepth 100000
set_option maxHeartbeats 8000000
set_option linter.unusedSimpArgs false



def errW:Option Int→Value
  | none=>.nilIface
  | some c=>.iface 0 (.int .i64 c)
theorem errW_none:errW none=.nilIface:=rfl
theorem errW_some (c:Int):errW (some c)=.iface 0 (.int .i64 c):=rfl
theorem eW {P:Prop} (h:P:=by first|rfl|(simp [errW_none,errW_some] <;> rfl)|(simp [*,errW_none,errW_some] <;> rfl)):P:=h

theorem info3:(Tryz.prog.info? 3).map (fun i=>(i.zero,i.size,i.bytes))=some (some (.int .i64 0),1,8):=by kernel_rfl
theorem info26:(Tryz.prog.info? 26).map (fun i=>(i.zero,i.size,i.bytes))=some (some (.agg #[(.bool false),(.slice none 0 0),(.slice none 0 0)]),3,56):=by kernel_rfl

structure S26 where
  f0:Bool
  f1:(List Int)
  f2:(List Int)
def z26:S26:=⟨false,([]:List Int),([]:List Int)⟩
def k26:Kd S26:=Kd.iso (Kd.pair Kd.bool (Kd.pair (Kd.slice 3 (Kd.int .i64)) (Kd.slice 3 (Kd.int .i64)))) (fun x:S26=>(x.f0,x.f1,x.f2))
theorem k26_open {w:World} {x:S26} {cs:List Value} (h:k26.K w x cs):∃ a6 a7 a8 c2,cs=[.bool x.f0,.slice a6 x.f1.length a7,.slice a8 x.f2.length c2]∧x.f1.length≤a7∧(Kd.int .i64).C w a6 x.f1.length x.f1∧x.f2.length≤c2∧(Kd.int .i64).C w a8 x.f2.length x.f2:=by
  obtain⟨_,_,rfl,rfl,⟨_,_,rfl,⟨a6,a7,rfl,l1,g1⟩,⟨a8,c2,rfl,l2,g2⟩⟩⟩:=h;exact⟨a6,a7,a8,c2,rfl,l1,g1,l2,g2⟩
theorem k26_openM {w:World} {base:Nat} {ok:Nat→Prop} {x:S26} {cs:List Value} (h:k26.M w base ok x cs):∃ a6 a7,cs=[.bool x.f0,a6,a7]∧(Kd.int .i64).R 3 w base ok a6 x.f1∧(Kd.int .i64).R 3 w base ok a7 x.f2:=by
  obtain⟨_,_,rfl,rfl,⟨_,_,rfl,⟨a6,rfl,g1⟩,⟨a7,rfl,g2⟩⟩⟩:=h;exact⟨a6,a7,rfl,g1,g2⟩
theorem k26_mk (w:World) (x:S26) {a6:Option Addr} {a7:Nat} (l1:x.f1.length≤a7) (g1:(Kd.int .i64).C w a6 x.f1.length x.f1) {a8:Option Addr} {c2:Nat} (l2:x.f2.length≤c2) (g2:(Kd.int .i64).C w a8 x.f2.length x.f2):k26.K w x [.bool x.f0,.slice a6 x.f1.length a7,.slice a8 x.f2.length c2]:=⟨[.bool x.f0],[.slice a6 x.f1.length a7,.slice a8 x.f2.length c2],rfl,rfl,⟨[.slice a6 x.f1.length a7],[.slice a8 x.f2.length c2],rfl,⟨a6,a7,rfl,l1,g1⟩,⟨a8,c2,rfl,l2,g2⟩⟩⟩
theorem k26_mkM (w:World) (base:Nat) (ok:Nat→Prop) (x:S26) {a6:Value} (g1:(Kd.int .i64).R 3 w base ok a6 x.f1) {a7:Value} (g2:(Kd.int .i64).R 3 w base ok a7 x.f2):k26.M w base ok x [.bool x.f0,a6,a7]:=⟨[.bool x.f0],[a6,a7],rfl,rfl,⟨[a6],[a7],rfl,⟨a6,rfl,g1⟩,⟨a7,rfl,g2⟩⟩⟩
theorem k26_mkF (W:World) (ok:Nat→Prop) (x:S26) {a6:Option Addr} {a7:Nat} (l1:x.f1.length≤a7) (g1:Kd.F (Kd.int .i64) W ok a6 x.f1.length x.f1) {a8:Option Addr} {c2:Nat} (l2:x.f2.length≤c2) (g2:Kd.F (Kd.int .i64) W ok a8 x.f2.length x.f2):Kd.FK k26 W ok x [.bool x.f0,.slice a6 x.f1.length a7,.slice a8 x.f2.length c2]:=fun W2 hW=>k26_mk W2 x l1 (g1 W2 hW) l2 (g2 W2 hW)
def rd_T26 (xs:List S26) (i:Int):S26:=xs.getD i.toNat z26
theorem at_T26 {w:World} {A:Option Addr} {n:Nat} {xs:List S26} (h:Kd.C k26 w A n xs) (i:Int) (a6:0≤i) (a7:i < n):∃ ad a8 b4 b5 c2,A=some ad∧w.cell? (ad.add (i.toNat * 3))=some (.bool (rd_T26 xs i).f0)∧w.cell? ⟨(ad.add (i.toNat * 3)).block,(ad.add (i.toNat * 3)).off+1,none⟩=some (.slice a8 (rd_T26 xs i).f1.length b4)∧w.cell? ⟨(ad.add (i.toNat * 3)).block,(ad.add (i.toNat * 3)).off+2,none⟩=some (.slice b5 (rd_T26 xs i).f2.length c2)∧(rd_T26 xs i).f1.length≤b4∧(Kd.int .i64).C w a8 (rd_T26 xs i).f1.length (rd_T26 xs i).f1∧(rd_T26 xs i).f2.length≤c2∧(Kd.int .i64).C w b5 (rd_T26 xs i).f2.length (rd_T26 xs i).f2:=by
  obtain⟨ad,c,e,_,hK,b6⟩:=Kd.C_get h z26 i a6 a7;have hc:∀ j u,c[j]?=some u→w.cell? (ad.add (i.toNat * 3+j))=some u:=b6;obtain⟨a8,b4,b5,c2,rfl,l1,g1,l2,g2⟩:=k26_open hK;exact⟨ad,a8,b4,b5,c2,e,hc 0 _ rfl,by rw[← add_field _ _ 1 (by omega)];exact hc 1 _ rfl,by rw[← add_field _ _ 2 (by omega)];exact hc 2 _ rfl,l1,g1,l2,g2⟩

section
variable {P : Program} {ops : Array Oper} {Q : Exit → Act → World → Prop}
end
namespace Kd
section
variable {α : Type} {d : Kd α} {W w : World} {g : Nat} {T : TypeId} {cs : Array Value} {x : α}
/-- A variable in memory,read as a row of one element. -/
theorem cap_C (hb:W.heap[g]?=some (.cells cs T (0,0))) (hK:d.K W x cs.toList):d.C W (some ⟨g,0,none⟩) 1 [x]:=by
  refine⟨rfl,by omega,fun _=>⟨_,rfl,fun j p hj=>?_⟩⟩
  cases j with
  | zero =>
    simp only[List.getElem?_cons_zero,Option.some.injEq] at hj;subst hj;refine⟨cs.toList,d.K_len hK,hK,fun i u hu=>?_⟩
    rw[Nat.zero_mul,Nat.zero_add,add_plain];exact(blk_cell hb i).trans (by simpa using hu)
  | succ j=>simp at hj
end
end Kd
/-- Two rows of the call's own are two. -/
def NEb (u v:Value):Prop:=∀ k,u.ownBlock=some k→some k≠v.ownBlock
theorem NEb.symm {u v:Value} (h:NEb u v):NEb v u:=fun k hk e=>h k e.symm hk.symm
theorem own_len (A:Option Addr) (n m c:Nat):(Value.slice A n c).ownBlock=(Value.slice A m c).ownBlock:=by
  rcases A with _|a <;> rfl
/-- The builtin copy,as a call is told. -/
def BCopy (P:Program) (dT sT ty:TypeId) (dv sv:Value) (w:World) (Q:Ending→World→Prop):Prop :=
  ∃ (n:Nat) (w':World),(Builtin.copy_ #[dT,sT] ty #[dv,sv]).run P w=.ok (goInt n) w'∧Q (.returned (goInt n)) w'
theorem BCopy.mono {P:Program} {dT sT ty:TypeId} {dv sv:Value} {w:World} {Q Q':Ending→World→Prop} (h:BCopy P dT sT ty dv sv w Q) (hq:∀ e w',Q e w'→Q' e w'):BCopy P dT sT ty dv sv w Q':=by
  obtain⟨n,w',a6,a7⟩:=h;exact⟨n,w',a6,hq _ _ a7⟩
section
variable {P : Program} {ops : Array Oper} {Q : Exit → Act → World → Prop}
theorem copyL_ {rest:List Oper} {oi:Oper} {a:Act} {w:World} (N:Option Tmp) (hd:oi.dst=N) (hg:oi.guard=none) {d s:Operand} {dT sT:TypeId} (ho:oi.op=.call { callee:=.builtin .copy,args:=#[d,s],argTypes:=#[dT,sT] }) (dv sv:Value)
    (a6:a.eval d=dv) (a7:a.eval s=sv) (h:BCopy P dT sT oi.type dv sv w fun e w'=>∃ v,e=.returned v∧wpList P ops Q rest (a.put N v) w'):wpList P ops Q (oi :: rest) a w:=by
  obtain⟨n,w',hrun,v,hv,hk⟩:=h;injection hv with hv
  subst hv;subst hd;refine wpList_plain hg fun K hK=>?_
  unfold Oper.wp;simp [execOp,ho,resolve,invoke,builtin,a6,a7,hrun,Result.andThen];exact hK _ _ hk
end
def Hzy.f (l0:List Int) (l1:List Int):Option (Int × List Int):=some ((Nat.min l1.length l0.length:Nat),l1.take l0.length ++ l0.drop l1.length)
theorem Hzy.calls {dT sT ty:TypeId} (hu:Tryz.prog.underlying dT=some (.slice 3)) (a6:Nat→Prop) (u9000_:Value) (l0:List Int) (a7:Option Addr) (a8:Nat) (l1:List Int) (b4:Int) (b5:List Int) (b6 w:World) (hB:Below b6.heap.size b6 w)
    (b7:Kd.R (Kd.int .i64) 3 w b6.heap.size a6 u9000_ l0) (b8:∀ W_,Kept w W_ (fun k_=>a6 k_)→Kd.C (Kd.int .i64) W_ a7 l1.length l1) (b9:l1.length≤a8) (h:Hzy.f l0 l1=some (b4,b5)) :
    BCopy Tryz.prog dT sT ty u9000_ (.slice a7 l1.length a8) w fun e w'=>e=.returned (.int .i64 b4)∧Kd.R (Kd.int .i64) 3 w' b6.heap.size (fun k_=>(a6 k_∨w.heap.size≤k_)) u9000_ b5∧Below b6.heap.size b6 w'∧Kept w w' (fun k_=>a6 k_):=by
  unfold Hzy.f at h;simp only[Option.some.injEq,Prod.mk.injEq] at h;obtain⟨rfl,rfl⟩:=h;have hs:(Tryz.prog.info? 3).map (·.size)=some 1:=by kernel_rfl
  have hlen:(l1.take l0.length ++ l0.drop l1.length).length=l0.length:=by simp;omega
  have ho:=Kd.own_of_R b7;by_cases hn:Nat.min l1.length l0.length=0
  · have hll:l1.take l0.length ++ l0.drop l1.length=l0:=by
      rcases Nat.eq_zero_or_pos l0.length with d0|d0
      · have:l0=[]:=List.eq_nil_of_length_eq_zero d0
        subst this;simp
      · have:l1=[]:=List.eq_nil_of_length_eq_zero (by have:min l1.length l0.length=0:=hn;omega)
        subst this;simp
    rw[hll,hn];obtain⟨d6,d7,rfl,_⟩:=Kd.R_reads b7;refine⟨0,w,?_,rfl,Kd.R_mono b7 (fun k hk=>.inl hk),hB,Kept.refl _ _⟩
    exact run_copy_none w dT sT ty _ d6 a7 l0.length d7 l1.length a8 hu hs hn
  · have hpos:0 < l1.length∧0 < l0.length:=by
      have:¬ min l1.length l0.length=0:=hn;omega
    obtain⟨hxs,hcase⟩:=ho;rcases hcase with ⟨_,d0⟩|⟨g,cap,cur,rfl,hbg,hcur,hnc,hcm,hcs,htk⟩
    · omega
    obtain⟨_,_,hsrc0⟩:=b8 w (Kept.refl _ _);obtain⟨ad,rfl,hsrc⟩:=hsrc0 hpos.1;have hP:a6 g:=b7.1 g rfl;obtain⟨cs,hcsd⟩:∃ cs:List Value,cs=nums .i64 (l1.take l0.length):=⟨_,rfl⟩;have hcl:cs.length=Nat.min l1.length l0.length:=by rw[hcsd,nums_length,List.length_take];show min l0.length l1.length=min l1.length l0.length;omega
    have hcell:∀ j v,cs[j]?=some v→w.cell? (ad.add j)=some v:=by
      intro j v hj;rw[hcsd] at hj;simp only[nums,List.getElem?_map,Option.map_eq_some_iff] at hj;obtain⟨x,hx,rfl⟩:=hj;rw[List.getElem?_take] at hx;split at hx
      · obtain⟨c,hc,hK,hcc⟩:=hsrc j x hx
        have b9:c=[.int .i64 x]:=hK;have d8:=hcc 0 (.int .i64 x) (by rw[b9];rfl)
        have e:j * (Kd.int IntKind.i64).sz+0=j:=by show j * 1+0=j;omega
        rwa [e] at d8
      · simp at hx
    have hcurl:cur.size=cap:=by simpa using hcs
    have hrun:=run_copy_row (P:=Tryz.prog) w dT sT ty _ g 0 l0.length cap ad l1.length a8 cur _ cs hu hs hcur hcl hcell (by rw[hcl,hcurl];show 0+min l1.length l0.length≤cap;omega) (by rw[hcsd];intro v hv;simp only[nums,List.mem_map] at hv;obtain⟨x,_,rfl⟩:=hv;rfl)
    refine⟨cs.length,_,hrun,by rw[hcl];rfl,?_,?_,?_⟩
    · refine Kd.R_of_own (xs:=l1.take l0.length ++ l0.drop l1.length) ?_ (fun k hk=>.inl (b7.1 k hk))
      rw[hlen];refine⟨by rw[Nat.mul_one,encs_length];exact hlen,.inr ⟨g,cap,_,rfl,hbg,setRow_heap w g _ _ _ _ hcur,hnc,hcm,?_,?_⟩⟩
      · simp only[List.size_toArray,List.length_append,List.length_take,List.length_drop,Array.length_toList]
        rw[hcl];have:min l1.length l0.length≤cap:=by omega
        show min 0 cur.size+min l1.length l0.length+(cur.size - (0+min l1.length l0.length))=cap * 1
        omega
      · have hm:cs.length=min l1.length l0.length:=hcl
        have d0:cur.toList.take l0.length=nums .i64 l0:=by rw[Nat.mul_one] at htk;rw[htk];rfl
        rw[Nat.mul_one,List.take_zero,List.nil_append,Nat.zero_add,List.toList_toArray,List.take_append,List.take_of_length_le (by omega),List.take_drop]
        have d9:cs.length+(l0.length - cs.length)=l0.length:=by omega
        have e6:(nums .i64 l0).drop cs.length=nums .i64 (l0.drop l1.length):=by
          have e7:(nums .i64 l0).drop cs.length=nums .i64 (l0.drop cs.length):=by simp [nums,List.map_drop]
          rw[e7];have e8:l0.drop cs.length=l0.drop l1.length:=by
            rcases Nat.le_total l1.length l0.length with hh|hh
            · rw[hm,Nat.min_eq_left hh]
            · rw[List.drop_eq_nil_of_le (by omega),List.drop_eq_nil_of_le hh]
          rw[e8]
        rw[d9,d0,e6,hcsd,← nums_append];rfl
    · exact below_setRow hB hbg _
    · exact⟨by simp [World.setRow],fun i hi hne=>setRow_other w g i _ (fun e=>hne (e ▸ hP))⟩

/-- A step's world is above the first one: found among what is known. -/
theorem pB {P:Prop} (h:P:=by repeat(first|(with_reducible first|exact Aside0.out (by assumption)|apply below_alloc|apply pw_below_drewN|apply below_drew1|refine below_set ?_ (Aside0.out (by assumption)))|exact Aside0.out (by assumption))):P:=h
/-- What a box holds,behind draws. -/
theorem kW {w w':World} {g:Nat} {o:Obj} (h:Aside0 (w.heap[g]?=some o)) (f:w.heap[g]?=some o→w'.heap[g]?=some o:=by intro h_;(with_reducible repeat(first|refine blk_drewN ?_ _|refine blk_drew ?_|refine blk_alloc ?_ _));exact h_):w'.heap[g]?=some o:=f h.out
/-- What a box holds,behind a step. -/
theorem kB {w a6 a7:World} {g:Nat} {o:Obj} (h:Aside0 (w.heap[g]?=some o)) (hb:Below a6.heap.size a6 a7) (f:w.heap[g]?=some o→a6.heap[g]?=some o:=by intro h_;(with_reducible repeat(first|refine blk_drewN ?_ _|refine blk_drew ?_|refine blk_alloc ?_ _));exact h_):a7.heap[g]?=some o:=blk_below (f h.out) hb
/-- A new box lies above. -/
theorem gW {w w':World} {g:Nat} (hg:g=w'.heap.size) (h:Below w.heap.size w w':=by exact pB):w.heap.size≤g:=by rw[hg];exact below_size h
/-- A new box is another one. -/
theorem nL {w w':World} {g g':Nat} {o:Obj} (hg:g'=w'.heap.size) (h:Aside0 (w.heap[g]?=some o)) (f:w.heap[g]?=some o→w'.heap[g]?=some o:=by intro h_;(with_reducible repeat(first|refine blk_drewN ?_ _|refine blk_drew ?_|refine blk_alloc ?_ _));exact h_):g≠g':=by rw[hg];exact Nat.ne_of_lt (blk_lt (f h.out))
/-- A row of the call's own,behind draws. -/
theorem rX {α:Type} {d:Kd α} {e base:Nat} {w w':World} {ok:Nat→Prop} {v:Value} {xs:List α} (h:d.R e w base ok v xs) (f:d.R e w base ok v xs→d.R e w' base ok v xs:=by intro h_;(with_reducible repeat(first|apply Kd.R_alloc|apply Kd.R_drewN|apply Kd.R_drew));exact h_):d.R e w' base ok v xs:=f h
/-- A call's arguments,laid out. -/
theorem mA {P:Prop} (h:P:=by(try simp only[List.map_toArray,List.map_cons,List.map_nil]);first|done|rfl|(simp only[List.length_drop,List.length_take];rfl)):P:=h
/-- What a box of one,two,three cells holds,cell by cell. -/
theorem bk1 {w:World} {g T:Nat} {a6:Value} (h:Aside0 (w.heap[g]?=some (.cells #[a6] T (0,0)))):w.cell? ⟨g,0,none⟩=some a6∧w.frozen? ⟨g,0,none⟩=false:=⟨(blk_cell h.out 0).trans rfl,blk_frozen h.out 0⟩
theorem bk3 {w:World} {g T:Nat} {a6 a7 c2:Value} (h:Aside0 (w.heap[g]?=some (.cells #[a6,a7,c2] T (0,0)))):w.cell? ⟨g,0,none⟩=some a6∧w.cell? ⟨g,1,none⟩=some a7∧w.cell? ⟨g,2,none⟩=some c2∧w.frozen? ⟨g,0,none⟩=false∧w.frozen? ⟨g,1,none⟩=false∧w.frozen? ⟨g,2,none⟩=false:=⟨(blk_cell h.out 0).trans rfl,(blk_cell h.out 1).trans rfl,(blk_cell h.out 2).trans rfl,blk_frozen h.out 0,blk_frozen h.out 1,blk_frozen h.out 2⟩
section
variable {α β γ:Type} {d:Kd α} {d':Kd β} {d2:Kd γ} {e e' e2 base base' b2 g T:Nat} {w w' w0 w1 w2 w3 w4 W:World} {ok ok' ok2:Nat→Prop} {v v0 v1 u:Value} {xs:List α} {ys:List β} {zs:List γ} {A:Option Addr} {n c:Nat} {o:Obj} {cs:Array Value}
theorem rB (h:Aside0 (d.R e w base ok v xs)) (hb:Below w1.heap.size w1 w2) (f:d.R e w base ok v xs→d.R e w1 base ok v xs:=by exact fun h_=>rX h_):Aside0 (d.R e w2 base ok v xs):=⟨Kd.R_below (f h.out) hb⟩
theorem rb (h:d.R e w1 base ok v xs) (hb:Below w1.heap.size w1 w2):Aside0 (d.R e w2 base ok v xs):=⟨Kd.R_below h hb⟩
theorem vB (h:Aside0 (Kd.V d e w base ok v xs)) (hb:Below w1.heap.size w1 w2) (f:Kd.V d e w base ok v xs→Kd.V d e w1 base ok v xs:=by exact fun h_=>vX h_):Aside0 (Kd.V d e w2 base ok v xs):=⟨Kd.V_below (f h.out) hb⟩
theorem vG (h:Aside0 (Kd.V d e w base ok v xs)) (hg:g=w1.heap.size) (hb:Below w1.heap.size w1 w2) (f:Kd.V d e w base ok v xs→Kd.V d e w1 base ok v xs:=by exact fun h_=>vX h_):Aside0 (Kd.V d e w2 base (fun k=>ok k∧k≠g) v xs):=⟨Kd.V_below (Kd.V_elderB (f h.out) g (Nat.le_of_eq hg.symm)) hb⟩
theorem rE (h:Aside0 (d.R e w base ok u xs)) (ho:d'.R e' w3 w1.heap.size ok' v ys) (hb:Below w1.heap.size w1 w2) (f:d.R e w base ok u xs→d.R e w1 base ok u xs:=by exact fun h_=>rX h_):Aside0 (d.R e w2 base (fun k=>ok k∧some k≠v.ownBlock) u xs):=⟨Kd.R_elder' (f h.out) (Kd.R_base ho) hb⟩
theorem vE (h:Aside0 (Kd.V d e w base ok u xs)) (ho:d'.R e' w3 w1.heap.size ok' v ys) (hb:Below w1.heap.size w1 w2) (f:Kd.V d e w base ok u xs→Kd.V d e w1 base ok u xs:=by exact fun h_=>vX h_):Aside0 (Kd.V d e w2 base (fun k=>ok k∧some k≠v.ownBlock) u xs):=⟨Kd.V_elder' (f h.out) (Kd.R_base ho) hb⟩
theorem rO (h:Aside0 (d.R e w base ok u xs)) (hb:Below w1.heap.size w1 w2) (ho:d'.R e' w3 w1.heap.size ok' v0 ys) (ho2:d2.R e2 w4 w1.heap.size ok2 v1 zs) (f:d.R e w base ok u xs→d.R e w1 base ok u xs:=by exact fun h_=>rX h_):Aside0 (d.R e w2 base (fun k=>(ok k∧some k≠v0.ownBlock)∧some k≠v1.ownBlock) u xs):=⟨Kd.R_mono (Kd.R_told (Kd.R_told (Kd.R_old (f h.out) hb) (Kd.R_base ho)) (Kd.R_base ho2)) (fun _ h_=>h_.1)⟩
theorem ro (h:d.R e w1 base ok u xs) (hb:Below w1.heap.size w1 w2) (ho:d'.R e' w3 w1.heap.size ok' v0 ys) (ho2:d2.R e2 w4 w1.heap.size ok2 v1 zs):Aside0 (d.R e w2 base (fun k=>(ok k∧some k≠v0.ownBlock)∧some k≠v1.ownBlock) u xs):=⟨Kd.R_mono (Kd.R_told (Kd.R_told (Kd.R_old h hb) (Kd.R_base ho)) (Kd.R_base ho2)) (fun _ h_=>h_.1)⟩
theorem vO (h:Aside0 (Kd.V d e w base ok u xs)) (hb:Below w1.heap.size w1 w2) (ho:d'.R e' w3 w1.heap.size ok' v0 ys) (ho2:d2.R e2 w4 w1.heap.size ok2 v1 zs) (f:Kd.V d e w base ok u xs→Kd.V d e w1 base ok u xs:=by exact fun h_=>vX h_):Aside0 (Kd.V d e w2 base (fun k=>(ok k∧some k≠v0.ownBlock)∧some k≠v1.ownBlock) u xs):=⟨Kd.V_mono (Kd.V_told (Kd.V_told (Kd.V_old (f h.out) hb) (Kd.R_base ho)) (Kd.R_base ho2)) (fun _ h_=>h_.1)⟩
theorem rL (ho:d.R e w1 W.heap.size ok v xs) (h:Below w.heap.size w W:=by exact pB):Aside0 (d.R e w1 w.heap.size ok v xs):=⟨Kd.R_lower ho (below_size h)⟩
theorem rn (h:d.R e w1 W.heap.size ok v xs) (hu:Aside0 (d'.R e' w base ok' u ys)) (f:d'.R e' w base ok' u ys→d'.R e' W base ok' u ys:=by exact fun h_=>rX h_):d.R e w1 W.heap.size (fun k=>ok k∧some k≠u.ownBlock) v xs:=Kd.R_new' h (Kd.R_lt (f hu.out))
theorem rT (h:Aside0 (d.R e w base ok v xs)) (hk:Aside0 (w.heap[g]?=some (.cells cs T (0,0)))) (ht:∀ q,q∈e::d.E→q≠T:=by decide) (f:d.R e w base (fun k=>ok k∧k≠g) v xs→d.R e w' base (fun k=>ok k∧k≠g) v xs:=by intro h_;(with_reducible repeat(first|apply Kd.R_alloc|apply Kd.R_drewN|apply Kd.R_drew|refine Kd.R_far ?_ (fun _ hk=>hk.2) _));exact h_):d.R e w' base ok v xs:=Kd.R_mono (f (Kd.R_types h.out hk.out ht)) (fun _ h_=>h_.1)
theorem nX (h:Kd.N d e w base ok v xs) (f:Kd.N d e w base ok v xs→Kd.N d e w' base ok v xs:=by intro h_;(with_reducible repeat(first|apply Kd.N_alloc|apply Kd.N_drewN|apply Kd.N_drew));exact h_):Kd.N d e w' base ok v xs:=f h
theorem nB (h:Aside0 (Kd.N d e w base ok v xs)) (hb:Below w1.heap.size w1 w2) (f:Kd.N d e w base ok v xs→Kd.N d e w1 base ok v xs:=by exact fun h_=>nX h_):Aside0 (Kd.N d e w2 base ok v xs):=⟨Kd.N_below (f h.out) hb⟩
theorem nb (h:Kd.N d e w1 base ok v xs) (hb:Below w1.heap.size w1 w2):Aside0 (Kd.N d e w2 base ok v xs):=⟨Kd.N_below h hb⟩
theorem nG' (h:Aside0 (Kd.N d e w base ok v xs)) (hg:g=w1.heap.size) (hb:Below w1.heap.size w1 w2) (f:Kd.N d e w base ok v xs→Kd.N d e w1 base ok v xs:=by exact fun h_=>nX h_):Aside0 (Kd.N d e w2 base (fun k=>ok k∧k≠g) v xs):=⟨Kd.N_below (Kd.N_elderB (f h.out) g (Nat.le_of_eq hg.symm)) hb⟩
theorem nO (h:Aside0 (Kd.N d e w base ok u xs)) (hb:Below w1.heap.size w1 w2) (ho:d'.R e' w3 w1.heap.size ok' v0 ys) (ho2:d2.R e2 w4 w1.heap.size ok2 v1 zs) (f:Kd.N d e w base ok u xs→Kd.N d e w1 base ok u xs:=by exact fun h_=>nX h_):Aside0 (Kd.N d e w2 base (fun k=>(ok k∧some k≠v0.ownBlock)∧some k≠v1.ownBlock) u xs):=⟨Kd.N_mono (Kd.N_told (Kd.N_told (Kd.N_old (f h.out) hb) (Kd.R_base ho)) (Kd.R_base ho2)) (fun _ h_=>h_.1)⟩
theorem sX (h:Kd.S d e w base ok v xs) (f:Kd.S d e w base ok v xs→Kd.S d e w' base ok v xs:=by intro h_;(with_reducible repeat(first|apply Kd.S_alloc|apply Kd.S_drewN|apply Kd.S_drew));exact h_):Kd.S d e w' base ok v xs:=f h
theorem sT (h:Aside0 (Kd.S d e w base ok v xs)) (hne:∀ k,ok k→k≠g) (f:(∀ k,ok k→k≠g)→Kd.S d e w base ok v xs→Kd.S d e w' base ok v xs:=by intro hn_ h_;(with_reducible repeat(first|apply Kd.S_alloc|apply Kd.S_drewN|apply Kd.S_drew|refine Kd.S_far ?_ hn_ _));exact h_):Kd.S d e w' base ok v xs:=f hne h.out
theorem sG (h:Aside0 (Kd.S d e w base ok v xs)) (hg:g=w1.heap.size) (hb:Below w1.heap.size w1 w2) (f:Kd.S d e w base ok v xs→Kd.S d e w1 base ok v xs:=by exact fun h_=>sX h_):Aside0 (Kd.S d e w2 base (fun k=>ok k∧k≠g) v xs):=⟨Kd.S_below (Kd.S_elderB (f h.out) g (Nat.le_of_eq hg.symm)) hb⟩
theorem sO (h:Aside0 (Kd.S d e w base ok u xs)) (hb:Below w1.heap.size w1 w2) (ho:d'.R e' w3 w1.heap.size ok' v0 ys) (ho2:d2.R e2 w4 w1.heap.size ok2 v1 zs) (f:Kd.S d e w base ok u xs→Kd.S d e w1 base ok u xs:=by exact fun h_=>sX h_):Aside0 (Kd.S d e w2 base (fun k=>(ok k∧some k≠v0.ownBlock)∧some k≠v1.ownBlock) u xs):=⟨Kd.S_mono (Kd.S_told (Kd.S_told (Kd.S_old (f h.out) hb) (Kd.R_base ho)) (Kd.R_base ho2)) (fun _ h_=>h_.1)⟩
theorem so (h:Kd.S d e w1 base ok u xs) (hb:Below w1.heap.size w1 w2) (ho:d'.R e' w3 w1.heap.size ok' v0 ys) (ho2:d2.R e2 w4 w1.heap.size ok2 v1 zs):Aside0 (Kd.S d e w2 base (fun k=>(ok k∧some k≠v0.ownBlock)∧some k≠v1.ownBlock) u xs):=⟨Kd.S_mono (Kd.S_told (Kd.S_told (Kd.S_old h hb) (Kd.R_base ho)) (Kd.R_base ho2)) (fun _ h_=>h_.1)⟩
theorem kb (h:Aside0 (w.heap[g]?=some o)) (hb:Below w1.heap.size w1 w2) (f:w.heap[g]?=some o→w1.heap[g]?=some o:=by exact fun h_=>bD h_):Aside0 (w2.heap[g]?=some o):=⟨blk_below (f h.out) hb⟩
theorem kP {o':Obj} {cs':Array Value} (h:Aside0 (w.heap[g]?=some (.cells cs T (0,0)))) (hb:Below w1.heap.size w1 w2) (f:w.heap[g]?=some (.cells cs T (0,0))→w1.heap[g]?=some (.cells cs' T (0,0)):=by intro h_;(repeat(first|(with_reducible first|refine blk_drewN ?_ _|refine blk_drew ?_|refine blk_alloc ?_ _|apply blk_set)|apply blk_set));exact h_) (e:Obj.cells cs' T (0,0)=o':=by rfl):Aside0 (w2.heap[g]?=some o'):=⟨blk_below (e ▸ f h.out) hb⟩
theorem kF {g':Nat} (h:Aside0 (w.heap[g]?=some (.cells cs T (0,0)))) (hn:Aside0 (g≠g')) (hb:Below w1.heap.size w1 w2) (f:g≠g'→w.heap[g]?=some (.cells cs T (0,0))→w1.heap[g]?=some (.cells cs T (0,0)):=by intro hn_ h_;(with_reducible repeat(first|refine blk_drewN ?_ _|refine blk_drew ?_|refine blk_alloc ?_ _|refine blk_far ?_ hn_ _));exact h_):Aside0 (w2.heap[g]?=some (.cells cs T (0,0))):=⟨blk_below (f hn.out h.out) hb⟩
theorem kf {g1:Nat} (h:Aside0 (w.heap[g]?=some (.cells cs T (0,0)))) (hn1:Aside0 (g≠g1)) (f:g≠g1→w.heap[g]?=some (.cells cs T (0,0))→w'.heap[g]?=some (.cells cs T (0,0)):=by intro h1_ h_;(with_reducible repeat(first|refine blk_drewN ?_ _|refine blk_drew ?_|refine blk_alloc ?_ _|refine blk_far ?_ h1_ _));exact h_):w'.heap[g]?=some (.cells cs T (0,0)):=f hn1.out h.out
theorem kf2 {g1 g2:Nat} (h:Aside0 (w.heap[g]?=some (.cells cs T (0,0)))) (hn1:Aside0 (g≠g1)) (hn2:Aside0 (g≠g2)) (f:g≠g1→g≠g2→w.heap[g]?=some (.cells cs T (0,0))→w'.heap[g]?=some (.cells cs T (0,0)):=by intro h1_ h2_ h_;(with_reducible repeat(first|refine blk_drewN ?_ _|refine blk_drew ?_|refine blk_alloc ?_ _|refine blk_far ?_ h1_ _|refine blk_far ?_ h2_ _));exact h_):w'.heap[g]?=some (.cells cs T (0,0)):=f hn1.out hn2.out h.out
theorem bB (hb:Below W.heap.size W w2) (h:Below w.heap.size w W:=by exact pB):Aside0 (Below w.heap.size w w2):=⟨below_step h hb⟩
theorem gA (w:World) (hg:g=w'.heap.size) (h:Below w.heap.size w w':=by exact pB):Aside0 (w.heap.size≤g):=⟨gW hg h⟩
theorem nl {g':Nat} (hg:g'=w'.heap.size) (h:Aside0 (w.heap[g]?=some o)) (f:w.heap[g]?=some o→w'.heap[g]?=some o:=by exact fun h_=>bD h_):Aside0 (g≠g'):=⟨nL hg h f⟩
theorem ng {g':Nat} (hg:g'=w'.heap.size) (h:Aside0 (w.heap[g]?=some o)) (f:w.heap[g]?=some o→w'.heap[g]?=some o:=by exact fun h_=>bD h_):Aside0 (g'≠g):=⟨(nL hg h f).symm⟩
theorem cR (h:Aside0 (d.R e w base ok (.slice A n c) xs)) (f:d.C w A xs.length xs→d.C w' A xs.length xs:=by exact fun h_=>cX h_):d.C w' A xs.length xs:=f (Kd.R_reads' h.out).2.2
theorem cB (h:Aside0 (d.C w A n xs)) (hb:Below w.heap.size w w':=by exact pB):d.C w' A n xs:=Kd.C_below h.out hb
theorem lR (h:Aside0 (d.R e w base ok (.slice A n c) xs)):n≤c:=(Kd.R_reads' h.out).2.1
theorem nC {P:Prop} {w:World} {ad:Addr} {v:Value} {g:Nat} (h:w.cell? ad=some v) (hk:Aside0 (w.heap.size≤g)) (f:ad.block<w.heap.size→w.heap.size≤g→P:=by intro hb_ hk_;first|exact Nat.ne_of_lt (Nat.lt_of_lt_of_le (by first|rwa [add_block] at hb_|exact hb_) hk_)|(rw[add_block];exact Nat.ne_of_lt (Nat.lt_of_lt_of_le (by first|rwa [add_block] at hb_|exact hb_) hk_))|(show(Addr.add _ _).block≠_;rw[add_block];exact Nat.ne_of_lt (Nat.lt_of_lt_of_le (by first|rwa [add_block] at hb_|exact hb_) hk_))|(dsimp only;exact Nat.ne_of_lt (Nat.lt_of_lt_of_le (by first|rwa [add_block] at hb_|exact hb_) hk_))):P:=f (World.block_lt_of_cell? _ _ h) hk.out
theorem fB {w w':World} {g k:Nat} {o:Obj} (h:Aside0 (w.heap[g]?=some o)) (hk:w'.heap.size≤k) (f:w.heap[g]?=some o→w'.heap[g]?=some o:=by exact fun h_=>bD h_):k≠g:=Kd.freshB (f h.out) k hk
theorem vL {ok':Nat→Prop} (ho:Kd.V d e w1 W.heap.size ok v xs) (hm:∀ k,ok k→ok' k) (h:Below w.heap.size w W:=by exact pB):Aside0 (Kd.V d e w1 w.heap.size ok' v xs):=⟨Kd.V_lower (Kd.V_mono ho hm) (below_size h)⟩
theorem lP {k:Nat} {w W:World} (hk:W.heap.size≤k) (h:Below w.heap.size w W:=by exact pB):w.heap.size≤k:=Nat.le_trans (below_size h) hk
theorem bE {α:Type} [DecidableEq α] {a b:α} (h:a=b):(a == b)=true∧(a != b)=false:=⟨beq_iff_eq.mpr h,bne_eq_false_iff_eq.mpr h⟩
theorem bI {α:Type} [DecidableEq α] {a b:α} (h:¬a=b):(a == b)=false∧(a != b)=true:=⟨beq_eq_false_iff_ne.mpr h,bne_iff_ne.mpr h⟩
theorem cV (h:Aside0 (Kd.V d e w base ok (.slice A n c) xs)) (f:d.C w A xs.length xs→d.C w' A xs.length xs:=by exact fun h_=>cX h_):d.C w' A xs.length xs:=f (Kd.V_reads' h.out).2.2
theorem lV (h:Aside0 (Kd.V d e w base ok (.slice A n c) xs)):n≤c:=(Kd.V_reads' h.out).2.1
theorem cN (h:Aside0 (Kd.N d e w base ok (.slice A n c) xs)) (f:d.C w A xs.length xs→d.C w' A xs.length xs:=by exact fun h_=>cX h_):d.C w' A xs.length xs:=f (Kd.N_reads' h.out).2.2
theorem lN (h:Aside0 (Kd.N d e w base ok (.slice A n c) xs)):n≤c:=(Kd.N_reads' h.out).2.1
end
section
variable {P:Program} {ops:Array Oper} {rest:List Oper} {o:Oper} {a:Act} {Q:Exit→Act→World→Prop} {W:World}
theorem gd (N:Tmp) (_hN:o.dst=some N) (h:wpList P ops Q (o::rest) a W):wpList P ops Q (o::rest) a W:=h
theorem gc (f:FuncId) {as_:Array Operand} {ts:Array TypeId} (_ho:o.op=.call { callee:=.value (.func f),args:=as_,argTypes:=ts }) (h:wpList P ops Q (o::rest) a W):wpList P ops Q (o::rest) a W:=h
theorem bx (cs:Array Value) (t:TypeId) (h:∀ g,g=W.heap.size→∀ w1,Aside0 (w1.heap[g]?=some (.cells cs t (0,0)))→Below W.heap.size W w1→wpList P ops Q rest (a.put o.dst (.pointer (some ⟨g,0,none⟩))) w1) (hgd:o.guard=none:=by rfl) (hrun:(execOp a.eval o).run P W=.ok (.value (.pointer (some ⟨W.heap.size,0,none⟩))) (W.alloc (.cells cs t (0,0))):=by first|(go_simp;done)|(go_simp;rfl)):wpList P ops Q (o::rest) a W:=Kd.event_run hgd hrun (h _ rfl _ ⟨blk_new W _⟩ (below_alloc (Below.refl _ _) _))
theorem bxg (cs:Array Value) (t:TypeId) (h:∀ g,g=W.heap.size→∀ w1,Aside0 (w1.heap[g]?=some (.cells cs t (0,0)))→Below W.heap.size W w1→wpList P ops Q rest (a.put o.dst (.pointer (some ⟨g,0,none⟩))) w1) (hw:Region.wanted o (yielded ops a.tmps)=true:=by rfl) (hrun:(execOp a.eval o).run P W=.ok (.value (.pointer (some ⟨W.heap.size,0,none⟩))) (W.alloc (.cells cs t (0,0))):=by first|(go_simp;done)|(go_simp;rfl)):wpList P ops Q (o::rest) a W:=gate_guard hw (Kd.event_run rfl hrun (h _ rfl _ ⟨blk_new W _⟩ (below_alloc (Below.refl _ _) _)))
theorem iLg (N:Tmp) (xs:List Int) (h:∀ v1 w1,(Kd.int .i64).R 3 w1 W.heap.size (fun _=>True) v1 xs→Below W.heap.size W w1→wpList P ops Q rest (a.put o.dst v1) w1) (hd:o.dst=some N:=by rfl) (hw:Region.wanted o (yielded ops a.tmps)=true:=by rfl) (hm:xs.length≤9223372036854775807:=by simp) (hrun:(execOp a.eval o).run P W=.ok (.value (.slice (some ⟨W.heap.size,0,none⟩) xs.length xs.length)) (W.alloc (.cells (xs.map (Value.int .i64)).toArray 3)):=by(simp only[List.map_cons,List.map_nil]);first|(go_simp;done)|(go_simp;rfl)):wpList P ops Q (o::rest) a W:=
  gate_guard hw (Kd.R_lit (Kd.int .i64) (w0:=W) W.heap.size 3 rfl (N:=N) hd (ok:=fun _=>True) (okp:=fun _=>True) hrun (Kd.reps_scalar (enc:=Value.int .i64) xs) (fun _ hk=>hk) trivial (Below.refl _ _) (Nat.le_refl _) hm (fun v1 w1 ho hb _ _=>h v1 w1 ho hb))
theorem iL (N:Tmp) (xs:List Int) (h:∀ v1 w1,(Kd.int .i64).R 3 w1 W.heap.size (fun _=>True) v1 xs→Below W.heap.size W w1→wpList P ops Q rest (a.put o.dst v1) w1) (hd:o.dst=some N:=by rfl) (hgd:o.guard=none:=by rfl) (hm:xs.length≤9223372036854775807:=by simp) (hrun:(execOp a.eval o).run P W=.ok (.value (.slice (some ⟨W.heap.size,0,none⟩) xs.length xs.length)) (W.alloc (.cells (xs.map (Value.int .i64)).toArray 3)):=by(simp only[List.map_cons,List.map_nil]);first|(go_simp;done)|(go_simp;rfl)):wpList P ops Q (o::rest) a W:=
  Kd.R_lit (Kd.int .i64) (w0:=W) W.heap.size 3 hgd hd (ok:=fun _=>True) (okp:=fun _=>True) hrun (Kd.reps_scalar (enc:=Value.int .i64) xs) (fun _ hk=>hk) trivial (Below.refl _ _) (Nat.le_refl _) hm (fun v1 w1 ho hb _ _=>h v1 w1 ho hb)
theorem gC (f:FuncId) (N:Option Tmp) {fn:Func} (hf:P.funcs[f]?=some fn) (args:Array Value) {as_:Array Operand} {ts:Array TypeId} (h:Calls P f args W fun e w'=>∃ v,e=.returned v∧wpList P ops Q rest (a.put N v) w') (hop:o.op=.call { callee:=.value (.func f),args:=as_,argTypes:=ts }:=by with_reducible exact rfl) (hd:o.dst=N:=by rfl) (hg:o.guard=none:=by rfl) (hname:(fn.name == "runtime.NumGoroutine")=false:=by kernel_rfl) (hb:fn.body.isSome=true:=by rfl) (hargs:as_.map a.eval=args:=by exact mA):wpList P ops Q (o::rest) a W:=goesL_ N hd hg hf hname hb args hop hargs h
end
theorem dD {P:Prop} (h:P:=by first|exact⟨rfl,_,World.drewN_drewN _ _ _⟩|exact⟨rfl,_,Eq.trans (World.drewN_drewN _ _ _) (congrArg (World.drewN _) (Nat.add_assoc _ _ _))⟩):P:=h
def bL:Nat→Nat→List Bool
 | 0,_=>[]
 | n+1,m=>(m%2==1)::bL n (m/2)
def bA (n m:Nat):Array Bool:=(bL n m).toArray
theorem bT {α β:Type} {o:Option α} {f:α→Option β} {b:β} (h:o.bind f=some b):∃ a,Aside0 (o=some a)∧f a=some b:=by
 obtain⟨a,h1,h2⟩:=bS h
 exact⟨a,⟨h1⟩,h2⟩
theorem yE {p q:Prop} {α:Type} {a b:α} (hy:a=b) (H:p) (h:a=b→p→q:=by intro hy_ H_;first|(rw[hy_];with_reducible exact H_)|(have H2_:=(Option.bind_some _ _).symm.trans H_;rw[hy_];with_reducible exact H2_)|(have H2_:=(Option.bind_some _ _).symm.trans H_;with_reducible exact H2_)|with_reducible exact H_|(rw[hy_];exact H_)|exact H_):q:=h hy H
theorem iN {c:Prop} [Decidable c] {α:Type} {x:Option α} {r:α} (h:(if c then x else none)=some r):decide c=true∧x=some r:=by
 by_cases hc:c
 · rw[if_pos hc] at h
   exact⟨decide_eq_true hc,h⟩
 · rw[if_neg hc] at h
   cases h
theorem iO {c:Prop} [Decidable c] {α:Type} {x:Option α} {r:α} (h:(if c then x else none)=some r):c∧x=some r:=by
 by_cases hc:c
 · rw[if_pos hc] at h
   exact⟨hc,h⟩
 · rw[if_neg hc] at h
   cases h
theorem iM {c:Prop} [Decidable c] {α:Type} {x:Option α} {r:α} (h:(if c then none else x)=some r):¬c∧x=some r:=by
 by_cases hc:c
 · rw[if_pos hc] at h
   cases h
 · rw[if_neg hc] at h
   exact⟨hc,h⟩
theorem aI {k:IntKind} {w:World} {A:Option Addr} {n:Nat} {xs:List Int} (h:(Kd.int k).C w A n xs) (i:Int) (h0:decide (0≤i)=true:=by exact aS) (h1:decide (i<n)=true:=by exact aS):∃ ad,A=some ad∧w.cell? (ad.add i.toNat)=some (.int k (rd xs i))∧(0≤i)=True∧(i<(n:Int))=True:=by
 obtain⟨ad,e,hx⟩:=Kd.at_int h i (oE h0) (oE h1)
 exact⟨ad,e,hx,eq_true (oE h0),eq_true (oE h1)⟩
theorem mM {P:Prop} (h:P:=by with_reducible repeat' first|apply ih0|apply ih1|apply ih2|apply ih3|apply ih4|apply ih5|apply ih6|apply ih7|apply ih8|apply ih9|apply i0|apply i1|apply i2|apply i3|apply i4|apply i5|apply i6|apply i7|apply i8|apply i9|apply i10|apply i11|apply i12|apply i13|apply i14|apply i15|apply i16|apply i17|apply i18|apply i19|apply i20|apply i21|apply i22|apply i23|exact LeO.refl _|exact LeO.none _|refine LeO.ite ?_ ?_|refine LeO.bind ?_ (fun _=>?_)):P:=h
theorem dR {P:Prop} (h:P:=by repeat(first|exact Drawn0.refl _|apply Drawn0.step)):P:=h
theorem nK {P:Prop} (h:P:=by first|exact Kd.R_nil _ _ _ _ _|exact Kd.N_nil _ _ _ _ _|exact Kd.V_nil _ _ _ _ _|exact Kd.Q_nil _ _ _ _ _|exact Kd.S_nil _ _ _ _ _):P:=h
theorem hB {w W:World} {p:Addr} {v:Value} (HB:Aside0 (Below w.heap.size w W)) (hx:w.cell? p=some v):W.cell? p=some v:=(HB.out.cell (World.block_lt_of_cell? w _ hx)).trans hx
theorem rY {α:Type} {d:Kd α} {e base:Nat} {w:World} {ok:Nat→Prop} {v:Value} {xs ys:List α} (hy:Aside0 (ys=xs)) (h:d.R e w base ok v xs):d.R e w base ok v ys:=hy.out ▸ h
theorem nY {α:Type} {d:Kd α} {e base:Nat} {w:World} {ok:Nat→Prop} {v:Value} {xs ys:List α} (hy:Aside0 (ys=xs)) (h:Kd.N d e w base ok v xs):Kd.N d e w base ok v ys:=hy.out ▸ h
theorem bN {b:Bool} (h:¬b=true):b=false:=Bool.eq_false_iff.mpr h
theorem nF:¬(false=true):=by decide
theorem kQ {w w':World} {g T:Nat} {cs cs':Array Value} {o':Obj} (h:Aside0 (w.heap[g]?=some (.cells cs T (0,0)))) (f:w.heap[g]?=some (.cells cs T (0,0))→w'.heap[g]?=some (.cells cs' T (0,0)):=by intro h_;(repeat(first|(with_reducible first|refine blk_drewN ?_ _|refine blk_drew ?_|refine blk_alloc ?_ _|apply blk_set)|apply blk_set));exact h_) (e:Obj.cells cs' T (0,0)=o':=by rfl):w'.heap[g]?=some o':=e ▸ f h.out
theorem eT (i:Int) (h:decide (0≤i)=true:=by exact aS):(0≤i)=True:=eq_true (oE h)
theorem eU (i:Int) (n:Nat) (h:decide (i<(n:Int))=true:=by exact aS):(i<(n:Int))=True:=eq_true (oE h)
theorem q2 {A B:Type} {a a':A} {b b':B} (h:some (a,b)=some (a',b')):a=a'∧b=b':=by simpa only[Option.some.injEq,Prod.mk.injEq] using h
theorem q3 {A B C:Type} {a a':A} {b b':B} {c c':C} (h:some (a,b,c)=some (a',b',c')):a=a'∧b=b'∧c=c':=by simpa only[Option.some.injEq,Prod.mk.injEq] using h
theorem q4 {A B C D:Type} {a a':A} {b b':B} {c c':C} {d d':D} (h:some (a,b,c,d)=some (a',b',c',d')):a=a'∧b=b'∧c=c'∧d=d':=by simpa only[Option.some.injEq,Prod.mk.injEq] using h
section
variable {P:Program} {ops:Array Oper} {Q:Exit→Act→World→Prop} {md:Region.Mode} {S:World→Prop} {ds:List Nat} {oi:Oper} {v:Value} {fuel:Nat} {l:Array Bool} {a a':Act} {w:World} {T:Bool × List (List Nat × List Nat)} {B:List Nat}
theorem pS (i:Nat) (N:Tmp) (HT:Aside0 (rtab md ops=T)) (h:wpAnyLast P md ops Q S ds fuel (l.setIfInBounds i true) a' w) (hi:ops[i]?=some oi:=by exact rfl) (hN:oi.dst=some N:=by exact rfl) (hc:anyT T l.toList (l.setIfInBounds i true).toList i=true:=by kernel_rfl) (hQ:∀ c a w,Q (.panic c) (a.put oi.dst v) w→Q (.panic c) a w:=by exact fun _ _ _ h=>h) (h1:Region.wanted oi (yielded ops a.tmps)=true:=by rfl) (hv:∀ w,(execOp a.eval oi).run P w=.ok (.value v) w:=by intro w';go_simp;with_reducible rfl) (ha:a.put (some N) v=a':=by simp only[Act.put,sA,sZ,sC,i64_w,i32_w];rfl):wpAnyLast P md ops Q S ds (fuel+1) l a w:=
  pure_ _ hi hN (any_of HT.out hc) hQ (Or.inl ⟨h1,hv⟩) ha h
theorem pN (i:Nat) (N:Tmp) (HT:Aside0 (rtab md ops=T)) (h:wpAnyLast P md ops Q S ds fuel (l.setIfInBounds i true) a' w) (hi:ops[i]?=some oi:=by exact rfl) (hN:oi.dst=some N:=by exact rfl) (hc:anyT T l.toList (l.setIfInBounds i true).toList i=true:=by kernel_rfl) (hQ:∀ c a w,Q (.panic c) (a.put oi.dst undef) w→Q (.panic c) a w:=by exact fun _ _ _ h=>h) (hy:Region.wanted oi (yielded ops a.tmps)=false∧undef=undef:=by exact⟨by rfl,rfl⟩) (ha:a.put (some N) undef=a':=by simp only[Act.put,sA,sZ,sC,i64_w,i32_w];rfl):wpAnyLast P md ops Q S ds (fuel+1) l a w:=
  pure_ _ hi hN (any_of HT.out hc) hQ (Or.inr hy) ha h
theorem tU (i:Nat) (N:Tmp) (HT:Aside0 (rtab md ops=T)) (HW:Aside0 (waitsOk T.2 B=true)) (hS:S w) (h:wpAnyLast P md ops Q S ds fuel (l.setIfInBounds i true) a' w) (hi:ops[i]?=some oi:=by exact rfl) (hN:oi.dst=some N:=by exact rfl) (hc:takeW T B ds l.toList (l.setIfInBounds i true).toList i=true:=by kernel_rfl) (hQ:∀ c a w,Q (.panic c) (a.put oi.dst v) w→Q (.panic c) a w:=by exact fun _ _ _ h=>h) (h1:Region.wanted oi (yielded ops a.tmps)=true:=by rfl) (hv:∀ w,S w→(execOp a.eval oi).run P w=.ok (.value v) w:=by intro w' hs_;(repeat obtain⟨s_,hs_⟩:=hs_);go_simp;with_reducible rfl) (ha:a.put (some N) v=a':=by simp only[Act.put,sA,sZ,sC,i64_w,i32_w];rfl):wpAnyLast P md ops Q S ds (fuel+1) l a w:=
  take_ _ hi hN (take_ofW HT.out HW.out hc) hQ (Or.inl ⟨h1,hv⟩) hS ha h
theorem oU (i:Nat) (N:Option Tmp) (HT:Aside0 (rtab md ops=T)) (h:∀ K:Act→World→Prop,Shut (∀ a' w',S w'→(S w'→wpAnyLast P md ops Q S ds fuel (l.setIfInBounds i true) a' w')→K a' w')→if Region.wanted oi (yielded ops a.tmps)=true then Oper.wp P oi a w K Q else K (a.put N undef) w) (hi:ops[i]?=some oi:=by exact rfl) (hN:oi.dst=N:=by exact rfl) (hc:(readyT T.2 l.toList==[i]&&l.toList.set i true==(l.setIfInBounds i true).toList)=true:=by kernel_rfl) (hd:i∉ds:=by decide):wpAnyLast P md ops Q S ds (fuel+1) l a w:=
  one_ _ hi hN (one_of HT.out hc) hd h
theorem lU (i:Nat) (N:Option Tmp) (HT:Aside0 (rtab md ops=T)) (h:∀ K:Act→World→Prop,Shut (∀ a' w',wpAnyLast P md ops Q S ds fuel (l.setIfInBounds i true) a' w'→K a' w')→if Region.wanted oi (yielded ops a.tmps)=true then Oper.wp P oi a w K Q else K (a.put N undef) w) (hi:ops[i]?=some oi:=by exact rfl) (hN:oi.dst=N:=by exact rfl) (hc:(readyT T.2 l.toList==[i]&&l.toList.set i true==(l.setIfInBounds i true).toList)=true:=by kernel_rfl) (hd:i∈ds:=by decide):wpAnyLast P md ops Q S ds (fuel+1) l a w:=
  last_ _ hi hN (one_of HT.out hc) hd h
theorem nm (N:Tmp) {a0:Act} (h:wpAnyLast P md ops Q S ds fuel l a' w) (ha:Act.put a0 (some N) v=a':=by simp only[Act.put,sA,sZ,sC,i64_w,i32_w];rfl):wpAnyLast P md ops Q S ds fuel l (Act.put a0 (some N) v) w:=norm_ ha h
end




def Hzq.f (a0:Int):Option (Bool):=if a0 < (-1099511627776) then(some true) else(some (decide (a0 > 1099511627776)))
theorem Hzq.calls (a6:Int) (r:Bool) (w:World) (h:Hzq.f a6=some r) :
  Calls Tryz.prog 30 #[.int .i64 a6] w fun e w'=>e=.returned (.bool r)∧Drawn0 w w':=by
 have H:(if a6 < (-1099511627776) then(some true) else(some (decide (a6 > 1099511627776))))=some r:=h
 clear h;by_cases c2:a6 < (-1099511627776)
 ·rw[if_pos c2] at H;have a7:=dE c2;clear c2;obtain rfl:=Option.some.inj H;go_enter Tryz.func30,Tryz.ntmps30
  go_wp2
  go_ret
  exact⟨sD,dR⟩
 ·rw[if_neg c2] at H;have a7:decide (a6 < (-1099511627776))=false:=decide_eq_false c2;clear c2;obtain rfl:=Option.some.inj H;go_enter Tryz.func30,Tryz.ntmps30
  go_wp2
  go_ret
  exact⟨sD,dR⟩

def Azk.l0:Nat→List Int→Int→Int→Option (Int)
 | 0,_,_,_=>none
 | k+1,x0,x7,x8=>if x8 < x7 then(if 0≤x8 then(if x8 < (x0.length:Int) then((Hzq.f (rd x0 x8)).bind fun t102=>(if t102=true then(some x8) else(Azk.l0 k x0 x7 (wrap64 (x8+1))))) else(none)) else(none)) else(some (-1))
def Azk.f (k:Nat) (l0:List Int)  : Option (Int):=Azk.l0 k l0 (l0.length:Int) 0
theorem Azk.mono_l:∀ k,(∀ a6 a7 a8,LeO (Azk.l0 k a6 a7 a8) (Azk.l0 (k+1) a6 a7 a8))
 | 0=>fun _ _ _ r h=>by simp [Azk.l0] at h
 | k+1=>by
  have ih0:=Azk.mono_l k
  ·intro a6 a7 a8;unfold Azk.l0;exact mM
theorem Azk.mono:∀ a6 k,LeO (Azk.f k a6) (Azk.f (k+1) a6):=by
 intro a6 k;have ih0:=Azk.mono_l k;unfold Azk.f;exact mM
theorem Azk.calls (k:Nat) (a6:Option Addr) (a7:Nat) (l0:List Int)  (r:Int) (w:World) (a8:Kd.C (Kd.int .i64) w a6 l0.length l0) (b4:l0.length≤a7) (h:Azk.f k l0=some r) :
  Calls Tryz.prog 54 #[.slice a6 l0.length a7,.func (.func 30) #[] #[]] w fun e w'=>e=.returned (.int .i64 r)∧Drawn0 w w':=by
 have b5:=aM a8;have b6:=aM b4;clear a8 b4;have H:(Azk.l0 k l0 (l0.length:Int) 0)=some r:=h;clear h;have H':=aM H;clear H;go_enter Tryz.func54,Tryz.ntmps54
 go_wp2
 go_loopg [8] k (fun kq b7 w'=>∃ (b8:Int),b7=.int .i64 b8∧Aside0 (Azk.l0 kq l0 (l0.length:Int) b8=some r)∧Aside0 (kq≤k)∧Drawn0 w w')
 case atStart=>exact⟨(0),sD,H',⟨Nat.le_refl _⟩,dR⟩
 case round =>
  clear H';try clear b9
  obtain⟨b8,rfl,HA,d0,⟨d6,rfl⟩⟩:=hrel;cases gk with
  | zero=>exact absurd HA.out (by simp [Azk.l0])
  | succ k1 =>
   have H:=HA.out;clear HA;simp only[Azk.l0] at H;by_cases c3:b8 < (l0.length:Int)
   ·rw[if_pos c3] at H;have d7:=dE c3;clear c3;obtain⟨d8,H⟩:=iN H;obtain⟨d9,H⟩:=iN H;obtain⟨e6,e7,H⟩:=bT H;(try dsimp only at H);by_cases c7:e6=true
    ·subst c7;rw[if_pos rfl] at H;obtain rfl:=Option.some.inj H;obtain⟨e8,e9,f3,f4,f6⟩:=aI b5.out b8;cases e9;go_wp2_with (first|(go_at_call 30;(with_reducible refine(Hzq.calls (rd l0 b8) true _ e7.out).mono ?_);rintro e w' ⟨rfl,⟨nd,rfl⟩⟩))
     go_ret
     exact⟨sD,dR⟩
    ·obtain rfl:=bN c7;rw[if_neg nF] at H
     have H':=aM H;clear H;obtain⟨e8,e9,f3,f4,f6⟩:=aI b5.out b8;cases e9;go_wp2_with (first|(go_at_call 30;(with_reducible refine(Hzq.calls (rd l0 b8) false _ e7.out).mono ?_);rintro e w' ⟨rfl,⟨nd,rfl⟩⟩))
     go_roundg k1
     case measure=>have:=d0.out;omega
     case rel=>exact⟨(wrap64 (b8+1)),sD,H',⟨by have:=d0.out;omega⟩,dR⟩
   ·rw[if_neg c3] at H;have d7:decide (b8 < (l0.length:Int))=false:=decide_eq_false c3;clear c3;obtain rfl:=Option.some.inj H;go_wp2
    go_ret
    exact⟨sD,dR⟩

def Czb.f (k:Nat) (l0:List Int)  : Option (Bool):=(Azk.f k l0).bind fun t103=>(some (decide (t103≥0)))
theorem Czb.mono:∀ a6 k,LeO (Czb.f k a6) (Czb.f (k+1) a6):=by
 intro a6 k;unfold Czb.f;have i0:=@Azk.mono;exact mM
theorem Czb.calls (k:Nat) (a6:Option Addr) (a7:Nat) (l0:List Int)  (r:Bool) (w:World) (a8:Kd.C (Kd.int .i64) w a6 l0.length l0) (b4:l0.length≤a7) (h:Czb.f k l0=some r) :
  Calls Tryz.prog 29 #[.slice a6 l0.length a7,.func (.func 30) #[] #[]] w fun e w'=>e=.returned (.bool r)∧Drawn0 w w':=by
 have b5:=aM a8;have b6:=aM b4;clear a8 b4;have H:((Azk.f k l0).bind fun b7=>(some (decide (b7≥0))))=some r:=h
 clear h;replace H:=bS H;obtain⟨b7,b8,H⟩:=H;replace H:(some (decide (b7≥0)))=some r:=H;have b9:=aM b8;clear b8;obtain rfl:=Option.some.inj H;go_enter Tryz.func29,Tryz.ntmps29
 go_wp2_with (first|((with_reducible refine gc 54 rfl ?_);refine gC 54 (some 7) Tryz.func54 #[.slice a6 l0.length a7,.func (.func 30) #[] #[]] ?_;(with_reducible refine(Azk.calls k _ _ l0  b7 _ ?_ ?_ b9.out).mono ?_);exact cX b5.out;exact b6.out;rintro e w' ⟨rfl,⟨nd,rfl⟩⟩;refine⟨_,rfl,?_⟩))
 go_ret
 exact⟨sD,dR⟩

def Czy.f (k:Nat) (l0:List Int):Option (Int):=if(l0.length:Int)=0 then(some 10) else(if(l0.length:Int) > 512 then(some 8) else((Czb.f k l0).bind fun t104=>(if t104=true then(some 1) else(some 0))))
theorem Czy.mono:∀ a6 k,LeO (Czy.f k a6) (Czy.f (k+1) a6):=by
 intro a6 k;unfold Czy.f;have i0:=@Czb.mono;exact mM
theorem Czy.calls (k:Nat) (a6:Option Addr) (a7:Nat) (l0:List Int) (r:Int) (w:World) (a8:Kd.C (Kd.int .i64) w a6 l0.length l0) (b4:l0.length≤a7) (h:Czy.f k l0=some r) :
  Calls Tryz.prog 9 #[.slice a6 l0.length a7] w fun e w'=>e=.returned (.int .i64 r)∧Drawn0 w w':=by
 have b5:=aM a8;have b6:=aM b4;clear a8 b4;have H:(if(l0.length:Int)=0 then(some 10) else(if(l0.length:Int) > 512 then(some 8) else((Czb.f k l0).bind fun b7=>(if b7=true then(some 1) else(some 0)))))=some r:=h
 clear h;by_cases c2:(l0.length:Int)=0
 ·rw[if_pos c2] at H;obtain⟨b8,b9⟩:=bE c2;clear c2;obtain rfl:=Option.some.inj H;go_enter Tryz.func9,Tryz.ntmps9
  go_wp2
  go_ret
  exact⟨sD,dR⟩
 ·rw[if_neg c2] at H;obtain⟨b8,b9⟩:=bI c2;have d0:¬ (l0=[]):=fun h_=>c2 (by rw[h_];rfl)
  by_cases c3:(l0.length:Int) > 512
  ·rw[if_pos c3] at H;have d6:decide (512 < (l0.length:Int))=true:=dE c3;have d7:decide (512 < l0.length)=true:=dE (by omega)
   clear c3;obtain rfl:=Option.some.inj H;go_enter Tryz.func9,Tryz.ntmps9
   go_wp2
   go_ret
   exact⟨sD,dR⟩
  ·rw[if_neg c3] at H;have d6:decide (512 < (l0.length:Int))=false:=decide_eq_false c3;have d7:decide (512 < l0.length)=false:=decide_eq_false (by omega)
   clear c3;obtain⟨b7,d8,H⟩:=bT H;(try dsimp only at H);by_cases c5:b7=true
   ·subst c5;rw[if_pos rfl] at H;obtain rfl:=Option.some.inj H;go_enter Tryz.func9,Tryz.ntmps9
    go_wp2_with (first|((with_reducible refine gc 29 rfl ?_);refine gC 29 (some 13) Tryz.func29 #[.slice a6 l0.length a7,.func (.func 30) #[] #[]] ?_;(with_reducible refine(Czb.calls k _ _ l0  true _ ?_ ?_ d8.out).mono ?_);exact cX b5.out;exact b6.out;rintro e w' ⟨rfl,⟨nd,rfl⟩⟩;refine⟨_,rfl,?_⟩))
    go_ret
    exact⟨sD,dR⟩
   ·obtain rfl:=bN c5;rw[if_neg nF] at H
    obtain rfl:=Option.some.inj H;go_enter Tryz.func9,Tryz.ntmps9
    go_wp2_with (first|((with_reducible refine gc 29 rfl ?_);refine gC 29 (some 13) Tryz.func29 #[.slice a6 l0.length a7,.func (.func 30) #[] #[]] ?_;(with_reducible refine(Czb.calls k _ _ l0  false _ ?_ ?_ d8.out).mono ?_);exact cX b5.out;exact b6.out;rintro e w' ⟨rfl,⟨nd,rfl⟩⟩;refine⟨_,rfl,?_⟩))
    go_ret
    exact⟨sD,dR⟩

def Hzk.f (a0:Int):Option (Bool):=if a0≥(-1125899906842624) then(some (decide (a0≤1125899906842624))) else(some false)
theorem Hzk.calls (a6:Int) (r:Bool) (w:World) (h:Hzk.f a6=some r) :
  Calls Tryz.prog 37 #[.int .i64 a6] w fun e w'=>e=.returned (.bool r)∧Drawn0 w w':=by
 have H:(if a6≥(-1125899906842624) then(some (decide (a6≤1125899906842624))) else(some false))=some r:=h
 clear h;by_cases c2:a6≥(-1125899906842624)
 ·rw[if_pos c2] at H;have a7:decide ((-1125899906842624)≤a6)=true:=dE c2;clear c2;obtain rfl:=Option.some.inj H;go_enter Tryz.func37,Tryz.ntmps37
  go_wp2
  go_ret
  exact⟨sD,dR⟩
 ·rw[if_neg c2] at H;have a7:decide ((-1125899906842624)≤a6)=false:=decide_eq_false c2;clear c2;obtain rfl:=Option.some.inj H;go_enter Tryz.func37,Tryz.ntmps37
  go_wp2
  go_ret
  exact⟨sD,dR⟩

def Fzy.l0:Nat→Int→List Int→Option (List Int × Int)
 | 0,_,_=>none
 | k+1,x0,x4=>if x0 > 0 then(if x4.length < 17592186044416 then(Fzy.l0 k (wrap64 (Int.tdiv x0 1000000000)) (x4 ++ [Int.tmod x0 1000000000])) else(none)) else(some (x4,0))
def Fzy.f (k:Nat) (a0:Int):Option (List Int × Int):=if a0 < 0 then(some (([]:List Int),1)) else(Fzy.l0 k a0 ([]:List Int))
theorem Fzy.mono_l:∀ k,(∀ a6 a7,LeO (Fzy.l0 k a6 a7) (Fzy.l0 (k+1) a6 a7))
 | 0=>fun _ _ r h=>by simp [Fzy.l0] at h
 | k+1=>by
  have ih0:=Fzy.mono_l k
  ·intro a6 a7;unfold Fzy.l0;exact mM
theorem Fzy.mono:∀ a6 k,LeO (Fzy.f k a6) (Fzy.f (k+1) a6):=by
 intro a6 k;have ih0:=Fzy.mono_l k;unfold Fzy.f;exact mM
theorem Fzy.calls (k:Nat) (a6:Int) (a7:List Int) (a8:Int) (w:World) (h:Fzy.f k a6=some (a7,a8)) :
  Calls Tryz.prog 60 #[.int .i64 a6] w fun e w'=>∃ v0_:Value,e=.returned (.tuple #[v0_,.int .i64 a8])∧Kd.R (Kd.int .i64) 3 w' w.heap.size (fun _=>True) v0_ a7∧Below w.heap.size w w':=by
 have HB:=aM (Below.refl w.heap.size w);have H:(if a6 < 0 then(some (([]:List Int),1)) else(Fzy.l0 k a6 ([]:List Int)))=some (a7,a8):=h
 clear h;by_cases c2:a6 < 0
 ·rw[if_pos c2] at H;have b4:=dE c2;clear c2;obtain⟨rfl,rfl⟩:=q2 H;go_enter Tryz.func60,Tryz.ntmps60
  go_wp2
  go_ret2
  exact⟨_,eW,nK,pB⟩
 ·rw[if_neg c2] at H;have b4:decide (a6 < 0)=false:=decide_eq_false c2;clear c2;have H':=aM H;clear H;go_enter Tryz.func60,Tryz.ntmps60
  go_wp2
  go_loopg [0,4] k (fun kq b5 b6 w'=>∃ (b7:Int) (b8:List Int),b5=.int .i64 b7∧Aside0 (Fzy.l0 kq b7 b8=some (a7,a8))∧Aside0 (kq≤k)∧Aside0 (Kd.R (Kd.int .i64) 3 w' w.heap.size (fun _=>True) b6 b8)∧Aside0 (Below w.heap.size w w'))
  case atStart=>exact⟨(a6),(([]:List Int)),sD,H',⟨Nat.le_refl _⟩,⟨nK⟩,⟨pB⟩⟩
  case round =>
   clear H';try clear c2
   obtain⟨b7,b8,rfl,HA,b9,d0,HB⟩:=hrel;cases gk with
   | zero=>exact absurd HA.out (by simp [Fzy.l0])
   | succ k1 =>
    have H:=HA.out;clear HA;simp only[Fzy.l0] at H;by_cases c3:b7 > 0
    ·rw[if_pos c3] at H;have d6:decide (0 < b7)=true:=dE c3;clear c3;obtain⟨c4,H⟩:=iO H;have LMc4:=aM c4;clear c4;obtain⟨d7,d8⟩:∃ y_:List Int,y_=(b8 ++ [Int.tmod b7 1000000000]):=⟨_,rfl⟩;replace H:(Fzy.l0 k1 (wrap64 (Int.tdiv b7 1000000000)) d7)=some (a7,a8):=yE d8 H
     have d9:=aM d8;clear d8;have H':=aM H;clear H;go_wp2_with (first|((with_reducible refine gate_builtin (b:=.append) (xs:=#[.tmp 11,.tmp 14]) rfl ?_);at_builtin;refine Kd.R_append (Kd.int .i64) (w0:=w) w.heap.size rfl (.tmp 11) (.tmp 14) 24 3 (.int .i64 0) 8 rfl Tryz.underlying24 info3 rfl (by decide) (by omega) u4 b8 (Int.tmod b7 1000000000) [.int .i64 (Int.tmod b7 1000000000)] (fun _=>True) (fun _=>False) rfl rfl ?aP (fun _ hk=>hk.elim) ?aF ?aO ?aB ?aS ?aL ?_;(case aP=>exact rfl);(case aB=>exact pB);(case aF=>exact(fun _ _=>trivial));(case aO=>exact(rX d0.out));(case aS=>exact(below_size pB));(case aL=>have:=LMc4.out;omega);intro e6 e7 ho hb hg hat;rw[← d9.out] at ho;have e8:=aM (ho);replace HB:=aM (hb);clear d0 ho hb hg hat))
     go_roundg k1
     case measure=>have:=b9.out;omega
     case rel=>exact⟨(wrap64 (Int.tdiv b7 1000000000)),(d7),sD,H',⟨by have:=b9.out;omega⟩,⟨rX e8.out⟩,⟨pB⟩⟩
    ·rw[if_neg c3] at H;have d6:decide (0 < b7)=false:=decide_eq_false c3;clear c3;obtain⟨rfl,rfl⟩:=q2 H;go_wp2
     go_ret2
     exact⟨_,eW,rX d0.out,pB⟩


def Azy.l0:Nat→List Int→Int→Int→Option (Bool)
 | 0,_,_,_=>none
 | k+1,x0,x8,x9=>if x9 < x8 then(if 0≤x9 then(if x9 < (x0.length:Int) then(if(rd x0 x9) < 0 then(some false) else(if(rd x0 x9)≥1000000000 then(some false) else(Azy.l0 k x0 x8 (wrap64 (x9+1))))) else(none)) else(none)) else(if(x0.length:Int)=0 then(some true) else(if 0≤(wrap64 ((x0.length:Int) - 1)) then(if(wrap64 ((x0.length:Int) - 1)) < (x0.length:Int) then(some ((rd x0 (wrap64 ((x0.length:Int) - 1))) != 0)) else(none)) else(none)))
def Azy.f (k:Nat) (l0:List Int):Option (Bool):=if(l0.length:Int) > 48 then(some false) else(Azy.l0 k l0 (l0.length:Int) 0)
theorem Azy.mono_l:∀ k,(∀ a6 a7 a8,LeO (Azy.l0 k a6 a7 a8) (Azy.l0 (k+1) a6 a7 a8))
 | 0=>fun _ _ _ r h=>by simp [Azy.l0] at h
 | k+1=>by
  have ih0:=Azy.mono_l k
  ·intro a6 a7 a8;unfold Azy.l0;exact mM
theorem Azy.mono:∀ a6 k,LeO (Azy.f k a6) (Azy.f (k+1) a6):=by
 intro a6 k;have ih0:=Azy.mono_l k;unfold Azy.f;exact mM
theorem Azy.calls (k:Nat) (a6:Option Addr) (a7:Nat) (l0:List Int) (r:Bool) (w:World) (a8:Kd.C (Kd.int .i64) w a6 l0.length l0) (b4:l0.length≤a7) (h:Azy.f k l0=some r) :
  Calls Tryz.prog 78 #[.slice a6 l0.length a7] w fun e w'=>e=.returned (.bool r)∧Drawn0 w w':=by
 have b5:=aM a8;have b6:=aM b4;clear a8 b4;have H:(if(l0.length:Int) > 48 then(some false) else(Azy.l0 k l0 (l0.length:Int) 0))=some r:=h
 clear h;by_cases c2:(l0.length:Int) > 48
 ·rw[if_pos c2] at H;have b7:decide (48 < (l0.length:Int))=true:=dE c2;have b8:decide (48 < l0.length)=true:=dE (by omega)
  clear c2;obtain rfl:=Option.some.inj H;go_enter Tryz.func78,Tryz.ntmps78
  go_wp2
  go_ret
  exact⟨sD,dR⟩
 ·rw[if_neg c2] at H;have b7:decide (48 < (l0.length:Int))=false:=decide_eq_false c2;have b8:decide (48 < l0.length)=false:=decide_eq_false (by omega)
  clear c2;have H':=aM H;clear H;go_enter Tryz.func78,Tryz.ntmps78
  go_wp2
  go_loopg [9] k (fun kq b9 w'=>∃ (d0:Int),b9=.int .i64 d0∧Aside0 (Azy.l0 kq l0 (l0.length:Int) d0=some r)∧Aside0 (kq≤k)∧Drawn0 w w')
  case atStart=>exact⟨(0),sD,H',⟨Nat.le_refl _⟩,dR⟩
  case round =>
   clear H';try clear c2
   obtain⟨d0,rfl,HA,d6,⟨d7,rfl⟩⟩:=hrel;cases gk with
   | zero=>exact absurd HA.out (by simp [Azy.l0])
   | succ k1 =>
    have H:=HA.out;clear HA;simp only[Azy.l0] at H;by_cases c3:d0 < (l0.length:Int)
    ·rw[if_pos c3] at H;have d8:=dE c3;clear c3;obtain⟨d9,H⟩:=iN H;obtain⟨e6,H⟩:=iN H;by_cases c6:(rd l0 d0) < 0
     ·rw[if_pos c6] at H;have e7:=dE c6;clear c6;obtain rfl:=Option.some.inj H;obtain⟨e8,e9,f3,f4,f6⟩:=aI b5.out d0;cases e9;go_wp2
      go_ret
      exact⟨sD,dR⟩
     ·rw[if_neg c6] at H;have e7:decide ((rd l0 d0) < 0)=false:=decide_eq_false c6;clear c6;by_cases c7:(rd l0 d0)≥1000000000
      ·rw[if_pos c7] at H;have f9:decide (1000000000≤(rd l0 d0))=true:=dE c7;clear c7;obtain rfl:=Option.some.inj H;obtain⟨e8,e9,f3,f4,f6⟩:=aI b5.out d0;cases e9;obtain⟨g4,g5,g6,g7,g8⟩:=aI b5.out d0;obtain rfl:e8=g4:=(by injection g5);go_wp2
       go_ret
       exact⟨sD,dR⟩
      ·rw[if_neg c7] at H;have f9:decide (1000000000≤(rd l0 d0))=false:=decide_eq_false c7;clear c7;have H':=aM H;clear H;obtain⟨e8,e9,f3,f4,f6⟩:=aI b5.out d0;cases e9;obtain⟨g4,g5,g6,g7,g8⟩:=aI b5.out d0;obtain rfl:e8=g4:=(by injection g5);go_wp2
       go_roundg k1
       case measure=>have:=d6.out;omega
       case rel=>exact⟨(wrap64 (d0+1)),sD,H',⟨by have:=d6.out;omega⟩,dR⟩
    ·rw[if_neg c3] at H;have d8:decide (d0 < (l0.length:Int))=false:=decide_eq_false c3;clear c3;by_cases c8:(l0.length:Int)=0
     ·rw[if_pos c8] at H;obtain⟨g9,j3⟩:=bE c8;clear c8;obtain rfl:=Option.some.inj H;go_wp2
      go_ret
      exact⟨sD,dR⟩
     ·rw[if_neg c8] at H;obtain⟨g9,j3⟩:=bI c8;have j4:¬ (l0=[]):=fun h_=>c8 (by rw[h_];rfl)
      obtain⟨j5,j6⟩:∃ j_:Int,(wrap64 ((l0.length:Int) - 1))=j_:=⟨_,rfl⟩;replace H:(if 0≤(j5) then(if(j5) < (l0.length:Int) then(some ((rd l0 (j5)) != 0)) else(none)) else(none))=some r:=by first|(rw[j6] at H;exact H)|(simp only[j6] at H ⊢;exact H)
      have j7:(IntKind.i64.wrap ((l0.length:Int) - 1))=j5:=(i64_w _).trans j6;by_cases c10:0≤(j5)
      ·rw[if_pos c10] at H;have j8:=dE c10;clear c10;obtain⟨j9,H⟩:=iN H;obtain rfl:=Option.some.inj H;obtain⟨l5,l6,l7,l8,l9⟩:=aI b5.out (j5);cases l6;go_wp2
       go_ret
       exact⟨by first|rfl|(simp;done)|(simp only[← j6] <;> (first|rfl|simp))|(simp [*];done),dR⟩
      ·rw[if_neg c10] at H;exact absurd H (by simp)

def Bzf.l0:Nat→List Int→Int→Option (List Int)
 | 0,_,_=>none
 | k+1,x0,x3=>if x3 > 0 then(if 0≤(wrap64 (x3 - 1)) then(if(wrap64 (x3 - 1)) < (x0.length:Int) then(if(rd x0 (wrap64 (x3 - 1)))=0 then(Bzf.l0 k x0 (wrap64 (x3 - 1))) else(if 0≤x3 then(if x3≤(x0.length:Int) then(some (x0.take (x3:Int).toNat)) else(none)) else(none))) else(none)) else(none)) else(if 0≤x3 then(if x3≤(x0.length:Int) then(some (x0.take (x3:Int).toNat)) else(none)) else(none))
def Bzf.f (k:Nat) (l0:List Int):Option (List Int):=Bzf.l0 k l0 (l0.length:Int)
theorem Bzf.mono_l:∀ k,(∀ a6 a7,LeO (Bzf.l0 k a6 a7) (Bzf.l0 (k+1) a6 a7))
 | 0=>fun _ _ r h=>by simp [Bzf.l0] at h
 | k+1=>by
  have ih0:=Bzf.mono_l k
  ·intro a6 a7;unfold Bzf.l0;exact mM
theorem Bzf.mono:∀ a6 k,LeO (Bzf.f k a6) (Bzf.f (k+1) a6):=by
 intro a6 k;have ih0:=Bzf.mono_l k;unfold Bzf.f;exact mM
theorem Bzf.calls (k:Nat) (a6:Nat→Prop) (u9000_:Value) (l0:List Int) (r:List Int) (a7 w:World) (hB:Below a7.heap.size a7 w) (a8:Kd.R (Kd.int .i64) 3 w a7.heap.size a6 u9000_ l0) (h:Bzf.f k l0=some r) :
  Calls Tryz.prog 80 #[u9000_] w fun e w'=>∃ v0_:Value,e=.returned (v0_)∧Kd.R (Kd.int .i64) 3 w' a7.heap.size (fun k_=>(a6 k_∨w.heap.size≤k_)) v0_ r∧Below a7.heap.size a7 w'∧Kept w w' (fun k_=>a6 k_):=by
 have b4:=aM (show Kd.R (Kd.int .i64) 3 w a7.heap.size (fun k_=>(a6 k_∨w.heap.size≤k_)) u9000_ l0 from Kd.R_mono a8 (fun k_ hk=>(.inl hk)))
 have HK:=aM (Kept.refl w (fun k_=>a6 k_))
 have HW0:=aM hB.size;have HB:=aM hB;clear hB;have H:(Bzf.l0 k l0 (l0.length:Int))=some r:=h;clear h;have H':=aM H;clear H;obtain⟨b5,b6,rfl⟩:=Kd.R_slice b4.out;go_enter Tryz.func80,Tryz.ntmps80
 go_wp2
 go_loopg [3] k (fun kq b7 w'=>∃ (b8:Int),b7=.int .i64 b8∧Aside0 (Bzf.l0 kq l0 b8=some r)∧Aside0 (kq≤k)∧Aside0 (Kd.R (Kd.int .i64) 3 w' a7.heap.size (fun k_=>(a6 k_∨w.heap.size≤k_)) (.slice b5 l0.length b6) l0)∧Aside0 (Kept w w' (fun k_=>a6 k_))∧Aside0 (Below a7.heap.size a7 w'))
 case atStart=>exact⟨((l0.length:Int)),sD,H',⟨Nat.le_refl _⟩,⟨rX b4.out⟩,⟨kK HK⟩,⟨pB⟩⟩
 case round =>
  clear H';try clear b9
  obtain⟨b8,rfl,HA,d0,d6,HK,HB⟩:=hrel;cases gk with
  | zero=>exact absurd HA.out (by simp [Bzf.l0])
  | succ k1 =>
   have H:=HA.out;clear HA;simp only[Bzf.l0] at H;by_cases c3:b8 > 0
   ·rw[if_pos c3] at H;have d7:decide (0 < b8)=true:=dE c3;clear c3;obtain⟨d8,d9⟩:∃ j_:Int,(wrap64 (b8 - 1))=j_:=⟨_,rfl⟩;replace H:(if 0≤(d8) then(if(d8) < (l0.length:Int) then(if(rd l0 (d8))=0 then(Bzf.l0 k1 l0 d8) else(if 0≤b8 then(if b8≤(l0.length:Int) then(some (l0.take (b8:Int).toNat)) else(none)) else(none))) else(none)) else(none))=some r:=by first|(rw[d9] at H;exact H)|(simp only[d9] at H ⊢;exact H)
    have e6:(IntKind.i64.wrap (b8 - 1))=d8:=(i64_w _).trans d9;obtain⟨e7,H⟩:=iN H;obtain⟨e8,H⟩:=iN H;by_cases c7:(rd l0 (d8))=0
    ·rw[if_pos c7] at H;obtain⟨e9,f3⟩:=bE c7;clear c7;have H':=aM H;clear H;obtain⟨f4,f6,f9,g4,g5⟩:=aI (Kd.R_reads' d6.out).2.2 (d8);cases f6;go_wp2
     go_roundg k1
     case measure=>have:=d0.out;omega
     case rel=>exact⟨(d8),(by first|rfl|(simp;done)|(simp only[← d9] <;> (first|rfl|simp))|(simp [*];done)),H',⟨by have:=d0.out;omega⟩,⟨rX d6.out⟩,⟨kK HK⟩,⟨pB⟩⟩
    ·rw[if_neg c7] at H;obtain⟨e9,f3⟩:=bI c7;obtain⟨c8,H⟩:=iO H;have g6:=eq_true c8;have g7:decide (0≤b8)=true:=dE c8;clear c8;obtain⟨c9,H⟩:=iO H;have g8:=eq_true c9;have g9:decide (b8≤(l0.length:Int))=true:=dE c9;clear c9;obtain⟨j3,j4⟩:∃ y_:List Int,y_=(l0.take (b8:Int).toNat):=⟨_,rfl⟩;replace H:(some j3)=some r:=yE j4 H
     have j5:=aM j4;clear j4;obtain rfl:=Option.some.inj H;obtain⟨f4,f6,f9,g4,g5⟩:=aI (Kd.R_reads' d6.out).2.2 (d8);cases f6;have j6:(b8:Int)≤((l0.length:Int):Int):=oE aS
     obtain⟨i010,j7,_,hsz10,_⟩:=info_parts info3;have hcut10:=cut_to (P:=Tryz.prog) 22 3 .i64 Tryz.underlying22 j7 (some f4) l0.length b6 b8 (oE aS) j6 (Kd.R_reads' d6.out).2.1
     have j8:=Kd.R_take (m:=(b8:Int).toNat) d6.out (by omega)
     have j9:j3.length=(b8:Int).toNat:=(by rw[j5.out,List.length_take];omega)
     rw[← j5.out] at j8;rw[← j9] at j8 hcut10;clear j9 j7 hsz10 d6;have l5:=aM j8;clear j8;replace j6:=eq_true j6;go_wp2
     go_ret
     exact⟨_,by first|rfl|(simp [errW_none,errW_some] <;> rfl)|(simp only[← d9];first|rfl|(simp [errW_none,errW_some] <;> rfl))|(simp [*,errW_none,errW_some] <;> rfl),rX l5.out,pB,kK HK⟩
   ·rw[if_neg c3] at H;have d7:decide (0 < b8)=false:=decide_eq_false c3;clear c3;by_cases l6:0≤b8
    ·rw[if_pos l6] at H;have l7:=eq_true l6;have l8:=dE l6;clear l6;obtain⟨l9,H⟩:=iO H;have m0:=eq_true l9;have m3:decide (b8≤(l0.length:Int))=true:=dE l9;clear l9;obtain⟨m4,m5⟩:∃ y_:List Int,y_=(l0.take (b8:Int).toNat):=⟨_,rfl⟩;replace H:(some m4)=some r:=yE m5 H
     have m6:=aM m5;clear m5;obtain rfl:=Option.some.inj H;have m7:(b8:Int)≤((l0.length:Int):Int):=oE aS
     obtain⟨i013,m8,_,hsz13,_⟩:=info_parts info3;have hcut13:=cut_to (P:=Tryz.prog) 22 3 .i64 Tryz.underlying22 m8 b5 l0.length b6 b8 (oE aS) m7 (Kd.R_reads' d6.out).2.1
     have m9:=Kd.R_take (m:=(b8:Int).toNat) d6.out (by omega)
     have n0:m4.length=(b8:Int).toNat:=(by rw[m6.out,List.length_take];omega)
     rw[← m6.out] at m9;rw[← n0] at m9 hcut13;clear n0 m8 hsz13 d6;have n6:=aM m9;clear m9;replace m7:=eq_true m7;go_wp2
     go_ret
     exact⟨_,eW,rX n6.out,pB,kK HK⟩
    ·rw[if_neg l6] at H;exact absurd H (by simp)


def Gzv.f (l0:List Int) (a1:Int):Option (List Int):=if 0≤(mx a1 (l0.length:Int)) then(if(mx a1 (l0.length:Int):Int).toNat≤35184372088832 then((Hzy.f (List.replicate (mx a1 (l0.length:Int):Int).toNat 0) l0).bind fun bt121=>(some bt121.2)) else(none)) else(none)
theorem Gzv.calls (a6:Option Addr) (a7:Nat) (l0:List Int) (a8:Int) (r:List Int) (w:World) (b4:Kd.C (Kd.int .i64) w a6 l0.length l0) (b5:l0.length≤a7) (h:Gzv.f l0 a8=some r) :
  Calls Tryz.prog 81 #[.slice a6 l0.length a7,.int .i64 a8] w fun e w'=>∃ v0_:Value,e=.returned (v0_)∧Kd.R (Kd.int .i64) 3 w' w.heap.size (fun _=>True) v0_ r∧Below w.heap.size w w':=by
 have b6:=aM b4;have b7:=aM b5;clear b4 b5;have HB:=aM (Below.refl w.heap.size w);have H:(if 0≤(mx a8 (l0.length:Int)) then(if(mx a8 (l0.length:Int):Int).toNat≤35184372088832 then((Hzy.f (List.replicate (mx a8 (l0.length:Int):Int).toNat 0) l0).bind fun b8=>(some b8.2)) else(none)) else(none))=some r:=h
 clear h;obtain⟨b9,d0⟩:∃ j_:Int,(mx a8 (l0.length:Int))=j_:=⟨_,rfl⟩;replace H:(if 0≤(b9) then(if(b9:Int).toNat≤35184372088832 then((Hzy.f (List.replicate (b9:Int).toNat 0) l0).bind fun b8=>(some b8.2)) else(none)) else(none))=some r:=by first|(rw[d0] at H;exact H)|(simp only[d0] at H ⊢;exact H)
 (try(have d6:0≤b9:=by(rw[← d0];unfold mx;(repeat' split) <;> omega)))
 (try(have d7:0≤b9:=by omega))
 have d8:(if a8 < (l0.length:Int) then(l0.length:Int) else a8)=b9:=d0
 by_cases c4:0≤(b9)
 ·rw[if_pos c4] at H;have d9:=eq_true c4;have e6:=dE c4;clear c4;obtain⟨c5,H⟩:=iO H;have e7:=eq_true c5;have e8:decide ((b9:Int).toNat≤35184372088832)=true:=dE c5;clear c5;obtain⟨e9,f3⟩:∃ y_:List Int,y_=(List.replicate (b9:Int).toNat 0):=⟨_,rfl⟩;replace H:((Hzy.f e9 l0).bind fun b8=>(some b8.2))=some r:=yE f3 H
  have f4:=aM f3;clear f3;replace H:=bS H;obtain⟨⟨f6,f9⟩,g4,H⟩:=H;replace H:(some f9)=some r:=H;have g5:=aM g4;clear g4;obtain rfl:=Option.some.inj H;go_enter Tryz.func81,Tryz.ntmps81
  go_wp2_with (first|((with_reducible refine gate_dst (N:=10) rfl ?_);refine Kd.R_make (Kd.int .i64) _ 3 rfl (N:=10) rfl 22 _ _ rfl b9 rfl rfl Tryz.underlying22 (.int .i64 0) 8 info3 rfl (by decide) (by omega) 0 (ok:=fun _=>True) (okp:=fun _=>True) rfl (fun _ hk=>hk) trivial (oE aS) (Nat.le_trans (Nat.mul_le_mul_right _ (oE aS:b9.toNat≤35184372088832)) (by omega)) (Below.refl _ _) (Nat.le_refl _) ?_;intro g6 g7 g8 hb hg_ hnew_;clear hg_ hnew_;replace g8:=rY f4 g8;have g9:=rL g8;replace HB:=bB hb;clear hb g8;obtain⟨j3,j4,rfl⟩:=Kd.R_slice g9.out)|((with_reducible refine gate_builtin (b:=.copy) rfl ?_);refine copyL_ (some 13) rfl rfl rfl (.slice j3 e9.length j4) (.slice a6 l0.length a7) rfl rfl ?_;(with_reducible refine(Hzy.calls (by kernel_rfl) (fun k_=>some k_=(.slice j3 e9.length j4:Value).ownBlock) (.slice j3 e9.length j4) e9 _ _ l0 f6 f9 w _ ?_ ?_ ?_ ?_ g5.out).mono ?_);exact pB;exact Kd.R_tight rfl g9.out;exact Kd.C_kept_came (Kd.heap_int .i64) b6.out pB (fun k_ hs_=>(fun e_=>Kd.R_base g9.out k_ e_.symm) hs_);exact b7.out;rintro e j5 ⟨rfl,j6,hb,hkp⟩;refine⟨_,rfl,?_⟩;replace g9:=aM (Kd.R_reok rfl j6 (fun k_ e_=>g9.out.1 k_ e_));replace HB:=aM (hb);clear hb hkp j6))
  go_ret
  exact⟨_,by first|rfl|(simp [errW_none,errW_some] <;> rfl)|(simp only[← d0];first|rfl|(simp [errW_none,errW_some] <;> rfl))|(simp [*,errW_none,errW_some] <;> rfl),rX g9.out,pB⟩
 ·rw[if_neg c4] at H;exact absurd H (by simp)

def Dzy.l0:Nat→List Int→List Int→Int→Option (Int)
 | 0,_,_,_=>none
 | k+1,x0,x1,x5=>if x5≥0 then(if 0≤x5 then(if x5 < (x0.length:Int) then(if x5 < (x1.length:Int) then(if(rd x0 x5) < (rd x1 x5) then(some (-1)) else(if(rd x0 x5) > (rd x1 x5) then(some 1) else(Dzy.l0 k x0 x1 (wrap64 (x5 - 1))))) else(none)) else(none)) else(none)) else(some 0)
def Dzy.f (k:Nat) (l0:List Int) (l1:List Int):Option (Int):=if(l0.length:Int)=(l1.length:Int) then(Dzy.l0 k l0 l1 (wrap64 ((l0.length:Int) - 1))) else(if(l0.length:Int) < (l1.length:Int) then(some (-1)) else(some 1))
theorem Dzy.mono_l:∀ k,(∀ a6 a7 a8,LeO (Dzy.l0 k a6 a7 a8) (Dzy.l0 (k+1) a6 a7 a8))
 | 0=>fun _ _ _ r h=>by simp [Dzy.l0] at h
 | k+1=>by
  have ih0:=Dzy.mono_l k
  ·intro a6 a7 a8;unfold Dzy.l0;exact mM
theorem Dzy.mono:∀ a6 a7 k,LeO (Dzy.f k a6 a7) (Dzy.f (k+1) a6 a7):=by
 intro a6 a7 k;have ih0:=Dzy.mono_l k;unfold Dzy.f;exact mM
theorem Dzy.calls (k:Nat) (a6:Option Addr) (a7:Nat) (l0:List Int) (a8:Option Addr) (b4:Nat) (l1:List Int) (r:Int) (w:World) (b5:Kd.C (Kd.int .i64) w a6 l0.length l0) (b6:l0.length≤a7) (b7:Kd.C (Kd.int .i64) w a8 l1.length l1) (b8:l1.length≤b4) (h:Dzy.f k l0 l1=some r) :
  Calls Tryz.prog 85 #[.slice a6 l0.length a7,.slice a8 l1.length b4] w fun e w'=>e=.returned (.int .i64 r)∧Drawn0 w w':=by
 have b9:=aM b5;have d0:=aM b6;clear b5 b6;have d6:=aM b7;have d7:=aM b8;clear b7 b8;have H:(if(l0.length:Int)=(l1.length:Int) then(Dzy.l0 k l0 l1 (wrap64 ((l0.length:Int) - 1))) else(if(l0.length:Int) < (l1.length:Int) then(some (-1)) else(some 1)))=some r:=h
 clear h;by_cases c3:(l0.length:Int)=(l1.length:Int)
 ·rw[if_pos c3] at H;obtain⟨d8,d9⟩:=bE c3;have e6:(l0.length == l1.length)=true:=by first|simpa using c3|(simp at c3 ⊢;omega)
  clear c3;have H':=aM H;clear H;go_enter Tryz.func85,Tryz.ntmps85
  go_wp2
  repeat(go_quiet (fail);try go_wp2)
  go_loopg [5] k (fun kq e7 w'=>∃ (e8:Int),e7=.int .i64 e8∧Aside0 (Dzy.l0 kq l0 l1 e8=some r)∧Aside0 (kq≤k)∧Drawn0 w w')
  case atStart=>exact⟨(wrap64 ((l0.length:Int) - 1)),sD,H',⟨Nat.le_refl _⟩,dR⟩
  case round =>
   clear H';try clear b4
   obtain⟨e8,rfl,HA,e9,⟨f3,rfl⟩⟩:=hrel;cases gk with
   | zero=>exact absurd HA.out (by simp [Dzy.l0])
   | succ k1 =>
    have H:=HA.out;clear HA;simp only[Dzy.l0] at H;by_cases c4:e8≥0
    ·rw[if_pos c4] at H;have f4:decide (0≤e8)=true:=dE c4;clear c4;obtain⟨f6,H⟩:=iN H;obtain⟨f9,H⟩:=iN H;obtain⟨g4,H⟩:=iN H;by_cases c8:(rd l0 e8) < (rd l1 e8)
     ·rw[if_pos c8] at H;have g5:=dE c8;clear c8;obtain rfl:=Option.some.inj H;obtain⟨g6,g7,g8,g9,j3⟩:=aI b9.out e8;cases g7;obtain⟨j4,j5,j6,j7,j8⟩:=aI d6.out e8;cases j5;go_wp2
      repeat(go_quiet (fail);try go_wp2)
      go_ret
      exact⟨sD,dR⟩
     ·rw[if_neg c8] at H;have g5:decide ((rd l0 e8) < (rd l1 e8))=false:=decide_eq_false c8;clear c8;by_cases c9:(rd l0 e8) > (rd l1 e8)
      ·rw[if_pos c9] at H;have j9:decide ((rd l1 e8) < (rd l0 e8))=true:=dE c9;clear c9;obtain rfl:=Option.some.inj H;obtain⟨g6,g7,g8,g9,j3⟩:=aI b9.out e8;cases g7;obtain⟨j4,j5,j6,j7,j8⟩:=aI d6.out e8;cases j5;obtain⟨l5,l6,l7,l8,l9⟩:=aI b9.out e8;obtain rfl:g6=l5:=(by injection l6);obtain⟨m0,m3,m4,m5,m6⟩:=aI d6.out e8;obtain rfl:j4=m0:=(by injection m3);go_wp2
       repeat(go_quiet (fail);try go_wp2)
       go_ret
       exact⟨sD,dR⟩
      ·rw[if_neg c9] at H;have j9:decide ((rd l1 e8) < (rd l0 e8))=false:=decide_eq_false c9;clear c9;have H':=aM H;clear H;obtain⟨g6,g7,g8,g9,j3⟩:=aI b9.out e8;cases g7;obtain⟨j4,j5,j6,j7,j8⟩:=aI d6.out e8;cases j5;obtain⟨l5,l6,l7,l8,l9⟩:=aI b9.out e8;obtain rfl:g6=l5:=(by injection l6);obtain⟨m0,m3,m4,m5,m6⟩:=aI d6.out e8;obtain rfl:j4=m0:=(by injection m3);go_wp2
       repeat(go_quiet (fail);try go_wp2)
       go_roundg k1
       case measure=>have:=e9.out;omega
       case rel=>exact⟨(wrap64 (e8 - 1)),sD,H',⟨by have:=e9.out;omega⟩,dR⟩
    ·rw[if_neg c4] at H;have f4:decide (0≤e8)=false:=decide_eq_false c4;clear c4;obtain rfl:=Option.some.inj H;go_wp2
     repeat(go_quiet (fail);try go_wp2)
     go_ret
     exact⟨sD,dR⟩
 ·rw[if_neg c3] at H;obtain⟨d8,d9⟩:=bI c3;have e6:(l0.length == l1.length)=false:=by first|simpa using c3|(simp at c3 ⊢;omega)
  by_cases c10:(l0.length:Int) < (l1.length:Int)
  ·rw[if_pos c10] at H;have m7:=dE c10;have m8:decide (l0.length < l1.length)=true:=dE (Int.ofNat_lt.mp c10);clear c10;obtain rfl:=Option.some.inj H;go_enter Tryz.func85,Tryz.ntmps85
   go_wp2
   repeat(go_quiet (fail);try go_wp2)
   go_ret
   exact⟨sD,dR⟩
  ·rw[if_neg c10] at H;have m7:decide ((l0.length:Int) < (l1.length:Int))=false:=decide_eq_false c10;have m8:decide (l0.length < l1.length)=false:=decide_eq_false (fun h=>c10 (Int.ofNat_lt.mpr h))
   clear c10;obtain rfl:=Option.some.inj H;go_enter Tryz.func85,Tryz.ntmps85
   go_wp2
   repeat(go_quiet (fail);try go_wp2)
   go_ret
   exact⟨sD,dR⟩

end Go.Proofs.YtokkiljkgejnhaaGreat.Print
