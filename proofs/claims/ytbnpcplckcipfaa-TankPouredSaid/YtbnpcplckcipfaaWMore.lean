import Derived.Test.YtbnpcplckcipfaaWTab
import Derived.Tactics
import Derived.KernelRfl
import Derived.Test.YtbnpcplckcipfaaWWords
import Derived.Test.YtbnpcplckcipfaaWLast
import Derived.Test.YtbnpcplckcipfaaWQPut
import Derived.Test.YtbnpcplckcipfaaWApart
import Derived.Test.YtbnpcplckcipfaaWZeros
import Derived.Test.YtbnpcplckcipfaaWFoot
import Derived.Test.YtbnpcplckcipfaaWKept
import Derived.Test.YtbnpcplckcipfaaWNEv
namespace Go.Proofs.YtbnpcplckcipfaaW.PrintMore
open Go.RowKit Go.Proofs.YtbnpcplckcipfaaW.PrintWords
namespace Kd
open Go.Proofs.YtbnpcplckcipfaaW.PrintWords.Kd
end Kd
namespace Kd
open Go.Proofs.YtbnpcplckcipfaaW.PrintWords.Kd
section
variable {α : Type} {d : Kd α} {e base g N : Nat} {ok : Nat → Prop} {W w1 : World} {u v : Value} {xs : List α}
theorem AR (hu:d.R e W base ok u xs) (hb:Below W.heap.size W w1):d.R e w1 base (fun k=>ok k∧k < W.heap.size) u xs :=
  ah (fM (iU hu) hb) (fun _ h=>⟨h.1,h.2.2.1⟩)
theorem rH (h:d.R e w1 base (fun k=>ok k∧k < N) u xs) (hbase:∀ k,v.ownBlock=some k→N≤k):d.R e w1 base (fun k=>(ok k∧some k≠v.ownBlock)∧k < N) u xs :=
  ah h (fun k hk=>⟨⟨hk.1,fun e=>Nat.lt_irrefl _ (Nat.lt_of_lt_of_le hk.2 (hbase k e.symm))⟩,hk.2⟩)
end
end Kd
theorem dF (k k':IntKind) (x y:Int):Builtin.max2 (.int k x) (.int k' y)=pure (.int k (if x < y then y else x)):=by simp only[Builtin.max2,gt_iff_lt]
theorem dG (k k':IntKind) (x y:Int):Builtin.min2 (.int k x) (.int k' y)=pure (.int k (if y < x then y else x)):=by simp only[Builtin.min2]
theorem eB (ats:Array TypeId) (ty:TypeId) (a b:Value):Builtin.max_ ats ty #[a,b]=(Builtin.max2 a b >>= fun s=>pure s):=by simp only[Builtin.max_,List.foldlM_cons,List.foldlM_nil]
theorem eD (ats:Array TypeId) (ty:TypeId) (a b:Value):Builtin.min_ ats ty #[a,b]=(Builtin.min2 a b >>= fun s=>pure s):=by simp only[Builtin.min_,List.foldlM_cons,List.foldlM_nil]
theorem dm (ats:Array TypeId) (ty:TypeId) (a b c:Value):Builtin.max_ ats ty #[a,b,c]=(Builtin.max2 a b >>= fun s=>Builtin.max2 s c >>= fun s=>pure s):=by simp only[Builtin.max_,List.foldlM_cons,List.foldlM_nil]
theorem dn (ats:Array TypeId) (ty:TypeId) (a b c:Value):Builtin.min_ ats ty #[a,b,c]=(Builtin.min2 a b >>= fun s=>Builtin.min2 s c >>= fun s=>pure s):=by simp only[Builtin.min_,List.foldlM_cons,List.foldlM_nil]
theorem dH (ats:Array TypeId) (ty:TypeId) (a b c d:Value):Builtin.max_ ats ty #[a,b,c,d]=(Builtin.max2 a b >>= fun s=>Builtin.max2 s c >>= fun s=>Builtin.max2 s d >>= fun s=>pure s):=by simp only[Builtin.max_,List.foldlM_cons,List.foldlM_nil]
theorem dI (ats:Array TypeId) (ty:TypeId) (a b c d:Value):Builtin.min_ ats ty #[a,b,c,d]=(Builtin.min2 a b >>= fun s=>Builtin.min2 s c >>= fun s=>Builtin.min2 s d >>= fun s=>pure s):=by simp only[Builtin.min_,List.foldlM_cons,List.foldlM_nil]
end Go.Proofs.YtbnpcplckcipfaaW.PrintMore
namespace Go.Proofs.YtbnpcplckcipfaaW.PrintWords
open Go.RowKit
section
variable {P : Program} {ops : Array Oper} {rest : List Oper} {o : Oper} {a : Act} {Q : Exit → Act → World → Prop} {W : World}
theorem df {f:FuncId} {as:Array Operand} {ts:Array TypeId} (_ho:o.op=.call { callee:=.value (.func f),args:=as,argTypes:=ts }) (h:wpList P ops Q (o :: rest) a W):wpList P ops Q (o :: rest) a W:=h
theorem dw {b:Builtin} {xs:Array Operand} {ts:Array TypeId} (_ho:o.op=.call { callee:=.builtin b,args:=xs,argTypes:=ts }) (h:wpList P ops Q (o :: rest) a W):wpList P ops Q (o :: rest) a W:=h
end
def mx (a b:Int):Int:=if a < b then b else a
def mn (a b:Int):Int:=if b < a then b else a
theorem gK (w:World) (n:Nat):w.drewN n=w.drewN n:=rfl
namespace Kd
section
variable {α : Type} {d : Kd α} {e base : Nat} {ok : Nat → Prop} {W w1 : World} {v : Value} {xs : List α}
end
section
variable {α : Type} {d : Kd α} {e base g n cap : Nat} {ok oki okp : Nat → Prop} {W : World} {xs : List α} {i : Int} {c : List Value}
end
section
variable {α : Type} {d : Kd α} {e base b b' g N : Nat} {ok ok1 : Nat → Prop} {W W2 w1 : World} {u v : Value} {xs ys : List α} {S : Nat → Prop}
theorem jE (hE:d.E=[]) (h:d.R e W base ok1 v xs) (hok:∀ k,v.ownBlock=some k→ok k):d.R e W base ok v xs:=ah (dJ hE h) (fun k hk=>hok k hk.symm)
theorem gX (h:d.R e W base ok v xs) (hk:Kept W W2 S) (hne:∀ k,ok k→¬ S k):d.R e W2 base (fun k=>ok k∧(¬ S k∧k < W.heap.size)) v xs :=
  yn (ah (iU h) (fun k hk=>⟨hk.1,hne k hk.1,hk.2.2.1⟩)) hk (fun _ hk=>hk.2.1)
end
end Kd
end Go.Proofs.YtbnpcplckcipfaaW.PrintWords
namespace Go.Proofs.YtbnpcplckcipfaaW.PrintWords
open Go.RowKit
namespace Kd
def V {α:Type} (d:Kd α) (_e:Nat) (W:World) (_base:Nat) (ok:Nat→Prop) (v:Value) (xs:List α):Prop:=∃ A c,v=.slice A xs.length c∧xs.length≤c∧F d W ok A xs.length xs
section
variable {α β : Type} {d : Kd α} {e base base' n m c g N' lo hi : Nat} {ok ok' S : Nat → Prop} {w W w1 : World} {A : Option Addr} {ad : Addr} {u v v1 : Value} {xs : List α}
theorem jV (h:V d e W base ok v xs) (hF:∀ A,F d W ok A xs.length xs→F d w1 ok' A xs.length xs):V d e w1 base' ok' v xs:=by
  obtain⟨A,c,hv,hl,hf⟩:=h;exact⟨A,c,hv,hl,hF A hf⟩
theorem jI (hl:xs.length≤c) (hf:F d W ok A xs.length xs):V d e W base ok (.slice A xs.length c) xs:=⟨A,c,rfl,hl,hf⟩
theorem iF (h:V d e W base ok v xs):∃ A c,v=.slice A xs.length c:=by
  obtain⟨A,c,hv,_⟩:=h;exact⟨A,c,hv⟩
theorem zF (h:V d e W base ok (.slice A n c) xs):n=xs.length∧n≤c∧F d W ok A xs.length xs:=by
  obtain⟨A',c',hv,hl,hf⟩:=h;injection hv with ha hn hc
  subst ha;subst hc;exact⟨hn,by rw[hn];exact hl,hf⟩
theorem aW (h:V d e W base ok (.slice A n c) xs):n=xs.length∧n≤c∧d.C W A xs.length xs:=⟨(zF h).1,(zF h).2.1,yo (zF h).2.2⟩
theorem V_F (h:V d e W base ok (.slice A n c) xs):F d W ok A n xs:=by
  obtain⟨hn,_,hf⟩:=zF h;rw[hn];exact hf
theorem qN (d:Kd α) (e:Nat) (W:World) (base:Nat) (ok:Nat→Prop):V d e W base ok (.slice none 0 0) []:=⟨none,0,rfl,Nat.le_refl _,EB d W ok⟩
theorem R_V (h:d.R e W base ok v xs):V d e W base' ok v xs:=by
  obtain⟨A,c,rfl⟩:=aj h;exact⟨A,c,rfl,(ax h).2.1,R_F h⟩
theorem aC (h:V d e W base ok v xs) (hok:∀ k,ok k→ok' k):V d e W base ok' v xs:=jV h (fun _ hf=>pX hf hok)
theorem zG (h:V d e W base ok v xs):V d e W base (fun k=>ok k∧k < W.heap.size) v xs:=jV h (fun _ hf=>rG hf)
theorem CO (h:V d e W base ok v xs) (hm:∀ k,ok k→k < W.heap.size→w1.heap[k]?=W.heap[k]?):V d e w1 base ok v xs:=jV h (fun _ hf=>nR hf hm)
theorem rJ (h:V d e W base ok v xs) (hb:Below W.heap.size W w1):V d e w1 base ok v xs:=jV h (fun _ hf=>eX hf hb)
theorem wy (h:V d e W base ok v xs) (o:Obj):V d e (W.alloc o) base ok v xs:=jV h (fun _ hf=>zA hf o)
theorem fw (h:V d e W base ok v xs):V d e W.drew base ok v xs:=jV h (fun _ hf=>CE hf)
theorem wB (h:V d e W base ok v xs) (m:Nat):V d e (W.drewN m) base ok v xs:=jV h (fun _ hf=>zB hf m)
theorem ED (h:V d e W base ok v xs) {p:Addr} (hok:∀ k,ok k→k≠p.block) (u:Value):V d e (W.setCell p u) base ok v xs:=jV h (fun _ hf=>DZ hf hok u)
theorem CQ (h:V d e W base ok v xs) (hk:Kept W w1 S) (hok:∀ k,ok k→¬ S k):V d e w1 base ok v xs:=jV h (fun _ hf=>CF hf hk hok)
theorem zH (h:V d e W base (fun k=>ok k∧some k≠u.ownBlock) v xs) (hg:W.grownBy w1 u.ownBlock) (hat:v1.ownBlock=u.ownBlock∨∃ b,v1.ownBlock=some b∧W.heap.size≤b):V d e w1 base (fun k=>ok k∧some k≠v1.ownBlock) v xs:=jV h (fun _ hf=>zC hf hg hat)
theorem tF (h:V d e W base (fun k=>ok k∧some k≠v.ownBlock) u xs) (hg:W.grownBy w1 v.ownBlock) (hat:v1.ownBlock=v.ownBlock∨∃ b,v1.ownBlock=some b∧W.heap.size≤b):V d e w1 base (fun k=>ok k∧some k≠v1.ownBlock) u xs:=zH h hg hat
theorem bW (h:V d e W base ok v xs) (hbase:∀ k,u.ownBlock=some k→W.heap.size≤k) (hb:Below W.heap.size W w1):V d e w1 base (fun k=>ok k∧some k≠u.ownBlock) v xs:=jV h (fun _ hf=>yt hf hbase hb)
theorem yA (h:V d e W base ok v xs) (a:Nat) (ha:W.heap.size≤a):V d e W base (fun k=>ok k∧k≠a) v xs:=jV h (fun _ hf=>yu hf a ha)
theorem EE (h:V d e W base ok v xs) (hb:Below W.heap.size W w1):V d e w1 base (fun k=>ok k∧k < W.heap.size) v xs:=jV h (fun _ hf=>EC hf hb)
theorem yB (h:V d e w1 base (fun k=>ok k∧k < N') v xs) (hbase:∀ k,u.ownBlock=some k→N'≤k):V d e w1 base (fun k=>(ok k∧some k≠u.ownBlock)∧k < N') v xs:=jV h (fun _ hf=>CG hf hbase)
theorem oQ (h:V d e W base ok v xs) (hk:Kept W w1 S) (hne:∀ k,ok k→¬ S k):V d e w1 base (fun k=>ok k∧(¬ S k∧k < W.heap.size)) v xs :=
  CQ (aC (zG h) (fun k hk=>⟨hk.1,hne k hk.1,hk.2⟩)) hk (fun _ hk=>hk.2.1)
theorem gB {M:Nat→Prop} (h:d.R e w1 W.heap.size ok v xs) (hle:w.heap.size≤W.heap.size) (hM:∀ k,w.heap.size≤k→M k):d.R e w1 W.heap.size (fun k=>M k∧ok k) v xs:=ah (iU h) (fun k hk=>⟨hM k (Nat.le_trans hle hk.2.1),hk.1⟩)
end
end Kd
end Go.Proofs.YtbnpcplckcipfaaW.PrintWords
namespace Go.Proofs.YtbnpcplckcipfaaW.PrintWords
open Go.RowKit
theorem aS {P:Prop} (h:P:=by first|(with_reducible assumption)|assumption):P:=h
theorem sD {P:Prop} (h:P:=by first|rfl|(simp;done)|(simp [*];done)):P:=h
theorem kK {w W W':World} {S:Nat→Prop} (h:ae (Kept w W S)) (f:Kept w W S→Kept w W' S:=by intro h_;repeat(first|(with_reducible first|exact h_|apply Kept.alloc|apply Kept.drewN|apply Kept.drew)|exact h_)):Kept w W' S:=f h.out
theorem vX {α:Type} {d:Kd α} {e base:Nat} {w w':World} {ok:Nat→Prop} {v:Value} {xs:List α} (h:Kd.V d e w base ok v xs) (f:Kd.V d e w base ok v xs→Kd.V d e w' base ok v xs:=by intro h_;(with_reducible repeat(first|apply Kd.wy|apply Kd.wB|apply Kd.fw));exact h_):Kd.V d e w' base ok v xs:=f h
theorem cX {α:Type} {d:Kd α} {w w':World} {A:Option Addr} {n:Nat} {xs:List α} (h:d.C w A n xs) (f:d.C w A n xs→d.C w' A n xs:=by intro h_;repeat(first|exact h_|(with_reducible refine Kd.bX ?_ _)|(with_reducible refine Kd.bZ ?_ _)|(with_reducible refine Kd.dB ?_))):d.C w' A n xs:=f h
theorem bD {w w':World} {g:Nat} {o:Obj} (h:w.heap[g]?=some o) (f:w.heap[g]?=some o→w'.heap[g]?=some o:=by intro h_;(with_reducible repeat(first|refine cK ?_ _|refine az ?_|refine aK ?_ _));exact h_):w'.heap[g]?=some o:=f h
open Go.Proofs.YtbnpcplckcipfaaW.PrintLast
section
variable {P : Program} {ops : Array Oper} {Q : Exit → Act → World → Prop} {md : Region.Mode} {S : World → Prop} {ds : List Nat}
end
end Go.Proofs.YtbnpcplckcipfaaW.PrintWords
