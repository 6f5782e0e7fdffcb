import Derived.Test.YtbnpcplckcipfaaWKept
namespace Go.Proofs.YtbnpcplckcipfaaW.PrintWords
open Go.RowKit
def jH (P:World→Prop) (W:World) (ok:Nat→Prop):Prop:=∀ W':World,(∀ k,ok k→k < W.heap.size→W'.heap[k]?=W.heap[k]?)→P W'
theorem zz {W W1:World} {k:Nat} (h:W1.heap[k]?=W.heap[k]?) (hlt:k < W.heap.size):k < W1.heap.size:=by
  rw[Array.getElem?_eq_getElem hlt] at h;exact(Array.getElem?_eq_some_iff.1 h).1
namespace jH
variable {P Q : World → Prop} {W W1 : World} {ok ok' : Nat → Prop}
theorem now (h:jH P W ok):P W:=h W (fun _ _ _=>rfl)
theorem mono (h:jH P W ok) (hok:∀ k,ok k→ok' k):jH P W ok':=fun W' hW=>h W' (fun k hk hlt=>hW k (hok k hk) hlt)
theorem bound (h:jH P W ok):jH P W (fun k=>ok k∧k < W.heap.size):=fun W' hW=>h W' (fun k hk hlt=>hW k ⟨hk,hlt⟩ hlt)
theorem step (h:jH P W ok) (hm:∀ k,ok k→k < W.heap.size→W1.heap[k]?=W.heap[k]?):jH P W1 ok:=fun W' hW=>h W' (fun k hk hlt=>(hW k hk (zz (hm k hk hlt) hlt)).trans (hm k hk hlt))
theorem old (h:jH P W ok) (hb:Below W.heap.size W W1):jH P W1 (fun k=>ok k∧k < W.heap.size):=(h.bound).step (fun k _ hlt=>hb.block k hlt)
end jH
namespace Kd
def F {α:Type} (d:Kd α) (W:World) (ok:Nat→Prop) (A:Option Addr) (n:Nat) (xs:List α):Prop:=jH (fun W=>d.C W A n xs) W ok
def FK {α:Type} (d:Kd α) (W:World) (ok:Nat→Prop) (x:α) (c:List Value):Prop:=jH (fun W=>d.K W x c) W ok
section
variable {α β : Type} {d : Kd α} {e base n n' cc g N : Nat} {ok ok' okp S : Nat → Prop} {w w0 w1 W W1 : World} {A A' : Option Addr} {u v v1 : Value} {xs : List α} {xs' : List β} {d' : Kd β} {x : α} {c : List Value}
theorem yo (h:F d W ok A n xs):d.C W A n xs:=jH.now h
theorem pX (h:F d W ok A n xs) (hok:∀ k,ok k→ok' k):F d W ok' A n xs:=jH.mono h hok
theorem rG (h:F d W ok A n xs):F d W (fun k=>ok k∧k < W.heap.size) A n xs:=jH.bound h
theorem nR (h:F d W ok A n xs) (hm:∀ k,ok k→k < W.heap.size→W1.heap[k]?=W.heap[k]?):F d W1 ok A n xs:=jH.step h hm
theorem eX (h:F d W ok A n xs) (hb:Below W.heap.size W W1):F d W1 ok A n xs:=nR h (fun k _ hlt=>hb.block k hlt)
theorem zA (h:F d W ok A n xs) (o:Obj):F d (W.alloc o) ok A n xs:=eX h (dV (Below.refl _ _) o)
theorem CE (h:F d W ok A n xs):F d W.drew ok A n xs:=eX h (jN (Below.refl _ _))
theorem zB (h:F d W ok A n xs) (m:Nat):F d (W.drewN m) ok A n xs:=eX h (fT (Below.refl _ _) m)
theorem DZ (h:F d W ok A n xs) {p:Addr} (hok:∀ k,ok k→k≠p.block) (u:Value):F d (W.setCell p u) ok A n xs:=nR h (fun k hk _=>Below.heap_setCell W p u k (hok k hk))
theorem CF (h:F d W ok A n xs) (hk:Kept W W1 S) (hok:∀ k,ok k→¬ S k):F d W1 ok A n xs:=nR h (fun k ho hlt=>hk.2 k hlt (hok k ho))
theorem EB (d:Kd α) (W:World) (ok:Nat→Prop):F d W ok none ([]:List α).length []:=fun W' _=>C_nil d W'
theorem yt (h:F d W ok A n xs) (hbase:∀ k,v.ownBlock=some k→W.heap.size≤k) (hb:Below W.heap.size W W1):F d W1 (fun k=>ok k∧some k≠v.ownBlock) A n xs :=
  pX (jH.old h hb) (fun k hk=>⟨hk.1,fun he=>by have:=hbase k he.symm;have:=hk.2;omega⟩)
theorem yu (h:F d W ok A n xs) (a:Nat) (ha:W.heap.size≤a):F d W (fun k=>ok k∧k≠a) A n xs:=pX (rG h) (fun k hk=>⟨hk.1,by have:=hk.2;omega⟩)
theorem zC (h:F d W (fun k=>ok k∧some k≠v.ownBlock) A n xs) (hg:W.grownBy W1 v.ownBlock) (hat:v1.ownBlock=v.ownBlock∨∃ b,v1.ownBlock=some b∧W.heap.size≤b):F d W1 (fun k=>ok k∧some k≠v1.ownBlock) A n xs:=by
  refine pX (jH.step (rG h) (fun k hk hlt=>hg.block k hlt hk.1.2)) (fun k hk=>⟨hk.1.1,?_⟩)
  rcases hat with hat|⟨b,hb,hle⟩
  · rw[hat];exact hk.1.2
  · rw[hb]
    intro he;injection he with he
    have:=hk.2;omega
theorem EC (h:F d W ok A n xs) (hb:Below W.heap.size W W1):F d W1 (fun k=>ok k∧k < W.heap.size) A n xs:=jH.old h hb
theorem CG (h:F d W1 (fun k=>ok k∧k < N) A n xs) (hbase:∀ k,v.ownBlock=some k→N≤k):F d W1 (fun k=>(ok k∧some k≠v.ownBlock)∧k < N) A n xs :=
  pX h (fun k hk=>⟨⟨hk.1,fun he=>Nat.lt_irrefl _ (Nat.lt_of_lt_of_le hk.2 (hbase k he.symm))⟩,hk.2⟩)
theorem C_F (hd:Heap d) (h:d.C w A n xs):F d w (fun k=>k < w.heap.size) A n xs:=fun _ hW=>hd.C (fun k hlt=>hW k hlt hlt) h
theorem R_F (h:d.R e W base ok (.slice A n cc) xs):F d W ok A n xs:=fun W' hW=>by
  have h2:=ax (pE h hW);rw[h2.1];exact h2.2.2
theorem mJ (h:FK d W ok x c):d.K W x c:=jH.now h
theorem jw (h:FK d W ok x c) (hok:∀ k,ok k→ok' k):FK d W ok' x c:=jH.mono h hok
theorem ni (h:FK d W ok x c):FK d W (fun k=>ok k∧k < W.heap.size) x c:=jH.bound h
theorem kD (h:FK d W ok x c) (hm:∀ k,ok k→k < W.heap.size→W1.heap[k]?=W.heap[k]?):FK d W1 ok x c:=jH.step h hm
theorem zD (h:d.M W base ok x c):FK d W ok x c:=fun _ hW=>d.K_of_M (xP h hW)
end
end Kd
end Go.Proofs.YtbnpcplckcipfaaW.PrintWords
