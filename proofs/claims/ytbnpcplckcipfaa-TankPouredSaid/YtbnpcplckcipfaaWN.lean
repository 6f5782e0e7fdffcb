import Derived.Test.YtbnpcplckcipfaaWShare
import Derived.Test.YtbnpcplckcipfaaWZeros
namespace Go.Proofs.YtbnpcplckcipfaaW.PrintWords
open Go.RowKit
namespace Kd
def chunks (sz:Nat) (n:Nat) (inner:List Value):List (List Value):=(List.range n).map fun j=>(inner.drop (j * sz)).take sz
theorem fO (sz n:Nat) (inner:List Value):(chunks sz n inner).length=n:=by simp [chunks]
theorem wX {sz n:Nat} {inner:List Value} {j:Nat} (hj:j < n):(chunks sz n inner)[j]?=some ((inner.drop (j * sz)).take sz):=by simp [chunks,hj]
theorem mK {sz n:Nat} {inner:List Value} {j:Nat} {c:List Value} (h:(chunks sz n inner)[j]?=some c):c=(inner.drop (j * sz)).take sz:=by
  have hj:j < n:=by have:=(List.getElem?_eq_some_iff.1 h).1;rwa [fO] at this
  rw[wX hj] at h;injection h with h
  exact h.symm
theorem tq {α:Type} {Rr:α→List Value→Prop} {sz:Nat} {xs:List α} {inner:List Value} (h:bR Rr sz xs inner) (hR:∀ x c,Rr x c→c.length=sz∧∀ u ∈ c,u.oneCell'=true):bR (fun x cs=>cs=x∧cs.length=sz∧∀ u ∈ cs,u.oneCell'=true) sz (chunks sz xs.length inner) inner:=by
  refine⟨by rw[fO];exact h.1,fun j p hj=>?_⟩
  have hjl:j < xs.length:=by have:=(List.getElem?_eq_some_iff.1 hj).1;rwa [fO] at this
  have hp:=mK hj;exact⟨hp.symm,hR _ _ (h.2 j _ (List.getElem?_eq_getElem hjl))⟩
section
variable {α : Type} {d : Kd α} {e base n cc g : Nat} {ok ok' okp S : Nat → Prop} {w w1 W W1 : World} {A : Option Addr} {u v v1 : Value} {xs : List α} {x : α} {c : List Value}
def N {α:Type} (d:Kd α) (e:Nat) (w:World) (base:Nat) (ok:Nat→Prop) (v:Value) (xs:List α):Prop :=
  (∀ k,v.ownBlock=some k→ok k)∧∃ rows:List (List Value),rows.length=xs.length∧(raw d.sz).R e w base (fun k=>some k=v.ownBlock) v rows∧∀ (j:Nat) (x:α) (c:List Value),xs[j]?=some x→rows[j]?=some c→FK d w (fun k=>ok k∧some k≠v.ownBlock) x c
theorem qM {sz:Nat} {rows:List (List Value)} (h:(raw sz).R e w base ok v rows):(raw sz).R e w base (fun k=>some k=v.ownBlock) v rows:=dJ rfl h
theorem wm {sz:Nat} {rows:List (List Value)} (h:(raw sz).R e w base ok v rows):(raw sz).R e w base (fun _=>True) v rows:=ah h (fun _ _=>trivial)
theorem R_N (h:d.R e w base ok v xs):N d e w base ok v xs:=by
  obtain⟨h0,inner,ho,hr⟩:=h;refine⟨h0,chunks d.sz xs.length inner,fO _ _ _,⟨fun k hk=>hk.symm,inner,by rw[fO];exact ho,tq hr (fun x c hp=>⟨d.K_len (d.K_of_M hp),d.K_one (d.K_of_M hp)⟩)⟩,fun j x c hx hc=>?_⟩
  rw[mK hc];exact zD (hr.2 j x hx)
theorem S_N (h:Kd.S d e w base ok v xs):N d e w base ok v xs:=R_N (S_R h)
theorem fU (d:Kd α) (e:Nat) (w:World) (base:Nat) (ok:Nat→Prop):N d e w base ok (.slice none 0 0) []:=R_N (iX _ _ _ _ _)
theorem aG (h:N d e w base ok v xs) (hok:∀ k,ok k→ok' k):N d e w base ok' v xs:=by
  obtain⟨h0,rows,hl,hR,hf⟩:=h;exact⟨fun k hk=>hok k (h0 k hk),rows,hl,hR,fun j x c hx hc=>jw (hf j x c hx hc) (fun k hk=>⟨hok k hk.1,hk.2⟩)⟩
theorem kr (h:N d e w base ok v xs):∀ k,v.ownBlock=some k→k < w.heap.size:=by
  obtain⟨_,rows,_,hR,_⟩:=h;exact dS hR
theorem cO (h:N d e w base ok v xs):∀ k,v.ownBlock=some k→base≤k:=by
  obtain⟨_,rows,_,hR,_⟩:=h;exact dW hR
theorem bV (h:N d e w base ok v xs):∀ k,v.ownBlock=some k→∃ cells,w.heap[k]?=some (.cells cells e (0,0)):=by
  obtain⟨_,rows,_,hR,_⟩:=h;exact vP hR
theorem bf (h:N d e w base ok v xs) (hok:∀ k,ok k→k≠g):some g≠v.ownBlock:=fun he=>hok g (h.1 g he.symm) rfl
theorem iq (h:N d e w base ok v xs):N d e w base (fun k=>ok k∧k < w.heap.size) v xs:=by
  have hlt:=kr h;obtain⟨h0,rows,hl,hR,hf⟩:=h;exact⟨fun k hk=>⟨h0 k hk,hlt k hk⟩,rows,hl,hR,fun j x c hx hc=>jw (ni (hf j x c hx hc)) (fun k hk=>⟨⟨hk.1.1,hk.2⟩,hk.1.2⟩)⟩
theorem fq {base':Nat} (h:N d e w base ok v xs) (hb:base'≤base):N d e w base' ok v xs:=by
  obtain⟨h0,rows,hl,hR,hf⟩:=h;exact⟨h0,rows,hl,dO hR hb,hf⟩
theorem nV (h:N d e w base ok v xs) (hm:∀ k,ok k→k < w.heap.size→w1.heap[k]?=w.heap[k]?):N d e w1 base ok v xs:=by
  obtain⟨h0,rows,hl,hR,hf⟩:=h;exact⟨h0,rows,hl,pE hR (fun k hk hlt=>hm k (h0 k hk.symm) hlt),fun j x c hx hc=>kD (hf j x c hx hc) (fun k hk hlt=>hm k hk.1 hlt)⟩
theorem dQ (h:N d e w base ok v xs) (hb:Below w.heap.size w w1):N d e w1 base ok v xs:=nV h (fun k _ hk=>hb.block k hk)
theorem wu (h:N d e w base ok v xs) (o:Obj):N d e (w.alloc o) base ok v xs:=dQ h (dV (Below.refl _ _) o)
theorem jm (h:N d e w base ok v xs):N d e w.drew base ok v xs:=dQ h (jN (Below.refl _ _))
theorem ww (h:N d e w base ok v xs) (m:Nat):N d e (w.drewN m) base ok v xs:=dQ h (fT (Below.refl _ _) m)
theorem bJ (h:N d e w base ok v xs) {p:Addr} (hok:∀ k,ok k→k≠p.block) (u:Value):N d e (w.setCell p u) base ok v xs:=nV h (fun k ho _=>Below.heap_setCell w p u k (hok k ho))
theorem gP (h:N d e W base ok v xs) (hbase:∀ k,u.ownBlock=some k→W.heap.size≤k) (hb:Below W.heap.size W w1):N d e w1 base (fun k=>ok k∧some k≠u.ownBlock) v xs :=
  aG (dQ (iq h) hb) (fun k hk=>⟨hk.1,fun he=>by have:=hbase k he.symm;have:=hk.2;omega⟩)
theorem yw (h:N d e w base ok v xs) (a:Nat) (ha:w.heap.size≤a):N d e w base (fun k=>ok k∧k≠a) v xs:=aG (iq h) (fun k hk=>⟨hk.1,by have:=hk.2;omega⟩)
theorem yx (h:N d e W base ok v xs) (hb:Below W.heap.size W w1):N d e w1 base (fun k=>ok k∧k < W.heap.size) v xs:=dQ (iq h) hb
theorem nW {b:Nat} (h:N d e w1 base (fun k=>ok k∧k < b) v xs) (hbase:∀ k,u.ownBlock=some k→b≤k):N d e w1 base (fun k=>(ok k∧some k≠u.ownBlock)∧k < b) v xs :=
  aG h (fun k hk=>⟨⟨hk.1,fun e=>Nat.lt_irrefl _ (Nat.lt_of_lt_of_le hk.2 (hbase k e.symm))⟩,hk.2⟩)
theorem ek (h:N d e w base ok v xs):∃ A c,v=.slice A xs.length c:=by
  obtain⟨_,rows,hl,hR,_⟩:=h;obtain⟨A,c,he⟩:=aj hR;exact⟨A,c,by rw[he,hl]⟩
theorem gQ {n c:Nat} (h:N d e w base ok (.slice A n c) xs):n=xs.length∧n≤c∧d.C w A xs.length xs:=by
  obtain⟨_,rows,hl,hR,hf⟩:=h;obtain⟨hn,hc,hC⟩:=ax hR;refine⟨by omega,hc,?_⟩
  rw[hl] at hC;refine⟨rfl,hC.2.1,fun hp=>?_⟩
  obtain⟨ad,he,hcell⟩:=hC.2.2 hp;refine⟨ad,he,fun j p hj=>?_⟩
  have hjl:j < rows.length:=by have:=(List.getElem?_eq_some_iff.1 hj).1;omega
  obtain⟨c',hcl,hK,hcc⟩:=hcell j _ (List.getElem?_eq_getElem hjl);have hk:=mJ (hf j p _ hj (List.getElem?_eq_getElem hjl));refine⟨c',hcl,?_,hcc⟩;rw[show c'=rows[j] from hK.1]
  exact hk
theorem CJ {n cap:Nat} (h:N d e W base ok (.slice (some ⟨g,0,none⟩) n cap) xs) (z:α) (i:Int) (h0:0≤i) (h1:i < n) :
    ∃ c,c.length=d.sz∧FK d W (fun k=>ok k∧k≠g) (xs.getD i.toNat z) c∧(∀ j u,c[j]?=some u→W.cell? ⟨g,i.toNat * d.sz+j,none⟩=some u)∧∀ j,W.frozen? ⟨g,i.toNat * d.sz+j,none⟩=false:=by
  obtain⟨_,rows,hl,hR,hf⟩:=h;have hn:=(ax hR).1;obtain⟨c,hcl,hM,hcc,hfr⟩:=BL hR [] i h0 h1;have hil:i.toNat < rows.length:=by omega
  have hil':i.toNat < xs.length:=by omega
  have hc:c=rows[i.toNat]:=by
    have h2:=hM.1;rwa [List.getD_eq_getElem?_getD,List.getElem?_eq_getElem hil] at h2
  refine⟨c,hcl,?_,hcc,hfr⟩;rw[List.getD_eq_getElem?_getD,List.getElem?_eq_getElem hil'];exact jw (hf _ _ _ (List.getElem?_eq_getElem hil') (by rw[hc];exact List.getElem?_eq_getElem hil)) (fun k hk=>⟨hk.1,fun he=>hk.2 (by rw[he];simp [Value.ownBlock])⟩)
theorem AQ {ad:Addr} {n cap:Nat} (h:N d e W base ok (.slice (some ad) n cap) xs) (z:α) (i:Int) (h0:0≤i) (h1:i < n) :
    ∃ c,c.length=d.sz∧FK d W (fun k=>ok k∧some k≠(Value.slice (some ad) n cap).ownBlock) (xs.getD i.toNat z) c∧∀ j u,c[j]?=some u→W.cell? (ad.add (i.toNat * d.sz+j))=some u:=by
  obtain⟨g,rfl⟩:∃ g,ad=⟨g,0,none⟩:=by
    obtain⟨_,rows,_,hR,_⟩:=h;exact BZ hR
  obtain⟨c,hcl,hM,hcc,_⟩:=CJ h z i h0 h1;refine⟨c,hcl,jw hM (fun k hk=>⟨hk.1,fun he=>hk.2 (by simpa [Value.ownBlock] using he)⟩),fun j u hu=>?_⟩
  rw[BI,Nat.zero_add];exact hcc j u hu
end
end Kd
end Go.Proofs.YtbnpcplckcipfaaW.PrintWords
