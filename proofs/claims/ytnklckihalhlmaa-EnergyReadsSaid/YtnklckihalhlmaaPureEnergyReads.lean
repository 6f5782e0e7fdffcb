import Derived.Test.YtnklckihalhlmaaPrint45
import Derived.Test.YtnklckihalhlmaaPrint39
import Derived.Test.YtnklckihalhlmaaPrint42
namespace Go.Proofs.Ytnklckihalhlmaa.Pure
open Go.RowKit Go.Proofs.Ytnklckihalhlmaa.Print Go.Proofs.YtnklckihalhlmaaW.PrintWords Go.Proofs.YtnklckihalhlmaaW.PrintLast
set_option linter.unusedVariables false
set_option linter.unusedSimpArgs false

/-- From some number of rounds on f tells r. -/
def Tells {α:Type} (f:Nat→Option α) (r:α):Prop:=∃ K,∀ k,K≤k→f k=some r
namespace Tells
theorem leO {α:Type} {f:Nat→Option α} (hm:∀ k,LeO (f k) (f (k+1))) {K:Nat} {r:α} (h:f K=some r):∀ k,K≤k→f k=some r:=by
  intro k hk;induction hk with
  | refl=>exact h
  | step _ ih=>exact hm _ _ ih
theorem of {α:Type} {f:Nat→Option α} (hm:∀ k,LeO (f k) (f (k+1))) {r:α} (h:∃ K,f K=some r):Tells f r:=by
  obtain⟨K,h⟩:=h;exact⟨K,leO hm h⟩
theorem get {α:Type} {f:Nat→Option α} {r:α} (h:Tells f r):∃ k,f k=some r:=by
  obtain⟨K,h⟩:=h;exact⟨K,h K (Nat.le_refl K)⟩
theorem const {α:Type} (r:α):Tells (fun _=>some r) r:=⟨0,fun _ _=>rfl⟩
theorem bind {α β:Type} {f:Nat→Option α} {g:Nat→α→Option β} {r:α} {s:β} (h:Tells f r) (h':Tells (fun k=>g k r) s):Tells (fun k=>(f k).bind (g k)) s:=by
  obtain⟨K,h⟩:=h;obtain⟨K',h'⟩:=h';refine⟨max K K',fun k hk=>?_⟩
  show(f k).bind (g k)=some s
  rw[h k (by omega)]
  exact h' k (by omega)
theorem congr {α:Type} {f g:Nat→Option α} {r:α} (h:Tells g r) (e:∀ k,f k=g k):Tells f r:=by
  obtain⟨K,h⟩:=h;exact⟨K,fun k hk=>(e k).trans (h k hk)⟩
theorem up {α:Type} {f g:Nat→Option α} {r:α} (h:Tells g r) (e:∀ k,f (k+1)=g k):Tells f r:=by
  obtain⟨K,h⟩:=h;refine⟨K+1,fun k hk=>?_⟩
  obtain⟨m,rfl⟩:∃ m,k=m+1:=⟨k - 1,by omega⟩
  exact(e m).trans (h m (by omega))
theorem ite {α:Type} {c:Prop} [Decidable c] {f g:Nat→Option α} {r s:α} (h:c→Tells f r) (h':¬ c→Tells g s):Tells (fun k=>if c then f k else g k) (if c then r else s):=by
  by_cases hc:c
  · simp only[if_pos hc];exact h hc
  · simp only[if_neg hc];exact h' hc
theorem pos {α:Type} {c:Prop} [Decidable c] {f g:Nat→Option α} {r:α} (hc:c) (h:Tells f r):Tells (fun k=>if c then f k else g k) r:=by
  simp only[if_pos hc];exact h
theorem neg {α:Type} {c:Prop} [Decidable c] {f g:Nat→Option α} {r:α} (hc:¬ c) (h:Tells g r):Tells (fun k=>if c then f k else g k) r:=by
  simp only[if_neg hc];exact h
end Tells
theorem wrap64_id {n:Int} (h0:-9223372036854775808≤n) (h1:n < 9223372036854775808):wrap64 n=n:=by
  unfold wrap64;omega
theorem wf64 {n:Int} (h:(Lit.int .i64 n).wf=true):-9223372036854775808≤n∧n < 9223372036854775808:=by
  have h':(decide (-9223372036854775808≤n) && decide (n≤9223372036854775807))=true:=h;simp only[Bool.and_eq_true,decide_eq_true_eq] at h';omega

theorem rd_drop (l:List Int) (i:Nat) (h:i < l.length):l.drop i=rd l (i:Int) :: l.drop (i+1):=by
  rw[List.drop_eq_getElem_cons h];congr 1
  show l[i]=l.getD (i:Int).toNat 0
  simp [h]
theorem rd_at (l:List Int) (i:Nat) (h:i < l.length):rd l (i:Int)=l[i]:=by
  show l.getD (i:Int).toNat 0=_
  simp [h]
theorem rd_mid (A:List Int) (x:Int) (B:List Int):rd (A ++ x :: B) (A.length:Int)=x:=by
  show(A ++ x :: B).getD (A.length:Int).toNat 0=x
  simp
theorem rd_mid' {l A:List Int} {x:Int} {B:List Int} {i:Int} (h:l=A ++ x :: B) (hi:i=(A.length:Int)):rd l i=x:=by
  subst h hi;exact rd_mid A x B
theorem set_mid (A:List Int) (x v:Int) (B:List Int):(A ++ x :: B).set ((A.length:Int)).toNat v=A ++ v :: B:=by simp
theorem set_mid' {l A:List Int} {x v:Int} {B:List Int} {i:Int} (h:l=A ++ x :: B) (hi:i=(A.length:Int)):l.set i.toNat v=A ++ v :: B:=by
  subst h hi;exact set_mid A x v B
theorem rd_mem (l:List Int) (i:Int) (h0:0≤i) (h:i < (l.length:Int)):rd l i ∈ l:=by
  obtain⟨j,rfl⟩:∃ j:Nat,i=(j:Int):=⟨i.toNat,by omega⟩
  rw[rd_at l j (by omega)]
  exact List.getElem_mem _
theorem ext_rd {a b:List Int} (hl:a.length=b.length) (h:∀ i:Nat,i < a.length→rd a (i:Int)=rd b (i:Int)):a=b:=by
  apply List.ext_getElem hl;intro i h1 h2;have:=h i h1;rwa [rd_at a i h1,rd_at b i h2] at this
theorem rd_map (f:Int→Int) (l:List Int) (i:Nat) (h:i < l.length):rd (l.map f) (i:Int)=f (rd l (i:Int)):=by
  rw[rd_at _ i (by simpa using h),rd_at l i h]
  simp
theorem rd_set (l:List Int) (i j:Nat) (v:Int) (h:j < l.length):rd (l.set i v) (j:Int)=if i=j then v else rd l (j:Int):=by
  rw[rd_at _ j (by simpa using h),rd_at l j h,List.getElem_set]
theorem rd_replicate (n i:Nat) (v:Int) (h:i < n):rd (List.replicate n v) (i:Int)=v:=by
  rw[rd_at _ i (by simpa using h)]
  simp
/-- The sum,as the program adds it up. -/
def sumFrom (s:Int):List Int→Int
  | []=>s
  | x :: l=>sumFrom (wrap64 (s+x)) l
/-- All from 0 to most. -/
def inAll (most:Int) (l:List Int):Bool:=l.all fun x=>decide (0≤x) && decide (x≤most)
theorem inAll_iff {m:Int} {l:List Int}:inAll m l=true ↔ ∀ x ∈ l,0≤x∧x≤m:=by
  unfold inAll;simp [List.all_eq_true,Bool.and_eq_true,decide_eq_true_eq]
theorem inAll_cons {m x:Int} {l:List Int}:inAll m (x :: l)=((decide (0≤x) && decide (x≤m)) && inAll m l):=rfl
theorem sum_bounds {m:Int} {l:List Int} (h:inAll m l=true):0≤l.sum∧l.sum≤m * l.length:=by
  induction l with
  | nil=>simp
  | cons x l ih =>
    rw[inAll_cons,Bool.and_eq_true,Bool.and_eq_true,decide_eq_true_eq,decide_eq_true_eq] at h;have:=ih h.2;rw[List.sum_cons,List.length_cons];have e:m * ((l.length+1:Nat):Int)=m * l.length+m:=by rw[Int.natCast_add,Int.mul_add];simp
    omega
theorem sum_mem_le {m:Int} {l:List Int} (h:inAll m l=true):∀ x ∈ l,x≤l.sum:=by
  induction l with
  | nil=>simp
  | cons y l ih =>
    have h':=h;rw[inAll_cons,Bool.and_eq_true,Bool.and_eq_true,decide_eq_true_eq,decide_eq_true_eq] at h';have hb:=sum_bounds h'.2;intro x hx;rw[List.sum_cons];rcases List.mem_cons.1 hx with rfl|hx
    · omega
    · have:=ih h'.2 x hx;omega
theorem sumFrom_eq {m:Int} (l:List Int) (h:inAll m l=true):∀ s,0≤s→0≤m→s+m * l.length < 9223372036854775808→sumFrom s l=s+l.sum:=by
  induction l with
  | nil=>intro s _ _ _;simp [sumFrom]
  | cons x l ih =>
    intro s h0 hm h1;rw[inAll_cons,Bool.and_eq_true,Bool.and_eq_true,decide_eq_true_eq,decide_eq_true_eq] at h;have e:m * ((l.length+1:Nat):Int)=m * l.length+m:=by rw[Int.natCast_add,Int.mul_add];simp
    rw[List.length_cons,e] at h1;have hp:0≤m * (l.length:Int):=Int.mul_nonneg hm (by omega)
    show sumFrom (wrap64 (s+x)) l=_
    rw[wrap64_id (by omega) (by omega),ih h.2 (s+x) (by omega) hm (by omega),List.sum_cons]
    omega
/-- 0,1,..,n - 1 -/
def idx (n:Nat):List Int:=(List.range n).map (fun i:Nat=>(i:Int))
theorem idx_len (n:Nat):(idx n).length=n:=by simp [idx]
theorem idx_succ (n:Nat):idx (n+1)=idx n ++ [(n:Int)]:=by simp [idx,List.range_succ]
theorem mem_idx {n:Nat} {i:Int}:i ∈ idx n ↔ 0≤i∧i < (n:Int):=by
  unfold idx;rw[List.mem_map];constructor
  · rintro ⟨j,hj,rfl⟩
    have:=List.mem_range.1 hj;omega
  · rintro ⟨h0,h1⟩
    exact⟨i.toNat,List.mem_range.2 (by omega),by omega⟩
theorem rd_idx (n i:Nat) (h:i < n):rd (idx n) (i:Int)=i:=by
  rw[rd_at _ i (by rw[idx_len];exact h)]
  simp [idx]
theorem idx_nodup (n:Nat):(idx n).Nodup:=by
  induction n with
  | zero=>simp [idx]
  | succ n ih =>
    rw[idx_succ,List.nodup_append];refine⟨ih,by simp,?_⟩
    intro a ha b hb;rw[List.mem_singleton] at hb;have:=mem_idx.1 ha;omega
theorem map_idx (l:List Int):(idx l.length).map (rd l)=l:=by
  apply ext_rd (by simp [idx_len])
  intro i hi;have hi':i < l.length:=by simpa [idx_len] using hi
  rw[rd_map _ _ i (by rw[idx_len];exact hi'),rd_idx _ _ hi']

theorem sR_spec {p:Int→Bool} {n:Int} (mono:∀ x y,0≤x→x≤y→y < n→p x=true→p y=true):∀ (k:Nat) (i j:Int),0≤i→i≤j→j≤n→j - i < (k:Int)→i≤Fzk.sR p k i j∧Fzk.sR p k i j≤j∧(∀ x,i≤x→x < Fzk.sR p k i j→p x=false)∧(Fzk.sR p k i j < j→p (Fzk.sR p k i j)=true):=by
  intro k;induction k with
  | zero=>intro i j _ h1 _ h3;omega
  | succ k ih =>
    intro i j h0 h1 h2 h3;rw[Fzk.sR];by_cases h:i < j
    · rw[if_pos h]
      by_cases hp:p ((i+j) / 2)=true
      · rw[if_pos hp]
        obtain⟨a,b,c,d⟩:=ih i ((i+j) / 2) h0 (by omega) (by omega) (by omega)
        refine⟨a,by omega,c,fun hx=>?_⟩
        rcases Int.lt_or_le (Fzk.sR p k i ((i+j) / 2)) ((i+j) / 2) with hy|hy
        · exact d hy
        · have:Fzk.sR p k i ((i+j) / 2)=(i+j) / 2:=by omega
          rw[this];exact hp
      · rw[if_neg hp]
        obtain⟨a,b,c,d⟩:=ih ((i+j) / 2+1) j (by omega) (by omega) h2 (by omega)
        refine⟨by omega,b,fun x hx hy=>?_,d⟩
        rcases Int.lt_or_le ((i+j) / 2) x with hz|hz
        · exact c x (by omega) hy
        · have hf:¬ p x=true:=fun e=>hp (mono x _ (by omega) hz (by omega) e)
          simpa using hf
    · rw[if_neg h]
      exact⟨by omega,by omega,fun x _ _=>by omega,fun hx=>absurd hx h⟩

structure Good (l:List S46):Prop where
  len2:2≤l.length
  len:l.length≤512
  at0:∀ i:Nat,i < l.length→0≤(rd_T46 l (i:Int)).f0∧(rd_T46 l (i:Int)).f0≤2147483647
  val:∀ i:Nat,i < l.length→0≤(rd_T46 l (i:Int)).f1∧(rd_T46 l (i:Int)).f1≤1125899906842624
  inc:∀ i:Nat,i+1 < l.length→(rd_T46 l (i:Int)).f0 < (rd_T46 l ((i+1:Nat):Int)).f0∧(rd_T46 l (i:Int)).f1≤(rd_T46 l ((i+1:Nat):Int)).f1
theorem check_l1 (l:List S46) (hl:l.length≤1000) (d:Nat):∀ i:Nat,i+1+d=l.length→∃ r,Tells (fun k=>Bzj.l1 k l ((i+1:Nat):Int)) r∧Tells (fun k=>Azp.l1 k l ((i+1:Nat):Int)) r∧(r=0→∀ j:Nat,i≤j→j+1 < l.length→(rd_T46 l (j:Int)).f0 < (rd_T46 l ((j+1:Nat):Int)).f0∧(rd_T46 l (j:Int)).f1≤(rd_T46 l ((j+1:Nat):Int)).f1):=by
  induction d with
  | zero =>
    intro i hi;refine⟨0,Tells.up (Tells.const 0) (fun k=>?_),Tells.up (Tells.const 0) (fun k=>?_),fun _ j h1 h2=>by omega⟩
    · rw[Bzj.l1,if_neg (by omega)]
    · rw[Azp.l1,if_neg (by omega)]
  | succ d ih =>
    intro i hi;have e1:wrap64 (((i+1:Nat):Int) - 1)=(i:Int):=by rw[wrap64_id (by omega) (by omega)];omega
    have e2:wrap64 (((i+1:Nat):Int)+1)=((i+1+1:Nat):Int):=by rw[wrap64_id (by omega) (by omega)];omega
    have c1:((i+1:Nat):Int) < (l.length:Int):=by omega
    have c2:(0:Int)≤((i+1:Nat):Int):=by omega
    have c3:(0:Int)≤(i:Int):=by omega
    have c4:(i:Int) < (l.length:Int):=by omega
    by_cases h0:(rd_T46 l ((i+1:Nat):Int)).f0≤(rd_T46 l (i:Int)).f0
    · refine⟨9,Tells.up (Tells.const 9) (fun k=>?_),Tells.up (Tells.const 9) (fun k=>?_),fun h=>absurd h (by decide)⟩
      · rw[Bzj.l1,if_pos c1,if_pos c2,e1,if_pos c3,if_pos c4,if_pos h0]
      · rw[Azp.l1,if_pos c1,if_pos c2,e1,if_pos c3,if_pos c4,if_pos h0]
    · by_cases h1:(rd_T46 l ((i+1:Nat):Int)).f1 < (rd_T46 l (i:Int)).f1
      · refine⟨9,Tells.up (Tells.const 9) (fun k=>?_),Tells.up (Tells.const 9) (fun k=>?_),fun h=>absurd h (by decide)⟩
        · rw[Bzj.l1,if_pos c1,if_pos c2,e1,if_pos c3,if_pos c4,if_neg h0,if_pos h1]
        · rw[Azp.l1,if_pos c1,if_pos c2,e1,if_pos c3,if_pos c4,if_neg h0,if_pos h1]
      · obtain⟨r,a,b,c⟩:=ih (i+1) (by omega)
        refine⟨r,Tells.up a (fun k=>?_),Tells.up b (fun k=>?_),fun hr j hj hj2=>?_⟩
        · rw[Bzj.l1,if_pos c1,if_pos c2,e1,if_pos c3,if_pos c4,if_neg h0,if_neg h1,e2]
        · rw[Azp.l1,if_pos c1,if_pos c2,e1,if_pos c3,if_pos c4,if_neg h0,if_neg h1,e2]
        · rcases Nat.lt_or_ge i j with hij|hij
          · exact c hr j hij hj2
          · obtain rfl:j=i:=by omega
            exact⟨by omega,by omega⟩
theorem check_l0 (l:List S46) (h2:2≤l.length) (hl:l.length≤1000) (R:Int) (t1:Tells (fun k=>Bzj.l1 k l 1) R) (t2:Tells (fun k=>Azp.l1 k l 1) R) (d:Nat):∀ i:Nat,i+d=l.length→∃ r,Tells (fun k=>Bzj.l0 k l l (l.length:Int) (i:Int)) r∧Tells (fun k=>Azp.l0 k l (i:Int)) r∧(r=0→R=0∧∀ j:Nat,i≤j→j < l.length→(0≤(rd_T46 l (j:Int)).f0∧(rd_T46 l (j:Int)).f0≤2147483647)∧(0≤(rd_T46 l (j:Int)).f1∧(rd_T46 l (j:Int)).f1≤1125899906842624)):=by
  induction d with
  | zero =>
    intro i hi;refine⟨R,Tells.up t1 (fun k=>?_),Tells.up t2 (fun k=>?_),fun h=>⟨h,fun j h1 h2=>by omega⟩⟩
    · rw[Bzj.l0,if_neg (by omega)]
    · rw[Azp.l0,if_neg (by omega)]
  | succ d ih =>
    intro i hi;have e2:wrap64 ((i:Int)+1)=((i+1:Nat):Int):=by rw[wrap64_id (by omega) (by omega)];omega
    have c1:(i:Int) < (l.length:Int):=by omega
    have c2:(0:Int)≤(i:Int):=by omega
    have bad:∀ (P:Prop),∃ r:Int,r=1∧(r=0→P):=fun P=>⟨1,rfl,fun h=>absurd h (by decide)⟩
    by_cases h0:(rd_T46 l (i:Int)).f0 < 0
    · refine⟨1,Tells.up (Tells.const 1) (fun k=>?_),Tells.up (Tells.const 1) (fun k=>?_),fun h=>absurd h (by decide)⟩
      · rw[Bzj.l0,if_pos c1,if_pos c2,if_pos c1,if_pos h0]
      · rw[Azp.l0,if_pos c1,if_pos c2,if_pos h0]
    by_cases h1:(rd_T46 l (i:Int)).f0 > 2147483647
    · refine⟨1,Tells.up (Tells.const 1) (fun k=>?_),Tells.up (Tells.const 1) (fun k=>?_),fun h=>absurd h (by decide)⟩
      · rw[Bzj.l0,if_pos c1,if_pos c2,if_pos c1,if_neg h0,if_pos h1]
      · rw[Azp.l0,if_pos c1,if_pos c2,if_neg h0,if_pos h1]
    by_cases h2:(rd_T46 l (i:Int)).f1 < 0
    · refine⟨1,Tells.up (Tells.const 1) (fun k=>?_),Tells.up (Tells.const 1) (fun k=>?_),fun h=>absurd h (by decide)⟩
      · rw[Bzj.l0,if_pos c1,if_pos c2,if_pos c1,if_neg h0,if_neg h1,if_pos h2]
      · rw[Azp.l0,if_pos c1,if_pos c2,if_neg h0,if_neg h1,if_pos h2]
    by_cases h3:(rd_T46 l (i:Int)).f1 > 1125899906842624
    · refine⟨1,Tells.up (Tells.const 1) (fun k=>?_),Tells.up (Tells.const 1) (fun k=>?_),fun h=>absurd h (by decide)⟩
      · rw[Bzj.l0,if_pos c1,if_pos c2,if_pos c1,if_neg h0,if_neg h1,if_neg h2,if_pos h3]
      · rw[Azp.l0,if_pos c1,if_pos c2,if_neg h0,if_neg h1,if_neg h2,if_pos h3]
    obtain⟨r,a,b,c⟩:=ih (i+1) (by omega)
    refine⟨r,Tells.up a (fun k=>?_),Tells.up b (fun k=>?_),fun hr=>⟨(c hr).1,fun j hj hj2=>?_⟩⟩
    · rw[Bzj.l0,if_pos c1,if_pos c2,if_pos c1,if_neg h0,if_neg h1,if_neg h2,if_neg h3,e2]
    · rw[Azp.l0,if_pos c1,if_pos c2,if_neg h0,if_neg h1,if_neg h2,if_neg h3,e2]
    · rcases Nat.lt_or_ge i j with hij|hij
      · exact(c hr).2 j hij hj2
      · obtain rfl:j=i:=by omega
        exact⟨⟨by omega,by omega⟩,by omega,by omega⟩
theorem check59 (l:List S46):∃ r,Tells (fun k=>Bzj.f k l) r∧Tells (fun k=>Azp.f k l) r∧(r=0→Good l):=by
  by_cases h2:(l.length:Int) < 2
  · exact⟨10,(Tells.const 10).congr (fun k=>by unfold Bzj.f;rw[if_pos h2]),(Tells.const 10).congr (fun k=>by unfold Azp.f;rw[if_pos h2]),fun h=>absurd h (by decide)⟩
  by_cases h5:(l.length:Int) > 512
  · exact⟨8,(Tells.const 8).congr (fun k=>by unfold Bzj.f;rw[if_neg h2,if_pos h5]),(Tells.const 8).congr (fun k=>by unfold Azp.f;rw[if_neg h2,if_pos h5]),fun h=>absurd h (by decide)⟩
  obtain⟨R,a,b,c⟩:=check_l1 l (by omega) (l.length - 1) 0 (by omega)
  obtain⟨r,a',b',c'⟩:=check_l0 l (by omega) (by omega) R a b l.length 0 (by omega)
  refine⟨r,a'.congr (fun k=>by unfold Bzj.f;rw[if_neg h2,if_neg h5];rfl),b'.congr (fun k=>by unfold Azp.f;rw[if_neg h2,if_neg h5];rfl),fun hr=>?_⟩
  obtain⟨hR,hA⟩:=c' hr;exact⟨by omega,by omega,fun i hi=>(hA i (by omega) hi).1,fun i hi=>(hA i (by omega) hi).2,fun i hi=>c hR i (by omega) hi⟩
def permB (l:List S46) (t:Int):Bool:=decide ((rd_T46 l 0).f0≤t) && decide (t≤(rd_T46 l ((l.length:Int) - 1)).f0)
theorem permitted_eq {l:List S46} (h:Good l) (t:Int):Fzz.f l t=some (permB l t)∧Dzb.f l t=some (permB l t):=by
  have h2:=h.len2;have h5:=h.len;have e:wrap64 ((l.length:Int) - 1)=(l.length:Int) - 1:=wrap64_id (by omega) (by omega)
  unfold Fzz.f Dzb.f permB;rw[e,if_pos (by omega)]
  by_cases c:t≥(rd_T46 l 0).f0
  · rw[if_pos c,if_pos (by omega),if_pos (by omega),decide_eq_true c]
    simp
  · rw[if_neg c,decide_eq_false c]
    simp

theorem scale_sub (a b c x10:Int) (hc1:1≤c) (hc:c≤2147483648) (R:Int):∀ (n:Nat) (q r:Int),0≤r→r < (n+1) * c→0≤q→q≤9007199254740992 - n →
    Tells (fun k=>Bzz.l0 k a b c (q+r / c) (r % c) (wrap64 (Int.tdiv x10 2))) R→n≤3→Tells (fun k=>Bzz.l1 k a b c q r x10) R:=by
  intro n;induction n with
  | zero =>
    intro q r h0 h1 hq0 hq1 hT hn;have hr:r < c:=by simpa using h1
    rw[Int.ediv_eq_zero_of_lt h0 hr,Int.emod_eq_of_lt h0 hr,Int.add_zero] at hT;refine Tells.up hT (fun k=>?_)
    rw[Bzz.l1];rw[if_neg (by omega)]
  | succ n ih =>
    intro q r h0 h1 hq0 hq1 hT hn;by_cases hr:r≥c
    · refine Tells.up (g:=fun k=>Bzz.l1 k a b c (q+1) (r - c) x10) ?_ (fun k=>by
        rw[Bzz.l1];have hr2:r < 4 * c+c:=by
          have:((n:Int)+1+1) * c≤5 * c:=Int.mul_le_mul_of_nonneg_right (by omega) (by omega)
          have h1':r < ((n:Int)+1+1) * c:=by simpa using h1
          omega
        rw[if_pos hr,wrap64_id (by omega) (by omega),wrap64_id (by omega) (by omega)])
      refine ih (q+1) (r - c) (by omega) ?_ (by omega) (by omega) ?_ (by omega)
      · have h1':r < ((n:Int)+1+1) * c:=by simpa using h1
        rw[Int.add_mul ((n:Int)+1) 1 c,Int.one_mul] at h1';omega
      · have e1:(r - c) / c=r / c - 1:=by
          rw[show r - c=r+(-1) * c by omega,Int.add_mul_ediv_right _ _ (by omega)]
          omega
        have e2:(r - c) % c=r % c:=by
          rw[show r - c=r+(-1) * c by omega,Int.add_mul_emod_self_right]
        rw[e1,e2,show q+1+(r / c - 1)=q+r / c by omega]
        exact hT
    · refine Tells.up (g:=fun k=>Bzz.l0 k a b c (q+r / c) (r % c) (wrap64 (Int.tdiv x10 2))) hT (fun k=>?_)
      rw[Bzz.l1,if_neg hr,Int.ediv_eq_zero_of_lt h0 (by omega),Int.emod_eq_of_lt h0 (by omega),Int.add_zero]
def p2:Nat→Int
  | 0=>1
  | n+1=>2 * p2 n
theorem p2_zero:p2 0=1:=rfl
theorem p2_succ (n:Nat):p2 (n+1)=2 * p2 n:=rfl
theorem p2_pos (n:Nat):0 < p2 n:=by
  induction n with
  | zero=>decide
  | succ n ih=>rw[p2_succ];omega
theorem p2_le {m n:Nat} (h:m≤n):p2 m≤p2 n:=by
  induction h with
  | refl=>exact Int.le_refl _
  | step _ ih=>rw[p2_succ];have:=p2_pos m;omega
theorem p2_60:p2 60=1152921504606846976:=by decide
theorem half_bits (b:Int) (n:Nat):b / p2 n=2 * (b / p2 (n+1))+b / p2 n % 2:=by
  have e:b / p2 (n+1)=b / p2 n / 2:=by
    rw[p2_succ,Int.mul_comm,Int.ediv_ediv_of_nonneg (Int.le_of_lt (p2_pos n))]
  rw[e];omega
theorem scale_alg (q r c a B B' bit:Int) (h:q * c+r=a * B) (e:B'=2 * B+bit):2 * q * c+(2 * r+bit * a)=a * B':=by grind
theorem scale_step (a b c:Int) (ha0:0≤a) (hac:a≤c) (hc1:1≤c) (hc:c≤2147483648) (hb0:0≤b) (hb:b≤1125899906842624) (n:Nat) (hn:n≤60) (q r:Int) (hr0:0≤r) (hr1:r < c) (hq0:0≤q) (hi:q * c+r=a * (b / p2 (n+1)))
    (hT:∀ q' r':Int,0≤r'→r' < c→0≤q'→q' * c+r'=a * (b / p2 n)→Tells (fun k=>Bzz.l0 k a b c q' r' (wrap64 (Int.tdiv (p2 n) 2))) (a * b / c)):Tells (fun k=>Bzz.l0 k a b c q r (p2 n)) (a * b / c):=by
  have hbit:=half_bits b n;have hpos:=p2_pos n;have hpos1:=p2_pos (n+1);have hB0:0≤b / p2 (n+1):=Int.ediv_nonneg hb0 (by omega)
  have hBb:b / p2 (n+1)≤b:=Int.ediv_le_self _ hb0;have hDb:b / p2 n≤b:=Int.ediv_le_self _ hb0;have hD0:0≤b / p2 n:=Int.ediv_nonneg hb0 (by omega)
  have hq:q≤b / p2 (n+1):=by
    have h1:q * c≤c * (b / p2 (n+1)):=Int.le_trans (by omega) (Int.mul_le_mul_of_nonneg_right hac hB0)
    rw[Int.mul_comm q c] at h1;exact Int.le_of_mul_le_mul_left h1 (by omega)
  have e1:wrap64 (Int.tdiv b (p2 n))=b / p2 n:=by rw[Int.tdiv_eq_ediv_of_nonneg hb0];exact wrap64_id (by omega) (by omega)
  generalize b / p2 (n+1)=B at *;generalize b / p2 n=D at *;have hX:∀ y:Int,y=2 * r+D % 2 * a→Tells (fun k=>Bzz.l1 k a b c (2 * q) y (p2 n)) (a * b / c):=by
    intro y hy;have hal:=scale_alg q r c a B D (D % 2) hi hbit;rw[← hy] at hal;have hm:D % 2=0∨D % 2=1:=by omega
    have hy0:0≤y∧y < 3 * c:=by rcases hm with hm|hm <;> rw[hm] at hy <;> omega
    refine scale_sub a b c _ hc1 hc _ 2 (2 * q) y hy0.1 (by have h3:((2:Nat):Int)+1=3:=rfl;rw[h3];exact hy0.2) (by omega) (by omega) ?_ (by omega)
    have hyc:0≤y / c:=Int.ediv_nonneg hy0.1 (by omega)
    refine hT (2 * q+y / c) (y % c) (Int.emod_nonneg _ (by omega)) (Int.emod_lt_of_pos _ (by omega)) (by omega) ?_
    rw[← hal];have:=Int.emod_add_mul_ediv y c;rw[Int.add_mul,Int.mul_comm (y / c) c];omega
  have w1:wrap64 (2 * q)=2 * q:=wrap64_id (by omega) (by omega)
  have w2:wrap64 (2 * r)=2 * r:=wrap64_id (by omega) (by omega)
  have w3:wrap64 (2 * r+a)=2 * r+a:=wrap64_id (by omega) (by omega)
  have em:Int.tmod D 2=D % 2:=Int.tmod_eq_emod_of_nonneg hD0;have hXX:p2 n > 0:=hpos;have hXz:¬ p2 n=0:=by omega
  by_cases hm:D % 2=1
  · refine Tells.up (g:=fun k=>Bzz.j1 k a b c (2 * q) (2 * r+a) (p2 n)) (Tells.up (hX (2 * r+a) (by rw[hm];omega)) (fun k=>by rw[Bzz.j1])) (fun k=>?_)
    rw[Bzz.l0,if_pos hXX,if_neg hXz,e1,em,if_pos hm,w1,w2,w3]
  · have hm0:D % 2=0:=by omega
    refine Tells.up (g:=fun k=>Bzz.j1 k a b c (2 * q) (2 * r) (p2 n)) (Tells.up (hX (2 * r) (by rw[hm0];omega)) (fun k=>by rw[Bzz.j1])) (fun k=>?_)
    rw[Bzz.l0,if_pos hXX,if_neg hXz,e1,em,if_neg hm,w1,w2]
theorem scale_loop (a b c:Int) (ha0:0≤a) (hac:a≤c) (hc1:1≤c) (hc:c≤2147483648) (hb0:0≤b) (hb:b≤1125899906842624):∀ (n:Nat) (q r:Int),n≤60→0≤r→r < c→0≤q→q * c+r=a * (b / p2 (n+1))→Tells (fun k=>Bzz.l0 k a b c q r (p2 n)) (a * b / c):=by
  intro n;induction n with
  | zero =>
    intro q r hn hr0 hr1 hq0 hi;refine scale_step a b c ha0 hac hc1 hc hb0 hb 0 hn q r hr0 hr1 hq0 hi (fun q' r' h0 h1 h2 h3=>?_)
    rw[p2_zero,Int.ediv_one] at h3;have hq':q'=a * b / c:=by
      rw[← h3,Int.add_comm,Int.add_mul_ediv_right _ _ (by omega),Int.ediv_eq_zero_of_lt h0 h1,Int.zero_add]
    rw[← hq'];have e0:wrap64 (Int.tdiv (p2 0) 2)=0:=by rw[p2_zero,show Int.tdiv 1 2=0 from rfl];exact wrap64_id (by omega) (by omega)
    rw[e0];refine Tells.up (Tells.const _) (fun k=>?_)
    rw[Bzz.l0,if_neg (by decide)]
  | succ n ih =>
    intro q r hn hr0 hr1 hq0 hi;refine scale_step a b c ha0 hac hc1 hc hb0 hb (n+1) hn q r hr0 hr1 hq0 hi (fun q' r' h0 h1 h2 h3=>?_)
    have hpos:=p2_pos n;have hle:p2 n≤1152921504606846976:=by rw[← p2_60];exact p2_le (by omega)
    have e0:wrap64 (Int.tdiv (p2 (n+1)) 2)=p2 n:=by
      rw[p2_succ,Int.tdiv_eq_ediv_of_nonneg (by omega),Int.mul_ediv_cancel_left _ (by decide)]
      exact wrap64_id (by omega) (by omega)
    rw[e0];exact ih q' r' (by omega) h0 h1 h2 h3
theorem scale_tells {a b c:Int} (ha0:0≤a) (hac:a≤c) (hc1:1≤c) (hc:c≤2147483648) (hb0:0≤b) (hb:b≤1125899906842624):Tells (fun k=>Bzz.f k a b c) (a * b / c):=by
  have hp:p2 61=2305843009213693952:=by decide
  have h:=scale_loop a b c ha0 hac hc1 hc hb0 hb 60 0 0 (by omega) (by omega) (by omega) (by omega) (by
    have:b / p2 (60+1)=0:=by rw[hp];exact Int.ediv_eq_zero_of_lt hb0 (by omega)
    rw[this];simp)
  rw[p2_60] at h;exact h.congr (fun k=>by unfold Bzz.f;rfl)

theorem good_inc {l:List S46} (h:Good l) {i j:Nat} (hij:i < j) (hj:j < l.length):(rd_T46 l (i:Int)).f0 < (rd_T46 l (j:Int)).f0:=by
  induction hij with
  | refl=>exact(h.inc i hj).1
  | step hm ih=>exact Int.lt_trans (ih (by omega)) (h.inc _ hj).1
theorem good_val {l:List S46} (h:Good l) {i j:Nat} (hij:i≤j) (hj:j < l.length):(rd_T46 l (i:Int)).f1≤(rd_T46 l (j:Int)).f1:=by
  induction hij with
  | refl=>exact Int.le_refl _
  | step hm ih=>exact Int.le_trans (ih (by omega)) (h.inc _ hj).2
/-- Where a moment is,among good readings. -/
structure At59 (l:List S46) (t:Int) (k:Nat):Prop where
  lt:k+1 < l.length
  low:(rd_T46 l (k:Int)).f0≤t
  high:t≤(rd_T46 l ((k+1:Nat):Int)).f0
  before:∀ x:Nat,x < k→(rd_T46 l ((x+1:Nat):Int)).f0 < t
theorem at59 {l:List S46} (h:Good l) {t:Int} (hp:permB l t=true):∃ k:Nat,At59 l t k∧Dzm.at_ l t=(k:Int):=by
  have h2:=h.len2;unfold permB at hp;rw[Bool.and_eq_true,decide_eq_true_eq,decide_eq_true_eq] at hp;have hlast:(rd_T46 l ((l.length:Int) - 1))=rd_T46 l ((l.length - 1:Nat):Int):=by rw[show((l.length:Int) - 1)=((l.length - 1:Nat):Int) by omega]
  rw[hlast] at hp;have hs:=sR_spec (p:=fun i=>! (decide ((rd_T46 l (i+1)).f0 < t))) (n:=(l.length:Int) - 2) (fun x y hx hxy hy hpx=>by
    simp only[Bool.not_eq_true',decide_eq_false_iff_not] at hpx ⊢;rcases Int.lt_or_eq_of_le hxy with h1|h1
    · have:=good_inc h (i:=(x+1).toNat) (j:=(y+1).toNat) (by omega) (by omega)
      rw[Int.toNat_of_nonneg (by omega),Int.toNat_of_nonneg (by omega)] at this
      omega
    · rw[← h1];exact hpx) (((l.length:Int) - 2).toNat+1) 0 ((l.length:Int) - 2) (by omega) (by omega) (by omega) (by omega)
  have hk:Dzm.at_ l t=Fzk.sR (fun i=>! (decide ((rd_T46 l (i+1)).f0 < t))) (((l.length:Int) - 2).toNat+1) 0 ((l.length:Int) - 2):=rfl
  rw[← hk] at hs;generalize Dzm.at_ l t=K at hs ⊢;obtain⟨a,b,c,d⟩:=hs;obtain⟨k,rfl⟩:∃ k:Nat,K=(k:Int):=⟨K.toNat,by omega⟩
  refine⟨k,⟨by omega,?_,?_,fun x hx=>?_⟩,rfl⟩
  · rcases Nat.eq_zero_or_pos k with h0|h0
    · subst h0;exact hp.1
    · have:=c ((k:Int) - 1) (by omega) (by omega)
      rw[show(k:Int) - 1+1=(k:Int) by omega] at this
      simp only[Bool.not_eq_false',decide_eq_true_eq] at this;omega
  · rcases Int.lt_or_le (k:Int) ((l.length:Int) - 2) with h1|h1
    · have:=d h1
      simp only[Bool.not_eq_true',decide_eq_false_iff_not] at this;rw[show((k+1:Nat):Int)=(k:Int)+1 by omega]
      omega
    · rw[show k+1=l.length - 1 by omega];exact hp.2
  · have:=c (x:Int) (by omega) (by omega)
    simp only[Bool.not_eq_false',decide_eq_true_eq] at this;rw[show((x+1:Nat):Int)=(x:Int)+1 by omega]
    exact this
def part59 (l:List S46) (t:Int) (k:Nat):Int:=(t - (rd_T46 l (k:Int)).f0) * ((rd_T46 l ((k+1:Nat):Int)).f1 - (rd_T46 l (k:Int)).f1) / ((rd_T46 l ((k+1:Nat):Int)).f0 - (rd_T46 l (k:Int)).f0)
/-- What the meter shows. -/
def valE (l:List S46) (t:Int):Int:=(rd_T46 l (Dzm.at_ l t)).f1+part59 l t (Dzm.at_ l t).toNat
theorem mul_div_le {a b c:Int} (ha:0≤a) (hac:a≤c) (hc:0 < c) (hb:0≤b):0≤a * b / c∧a * b / c≤b:=by
  refine⟨Int.ediv_nonneg (Int.mul_nonneg ha hb) (Int.le_of_lt hc),?_⟩;have h1:a * b≤c * b:=Int.mul_le_mul_of_nonneg_right hac hb;have h2:=Int.ediv_le_ediv hc h1;rwa [Int.mul_ediv_cancel_left _ (by omega)] at h2
theorem muldiv0 {a b c:Int} (ha:0≤a) (hac:a≤c) (hc:0 < c) (hc1:c≤2147483648) (hb:0≤b) (hb1:b≤1125899906842624):Azq.f a b c 0=some (a * b / c,0):=by
  have hq:=mul_div_le ha hac hc hb;unfold Azq.f;have e:(Azq.inB a && Azq.inB b && Azq.inB c)=true:=by
    unfold Azq.inB;simp only[Bool.and_eq_true,decide_eq_true_eq];omega
  rw[if_pos e,if_neg (by omega),if_neg (by omega),if_neg (by omega)]
  unfold Azq.val Azq.ab;rw[if_neg (by omega),if_neg (by omega),if_neg (by omega),decide_eq_false (by omega),decide_eq_false (by omega),decide_eq_false (by omega)]
  unfold Azq.grows Azq.fin;simp only[bne_self_eq_false,Bool.false_and,if_true,Bool.false_eq_true,if_false];rw[if_neg (by omega)]
theorem part59_rng {l:List S46} (h:Good l) {t:Int} {k:Nat} (hk:At59 l t k):0≤part59 l t k∧part59 l t k≤(rd_T46 l ((k+1:Nat):Int)).f1 - (rd_T46 l (k:Int)).f1:=by
  have h1:=h.inc k hk.lt;have h2:=hk.low;have h3:=hk.high;exact mul_div_le (by omega) (by omega) (by omega) (by omega)
theorem value_eq {l:List S46} (h:Good l) {t:Int} (hp:permB l t=true):Dzm.f l t=some (valE l t):=by
  obtain⟨k,hk,e⟩:=at59 h hp;have h1:=h.inc k hk.lt;have h2:=hk.low;have h3:=hk.high;have a0:=h.at0 k (by have:=hk.lt;omega)
  have a1:=h.at0 (k+1) hk.lt;have v0:=h.val k (by have:=hk.lt;omega)
  have v1:=h.val (k+1) hk.lt;have hr:=part59_rng h hk;have hl:=h.len;have hl2:=h.len2;unfold Dzm.f valE;rw[if_pos ⟨by omega,by omega⟩,e,show(k:Int)+1=((k+1:Nat):Int) by omega,wrap64_id (by omega) (by omega),wrap64_id (by omega) (by omega),wrap64_id (by omega) (by omega),muldiv0 (by omega) (by omega) (by omega) (by omega) (by omega) (by omega)]
  simp only[Option.bind_some];rw[Int.toNat_natCast];unfold part59 at hr ⊢;rw[wrap64_id (by omega) (by omega)]
theorem rvalue_tells {l:List S46} (h:Good l) {t:Int} (hp:permB l t=true):Tells (fun k=>Azm.f k l t) (valE l t):=by
  obtain⟨K,hk,e⟩:=at59 h hp;have hl:=h.len;have hkl:=hk.lt;have main:∀ (d i:Nat),i+d=K→Tells (fun k=>Azm.l0 k l t (i:Int)) (valE l t):=by
    intro d;induction d with
    | zero =>
      intro i hi;obtain rfl:i=K:=by omega
      have h1:=h.inc i hk.lt;have h2:=hk.low;have h3:=hk.high;have a0:=h.at0 i (by omega)
      have a1:=h.at0 (i+1) hk.lt;have v0:=h.val i (by omega)
      have v1:=h.val (i+1) hk.lt;have hr:=part59_rng h hk;have hs:=scale_tells (a:=t - (rd_T46 l (i:Int)).f0) (b:=(rd_T46 l ((i+1:Nat):Int)).f1 - (rd_T46 l (i:Int)).f1) (c:=(rd_T46 l ((i+1:Nat):Int)).f0 - (rd_T46 l (i:Int)).f0) (by omega) (by omega) (by omega) (by omega) (by omega) (by omega)
      have ev:wrap64 ((rd_T46 l (i:Int)).f1+(t - (rd_T46 l (i:Int)).f0) * ((rd_T46 l ((i+1:Nat):Int)).f1 - (rd_T46 l (i:Int)).f1) / ((rd_T46 l ((i+1:Nat):Int)).f0 - (rd_T46 l (i:Int)).f0))=valE l t:=by
        unfold valE;rw[e,Int.toNat_natCast];unfold part59 at hr ⊢;exact wrap64_id (by omega) (by omega)
      have e1:wrap64 ((i:Int)+1)=((i+1:Nat):Int):=by rw[wrap64_id (by omega) (by omega)];omega
      have w1:wrap64 (t - (rd_T46 l (i:Int)).f0)=t - (rd_T46 l (i:Int)).f0:=wrap64_id (by omega) (by omega)
      have w2:wrap64 ((rd_T46 l ((i+1:Nat):Int)).f1 - (rd_T46 l (i:Int)).f1)=(rd_T46 l ((i+1:Nat):Int)).f1 - (rd_T46 l (i:Int)).f1:=wrap64_id (by omega) (by omega)
      have w3:wrap64 ((rd_T46 l ((i+1:Nat):Int)).f0 - (rd_T46 l (i:Int)).f0)=(rd_T46 l ((i+1:Nat):Int)).f0 - (rd_T46 l (i:Int)).f0:=wrap64_id (by omega) (by omega)
      have c1:¬ (rd_T46 l ((i+1:Nat):Int)).f0 < t:=by omega
      clear hr h1 h2 h3 a0 a1 v0 v1;obtain⟨Q,hQ⟩:∃ Q,Q=(t - (rd_T46 l (i:Int)).f0) * ((rd_T46 l ((i+1:Nat):Int)).f1 - (rd_T46 l (i:Int)).f1) / ((rd_T46 l ((i+1:Nat):Int)).f0 - (rd_T46 l (i:Int)).f0):=⟨_,rfl⟩;rw[← hQ] at hs ev;clear hQ;obtain⟨N,hN⟩:=hs;simp only at hN;refine⟨N+1,fun k hk1=>?_⟩
      obtain⟨m,rfl⟩:∃ m,k=m+1:=⟨k - 1,by omega⟩
      show Azm.l0 (m+1) l t (i:Int)=_
      rw[Azm.l0,e1,if_pos (by omega),if_pos (by omega),if_neg c1,if_pos (by omega),if_pos (by omega),w1,w2,w3,hN m (by omega),Option.bind_some,ev]
    | succ d ih =>
      intro i hi;refine Tells.up (ih (i+1) (by omega)) (fun k=>?_)
      have e1:wrap64 ((i:Int)+1)=((i+1:Nat):Int):=by rw[wrap64_id (by omega) (by omega)];omega
      rw[Azm.l0,e1,if_pos (by omega),if_pos (by omega),if_pos (hk.before i (by omega))]
  exact(main K 0 (by omega)).congr (fun k=>by unfold Azm.f;rw[show((0:Nat):Int)=0 from rfl])
def useR (l:List S46) (a b:Int):Int × Int:=if permB l a && permB l b then(if a > b then(0,9) else(wrap64 (valE l b - valE l a),0)) else(0,1)
theorem use_tells {l:List S46} (h:Good l) (a b:Int):Tells (fun k=>Dzj.f k l a b) (useR l a b):=by
  unfold Dzj.f;simp only[(permitted_eq h a).1,(permitted_eq h b).1,Option.bind_some];have hj:∀ x:Bool,x=!(permB l a && permB l b)→Tells (fun k=>Dzj.j0 k l x a b) (useR l a b):=by
    intro x hx;unfold useR;by_cases hp:(permB l a && permB l b)=true
    · rw[if_pos hp]
      rw[hp] at hx;subst hx;rw[Bool.and_eq_true] at hp;by_cases hab:a > b
      · rw[if_pos hab]
        refine Tells.up (Tells.const _) (fun k=>?_)
        rw[Dzj.j0,if_neg (by decide),if_pos hab]
      · rw[if_neg hab]
        refine Tells.up (Tells.const _) (fun k=>?_)
        rw[Dzj.j0,if_neg (by decide),if_neg hab,value_eq h hp.2,value_eq h hp.1]
        rfl
    · rw[if_neg hp]
      have hx1:x=true:=by
        rw[hx];cases hz:(permB l a && permB l b) with
        | true=>exact absurd hz hp
        | false=>rfl
      subst hx1;refine Tells.up (Tells.const _) (fun k=>?_)
      rw[Dzj.j0,if_pos rfl]
  cases ha:permB l a with
  | true=>simp only[if_true];exact hj _ (by rw[ha];rfl)
  | false=>simp only[Bool.false_eq_true,if_false];exact hj _ (by rw[ha];rfl)
theorem ruse_tells {l:List S46} (h:Good l) (hc:Tells (fun k=>Azp.f k l) 0) (a b:Int):Tells (fun k=>Bzx.f k l a b) (useR l a b):=by
  unfold Bzx.f;refine hc.bind ?_;simp only[(permitted_eq h a).2,(permitted_eq h b).2,Option.bind_some,if_true];have hj:∀ x:Bool,x=!(permB l a && permB l b)→Tells (fun k=>Bzx.j0 k l x a b) (useR l a b):=by
    intro x hx;unfold useR;by_cases hp:(permB l a && permB l b)=true
    · rw[if_pos hp]
      rw[hp] at hx;subst hx;rw[Bool.and_eq_true] at hp;by_cases hab:a > b
      · rw[if_pos hab]
        refine Tells.up (Tells.const _) (fun k=>?_)
        rw[Bzx.j0,if_neg (by decide),if_pos hab]
      · rw[if_neg hab]
        refine Tells.up ((rvalue_tells h hp.2).bind (g:=fun k v=>(Azm.f k l a).bind fun u=>some (wrap64 (v - u),0)) ((rvalue_tells h hp.1).bind (Tells.const _))) (fun k=>?_)
        rw[Bzx.j0,if_neg (by decide),if_neg hab]
    · rw[if_neg hp]
      have hx1:x=true:=by
        rw[hx];cases hz:(permB l a && permB l b) with
        | true=>exact absurd hz hp
        | false=>rfl
      subst hx1;refine Tells.up (Tells.const _) (fun k=>?_)
      rw[Bzx.j0,if_pos rfl]
  cases ha:permB l a with
  | true=>simp only[if_true];exact hj _ (by rw[ha];rfl)
  | false=>simp only[Bool.false_eq_true,if_false];exact hj _ (by rw[ha];rfl)
/-- Value,and the reference's. -/
theorem valueE (l:List S46) (t:Int):∃ r e,Tells (fun k=>Bzj.f k l) e∧Tells (fun k=>Azp.f k l) e∧Tells (fun k=>Ezj.f k l t) r∧Tells (fun k=>Fzq.f k l t) r∧(e=0→Good l∧r=if permB l t then(valE l t,0) else(0,1))∧(r.2=0→e=0):=by
  obtain⟨e,a,b,c⟩:=check59 l;by_cases he:e=0
  · subst he
    have h:=c rfl;refine⟨if permB l t then(valE l t,0) else(0,1),0,a,b,?_,?_,fun _=>⟨h,rfl⟩,fun _=>rfl⟩
    · unfold Ezj.f
      refine a.bind ?_;simp only[if_true,(permitted_eq h t).1,Option.bind_some];cases hp:permB l t with
      | true=>simp only[if_true,value_eq h hp,Option.bind_some];exact Tells.const _
      | false=>simp only[Bool.false_eq_true,if_false];exact Tells.const _
    · unfold Fzq.f
      refine b.bind ?_;simp only[if_true,(permitted_eq h t).2,Option.bind_some];cases hp:permB l t with
      | true=>simp only[if_true];exact(rvalue_tells h hp).bind (Tells.const _)
      | false=>simp only[Bool.false_eq_true,if_false];exact Tells.const _
  · refine⟨(0,e),e,a,b,?_,?_,fun h=>absurd h he,fun h=>absurd h he⟩
    · unfold Ezj.f
      refine a.bind ?_;simp only[if_neg he];exact Tells.const _
    · unfold Fzq.f
      refine b.bind ?_;simp only[if_neg he];exact Tells.const _
/-- Use,and the reference's. -/
theorem useE (l:List S46) (s t:Int):∃ r e,Tells (fun k=>Bzj.f k l) e∧Tells (fun k=>Azp.f k l) e∧Tells (fun k=>Ezq.f k l s t) r∧Tells (fun k=>Bzx.f k l s t) r∧(e=0→Good l∧r=useR l s t)∧(e≠0→r=(0,e)):=by
  obtain⟨e,a,b,c⟩:=check59 l;by_cases he:e=0
  · subst he
    have h:=c rfl;refine⟨useR l s t,0,a,b,?_,ruse_tells h b s t,fun _=>⟨h,rfl⟩,fun h=>absurd rfl h⟩
    unfold Ezq.f;refine a.bind ?_;simp only[if_true];exact(use_tells h s t).bind (Tells.const _)
  · refine⟨(0,e),e,a,b,?_,?_,fun h=>absurd h he,fun _=>rfl⟩
    · unfold Ezq.f
      refine a.bind ?_;simp only[if_neg he];exact Tells.const _
    · unfold Bzx.f
      refine b.bind ?_;simp only[if_neg he];exact Tells.const _
theorem awake_tells:Tells (fun k=>Azb.f k) true:=Tells.of (fun k=>Azb.mono k) ⟨300,by decide +kernel⟩
theorem few_eq (l:List S46):Dzw.f l=some (decide ((l.length:Int)≤600)):=by unfold Dzw.f;rfl
theorem both {α:Type} {c:Prop} [Decidable c] {f g:Nat→Option α} {r:α} (h:c→Tells f r) (h':¬ c→Tells g r):Tells (fun k=>if c then f k else g k) r:=by
  by_cases hc:c
  · simp only[if_pos hc];exact h hc
  · simp only[if_neg hc];exact h' hc

theorem valE_at {l:List S46} (h:Good l) {t:Int} (hp:permB l t=true):∃ k:Nat,At59 l t k∧Dzm.at_ l t=(k:Int)∧valE l t=(rd_T46 l (k:Int)).f1+part59 l t k∧(rd_T46 l (k:Int)).f1≤valE l t∧valE l t≤(rd_T46 l ((k+1:Nat):Int)).f1:=by
  obtain⟨k,hk,e⟩:=at59 h hp;have hr:=part59_rng h hk;have ev:valE l t=(rd_T46 l (k:Int)).f1+part59 l t k:=by unfold valE;rw[e,Int.toNat_natCast]
  exact⟨k,hk,e,ev,by omega,by omega⟩
theorem valE_mono {l:List S46} (h:Good l) {s t:Int} (hs:permB l s=true) (ht:permB l t=true) (hst:s≤t):valE l s≤valE l t:=by
  obtain⟨i,hi,_,ei,li,ui⟩:=valE_at h hs;obtain⟨j,hj,_,ej,lj,uj⟩:=valE_at h ht;rcases Nat.lt_trichotomy i j with hij|hij|hij
  · have:=good_val h (i:=i+1) (j:=j) (by omega) (by have:=hj.lt;omega)
    omega
  · subst hij
    rw[ei,ej];have h1:=h.inc i hi.lt;have:part59 l s i≤part59 l t i:=by
      unfold part59;exact Int.ediv_le_ediv (by omega) (Int.mul_le_mul_of_nonneg_right (by omega) (by omega))
    omega
  · have h1:=hi.before j hij
    have h2:=hj.high;omega
theorem valE_rng {l:List S46} (h:Good l) {t:Int} (hp:permB l t=true):0≤valE l t∧valE l t≤1125899906842624:=by
  obtain⟨k,hk,_,_,h1,h2⟩:=valE_at h hp;have v0:=h.val k (by have:=hk.lt;omega)
  have v1:=h.val (k+1) hk.lt;omega
theorem useR_ok {l:List S46} (h:Good l) {s t:Int} (he:(useR l s t).2=0):permB l s=true∧permB l t=true∧s≤t∧(useR l s t).1=valE l t - valE l s∧0≤valE l t - valE l s:=by
  unfold useR at he ⊢;by_cases hp:(permB l s && permB l t)=true
  · rw[if_pos hp] at he ⊢
    rw[Bool.and_eq_true] at hp;by_cases hst:s > t
    · rw[if_pos hst] at he;exact absurd he (by decide)
    · rw[if_neg hst]
      have:=valE_mono h hp.1 hp.2 (by omega)
      have r1:=valE_rng h hp.1;have r2:=valE_rng h hp.2;exact⟨hp.1,hp.2,by omega,wrap64_id (by omega) (by omega),by omega⟩
  · rw[if_neg hp] at he;exact absurd he (by decide)
theorem useR_of {l:List S46} (h:Good l) {s t:Int} (hs:permB l s=true) (ht:permB l t=true) (hst:s≤t):useR l s t=(valE l t - valE l s,0):=by
  unfold useR;have:=valE_mono h hs ht hst;have r1:=valE_rng h hs;have r2:=valE_rng h ht;rw[hs,ht,if_pos (by rfl),if_neg (by omega),wrap64_id (by omega) (by omega)]
theorem perm_mid {l:List S46} {s t u:Int} (hs:permB l s=true) (ht:permB l t=true) (h1:s≤u) (h2:u≤t):permB l u=true:=by
  unfold permB at *;rw[Bool.and_eq_true,decide_eq_true_eq,decide_eq_true_eq] at *;omega

theorem valE_reading {l:List S46} (h:Good l) {k:Nat} (hk:k < l.length):permB l (rd_T46 l (k:Int)).f0=true∧valE l (rd_T46 l (k:Int)).f0=(rd_T46 l (k:Int)).f1:=by
  have h2:=h.len2;have hp:permB l (rd_T46 l (k:Int)).f0=true:=by
    unfold permB;rw[Bool.and_eq_true,decide_eq_true_eq,decide_eq_true_eq];constructor
    · rcases Nat.eq_zero_or_pos k with h0|h0
      · subst h0;exact Int.le_refl _
      · exact Int.le_of_lt (good_inc h (i:=0) (j:=k) h0 hk)
    · rw[show((l.length:Int) - 1)=((l.length - 1:Nat):Int) by omega]
      rcases Nat.lt_or_ge k (l.length - 1) with h0|h0
      · exact Int.le_of_lt (good_inc h h0 (by omega))
      · rw[show l.length - 1=k by omega];exact Int.le_refl _
  refine⟨hp,?_⟩;obtain⟨i,hi,_,ev,_,_⟩:=valE_at h hp;have hilt:=hi.lt;rcases Nat.lt_trichotomy (i+1) k with h0|h0|h0
  · have a:=hi.high
    have b:=good_inc h h0 hk;omega
  · subst h0
    rw[ev];have h1:=(h.inc i hilt).1;unfold part59;rw[Int.mul_ediv_cancel_left _ (by omega)]
    omega
  · rcases Nat.lt_or_ge k i with h3|h3
    · have a:=hi.low
      have b:=good_inc h h3 (by omega)
      omega
    · obtain rfl:i=k:=by omega
      rw[ev];unfold part59;rw[Int.sub_self,Int.zero_mul,Int.zero_ediv];omega
theorem EnergyReads:Azj.Pure:=by
  intro l k t _ _ _ _ _;have hend:Tells (fun k=>(Azb.f k).bind fun t=>(some t)) true:=awake_tells.bind (Tells.const _)
  refine Tells.get ?_;obtain⟨e,a,b,c⟩:=check59 l;have hT:Tells (fun n=>Azj.j0 n l k t true) true:=by
    refine Tells.up hend (fun n=>?_)
    rw[Azj.j0,if_pos rfl]
  unfold Azj.f;simp only[few_eq,Option.bind_some];refine both (fun _=>?_) (fun _=>hT)
  refine a.bind ?_;refine both (fun he=>?_) (fun _=>hT)
  subst he;have h:=c rfl;have h2:=h.len2;have h5:=h.len;refine both (fun _=>hT) (fun hk1=>?_)
  by_cases hk2:k≥(l.length:Int)
  · rw[decide_eq_true hk2];exact hT
  rw[decide_eq_false hk2];obtain⟨i,rfl⟩:∃ i:Nat,k=((i+1:Nat):Int):=⟨(k - 1).toNat,by omega⟩
  have hi:i+1 < l.length:=by omega
  obtain⟨pk,vk⟩:=valE_reading h hi;obtain⟨pj,vj⟩:=valE_reading h (k:=i) (by omega)
  obtain⟨p0,v0⟩:=valE_reading h (k:=0) (by omega)
  obtain⟨pn,vn⟩:=valE_reading h (k:=l.length - 1) (by omega)
  have en:((l.length:Int) - 1)=((l.length - 1:Nat):Int):=by omega
  have w1:wrap64 ((l.length:Int) - 1)=((l.length - 1:Nat):Int):=by rw[← en];exact wrap64_id (by omega) (by omega)
  have w2:wrap64 (((i+1:Nat):Int) - 1)=(i:Int):=by rw[wrap64_id (by omega) (by omega)];omega
  have c1:((i+1:Nat):Int) < (l.length:Int):=by omega
  have c0:(0:Int)≤((i+1:Nat):Int):=by omega
  have d1:(i:Int) < (l.length:Int):=by omega
  have d0:(0:Int)≤(i:Int):=by omega
  have n1:((l.length - 1:Nat):Int) < (l.length:Int):=by omega
  have n0:(0:Int)≤((l.length - 1:Nat):Int):=by omega
  have z1:(0:Int) < (l.length:Int):=by omega
  have hvt:∀ (u:Int),permB l u=true→Tells (fun n=>Ezj.f n l u) (valE l u,0):=by
    intro u hu;obtain⟨r,e',a',_,x,_,y,_⟩:=valueE l u;have e0:e'=0:=by
      obtain⟨N,q1⟩:=a;obtain⟨M,q2⟩:=a';have h1:=q1 (N+M) (by omega)
      have h2:=q2 (N+M) (by omega)
      simp only at h1 h2;rw[h1] at h2;exact(Option.some.inj h2).symm
    obtain⟨_,hr⟩:=y e0;rw[hr,hu] at x;simpa using x
  have hj2:∀ x:Bool,(x=false→(rd_T46 l (i:Int)).f0≤t∧t≤(rd_T46 l ((i+1:Nat):Int)).f0)→Tells (fun n=>Azj.j2 n l ((i+1:Nat):Int) t x) true:=by
    intro x hx;cases x with
    | true =>
      refine Tells.up hend (fun n=>?_)
      rw[Azj.j2,if_pos rfl]
    | false =>
      obtain⟨t1,t2⟩:=hx rfl;have pt:=perm_mid pj pk t1 t2;have m1:=valE_mono h pj pt t1;have m2:=valE_mono h pt pk t2;rw[vj] at m1;rw[vk] at m2;refine Tells.up ((hvt t pt).bind (g:=fun n bt695=>(if bt695.2=0 then(if 0≤(wrap64 (((i+1:Nat):Int) - 1)) then(if(wrap64 (((i+1:Nat):Int) - 1)) < (l.length:Int) then(if bt695.1≥((rd_T46 l (wrap64 (((i+1:Nat):Int) - 1))).f1) then(if 0≤((i+1:Nat):Int) then(if((i+1:Nat):Int) < (l.length:Int) then(if bt695.1≤((rd_T46 l ((i+1:Nat):Int)).f1) then((Azb.f n).bind fun t699=>(some t699)) else(none)) else(none)) else(none)) else(none)) else(none)) else(none)) else(none))) ?_) (fun n=>by rw[Azj.j2,if_neg (by decide)])
      simp only[w2,if_true,if_pos d0,if_pos d1,if_pos c0,if_pos c1,if_pos (show valE l t≥(rd_T46 l (i:Int)).f1 from m1),if_pos m2]
      exact hend
  have hj1:Tells (fun n=>Azj.j1 n l ((i+1:Nat):Int) t false) true:=by
    by_cases q:t < (rd_T46 l (i:Int)).f0
    · refine Tells.up (hj2 true (fun h=>by cases h)) (fun n=>?_)
      rw[Azj.j1,if_neg (by decide),w2,if_pos d0,if_pos d1,if_pos q]
    · refine Tells.up (hj2 (decide (t > (rd_T46 l ((i+1:Nat):Int)).f0)) (fun h=>?_)) (fun n=>?_)
      · have:=of_decide_eq_false h;omega
      · rw[Azj.j1,if_neg (by decide),w2,if_pos d0,if_pos d1,if_neg q,if_pos c0,if_pos c1]
  have hst:(rd_T46 l ((0:Nat):Int)).f0≤(rd_T46 l ((l.length - 1:Nat):Int)).f0:=Int.le_of_lt (good_inc h (by omega) (by omega))
  have eU:=useR_of h p0 pn hst;rw[v0,vn] at eU;have hm:=valE_mono h p0 pn hst;rw[v0,vn] at hm;have r0:=h.val 0 (by omega)
  have rn:=h.val (l.length - 1) (by omega)
  have hU:Tells (fun n=>Ezq.f n l (rd_T46 l ((0:Nat):Int)).f0 (rd_T46 l ((l.length - 1:Nat):Int)).f0) ((rd_T46 l ((l.length - 1:Nat):Int)).f1 - (rd_T46 l ((0:Nat):Int)).f1,0):=by
    unfold Ezq.f;refine a.bind ?_;simp only[if_true];have:=use_tells h (rd_T46 l ((0:Nat):Int)).f0 (rd_T46 l ((l.length - 1:Nat):Int)).f0;rw[eU] at this;exact this.bind (Tells.const _)
  have wz:wrap64 ((rd_T46 l ((l.length - 1:Nat):Int)).f1 - (rd_T46 l ((0:Nat):Int)).f1)=(rd_T46 l ((l.length - 1:Nat):Int)).f1 - (rd_T46 l ((0:Nat):Int)).f1:=wrap64_id (by omega) (by omega)
  have hV:=hvt _ pk;rw[vk] at hV;rw[show((0:Nat):Int)=0 from rfl] at hU wz
  refine Tells.up (hV.bind (g:=fun n bt683=>(if 0 < (l.length:Int) then(if 0≤(wrap64 ((l.length:Int) - 1)) then(if(wrap64 ((l.length:Int) - 1)) < (l.length:Int) then((Ezq.f n l ((rd_T46 l 0).f0) ((rd_T46 l (wrap64 ((l.length:Int) - 1))).f0)).bind fun bt687=>(if bt683.2=0 then(if bt687.2=0 then(if bt683.1=((rd_T46 l ((i+1:Nat):Int)).f1) then(Azj.j1 n l ((i+1:Nat):Int) t (bt687.1 != (wrap64 (((rd_T46 l (wrap64 ((l.length:Int) - 1))).f1) - ((rd_T46 l 0).f1))))) else(Azj.j1 n l ((i+1:Nat):Int) t true)) else(Azj.j1 n l ((i+1:Nat):Int) t true)) else(Azj.j1 n l ((i+1:Nat):Int) t true))) else(none)) else(none)) else(none))) ?_) (fun n=>by rw[Azj.j0,if_neg (by decide),if_pos c0,if_pos c1])
  simp only[w1,if_pos z1,if_pos n0,if_pos n1];refine hU.bind ?_;simp only[if_true,wz,bne_self_eq_false];exact hj1

end Go.Proofs.Ytnklckihalhlmaa.Pure
