import Derived.Test.YtokkiljkgejnhaaPrint50
import Derived.Test.YtokkiljkgejnhaaPrint38
namespace Go.Proofs.Ytokkiljkgejnhaa.Pure
open Go.RowKit Go.Proofs.Ytokkiljkgejnhaa.Print Go.Proofs.YtokkiljkgejnhaaW.PrintWords Go.Proofs.YtokkiljkgejnhaaW.PrintLast
set_option linter.unusedVariables false
set_option linter.unusedSimpArgs false

/-- From some number of rounds on f tells r. -/
def Tells {α:Type} (f:Nat→Option α) (r:α):Prop:=∃ K,∀ k,K≤k→f k=some r
namespace Tells
theorem leO {α:Type} {f:Nat→Option α} (hm:∀ k,LeO (f k) (f (k+1))) {K:Nat} {r:α} (h:f K=some r):∀ k,K≤k→f k=some r:=by
  intro k hk;induction hk with
  | refl=>exact h
  | step _ ih=>exact hm _ _ ih
theorem of {α:Type} {f:Nat→Option α} (hm:∀ k,LeO (f k) (f (k+1))) {r:α} (h:∃ K,f K=some r):Tells f r:=by
  obtain⟨K,h⟩:=h;exact⟨K,leO hm h⟩
theorem get {α:Type} {f:Nat→Option α} {r:α} (h:Tells f r):∃ k,f k=some r:=by
  obtain⟨K,h⟩:=h;exact⟨K,h K (Nat.le_refl K)⟩
theorem const {α:Type} (r:α):Tells (fun _=>some r) r:=⟨0,fun _ _=>rfl⟩
theorem bind {α β:Type} {f:Nat→Option α} {g:Nat→α→Option β} {r:α} {s:β} (h:Tells f r) (h':Tells (fun k=>g k r) s):Tells (fun k=>(f k).bind (g k)) s:=by
  obtain⟨K,h⟩:=h;obtain⟨K',h'⟩:=h';refine⟨max K K',fun k hk=>?_⟩
  show(f k).bind (g k)=some s
  rw[h k (by omega)]
  exact h' k (by omega)
theorem congr {α:Type} {f g:Nat→Option α} {r:α} (h:Tells g r) (e:∀ k,f k=g k):Tells f r:=by
  obtain⟨K,h⟩:=h;exact⟨K,fun k hk=>(e k).trans (h k hk)⟩
theorem up {α:Type} {f g:Nat→Option α} {r:α} (h:Tells g r) (e:∀ k,f (k+1)=g k):Tells f r:=by
  obtain⟨K,h⟩:=h;refine⟨K+1,fun k hk=>?_⟩
  obtain⟨m,rfl⟩:∃ m,k=m+1:=⟨k - 1,by omega⟩
  exact(e m).trans (h m (by omega))
theorem ite {α:Type} {c:Prop} [Decidable c] {f g:Nat→Option α} {r s:α} (h:c→Tells f r) (h':¬ c→Tells g s):Tells (fun k=>if c then f k else g k) (if c then r else s):=by
  by_cases hc:c
  · simp only[if_pos hc];exact h hc
  · simp only[if_neg hc];exact h' hc
theorem pos {α:Type} {c:Prop} [Decidable c] {f g:Nat→Option α} {r:α} (hc:c) (h:Tells f r):Tells (fun k=>if c then f k else g k) r:=by
  simp only[if_pos hc];exact h
theorem neg {α:Type} {c:Prop} [Decidable c] {f g:Nat→Option α} {r:α} (hc:¬ c) (h:Tells g r):Tells (fun k=>if c then f k else g k) r:=by
  simp only[if_neg hc];exact h
end Tells
theorem wrap64_id {n:Int} (h0:-9223372036854775808≤n) (h1:n < 9223372036854775808):wrap64 n=n:=by
  unfold wrap64;omega
theorem wf64 {n:Int} (h:(Lit.int .i64 n).wf=true):-9223372036854775808≤n∧n < 9223372036854775808:=by
  have h':(decide (-9223372036854775808≤n) && decide (n≤9223372036854775807))=true:=h;simp only[Bool.and_eq_true,decide_eq_true_eq] at h';omega

theorem rd_drop (l:List Int) (i:Nat) (h:i < l.length):l.drop i=rd l (i:Int) :: l.drop (i+1):=by
  rw[List.drop_eq_getElem_cons h];congr 1
  show l[i]=l.getD (i:Int).toNat 0
  simp [h]
theorem rd_at (l:List Int) (i:Nat) (h:i < l.length):rd l (i:Int)=l[i]:=by
  show l.getD (i:Int).toNat 0=_
  simp [h]
theorem rd_mid (A:List Int) (x:Int) (B:List Int):rd (A ++ x :: B) (A.length:Int)=x:=by
  show(A ++ x :: B).getD (A.length:Int).toNat 0=x
  simp
theorem rd_mid' {l A:List Int} {x:Int} {B:List Int} {i:Int} (h:l=A ++ x :: B) (hi:i=(A.length:Int)):rd l i=x:=by
  subst h hi;exact rd_mid A x B
theorem set_mid (A:List Int) (x v:Int) (B:List Int):(A ++ x :: B).set ((A.length:Int)).toNat v=A ++ v :: B:=by simp
theorem set_mid' {l A:List Int} {x v:Int} {B:List Int} {i:Int} (h:l=A ++ x :: B) (hi:i=(A.length:Int)):l.set i.toNat v=A ++ v :: B:=by
  subst h hi;exact set_mid A x v B
theorem rd_mem (l:List Int) (i:Int) (h0:0≤i) (h:i < (l.length:Int)):rd l i ∈ l:=by
  obtain⟨j,rfl⟩:∃ j:Nat,i=(j:Int):=⟨i.toNat,by omega⟩
  rw[rd_at l j (by omega)]
  exact List.getElem_mem _
theorem ext_rd {a b:List Int} (hl:a.length=b.length) (h:∀ i:Nat,i < a.length→rd a (i:Int)=rd b (i:Int)):a=b:=by
  apply List.ext_getElem hl;intro i h1 h2;have:=h i h1;rwa [rd_at a i h1,rd_at b i h2] at this
theorem rd_map (f:Int→Int) (l:List Int) (i:Nat) (h:i < l.length):rd (l.map f) (i:Int)=f (rd l (i:Int)):=by
  rw[rd_at _ i (by simpa using h),rd_at l i h]
  simp
theorem rd_set (l:List Int) (i j:Nat) (v:Int) (h:j < l.length):rd (l.set i v) (j:Int)=if i=j then v else rd l (j:Int):=by
  rw[rd_at _ j (by simpa using h),rd_at l j h,List.getElem_set]
theorem rd_replicate (n i:Nat) (v:Int) (h:i < n):rd (List.replicate n v) (i:Int)=v:=by
  rw[rd_at _ i (by simpa using h)]
  simp
/-- The sum,as the program adds it up. -/
def sumFrom (s:Int):List Int→Int
  | []=>s
  | x :: l=>sumFrom (wrap64 (s+x)) l
/-- All from 0 to most. -/
def inAll (most:Int) (l:List Int):Bool:=l.all fun x=>decide (0≤x) && decide (x≤most)
theorem inAll_iff {m:Int} {l:List Int}:inAll m l=true ↔ ∀ x ∈ l,0≤x∧x≤m:=by
  unfold inAll;simp [List.all_eq_true,Bool.and_eq_true,decide_eq_true_eq]
theorem inAll_cons {m x:Int} {l:List Int}:inAll m (x :: l)=((decide (0≤x) && decide (x≤m)) && inAll m l):=rfl
theorem sum_bounds {m:Int} {l:List Int} (h:inAll m l=true):0≤l.sum∧l.sum≤m * l.length:=by
  induction l with
  | nil=>simp
  | cons x l ih =>
    rw[inAll_cons,Bool.and_eq_true,Bool.and_eq_true,decide_eq_true_eq,decide_eq_true_eq] at h;have:=ih h.2;rw[List.sum_cons,List.length_cons];have e:m * ((l.length+1:Nat):Int)=m * l.length+m:=by rw[Int.natCast_add,Int.mul_add];simp
    omega
theorem sum_mem_le {m:Int} {l:List Int} (h:inAll m l=true):∀ x ∈ l,x≤l.sum:=by
  induction l with
  | nil=>simp
  | cons y l ih =>
    have h':=h;rw[inAll_cons,Bool.and_eq_true,Bool.and_eq_true,decide_eq_true_eq,decide_eq_true_eq] at h';have hb:=sum_bounds h'.2;intro x hx;rw[List.sum_cons];rcases List.mem_cons.1 hx with rfl|hx
    · omega
    · have:=ih h'.2 x hx;omega
theorem sumFrom_eq {m:Int} (l:List Int) (h:inAll m l=true):∀ s,0≤s→0≤m→s+m * l.length < 9223372036854775808→sumFrom s l=s+l.sum:=by
  induction l with
  | nil=>intro s _ _ _;simp [sumFrom]
  | cons x l ih =>
    intro s h0 hm h1;rw[inAll_cons,Bool.and_eq_true,Bool.and_eq_true,decide_eq_true_eq,decide_eq_true_eq] at h;have e:m * ((l.length+1:Nat):Int)=m * l.length+m:=by rw[Int.natCast_add,Int.mul_add];simp
    rw[List.length_cons,e] at h1;have hp:0≤m * (l.length:Int):=Int.mul_nonneg hm (by omega)
    show sumFrom (wrap64 (s+x)) l=_
    rw[wrap64_id (by omega) (by omega),ih h.2 (s+x) (by omega) hm (by omega),List.sum_cons]
    omega
/-- 0,1,..,n - 1 -/
def idx (n:Nat):List Int:=(List.range n).map (fun i:Nat=>(i:Int))
theorem idx_len (n:Nat):(idx n).length=n:=by simp [idx]
theorem idx_succ (n:Nat):idx (n+1)=idx n ++ [(n:Int)]:=by simp [idx,List.range_succ]
theorem mem_idx {n:Nat} {i:Int}:i ∈ idx n ↔ 0≤i∧i < (n:Int):=by
  unfold idx;rw[List.mem_map];constructor
  · rintro ⟨j,hj,rfl⟩
    have:=List.mem_range.1 hj;omega
  · rintro ⟨h0,h1⟩
    exact⟨i.toNat,List.mem_range.2 (by omega),by omega⟩
theorem rd_idx (n i:Nat) (h:i < n):rd (idx n) (i:Int)=i:=by
  rw[rd_at _ i (by rw[idx_len];exact h)]
  simp [idx]
theorem idx_nodup (n:Nat):(idx n).Nodup:=by
  induction n with
  | zero=>simp [idx]
  | succ n ih =>
    rw[idx_succ,List.nodup_append];refine⟨ih,by simp,?_⟩
    intro a ha b hb;rw[List.mem_singleton] at hb;have:=mem_idx.1 ha;omega
theorem map_idx (l:List Int):(idx l.length).map (rd l)=l:=by
  apply ext_rd (by simp [idx_len])
  intro i hi;have hi':i < l.length:=by simpa [idx_len] using hi
  rw[rd_map _ _ i (by rw[idx_len];exact hi'),rd_idx _ _ hi']

structure StOk (l:List Int):Prop where
  pos:0 < l.length
  len:l.length≤512
  rng:∀ i:Nat,i < l.length→-1099511627776≤rd l (i:Int)∧rd l (i:Int)≤1099511627776
theorem both {α:Type} {c:Prop} [Decidable c] {f g:Nat→Option α} {r:α} (h:c→Tells f r) (h':¬ c→Tells g r):Tells (fun k=>if c then f k else g k) r:=by
  by_cases hc:c
  · simp only[if_pos hc];exact h hc
  · simp only[if_neg hc];exact h' hc
theorem wsucc {i n:Nat} (h:i < n) (hn:n≤100000):wrap64 ((i:Int)+1)=((i+1:Nat):Int):=by rw[wrap64_id (by omega) (by omega)];omega
theorem stcheck_loop (l:List Int) (hl:l.length≤1000) (d:Nat):∀ i:Nat,i+d=l.length→∃ r,Tells (fun k=>Azp.l0 k l (l.length:Int) (i:Int)) r∧Tells (fun k=>Azj.l0 k l (i:Int)) (if r≥0 then 1 else 0)∧(¬ r≥0→∀ j:Nat,i≤j→j < l.length→-1099511627776≤rd l (j:Int)∧rd l (j:Int)≤1099511627776):=by
  induction d with
  | zero =>
    intro i hi;refine⟨-1,Tells.up (Tells.const _) (fun k=>?_),Tells.up (Tells.const _) (fun k=>?_),fun _ j h1 h2=>by omega⟩
    · rw[Azp.l0,if_neg (by omega)]
    · rw[Azj.l0,if_neg (by omega),if_neg (by omega)]
  | succ d ih =>
    intro i hi;have e2:=wsucc (i:=i) (n:=l.length) (by omega) (by omega)
    have c1:(i:Int) < (l.length:Int):=by omega
    have c2:(0:Int)≤(i:Int):=by omega
    by_cases h0:rd l (i:Int) < -1099511627776
    · refine⟨(i:Int),Tells.up (Tells.const _) (fun k=>?_),Tells.up (Tells.const _) (fun k=>?_),fun h=>absurd c2 h⟩
      · rw[Azp.l0,if_pos c1,if_pos c2,if_pos c1]
        unfold Ezx.f;rw[if_pos h0,Option.bind_some,if_pos rfl]
      · rw[Azj.l0,if_pos c1,if_pos c2,if_pos h0,if_pos c2]
    by_cases h1:rd l (i:Int) > 1099511627776
    · refine⟨(i:Int),Tells.up (Tells.const _) (fun k=>?_),Tells.up (Tells.const _) (fun k=>?_),fun h=>absurd c2 h⟩
      · rw[Azp.l0,if_pos c1,if_pos c2,if_pos c1]
        unfold Ezx.f;rw[if_neg h0,Option.bind_some,if_pos (decide_eq_true h1)]
      · rw[Azj.l0,if_pos c1,if_pos c2,if_neg h0,if_pos h1,if_pos c2]
    obtain⟨r,a,b,c⟩:=ih (i+1) (by omega)
    refine⟨r,Tells.up a (fun k=>?_),Tells.up b (fun k=>?_),fun hr j hj hj2=>?_⟩
    · rw[Azp.l0,if_pos c1,if_pos c2,if_pos c1]
      unfold Ezx.f;rw[if_neg h0,Option.bind_some,decide_eq_false h1,if_neg (by decide),e2]
    · rw[Azj.l0,if_pos c1,if_pos c2,if_neg h0,if_neg h1,e2]
    · rcases Nat.lt_or_ge i j with hij|hij
      · exact c hr j hij hj2
      · obtain rfl:j=i:=by omega
        exact⟨by omega,by omega⟩
theorem check60 (l:List Int):∃ r,Tells (fun k=>Bzx.f k l) r∧Tells (fun k=>Azj.f k l) r∧(r=0→StOk l):=by
  by_cases h2:(l.length:Int)=0
  · exact⟨10,(Tells.const 10).congr (fun k=>by unfold Bzx.f;rw[if_pos h2]),(Tells.const 10).congr (fun k=>by unfold Azj.f;rw[if_pos h2]),fun h=>absurd h (by decide)⟩
  by_cases h5:(l.length:Int) > 512
  · exact⟨8,(Tells.const 8).congr (fun k=>by unfold Bzx.f;rw[if_neg h2,if_pos h5]),(Tells.const 8).congr (fun k=>by unfold Azj.f;rw[if_neg h2,if_pos h5]),fun h=>absurd h (by decide)⟩
  obtain⟨r,a,b,c⟩:=stcheck_loop l (by omega) l.length 0 (by omega)
  refine⟨if r≥0 then 1 else 0,?_,b.congr (fun k=>by unfold Azj.f;rw[if_neg h2,if_neg h5];rfl),fun h=>?_⟩
  · unfold Bzx.f Bzy.f Azp.f
    simp only[if_neg h2,if_neg h5];refine Tells.bind (a.bind (Tells.const (decide (r≥0)))) ?_;by_cases hr:r≥0
    · simp only[decide_eq_true hr,if_true,if_pos hr];exact Tells.const _
    · simp only[decide_eq_false hr,Bool.false_eq_true,if_false,if_neg hr];exact Tells.const _
  · by_cases hr:r≥0
    · rw[if_pos hr] at h;exact absurd h (by decide)
    · exact⟨by omega,by omega,fun i hi=>c hr i (by omega) hi⟩
theorem awake_tells:Tells (fun k=>Azz.f k) true:=Tells.of (fun k=>Azz.mono k) ⟨300,by decide +kernel⟩
theorem awake_end:Tells (fun k=>(Azz.f k).bind fun t=>(some t)) true:=awake_tells.bind (Tells.const _)
theorem mx_eq (a b:Int):mx a b=max a b:=by unfold mx;split <;> omega

theorem idx_ok (l:List Int) (hl:l.length≤1000) (hr:∀ i:Nat,i < l.length→-1099511627776≤rd l (i:Int)∧rd l (i:Int)≤1099511627776) (d:Nat):∀ i:Nat,i+d=l.length→Tells (fun k=>Azp.l0 k l (l.length:Int) (i:Int)) (-1):=by
  induction d with
  | zero =>
    intro i hi;refine Tells.up (Tells.const _) (fun k=>?_)
    rw[Azp.l0,if_neg (by omega)]
  | succ d ih =>
    intro i hi;have h:=hr i (by omega)
    refine Tells.up (ih (i+1) (by omega)) (fun k=>?_)
    rw[Azp.l0,if_pos (by omega),if_pos (by omega),if_pos (by omega)]
    unfold Ezx.f;rw[if_neg (by omega),Option.bind_some,decide_eq_false (by omega),if_neg (by decide),wsucc (n:=l.length) (by omega) (by omega)]
theorem check_ok {l:List Int} (h:StOk l):Tells (fun k=>Bzx.f k l) 0:=by
  have hp:=h.pos;have hn:=h.len;unfold Bzx.f Bzy.f Azp.f;simp only[if_neg (show ¬ (l.length:Int)=0 by omega),if_neg (show ¬ (l.length:Int) > 512 by omega)]
  refine Tells.bind ((idx_ok l (by omega) h.rng l.length 0 (by omega)).bind (Tells.const (decide ((-1:Int)≥0)))) ?_
  simp only[show decide ((-1:Int)≥0)=false from rfl,Bool.false_eq_true,if_false]
  exact Tells.const _

theorem ssum_loop (l:List Int) (hl:l.length≤1000) (d:Nat):∀ (i:Nat) (s:Int),i+d=l.length→Tells (fun k=>Czp.l0 k s l (l.length:Int) (i:Int)) (sumFrom s (l.drop i)):=by
  induction d with
  | zero =>
    intro i s hi;rw[List.drop_of_length_le (by omega)]
    refine Tells.up (Tells.const _) (fun k=>?_)
    rw[Czp.l0,if_neg (by omega)];rfl
  | succ d ih =>
    intro i s hi;rw[rd_drop l i (by omega)]
    refine Tells.up (ih (i+1) (wrap64 (s+rd l (i:Int))) (by omega)) (fun k=>?_)
    rw[Czp.l0,if_pos (by omega),if_pos (by omega),if_pos (by omega),wsucc (n:=l.length) (by omega) (by omega)]
theorem ssum_tells (l:List Int) (hl:l.length≤1000):Tells (fun k=>Czp.f k l) (sumFrom 0 l):=by
  unfold Czp.f;exact ssum_loop l hl l.length 0 0 (by omega)

/-- The value of a list of limbs. -/
def nv:List Int→Int
  | []=>0
  | x :: xs=>x+1000000000 * nv xs
/-- The base to a power. -/
def LB:Nat→Int
  | 0=>1
  | n+1=>1000000000 * LB n
theorem LB_zero:LB 0=1:=rfl
theorem LB_succ (n:Nat):LB (n+1)=1000000000 * LB n:=rfl
theorem LB_pos (n:Nat):0 < LB n:=by
  induction n with
  | zero=>decide
  | succ n ih=>rw[LB_succ];omega
theorem LB_add (m n:Nat):LB (m+n)=LB m * LB n:=by
  induction m with
  | zero=>rw[Nat.zero_add,LB_zero,Int.one_mul]
  | succ m ih=>rw[Nat.succ_add,LB_succ,LB_succ,ih,Int.mul_assoc]
theorem LB_le {m n:Nat} (h:m≤n):LB m≤LB n:=by
  induction h with
  | refl=>omega
  | step _ ih=>rw[LB_succ];have:=LB_pos m;omega
/-- Limbs in range. -/
def Lim (xs:List Int):Prop:=∀ x ∈ xs,0≤x∧x < 1000000000
theorem Lim.nil:Lim []:=fun _ h=>by simp at h
theorem Lim.cons {x:Int} {xs:List Int} (h:Lim (x :: xs)):(0≤x∧x < 1000000000)∧Lim xs:=⟨h x (by simp),fun y hy=>h y (by simp [hy])⟩
theorem Lim.mk {x:Int} {xs:List Int} (h:0≤x) (h1:x < 1000000000) (h2:Lim xs):Lim (x :: xs):=by
  intro y hy;rcases List.mem_cons.1 hy with rfl|hy
  · exact⟨h,h1⟩
  · exact h2 y hy
theorem Lim.append {xs ys:List Int} (h:Lim xs) (h':Lim ys):Lim (xs ++ ys):=by
  intro y hy;rcases List.mem_append.1 hy with hy|hy
  · exact h y hy
  · exact h' y hy
theorem Lim.left {xs ys:List Int} (h:Lim (xs ++ ys)):Lim xs:=fun y hy=>h y (by simp [hy])
theorem Lim.right {xs ys:List Int} (h:Lim (xs ++ ys)):Lim ys:=fun y hy=>h y (by simp [hy])
theorem Lim.take {xs:List Int} (h:Lim xs) (n:Nat):Lim (xs.take n):=fun y hy=>h y (List.mem_of_mem_take hy)
theorem Lim.drop {xs:List Int} (h:Lim xs) (n:Nat):Lim (xs.drop n):=fun y hy=>h y (List.mem_of_mem_drop hy)
theorem Lim.set {xs:List Int} (h:Lim xs) (i:Nat) {v:Int} (h0:0≤v) (h1:v < 1000000000):Lim (xs.set i v):=by
  intro y hy;rcases List.mem_or_eq_of_mem_set hy with hy|rfl
  · exact h y hy
  · exact⟨h0,h1⟩
theorem Lim.zeros (n:Nat):Lim (List.replicate n 0):=fun y hy=>by
  rw[List.eq_of_mem_replicate hy];omega
theorem Lim.rd {xs:List Int} (h:Lim xs) {i:Int} (h0:0≤i) (h1:i < (xs.length:Int)):0≤rd xs i∧rd xs i < 1000000000:=h _ (rd_mem xs i h0 h1)
theorem nv_append (xs ys:List Int):nv (xs ++ ys)=nv xs+LB xs.length * nv ys:=by
  induction xs with
  | nil=>simp [nv,LB_zero]
  | cons x xs ih =>
    show x+1000000000 * nv (xs ++ ys)=x+1000000000 * nv xs+LB (xs.length+1) * nv ys
    rw[ih,LB_succ,Int.mul_add,Int.mul_assoc];omega
theorem nv_single (x:Int):nv [x]=x:=by simp [nv]
theorem nv_snoc (xs:List Int) (x:Int):nv (xs ++ [x])=nv xs+LB xs.length * x:=by rw[nv_append,nv_single]
theorem nv_zeros (n:Nat):nv (List.replicate n 0)=0:=by
  induction n with
  | zero=>rfl
  | succ n ih=>rw[List.replicate_succ];show 0+1000000000 * nv _=0;rw[ih];rfl
theorem nv_nonneg {xs:List Int} (h:Lim xs):0≤nv xs:=by
  induction xs with
  | nil=>simp [nv]
  | cons x xs ih =>
    have:=ih h.cons.2;have:=h.cons.1;show 0≤x+1000000000 * nv xs
    omega
theorem nv_lt {xs:List Int} (h:Lim xs):nv xs < LB xs.length:=by
  induction xs with
  | nil=>simp [nv,LB_zero]
  | cons x xs ih =>
    have:=ih h.cons.2;have:=h.cons.1;show x+1000000000 * nv xs < LB (xs.length+1)
    rw[LB_succ];omega
/-- No zero stands at the end. -/
def Tight (xs:List Int):Prop:=xs=[]∨rd xs ((xs.length:Int) - 1)≠0
def Can (xs:List Int):Prop:=Lim xs∧Tight xs
theorem Can.lim {xs:List Int} (h:Can xs):Lim xs:=h.1
theorem Can.nil:Can []:=⟨Lim.nil,.inl rfl⟩
theorem rd_cons_succ (x:Int) (xs:List Int) (i:Int) (h:0≤i):rd (x :: xs) (i+1)=rd xs i:=by
  unfold rd;rw[show(i+1).toNat=i.toNat+1 by omega]
  simp
theorem Tight.tail {x:Int} {xs:List Int} (h:Tight (x :: xs)):Tight xs:=by
  cases xs with
  | nil=>exact .inl rfl
  | cons y ys =>
    right
    rcases h with h|h
    · cases h
    · intro e
      apply h;have e1:((x :: y :: ys).length:Int) - 1=(((y :: ys).length:Int) - 1)+1:=by simp only[List.length_cons];omega
      rw[e1,rd_cons_succ _ _ _ (by simp only[List.length_cons];omega)]
      exact e
theorem Can.tail {x:Int} {xs:List Int} (h:Can (x :: xs)):Can xs:=⟨h.1.cons.2,h.2.tail⟩
theorem Can.zero {xs:List Int} (h:Can xs) (h0:nv xs=0):xs=[]:=by
  induction xs with
  | nil=>rfl
  | cons x xs ih =>
    exfalso
    have h1:=h.1.cons.1;have h2:=nv_nonneg h.1.cons.2;have h3:x+1000000000 * nv xs=0:=h0;have e:=ih h.tail (by omega)
    subst e;rcases h.2 with h4|h4
    · cases h4
    · apply h4
      show rd [x] 0=0
      show x=0
      simp only[nv] at h3;omega
theorem Can.ext {xs ys:List Int} (h:Can xs) (h':Can ys) (e:nv xs=nv ys):xs=ys:=by
  induction xs generalizing ys with
  | nil=>exact(h'.zero (by rw[← e];rfl)).symm
  | cons x xs ih =>
    cases ys with
    | nil=>exact h.zero (by rw[e];rfl)
    | cons y ys =>
      have h1:=h.1.cons.1;have h2:=h'.1.cons.1;have e1:x+1000000000 * nv xs=y+1000000000 * nv ys:=e;have e2:x=y:=by omega
      subst e2;rw[ih h.tail h'.tail (by omega)]
/-- The limbs of a number. -/
def digs (n:Nat):List Int:=if h:n=0 then [] else((n % 1000000000:Nat):Int) :: digs (n / 1000000000)
termination_by n
decreasing_by omega
theorem digs_zero:digs 0=[]:=by unfold digs;simp
theorem digs_pos {n:Nat} (h:0 < n):digs n=((n % 1000000000:Nat):Int) :: digs (n / 1000000000):=by
  rw[digs];rw[dif_neg (by omega)]
theorem nv_digs (n:Nat):nv (digs n)=n:=by
  induction n using Nat.strongRecOn with
  | _ n ih =>
    rcases Nat.eq_zero_or_pos n with h|h
    · subst h;rw[digs_zero];rfl
    · rw[digs_pos h]
      show((n % 1000000000:Nat):Int)+1000000000 * nv (digs (n / 1000000000))=n
      rw[ih _ (by omega)]
      omega
theorem lim_digs (n:Nat):Lim (digs n):=by
  induction n using Nat.strongRecOn with
  | _ n ih =>
    rcases Nat.eq_zero_or_pos n with h|h
    · subst h;rw[digs_zero];exact Lim.nil
    · rw[digs_pos h]
      exact Lim.mk (by omega) (by omega) (ih _ (by omega))
theorem can_digs (n:Nat):Can (digs n):=by
  refine⟨lim_digs n,?_⟩;induction n using Nat.strongRecOn with
  | _ n ih =>
    rcases Nat.eq_zero_or_pos n with h|h
    · subst h;rw[digs_zero];exact .inl rfl
    · rw[digs_pos h]
      right
      rcases Nat.eq_zero_or_pos (n / 1000000000) with h1|h1
      · rw[h1,digs_zero]
        show((n % 1000000000:Nat):Int)≠0
        omega
      · rcases ih _ (show n / 1000000000 < n by omega) with h2|h2
        · rw[digs_pos h1] at h2;cases h2
        · rw[List.length_cons,show(((digs (n / 1000000000)).length+1:Nat):Int) - 1=(((digs (n / 1000000000)).length:Int) - 1)+1 by omega,rd_cons_succ _ _ _ (by
            have:0 < (digs (n / 1000000000)).length:=by rw[digs_pos h1];simp
            omega)]
          exact h2
/-- The limbs of an integer that is not negative. -/
def dg (n:Int):List Int:=digs n.toNat
theorem dg_nv {xs:List Int} (h:Can xs):dg (nv xs)=xs:=by
  refine(can_digs _).ext h ?_;show nv (digs (nv xs).toNat)=nv xs
  rw[nv_digs];have:=nv_nonneg h.1;omega
theorem can_dg (n:Int):Can (dg n):=can_digs _
theorem nv_dg {n:Int} (h:0≤n):nv (dg n)=n:=by
  show nv (digs n.toNat)=n
  rw[nv_digs];omega
theorem dg_eq {xs:List Int} {n:Int} (h:Can xs) (e:nv xs=n):xs=dg n:=by rw[← e,dg_nv h]
theorem dg_zero:dg 0=[]:=digs_zero
theorem nv_ge {xs:List Int} (h:Can xs) (hl:0 < xs.length):LB (xs.length - 1)≤nv xs:=by
  induction xs with
  | nil=>simp at hl
  | cons x xs ih =>
    rcases Nat.eq_zero_or_pos xs.length with h0|h0
    · have e:=List.eq_nil_of_length_eq_zero h0
      subst e;have h1:=h.1.cons.1;show LB 0≤x+1000000000 * nv []
      rw[LB_zero];rcases h.2 with h2|h2
      · cases h2
      · have h3:x≠0:=h2
        simp only[nv];omega
    · have h1:=ih h.tail h0
      have h2:=h.1.cons.1;show LB (xs.length+1 - 1)≤x+1000000000 * nv xs
      rw[show xs.length+1 - 1=(xs.length - 1)+1 by omega,LB_succ]
      omega
/-- The number of limbs by the value. -/
theorem len_le {xs:List Int} (h:Can xs) {n:Nat} (e:nv xs < LB n):xs.length≤n:=by
  rcases Nat.lt_or_ge n xs.length with h1|h1
  · exfalso
    have h2:=nv_ge h (by omega)
    have h3:=LB_le (show n≤xs.length - 1 by omega)
    omega
  · exact h1
theorem len_le_iff {xs:List Int} (h:Can xs) (n:Nat):xs.length≤n ↔ nv xs < LB n:=by
  constructor
  · intro h1
    have:=nv_lt h.1;have:=LB_le h1;omega
  · exact len_le h
theorem len_zero_iff {xs:List Int} (h:Can xs):xs.length=0 ↔ nv xs=0:=by
  constructor
  · intro h1;rw[List.eq_nil_of_length_eq_zero h1];rfl
  · intro h1;rw[h.zero h1];rfl
theorem nv_pos {xs:List Int} (h:Can xs) (hl:0 < xs.length):0 < nv xs:=by
  have:=nv_ge h hl;have:=LB_pos (xs.length - 1);omega
theorem len_lt_val {xs ys:List Int} (h:Can xs) (h':Can ys) (hl:xs.length < ys.length):nv xs < nv ys:=by
  have h1:=nv_lt h.1;have h2:=nv_ge h' (by omega)
  have h3:=LB_le (show xs.length≤ys.length - 1 by omega)
  omega
/-- The value of the first limbs. -/
def pv (xs:List Int) (i:Nat):Int:=nv (xs.take i)
theorem pv_zero (xs:List Int):pv xs 0=0:=by simp [pv,nv]
theorem take_succ_rd {xs:List Int} {i:Nat} (h:i < xs.length):xs.take (i+1)=xs.take i ++ [rd xs (i:Int)]:=by
  rw[rd_at xs i h,List.take_succ_eq_append_getElem h]
theorem pv_succ {xs:List Int} {i:Nat} (h:i < xs.length):pv xs (i+1)=pv xs i+LB i * rd xs (i:Int):=by
  unfold pv;rw[take_succ_rd h,nv_snoc,List.length_take,Nat.min_eq_left (by omega)]
theorem pv_all {xs:List Int} {i:Nat} (h:xs.length≤i):pv xs i=nv xs:=by unfold pv;rw[List.take_of_length_le h]
theorem pv_set_le {xs:List Int} {i j:Nat} (v:Int) (h:i≤j):pv (xs.set j v) i=pv xs i:=by
  unfold pv;rw[List.take_set_of_le h]
theorem pv_lt {xs:List Int} (h:Lim xs) {i:Nat} (hi:i≤xs.length):pv xs i < LB i:=by
  have:=nv_lt (h.take i);rwa [List.length_take,Nat.min_eq_left hi] at this
theorem pv_nonneg {xs:List Int} (h:Lim xs) (i:Nat):0≤pv xs i:=nv_nonneg (h.take i)
theorem nv_split (xs:List Int) (i:Nat) (h:i≤xs.length):nv xs=pv xs i+LB i * nv (xs.drop i):=by
  unfold pv;have e:nv xs=nv (xs.take i ++ xs.drop i):=by rw[List.take_append_drop]
  rw[e,nv_append,List.length_take,Nat.min_eq_left h]
/-- The list without the zeros at its end. -/
def trim (xs:List Int):List Int:=dg (nv xs)
theorem trim_can {xs:List Int} (h:Can xs):trim xs=xs:=dg_nv h
theorem nv_trim {xs:List Int} (h:Lim xs):nv (trim xs)=nv xs:=nv_dg (nv_nonneg h)
theorem take_trim {xs:List Int} (h:Lim xs) (n:Nat) (hn:n≤xs.length) (hz:∀ i:Nat,n≤i→i < xs.length→rd xs (i:Int)=0) (hl:n=0∨rd xs ((n:Int) - 1)≠0):xs.take n=trim xs:=by
  have e0:∀ ys:List Int,(∀ i:Nat,i < ys.length→rd ys (i:Int)=0)→nv ys=0:=by
    intro ys;induction ys with
    | nil=>intro _;rfl
    | cons y ys ih =>
      intro hy;show y+1000000000 * nv ys=0
      have h1:y=0:=hy 0 (by simp)
      rw[ih (fun i hi=>by
        have h2:=hy (i+1) (by simpa using hi)
        rwa [show(((i+1:Nat)):Int)=(i:Int)+1 by omega,rd_cons_succ _ _ _ (by omega)] at h2),h1]
      rfl
  have e1:nv (xs.drop n)=0:=e0 _ (fun i hi=>by
    have h2:=hz (n+i) (by omega) (by simp at hi;omega)
    rw[rd_at _ _ (by simp at hi;omega)] at h2
    rw[rd_at _ _ hi,List.getElem_drop];exact h2)
  refine dg_eq ⟨h.take n,?_⟩ ?_
  · rcases hl with hl|hl
    · left;subst hl;simp
    · rcases Nat.eq_zero_or_pos n with h0|h0
      · left;subst h0;simp
      · right
        intro e;apply hl;rw[List.length_take,Nat.min_eq_left hn] at e;rw[show(n:Int) - 1=((n - 1:Nat):Int) by omega] at e ⊢
        rw[rd_at _ _ (by simp;omega)] at e
        rw[rd_at _ _ (by omega)]
        simpa using e
  · have:=nv_split xs n hn
    rw[e1] at this;unfold pv at this;omega

def limbOk (x:Int):Bool:=decide (0≤x) && decide (x < 1000000000)
def lastOk (l:List Int):Bool:=decide (l.length=0) || (rd l ((l.length:Int) - 1) != 0)
def natOk (l:List Int):Bool:=decide (l.length≤48) && (l.all limbOk && lastOk l)
theorem limbs_iff {l:List Int}:l.all limbOk=true ↔ Lim l:=by
  unfold limbOk Lim;simp [List.all_eq_true,Bool.and_eq_true,decide_eq_true_eq]
theorem lastOk_iff {l:List Int}:lastOk l=true ↔ Tight l:=by
  unfold lastOk Tight;simp only[Bool.or_eq_true,decide_eq_true_eq,bne_iff_ne,ne_eq,List.length_eq_zero_iff]
theorem natOk_iff {l:List Int}:natOk l=true ↔ Can l∧l.length≤48:=by
  unfold natOk Can;rw[Bool.and_eq_true,Bool.and_eq_true,limbs_iff,lastOk_iff,decide_eq_true_eq];exact⟨fun h=>⟨h.2,h.1⟩,fun h=>⟨h.2,h.1⟩⟩
theorem natOk_dg {n:Int} (h:n < LB 48):natOk (dg n)=true:=by
  rw[natOk_iff];refine⟨can_dg n,?_⟩;rcases Int.lt_or_le n 0 with h0|h0
  · have:dg n=[]:=by unfold dg;rw[show n.toNat=0 by omega];exact digs_zero
    rw[this];simp
  · exact len_le (can_dg n) (by rw[nv_dg h0];exact h)
theorem natOk_nil:natOk []=true:=rfl
theorem valid_loop (l:List Int) (h48:l.length≤48) (d:Nat):∀ i:Nat,i+d=l.length→Tells (fun k=>Azk.l0 k l (l.length:Int) (i:Int)) ((l.drop i).all limbOk && lastOk l):=by
  induction d with
  | zero =>
    intro i hi;refine Tells.up (g:=fun _=>some (lastOk l)) ?_ (fun k=>?_)
    · rw[List.drop_eq_nil_of_le (by omega)]
      exact Tells.const _
    · simp only[Azk.l0]
      rw[if_neg (by omega)]
      unfold lastOk;by_cases h0:l.length=0
      · rw[if_pos (by omega),decide_eq_true h0];rfl
      · rw[if_neg (by omega),decide_eq_false h0,wrap64_id (by omega) (by omega),if_pos (by omega),if_pos (by omega)];rfl
  | succ d ih =>
    intro i hi;rw[rd_drop l i (by omega),List.all_cons]
    unfold limbOk;by_cases h1:rd l (i:Int) < 0
    · refine Tells.up (g:=fun _=>some false) ?_ (fun k=>?_)
      · rw[decide_eq_false (by omega:¬ 0≤rd l (i:Int))];exact Tells.const _
      · simp only[Azk.l0]
        rw[if_pos (by omega),if_pos (by omega),if_pos (by omega),if_pos h1]
    · by_cases h2:rd l (i:Int)≥1000000000
      · refine Tells.up (g:=fun _=>some false) ?_ (fun k=>?_)
        · rw[decide_eq_false (by omega:¬ rd l (i:Int) < 1000000000),Bool.and_false];exact Tells.const _
        · simp only[Azk.l0]
          rw[if_pos (by omega),if_pos (by omega),if_pos (by omega),if_neg h1,if_pos h2]
      · refine Tells.up (g:=fun k=>Azk.l0 k l (l.length:Int) ((i+1:Nat):Int)) ?_ (fun k=>?_)
        · rw[decide_eq_true (by omega:0≤rd l (i:Int)),decide_eq_true (by omega:rd l (i:Int) < 1000000000),Bool.and_true,Bool.true_and]
          exact ih (i+1) (by omega)
        · simp only[Azk.l0]
          rw[if_pos (by omega),if_pos (by omega),if_pos (by omega),if_neg h1,if_neg h2,wrap64_id (by omega) (by omega)]
          rfl
theorem Valid_tells (l:List Int):Tells (fun k=>Azk.f k l) (natOk l):=by
  unfold Azk.f natOk;by_cases h:(l.length:Int) > 48
  · rw[decide_eq_false (by omega:¬ l.length≤48)]
    exact Tells.pos h (Tells.const _)
  · rw[decide_eq_true (by omega:l.length≤48),Bool.true_and]
    have:=valid_loop l (by omega) l.length 0 (by omega)
    exact Tells.neg h (by simpa using this)
theorem trimmed_loop (x:List Int) (hx:Lim x) (hb:x.length < 4611686018427387904) (d:Nat):d≤x.length→(∀ i:Nat,d≤i→i < x.length→rd x (i:Int)=0)→Tells (fun k=>Bzw.l0 k x (d:Int)) (trim x):=by
  induction d with
  | zero =>
    intro hd hz;refine Tells.up (g:=fun _=>some (trim x)) (Tells.const _) (fun k=>?_)
    simp only[Bzw.l0];rw[if_neg (by omega),if_pos (by omega),if_pos (by omega)]
    rw[show((0:Nat):Int).toNat=0 by omega,take_trim hx 0 (by omega) hz (.inl rfl)]
  | succ d ih =>
    intro hd hz;by_cases h0:rd x (d:Int)=0
    · refine Tells.up (g:=fun k=>Bzw.l0 k x (d:Int)) (ih (by omega) (fun i h1 h2=>?_)) (fun k=>?_)
      · rcases Nat.eq_or_lt_of_le h1 with e|e
        · rw[← e];exact h0
        · exact hz i e h2
      · simp only[Bzw.l0]
        rw[if_pos (by omega),wrap64_id (by omega) (by omega),show((d+1:Nat):Int) - 1=(d:Int) by omega,if_pos (by omega),if_pos (by omega),if_pos h0]
    · refine Tells.up (g:=fun _=>some (trim x)) (Tells.const _) (fun k=>?_)
      simp only[Bzw.l0];rw[if_pos (by omega),wrap64_id (by omega) (by omega),show((d+1:Nat):Int) - 1=(d:Int) by omega,if_pos (by omega),if_pos (by omega),if_neg h0,if_pos (by omega),if_pos (by omega)]
      rw[show((d+1:Nat):Int).toNat=d+1 by omega,take_trim hx (d+1) hd hz (.inr (by rw[show((d+1:Nat):Int) - 1=(d:Int) by omega];exact h0))]
theorem trimmed_tells {x:List Int} (hx:Lim x) (hb:x.length < 4611686018427387904):Tells (fun k=>Bzw.f k x) (trim x):=by
  unfold Bzw.f;exact trimmed_loop x hx hb x.length (Nat.le_refl _) (fun i h1 h2=>absurd h2 (by omega))
theorem padded_eq (l:List Int) (n:Nat) (hn:n≤1000000) (hl:l.length≤1000000):Dzm.f l (n:Int)=some (l ++ List.replicate (n - l.length) 0):=by
  unfold Dzm.f Ezm.f;have hm:mx (n:Int) (l.length:Int)=((max n l.length:Nat):Int):=by
    unfold mx;split <;> omega
  rw[hm,if_pos (by omega),if_pos (by omega),show(((max n l.length:Nat):Int)).toNat=max n l.length by omega]
  simp only[Option.bind_some];rw[List.length_replicate,List.take_of_length_le (by omega),List.drop_replicate]
  rw[show max n l.length - l.length=n - l.length by omega]
theorem padded_self (l:List Int) (hl:l.length≤1000000):Dzm.f l (l.length:Int)=some l:=by
  rw[padded_eq l l.length hl hl];simp
/-- A value as limbs,or the error of overflow. -/
def fitv (v:Int):List Int × Int:=if v < LB 48 then(dg v,0) else([],2)
theorem fitted_tells {x:List Int} (hx:Lim x) (hb:x.length < 4611686018427387904):Tells (fun k=>Dzy.f k x) (fitv (nv x)):=by
  unfold Dzy.f;refine(trimmed_tells hx hb).bind ?_;have hc:Can (trim x):=can_dg _;have hn:nv (trim x)=nv x:=nv_trim hx;unfold fitv;have h1:=len_le_iff hc 48;rw[hn] at h1;by_cases h:nv x < LB 48
  · rw[if_pos h]
    exact Tells.neg (by have:=h1.2 h;omega) (Tells.const _)
  · rw[if_neg h]
    refine Tells.pos ?_ (Tells.const _);rcases Nat.lt_or_ge 48 (trim x).length with h2|h2
    · omega
    · exact absurd (h1.1 h2) h
theorem nv_set:∀ (x:List Int) (i:Nat) (v:Int),i < x.length→nv (x.set i v)=nv x+LB i * (v - rd x (i:Int))
  | [],i,v,h=>by simp at h
  | a :: x,0,v,h=>by
    show v+1000000000 * nv x=a+1000000000 * nv x+LB 0 * (v - a)
    rw[LB_zero];omega
  | a :: x,i+1,v,h=>by
    show a+1000000000 * nv (x.set i v)=a+1000000000 * nv x+LB (i+1) * (v - rd (a :: x) ((i+1:Nat):Int))
    rw[nv_set x i v (by simpa using h),show(((i+1:Nat)):Int)=(i:Int)+1 by omega,rd_cons_succ _ _ _ (by omega),LB_succ,Int.mul_add,Int.mul_assoc]
    omega
theorem nv_drop {l:List Int} {i:Nat} (h:i < l.length):nv (l.drop i)=rd l (i:Int)+1000000000 * nv (l.drop (i+1)):=by
  rw[rd_drop l i h];rfl
theorem nv_drop_all {l:List Int} {i:Nat} (h:l.length≤i):nv (l.drop i)=0:=by
  rw[List.drop_eq_nil_of_le h];rfl
/-- How two numbers compare. -/
def cmpI (x y:Int):Int:=if x < y then -1 else if x > y then 1 else 0
theorem compare_loop (a b:List Int) (ha:Lim a) (hb:Lim b) (hl:a.length=b.length) (hn:a.length≤1000000) (d:Nat):d≤a.length→Tells (fun k=>Bzm.l0 k a b ((d:Int) - 1)) (cmpI (pv a d) (pv b d)):=by
  induction d with
  | zero =>
    intro _;refine Tells.up (g:=fun _=>some 0) ?_ (fun k=>?_)
    · rw[pv_zero,pv_zero];exact Tells.const _
    · simp only[Bzm.l0];rw[if_neg (by omega)]
  | succ d ih =>
    intro hd;have h1:=pv_succ (xs:=a) (i:=d) (by omega)
    have h2:=pv_succ (xs:=b) (i:=d) (by omega)
    have h3:=pv_lt ha (i:=d) (by omega)
    have h4:=pv_lt hb (i:=d) (by omega)
    have h5:=pv_nonneg ha d;have h6:=pv_nonneg hb d;rw[show((d+1:Nat):Int) - 1=(d:Int) by omega]
    rcases Int.lt_trichotomy (rd a (d:Int)) (rd b (d:Int)) with h|h|h
    · have h7:LB d * (rd a (d:Int)+1)≤LB d * rd b (d:Int):=Int.mul_le_mul_of_nonneg_left (by omega) (by have:=LB_pos d;omega)
      rw[Int.mul_add] at h7;refine Tells.up (g:=fun _=>some (-1)) ?_ (fun k=>?_)
      · rw[show cmpI (pv a (d+1)) (pv b (d+1))=-1 by unfold cmpI;rw[if_pos (by omega)]];exact Tells.const _
      · simp only[Bzm.l0];rw[if_pos (by omega),if_pos (by omega),if_pos (by omega),if_pos (by omega),if_pos h]
    · refine Tells.up (g:=fun k=>Bzm.l0 k a b ((d:Int) - 1)) ?_ (fun k=>?_)
      · have e:cmpI (pv a (d+1)) (pv b (d+1))=cmpI (pv a d) (pv b d):=by
          rw[h1,h2,h];unfold cmpI;by_cases e1:pv a d < pv b d
          · rw[if_pos e1,if_pos (by omega)]
          · rw[if_neg e1,if_neg (by omega)]
            by_cases e2:pv a d > pv b d
            · rw[if_pos e2,if_pos (by omega)]
            · rw[if_neg e2,if_neg (by omega)]
        rw[e];exact ih (by omega)
      · simp only[Bzm.l0]
        rw[if_pos (by omega),if_pos (by omega),if_pos (by omega),if_pos (by omega),if_neg (by omega),if_neg (by omega),wrap64_id (by omega) (by omega)]
    · have h7:LB d * (rd b (d:Int)+1)≤LB d * rd a (d:Int):=Int.mul_le_mul_of_nonneg_left (by omega) (by have:=LB_pos d;omega)
      rw[Int.mul_add] at h7;refine Tells.up (g:=fun _=>some 1) ?_ (fun k=>?_)
      · rw[show cmpI (pv a (d+1)) (pv b (d+1))=1 by unfold cmpI;rw[if_neg (by omega),if_pos (by omega)]];exact Tells.const _
      · simp only[Bzm.l0];rw[if_pos (by omega),if_pos (by omega),if_pos (by omega),if_pos (by omega),if_neg (by omega),if_pos h]
theorem compare_tells {a b:List Int} (ha:Can a) (hb:Can b) (hn:a.length≤1000000) (hm:b.length≤1000000):Tells (fun k=>Bzm.f k a b) (cmpI (nv a) (nv b)):=by
  unfold Bzm.f;by_cases hl:(a.length:Int)=(b.length:Int)
  · refine Tells.pos hl ?_
    have h:=compare_loop a b ha.1 hb.1 (by omega) hn a.length (Nat.le_refl _)
    rw[pv_all (Nat.le_refl _),pv_all (by omega)] at h
    refine h.congr (fun k=>?_)
    rw[wrap64_id (by omega) (by omega)]
  · refine Tells.neg hl ?_
    by_cases h:(a.length:Int) < (b.length:Int)
    · have:=len_lt_val ha hb (by omega)
      rw[show cmpI (nv a) (nv b)=-1 by unfold cmpI;rw[if_pos (by omega)]]
      exact Tells.pos h (Tells.const _)
    · have:=len_lt_val hb ha (by omega)
      rw[show cmpI (nv a) (nv b)=1 by unfold cmpI;rw[if_neg (by omega),if_pos (by omega)]]
      exact Tells.neg h (Tells.const _)
theorem cmpI_neg {x y:Int}:cmpI x y < 0 ↔ x < y:=by
  unfold cmpI;by_cases h:x < y
  · rw[if_pos h];omega
  · rw[if_neg h]
    by_cases h':x > y
    · rw[if_pos h'];omega
    · rw[if_neg h'];omega
/-- Of: the limbs of an integer. -/
theorem Of_loop (m:Nat):∀ (n:Int) (acc:List Int),0≤n→n < LB m→m≤100→acc.length+m < 1000000→n < 9223372036854775808→Tells (fun k=>Dzq.l0 k n acc) (acc ++ dg n,0):=by
  induction m with
  | zero =>
    intro n acc h0 h1 _ _ _;rw[LB_zero] at h1;obtain rfl:n=0:=by omega
    refine Tells.up (g:=fun _=>some (acc,0)) ?_ (fun k=>?_)
    · rw[dg_zero,List.append_nil];exact Tells.const _
    · simp only[Dzq.l0];rw[if_neg (by omega)]
  | succ m ih =>
    intro n acc h0 h1 hm hl hn;rw[LB_succ] at h1;rcases Int.lt_or_eq_of_le h0 with hp|hp
    · have e1:Int.tdiv n 1000000000=n / 1000000000:=Int.tdiv_eq_ediv_of_nonneg h0
      have e2:Int.tmod n 1000000000=n % 1000000000:=Int.tmod_eq_emod_of_nonneg h0;refine Tells.up (g:=fun k=>Dzq.l0 k (n / 1000000000) (acc ++ [n % 1000000000])) ?_ (fun k=>?_)
      · have h:=ih (n / 1000000000) (acc ++ [n % 1000000000]) (by omega) (by have:=LB_pos m;omega) (by omega) (by simp;omega) (by omega)
        have e3:dg n=n % 1000000000 :: dg (n / 1000000000):=by
          unfold dg;rw[digs_pos (by omega),show n.toNat / 1000000000=(n / 1000000000).toNat by omega]
          congr 1;omega
        rw[e3];simpa using h
      · simp only[Dzq.l0]
        rw[if_pos (by omega),if_pos (by omega),e1,e2,wrap64_id (by omega) (by omega)]
    · subst hp
      refine Tells.up (g:=fun _=>some (acc,0)) ?_ (fun k=>?_)
      · rw[dg_zero,List.append_nil];exact Tells.const _
      · simp only[Dzq.l0];rw[if_neg (by omega)]
theorem LB3:LB 3=1000000000000000000000000000:=by decide
theorem LB2:LB 2=1000000000000000000:=by decide
theorem Of_tells {n:Int} (h0:0≤n) (h1:n < 9223372036854775808):Tells (fun k=>Dzq.f k n) (dg n,0):=by
  unfold Dzq.f;refine Tells.neg (by omega) ?_
  have:=Of_loop 3 n [] h0 (by rw[LB3];omega) (by omega) (by simp) h1
  simpa using this
theorem small_tells {l:List Int} (h:Lim l) (hl:l.length≤2):Tells (fun k=>Czv.f k l) (nv l):=by
  unfold Czv.f;match l,h,hl with
  | [],_,_ =>
    refine⟨1,fun k hk=>?_⟩
    obtain⟨m,rfl⟩:∃ m,k=m+1:=⟨k - 1,by omega⟩
    show Czv.l0 (m+1) [] 0 (wrap64 (((0:Nat):Int) - 1))=some 0
    rw[show wrap64 (((0:Nat):Int) - 1)=-1 by unfold wrap64;omega]
    simp only[Czv.l0];rw[if_neg (by omega)]
  | [a],h,_ =>
    have h1:=h.cons.1;refine⟨2,fun k hk=>?_⟩
    obtain⟨m,rfl⟩:∃ m,k=m+1+1:=⟨k - 2,by omega⟩
    show Czv.l0 (m+1+1) [a] 0 (wrap64 (((1:Nat):Int) - 1))=some (a+1000000000 * 0)
    rw[show wrap64 (((1:Nat):Int) - 1)=0 by unfold wrap64;omega]
    simp only[Czv.l0];rw[if_pos (by omega),if_pos (by omega),if_pos (by simp)]
    rw[if_neg (by rw[wrap64_id] <;> omega)]
    show some (wrap64 (wrap64 (0 * 1000000000)+a))=_
    rw[wrap64_id (n:=0 * 1000000000) (by omega) (by omega),wrap64_id (by omega) (by omega)]
    congr 1;omega
  | [a,b],h,_ =>
    have h1:=h.cons.1;have h2:=h.cons.2.cons.1;refine⟨3,fun k hk=>?_⟩
    obtain⟨m,rfl⟩:∃ m,k=m+1+1+1:=⟨k - 3,by omega⟩
    show Czv.l0 (m+1+1+1) [a,b] 0 (wrap64 (((2:Nat):Int) - 1))=some (a+1000000000 * (b+1000000000 * 0))
    rw[show wrap64 (((2:Nat):Int) - 1)=1 by unfold wrap64;omega]
    simp only[Czv.l0];have e1:wrap64 ((1:Int) - 1)=0:=by unfold wrap64;omega
    rw[if_pos (by omega),if_pos (by omega),if_pos (by simp),e1,if_pos (by omega),if_pos (by omega),if_pos (by simp)]
    rw[if_neg (by rw[wrap64_id] <;> omega)]
    show some (wrap64 (wrap64 (wrap64 (wrap64 (0 * 1000000000)+b) * 1000000000)+a))=_
    rw[wrap64_id (n:=0 * 1000000000) (by omega) (by omega),wrap64_id (n:=0 * 1000000000+b) (by omega) (by omega),wrap64_id (n:=(0 * 1000000000+b) * 1000000000) (by omega) (by omega),wrap64_id (by omega) (by omega)]
    congr 1;omega

theorem idiv_of {V Q m r:Int} (h:V=Q * m+r) (h0:0≤r) (h1:r < m):V / m=Q∧V % m=r:=by
  have hm:0 < m:=by omega
  have e:V=r+m * Q:=by rw[h,Int.mul_comm m Q,Int.add_comm]
  constructor
  · rw[e,Int.add_mul_ediv_left _ _ (by omega),Int.ediv_eq_zero_of_lt h0 h1,Int.zero_add]
  · rw[e,Int.add_mul_emod_self_left,Int.emod_eq_of_lt h0 h1]
theorem short_step {r x m:Int} (h0:0≤r) (h1:r < m) (hx:0≤x) (hx1:x < 1000000000) (hm:m < 1000000000) :
    wrap64 (wrap64 (r * 1000000000)+x)=r * 1000000000+x∧Int.tdiv (r * 1000000000+x) m=(r * 1000000000+x) / m∧Int.tmod (r * 1000000000+x) m=(r * 1000000000+x) % m∧0≤(r * 1000000000+x) % m∧(r * 1000000000+x) % m < m∧0≤(r * 1000000000+x) / m∧(r * 1000000000+x) / m < 1000000000∧wrap64 ((r * 1000000000+x) / m)=(r * 1000000000+x) / m:=by
  have hs:0≤r * 1000000000+x:=by omega
  have a1:=Int.emod_nonneg (r * 1000000000+x) (show m≠0 by omega)
  have a2:=Int.emod_lt_of_pos (r * 1000000000+x) (show 0 < m by omega)
  have a3:=Int.ediv_nonneg hs (show 0≤m by omega)
  have a4:(r * 1000000000+x) / m < 1000000000:=Int.ediv_lt_of_lt_mul (by omega) (by omega)
  exact⟨by rw[wrap64_id (n:=r * 1000000000) (by omega) (by omega),wrap64_id (by omega) (by omega)],Int.tdiv_eq_ediv_of_nonneg hs,Int.tmod_eq_emod_of_nonneg hs,a1,a2,a3,a4,wrap64_id (by omega) (by omega)⟩
theorem short_alg (P s q r m x o rest:Int) (e:r+m * q=rest * 1000000000+x):(o+P * q) * m+(r * P)=o * m+(rest * (1000000000 * P)+P * x):=by grind
theorem short_loop (a:List Int) (ha:Lim a) (hn:a.length≤1000000) (m:Int) (hm0:0 < m) (hm:m < 1000000000) (i:Nat):∀ (x:List Int) (r:Int),i≤a.length→x.length=a.length→Lim x→(∀ j:Nat,j < i→rd x (j:Int)=0)→0≤r→r < m→nv a=nv x * m+(r * LB i+pv a i) →
    Tells (fun k=>Czj.l0 k a m x r ((i:Int) - 1)) (dg (nv a / m),dg (nv a % m)):=by
  induction i with
  | zero =>
    intro x r hi hx hl hz h0 h1 hv;rw[LB_zero,Int.mul_one,pv_zero,Int.add_zero] at hv;obtain⟨e1,e2⟩:=idiv_of hv h0 h1;have hr:Lim [r]:=Lim.mk h0 (Int.lt_trans h1 hm) Lim.nil;refine Tells.up (g:=fun k=>(Bzw.f k x).bind fun t=>((Bzw.f k [r]).bind fun t2=>(some (t,t2)))) ?_ (fun k=>?_)
    · rw[e1,e2]
      have h2:x.length < 4611686018427387904:=by rw[hx];clear hv e1 e2;omega
      have h3:=trimmed_tells hr (by simp)
      unfold trim at h3;rw[nv_single] at h3;exact(trimmed_tells hl h2).bind (h3.bind (Tells.const _))
    · simp only[Czj.l0];rw[if_neg (by decide)]
  | succ i ih =>
    intro x r hi hx hl hz h0 h1;have i1:i < a.length:=by omega
    have i2:i < x.length:=by omega
    have i3:(0:Int)≤(i:Int):=by omega
    have i4:(i:Int) < (a.length:Int):=by omega
    have i5:(i:Int) < (x.length:Int):=by omega
    have i6:((i+1:Nat):Int) - 1=(i:Int):=by omega
    have i7:wrap64 ((i:Int) - 1)=(i:Int) - 1:=wrap64_id (by omega) (by omega)
    have i8:∀ j:Nat,j < i→¬ (i=j)∧j < x.length∧j < i+1:=fun j hj=>by omega
    have i9:m≠0:=by omega
    have i10:((i:Int)).toNat=i:=by omega
    have i11:i≤a.length:=by omega
    have i12:i < i+1:=by omega
    intro hv;have hr:=ha.rd i3 i4;obtain⟨e1,e2,e3,b1,b2,b3,b4,b5⟩:=short_step h0 h1 hr.1 hr.2 hm;have hz0:=hz i i12;rw[i6];refine Tells.up (g:=fun k=>Czj.l0 k a m (x.set i ((r * 1000000000+rd a (i:Int)) / m)) ((r * 1000000000+rd a (i:Int)) % m) ((i:Int) - 1)) ?_ (fun k=>?_)
    · refine ih _ _ i11 (by simpa using hx) (hl.set _ b3 b4) (fun j hj=>?_) b1 b2 ?_
      · rw[rd_set x _ j _ (i8 j hj).2.1,if_neg (i8 j hj).1];exact hz j (i8 j hj).2.2
      · rw[nv_set x i _ i2,hz0,Int.sub_zero,hv,pv_succ i1,LB_succ]
        have h:=Int.emod_add_mul_ediv (r * 1000000000+rd a (i:Int)) m;grind
    · simp only[Czj.l0]
      rw[if_pos i3,if_pos i3,if_pos i4,if_neg i9,if_pos i5,e1,e2,e3,b5,i7,i10]
theorem short_tells {a:List Int} (ha:Lim a) (hn:a.length≤1000000) {m:Int} (hm0:0 < m) (hm:m < 1000000000):Tells (fun k=>Czj.f k a m) (dg (nv a / m),dg (nv a % m)):=by
  unfold Czj.f;have h:=short_loop a ha hn m hm0 hm a.length (List.replicate a.length 0) 0 (Nat.le_refl _) (by simp) (Lim.zeros _) (fun j hj=>rd_replicate _ j 0 hj) (by omega) hm0 (by rw[nv_zeros,pv_all (Nat.le_refl _)];omega)
  refine Tells.pos (by omega) (Tells.pos (by omega) ?_)
  refine h.congr (fun k=>?_)
  rw[wrap64_id (by omega) (by omega),show((a.length:Int)).toNat=a.length by omega]

theorem divided_short {a b:List Int} (ha:Can a) (hb:Can b) (hal:a.length≤1000) (h1:b.length=1):Tells (fun k=>Czb.f k a b) (dg (nv a / nv b),dg (nv a % nv b)):=by
  unfold Czb.f;refine(compare_tells ha hb (by omega) (by omega)).bind ?_
  have hb0:=nv_pos hb (by omega)
  have ha0:=nv_nonneg ha.1;by_cases hlt:nv a < nv b
  · refine Tells.pos (cmpI_neg.2 hlt) ?_
    rw[Int.ediv_eq_zero_of_lt ha0 hlt,Int.emod_eq_of_lt ha0 hlt,dg_zero,padded_self a (by omega)]
    show Tells (fun k=>(Bzw.f k a).bind fun t=>some (([]:List Int),t)) _
    have h:=trimmed_tells ha.1 (by omega)
    unfold trim at h;exact h.bind (Tells.const _)
  · refine Tells.neg (fun h=>hlt (cmpI_neg.1 h)) ?_
    refine Tells.pos (by omega) (Tells.pos (by omega) ?_)
    have hr:=hb.1.rd (i:=0) (by omega) (by omega)
    have hbv:nv b=rd b 0:=by
      match b,h1 with
      | [x],_=>show x+1000000000 * 0=x;omega
    have h2:=short_tells ha.1 (by omega) (m:=rd b 0) (by omega) hr.2
    rw[hbv];exact h2.bind (Tells.const _)
theorem DivMod_short {a b:List Int} (ha:natOk a=true) (hb:natOk b=true) (h1:b.length=1):Tells (fun k=>Czq.f k a b) (dg (nv a / nv b),dg (nv a % nv b),0):=by
  unfold Czq.f;refine(Valid_tells a).bind ?_;refine Tells.pos ha ((Valid_tells b).bind ?_);rw[hb];obtain⟨ca,la⟩:=natOk_iff.1 ha;obtain⟨cb,lb⟩:=natOk_iff.1 hb;refine Tells.up (g:=fun k=>(Czb.f k a b).bind fun bt=>(some (bt.1,bt.2,0))) ?_ (fun k=>by simp only[Czq.j0];rw[if_neg (by decide),if_neg (by omega)])
  exact(divided_short ca cb (by omega) h1).bind (Tells.const _)
/-- The greatest common divisor of numbers that are not negative. -/
def gI (x y:Int):Int:=((Nat.gcd x.toNat y.toNat:Nat):Int)
theorem gI_zero {x:Int} (h:0≤x):gI x 0=x:=by unfold gI;simp;omega
theorem gI_step {x y:Int} (hx:0≤x) (hy:0 < y):gI x y=gI y (x % y):=by
  unfold gI;have e:(x % y).toNat=x.toNat % y.toNat:=by
    obtain⟨n,rfl⟩:=Int.eq_ofNat_of_zero_le hx;obtain⟨m,rfl⟩:=Int.eq_ofNat_of_zero_le (Int.le_of_lt hy);show(((n:Int) % (m:Int))).toNat=((n:Int)).toNat % ((m:Int)).toNat
    rw[← Int.natCast_emod];rfl
  rw[e,Nat.gcd_comm,Nat.gcd_rec,Nat.gcd_comm]
theorem gI_nonneg (x y:Int):0≤gI x y:=by unfold gI;omega
theorem gI_le {x y:Int} (hx:0 < x):gI x y≤x:=by
  unfold gI;have:=Nat.gcd_le_left y.toNat (show 0 < x.toNat by omega)
  omega
theorem Gcd_small (n:Nat):∀ (x y:Int),y.toNat≤n→0≤x→0≤y→x < 9223372036854775808→y < 9223372036854775808→Tells (fun k=>Bzk.l1 k x y) (dg (gI x y),0):=by
  induction n with
  | zero =>
    intro x y h1 h2 h3 h4 _;obtain rfl:y=0:=by omega
    refine Tells.up (g:=fun k=>(Dzq.f k x).bind fun bt=>(some (bt.1,bt.2))) ?_ (fun k=>by simp only[Bzk.l1];rw[if_neg (by omega)])
    rw[gI_zero h2];exact(Of_tells h2 h4).bind (Tells.const _)
  | succ n ih =>
    intro x y h1 h2 h3 h4 h5;rcases Int.lt_or_eq_of_le h3 with h|h
    · have e1:Int.tmod x y=x % y:=Int.tmod_eq_emod_of_nonneg h2
      have b1:=Int.emod_nonneg x (show y≠0 by omega)
      have b2:=Int.emod_lt_of_pos x h;refine Tells.up (g:=fun k=>Bzk.l1 k y (x % y)) ?_ (fun k=>by simp only[Bzk.l1];rw[if_pos (by omega),if_neg (by omega),e1])
      rw[gI_step h2 h];exact ih y (x % y) (by omega) h3 b1 h5 (by omega)
    · subst h
      refine Tells.up (g:=fun k=>(Dzq.f k x).bind fun bt=>(some (bt.1,bt.2))) ?_ (fun k=>by simp only[Bzk.l1];rw[if_neg (by omega)])
      rw[gI_zero h2];exact(Of_tells h2 h4).bind (Tells.const _)
theorem Gcd_j2 {x y:List Int} (hx:Can x) (hy:Can y) (hxl:x.length≤1000) (h:y.length=0∨x.length≤2∧y.length≤2):Tells (fun k=>Bzk.j2 k x y) (dg (gI (nv x) (nv y)),0):=by
  by_cases h0:y.length=0
  · have e:nv y=0:=(len_zero_iff hy).1 h0
    rw[e,gI_zero (nv_nonneg hx.1)];refine Tells.up (g:=fun k=>(Dzm.f x (x.length:Int)).bind fun t=>((Bzw.f k t).bind fun t2=>(some (t2,0)))) ?_ (fun k=>by simp only[Bzk.j2];rw[if_pos (by omega)])
    rw[padded_self x (by omega)]
    have h:=trimmed_tells hx.1 (by omega)
    unfold trim at h;exact h.bind (Tells.const _)
  · obtain⟨l1,l2⟩:=h.resolve_left h0
    refine Tells.up (g:=fun k=>(Czv.f k x).bind fun t=>((Czv.f k y).bind fun t2=>(Bzk.l1 k t t2))) ?_ (fun k=>by simp only[Bzk.j2];rw[if_neg (by omega)])
    have b1:=nv_lt hx.1;have b2:=nv_lt hy.1;have b3:=LB_le l1;have b4:=LB_le l2;rw[LB2] at b3 b4;exact(small_tells hx.1 l1).bind ((small_tells hy.1 l2).bind (Gcd_small (nv y).toNat _ _ (Nat.le_refl _) (nv_nonneg hx.1) (nv_nonneg hy.1) (by omega) (by omega)))
theorem Gcd_short {a b:List Int} (ha:natOk a=true) (hb:natOk b=true) (la:a.length≤2) (lb:b.length≤2):Tells (fun k=>Bzk.f k a b) (dg (gI (nv a) (nv b)),0):=by
  unfold Bzk.f;refine(Valid_tells a).bind ?_;refine Tells.pos ha ((Valid_tells b).bind ?_);rw[hb];obtain⟨ca,_⟩:=natOk_iff.1 ha;obtain⟨cb,_⟩:=natOk_iff.1 hb;refine Tells.up (g:=fun k=>Bzk.l0 k a b) ?_ (fun k=>by simp [Bzk.j0])
  by_cases h0:b.length=0
  · exact Tells.up (Gcd_j2 ca cb (by omega) (.inl h0)) (fun k=>by simp only[Bzk.l0];rw[if_neg (by omega)])
  · exact Tells.up (Gcd_j2 ca cb (by omega) (.inr ⟨la,lb⟩)) (fun k=>by simp only[Bzk.l0];rw[if_pos (by omega),if_neg (by omega),if_neg (by omega)])
def redR (n:Bool) (P Q:Int):Bool × List Int × List Int × Int:=(n && decide (P≠0),dg (P / gI P Q),dg (Q / gI P Q),0)
theorem gI_pos {P Q:Int} (hQ:0 < Q):0 < gI P Q:=by
  unfold gI;have:=Nat.gcd_pos_of_pos_right P.toNat (show 0 < Q.toNat by omega)
  omega
theorem gI_dvd {P Q:Int} (hP:0≤P) (hQ:0≤Q):gI P Q ∣ P∧gI P Q ∣ Q:=by
  unfold gI;obtain⟨n,rfl⟩:=Int.eq_ofNat_of_zero_le hP;obtain⟨m,rfl⟩:=Int.eq_ofNat_of_zero_le hQ;exact⟨Int.natCast_dvd_natCast.2 (Nat.gcd_dvd_left _ _),Int.natCast_dvd_natCast.2 (Nat.gcd_dvd_right _ _)⟩
theorem gI_le_right {P Q:Int} (hQ:0 < Q):gI P Q≤Q:=by
  unfold gI;have:=Nat.gcd_le_right P.toNat (show 0 < Q.toNat by omega)
  omega
/-- What is divided by its greatest common divisor. -/
theorem red_parts {P Q:Int} (hP:0≤P) (hQ:0 < Q):∃ a b g:Int,0 < g∧g=gI P Q∧P / g=a∧Q / g=b∧P=g * a∧Q=g * b∧0≤a∧0 < b:=by
  have hg:=gI_pos (P:=P) hQ;obtain⟨⟨a,ha⟩,⟨b,hb⟩⟩:=gI_dvd hP (Int.le_of_lt hQ);refine⟨a,b,gI P Q,hg,rfl,?_,?_,ha,hb,?_,?_⟩
  · have h:=Int.mul_ediv_cancel_left a (Int.ne_of_gt hg)
    rwa [← ha] at h
  · have h:=Int.mul_ediv_cancel_left b (Int.ne_of_gt hg)
    rwa [← hb] at h
  · rcases Int.lt_or_le a 0 with h|h
    · exfalso
      have:gI P Q * a < 0:=Int.mul_neg_of_pos_of_neg hg h;omega
    · exact h
  · rcases Int.lt_or_le 0 b with h|h
    · exact h
    · exfalso
      have:gI P Q * b≤0:=Int.mul_nonpos_of_nonneg_of_nonpos (Int.le_of_lt hg) h;omega
theorem reduced_short {n:Bool} {p q:List Int} (hp:natOk p=true) (hq:natOk q=true) (h0:0 < q.length) (lp2:p.length≤2) (lq1:q.length=1):Tells (fun k=>Dzz.f k n p q) (redR n (nv p) (nv q)):=by
  unfold Dzz.f redR;obtain⟨cp,lp⟩:=natOk_iff.1 hp;obtain⟨cq,lq⟩:=natOk_iff.1 hq;have hq0:=nv_pos cq h0;have hp0:=nv_nonneg cp.1;have hg0:=gI_pos (P:=nv p) hq0;have hgl:=gI_le_right (P:=nv p) hq0;have hgo:natOk (dg (gI (nv p) (nv q)))=true:=natOk_dg (Int.lt_of_le_of_lt hgl (Int.lt_of_lt_of_le (nv_lt cq.1) (LB_le lq)));have hgn:nv (dg (gI (nv p) (nv q)))=gI (nv p) (nv q):=nv_dg (Int.le_of_lt hg0);have hgz:¬ (dg (gI (nv p) (nv q))).length=0:=fun h=>by
    have:=(len_zero_iff (can_dg _)).1 h;rw[hgn] at this;omega
  obtain⟨a,b,g,g0,ge,ea,eb,e1,e2,a0,b0⟩:=red_parts hp0 hq0;rw[← ge] at hgo hgn hgz hg0 hgl ⊢;have hg1:(dg g).length=1:=by
    have h1:=len_le (can_dg g) (n:=1) (by rw[hgn];have:=nv_lt cq.1;rw[lq1] at this;omega)
    omega
  refine(Gcd_short hp hq lp2 (by omega)).bind ?_
  rw[← ge];have dp:=DivMod_short hp hgo hg1;have dq:=DivMod_short hq hgo hg1;rw[hgn] at dp dq;refine Tells.pos rfl (dp.bind ?_);refine Tells.pos rfl (dq.bind ?_);refine Tells.pos rfl ?_;cases n with
  | true =>
    refine Tells.pos rfl ?_;have hl:(0 < (dg (nv p / g)).length) ↔ nv p≠0:=by
      have h1:=len_zero_iff (can_dg (nv p / g));rw[nv_dg (by rw[ea];exact a0),ea] at h1
      constructor
      · intro h e
        have:a=0:=by
          rw[e1] at e;rcases Int.mul_eq_zero.1 e with h|h
          · omega
          · exact h
        rw[ea] at h;omega
      · intro h
        rcases Nat.eq_zero_or_pos (dg (nv p / g)).length with h2|h2
        · exfalso
          rw[ea] at h2;have:=h1.1 h2;rw[this,Int.mul_zero] at e1;exact h e1
        · exact h2
    by_cases h:nv p≠0
    · rw[decide_eq_true h]
      exact(Tells.const _).congr (fun k=>by rw[decide_eq_true (hl.2 h)];rfl)
    · rw[decide_eq_false h]
      exact(Tells.const _).congr (fun k=>by rw[decide_eq_false (fun h'=>h (hl.1 h'))];rfl)
  | false=>exact Tells.neg (by decide) (Tells.const _)
def inR (n:Int):Bool:=decide (-1125899906842624≤n) && decide (n≤1125899906842624)
theorem in_eq (n:Int):Fzz.f n=some (inR n):=by
  unfold Fzz.f inR;by_cases h:n≥-1125899906842624
  · rw[if_pos h,decide_eq_true (show -1125899906842624≤n from h)];rfl
  · rw[if_neg h,decide_eq_false (show ¬ -1125899906842624≤n from h)];rfl
theorem inR_iff {n:Int}:inR n=true ↔ -1125899906842624≤n∧n≤1125899906842624:=by
  unfold inR;rw[Bool.and_eq_true,decide_eq_true_eq,decide_eq_true_eq]
/-- The absolute value. -/
def absI (n:Int):Int:=if n < 0 then -n else n
theorem absI_nonneg (n:Int):0≤absI n:=by unfold absI;split <;> omega
theorem absI_le {n:Int} (h:inR n=true):absI n≤1125899906842624:=by
  have:=inR_iff.1 h;unfold absI;split <;> omega
theorem natural_tells {n:Int} (h:inR n=true):Tells (fun k=>Dzb.f k n) (dg (absI n)):=by
  unfold Dzb.f;have hr:=inR_iff.1 h;have e:mx n (wrap64 (-n))=absI n:=by
    rw[wrap64_id (by omega) (by omega)]
    unfold mx absI;by_cases h1:n < 0
    · rw[if_pos (by omega),if_pos h1]
    · rw[if_neg (by omega),if_neg h1]
  rw[e];exact(Of_tells (absI_nonneg n) (by have:=absI_le h;omega)).bind (Tells.const _)
theorem LB48:1000000000000000000000000000≤LB 48:=by
  have:=LB_le (show 3≤48 by omega)
  rwa [LB3] at this
theorem Make_short {p q:Int} (hp:inR p=true) (hq0:0 < q) (hq1:q < 1000000000):Tells (fun k=>Czy.f k p q) (redR ((decide (p < 0)) != (decide (q < 0))) (absI p) q):=by
  have hq:inR q=true:=inR_iff.2 ⟨by omega,by omega⟩
  have hap:=absI_le hp;have hap0:=absI_nonneg p;have haq:absI q=q:=by unfold absI;rw[if_neg (by omega)]
  have h48:=LB48;unfold Czy.f;rw[in_eq p];simp only[Option.bind_some];refine Tells.pos hp ?_;rw[in_eq q];simp only[Option.bind_some];rw[hq];have l2:(dg (absI p)).length≤2:=len_le (can_dg _) (by rw[nv_dg hap0,LB2];omega)
  have eL:LB 1=1000000000:=by decide
  have l1:(dg q).length≤1:=len_le (can_dg _) (by rw[nv_dg (Int.le_of_lt hq0)];omega)
  have l0:0 < (dg q).length:=by
    rcases Nat.eq_zero_or_pos (dg q).length with h|h
    · have:=(len_zero_iff (can_dg q)).1 h
      rw[nv_dg (Int.le_of_lt hq0)] at this;omega
    · exact h
  have hr:=reduced_short (n:=(decide (p < 0)) != (decide (q < 0))) (natOk_dg (n:=absI p) (by omega)) (natOk_dg (n:=q) (by omega)) l0 l2 (by omega)
  rw[nv_dg hap0,nv_dg (Int.le_of_lt hq0)] at hr;have n1:=natural_tells hp;have n2:=natural_tells hq;rw[haq] at n2;refine Tells.up (g:=fun k=>(Dzb.f k p).bind fun t=>((Dzb.f k q).bind fun t2=>((Dzz.f k ((decide (p < 0)) != (decide (q < 0))) t t2).bind fun bt=>(some (bt.1,bt.2.1,bt.2.2.1,bt.2.2.2))))) ?_ (fun k=>by simp only[Czy.j0];rw[if_neg (by decide),if_neg (by omega)])
  exact n1.bind (n2.bind (hr.bind (Tells.const _)))

/-- The sum. -/
def isum:List Int→Int
  | []=>0
  | x :: l=>x+isum l
theorem isum_append (a b:List Int):isum (a ++ b)=isum a+isum b:=by
  induction a with
  | nil=>show isum b=0+isum b;omega
  | cons x l ih=>show x+isum (l ++ b)=x+isum l+isum b;omega
theorem isum_bound (l:List Int) (h:∀ x ∈ l,-1099511627776≤x∧x≤1099511627776):-(1099511627776 * (l.length:Int))≤isum l∧isum l≤1099511627776 * (l.length:Int):=by
  induction l with
  | nil=>exact⟨by decide,by decide⟩
  | cons x l ih =>
    have a:=ih (fun y hy=>h y (List.mem_cons_of_mem _ hy))
    have b:=h x (List.mem_cons_self ..);show -(1099511627776 * (((x :: l).length:Nat):Int))≤x+isum l∧x+isum l≤_
    rw[List.length_cons];omega
theorem sumFrom_isum (l:List Int) (h:∀ x ∈ l,-1099511627776≤x∧x≤1099511627776):∀ s:Int,l.length≤1000→-(1099511627776 * (2000 - (l.length:Int)))≤s→s≤1099511627776 * (2000 - (l.length:Int))→sumFrom s l=s+isum l:=by
  induction l with
  | nil=>intro s _ _ _;show s=s+0;omega
  | cons x l ih =>
    intro s hn h1 h2;have b:=h x (List.mem_cons_self ..);rw[List.length_cons] at hn h1 h2;show sumFrom (wrap64 (s+x)) l=s+(x+isum l)
    rw[wrap64_id (by omega) (by omega),ih (fun y hy=>h y (List.mem_cons_of_mem _ hy)) (s+x) (by omega) (by omega) (by omega)]
    omega
theorem StOk.mem {l:List Int} (h:StOk l):∀ x ∈ l,-1099511627776≤x∧x≤1099511627776:=by
  intro x hx;obtain⟨i,hi,e⟩:=List.getElem_of_mem hx;have:=h.rng i hi;rw[rd_at l i hi,e] at this;exact this
theorem isum_take_succ (l:List Int) (i:Nat) (h:i < l.length):isum (l.take (i+1))=isum (l.take i)+rd l (i:Int):=by
  rw[← List.take_append_getElem h,isum_append,rd_at l i h];show _+(l[i]+0)=_
  omega
/-- The sum of the n values from i. -/
def winS (l:List Int) (n i:Nat):Int:=isum ((l.take (i+n)).drop i)
theorem winS_eq (l:List Int) (n i:Nat):winS l n i=isum (l.take (i+n)) - isum (l.take i):=by
  have h:isum (l.take (i+n))=isum ((l.take (i+n)).take i ++ (l.take (i+n)).drop i):=by rw[List.take_append_drop]
  rw[isum_append,List.take_take,Nat.min_eq_left (by omega)] at h
  unfold winS;omega
theorem winS_bound {l:List Int} (h:StOk l) (n i:Nat) (hn:n≤100):-109951162777600≤winS l n i∧winS l n i≤109951162777600:=by
  have b:=isum_bound ((l.take (i+n)).drop i) (fun x hx=>h.mem x (List.mem_of_mem_take (List.mem_of_mem_drop hx)))
  have e:((l.take (i+n)).drop i).length≤n:=by rw[List.length_drop,List.length_take];omega
  unfold winS;generalize isum ((l.take (i+n)).drop i)=s at *;generalize ((l.take (i+n)).drop i).length=m at *;omega
theorem winS_step (l:List Int) (n i:Nat) (h:i+n < l.length):winS l n (i+1)=winS l n i - rd l (i:Int)+rd l ((i+n:Nat):Int):=by
  have a:=winS_eq l n (i+1);have b:=winS_eq l n i;have c:=isum_take_succ l i (by omega)
  have d:=isum_take_succ l (i+n) h;rw[show i+1+n=i+n+1 by omega] at a
  omega
def movL (l:List Int) (n m:Nat):List Int:=(List.range m).map (winS l n)
theorem rd_movL (l:List Int) (n m i:Nat) (h:i < m):rd (movL l n m) (i:Int)=winS l n i:=by
  unfold movL;rw[rd_at _ i (by simpa using h),List.getElem_map,List.getElem_range]
theorem movL_one (l:List Int):movL l 1 l.length=l:=by
  refine List.ext_getElem (by unfold movL;simp) (fun i h1 h2=>?_)
  have e:=rd_movL l 1 l.length i h2;rw[rd_at _ i h1] at e;rw[e,winS_eq,isum_take_succ l i h2,rd_at l i h2];omega
theorem mov_exact0 {l:List Int} (h:StOk l) (n:Nat) (hn:1≤n) (hnl:n≤l.length) (d:Nat):∀ i:Nat,i+n+d=l.length+1→Tells (fun k=>Bzv.l0 k l (n:Int) (movL l n i) (i:Int)) (movL l n (i+d),0):=by
  have hl:=h.len;induction d with
  | zero =>
    intro i hi;have w0:wrap64 ((i:Int)+(n:Int))=((i+n:Nat):Int):=by rw[wrap64_id (by omega) (by omega)];omega
    refine Tells.up (Tells.const _) (fun k=>?_)
    rw[Bzv.l0,w0,if_neg (by omega)];rfl
  | succ d ih =>
    intro i hi;have w0:wrap64 ((i:Int)+(n:Int))=((i+n:Nat):Int):=by rw[wrap64_id (by omega) (by omega)];omega
    have wi:wrap64 ((i:Int)+1)=((i+1:Nat):Int):=by rw[wrap64_id (by omega) (by omega)];omega
    have hlen:((l.take (i+n)).drop i).length≤512:=by rw[List.length_drop,List.length_take];omega
    have hs:=ssum_tells ((l.take (i+n)).drop i) (by omega)
    rw[sumFrom_isum _ (fun x hx=>h.mem x (List.mem_of_mem_take (List.mem_of_mem_drop hx))) 0 (by omega) (by omega) (by omega),Int.zero_add] at hs
    have a:=ih (i+1) (by omega)
    have e:movL l n (i+1)=movL l n i ++ [winS l n i]:=by unfold movL;rw[List.range_succ,List.map_append];rfl
    rw[e,show i+1+d=i+(d+1) by omega] at a
    have hx:(movL l n i).length < 17592186044416:=by unfold movL;rw[List.length_map,List.length_range];omega
    refine Tells.up (hs.bind (g:=fun k t=>if(movL l n i).length < 17592186044416 then Bzv.l0 k l (n:Int) (movL l n i ++ [t]) ((i+1:Nat):Int) else none) ?_) (fun k=>?_)
    · simp only[if_pos hx];exact a
    · rw[Bzv.l0,w0,wi,if_pos (by omega),if_pos (by omega),if_pos (by omega),Int.toNat_natCast,Int.toNat_natCast]
theorem mov_exact {l:List Int} (h:StOk l) (n:Nat) (hn:1≤n) (hnl:n≤l.length):Tells (fun k=>Bzv.f k l (n:Int)) (movL l n (l.length - n+1),0):=by
  have hl:=h.len;unfold Bzv.f;refine(check_ok h).bind ?_;have x:=mov_exact0 h n hn hnl (l.length - n+1) 0 (by omega)
  rw[Nat.zero_add] at x;simp only[if_true,if_neg (show ¬ (n:Int) < 1 by omega),decide_eq_false (show ¬ (n:Int) > (l.length:Int) by omega)]
  exact Tells.up x (fun k=>by rw[Bzv.j0,if_neg (by decide)];rfl)
theorem mov_bad {l:List Int} (h:StOk l) (n:Int) (hn:n < 1∨n > (l.length:Int)):Tells (fun k=>Bzv.f k l n) ([],1):=by
  unfold Bzv.f;have hA:Tells (fun k=>Bzv.j0 k l n true) ([],1):=Tells.up (Tells.const _) (fun k=>by rw[Bzv.j0,if_pos rfl])
  refine(check_ok h).bind ?_;by_cases h1:n < 1
  · simp only[if_true,if_pos h1];exact hA
  · simp only[if_true,if_neg h1,decide_eq_true (hn.resolve_left h1)];exact hA
theorem mov_fault {l:List Int} {e:Int} (h:Tells (fun k=>Bzx.f k l) e) (he:¬ e=0) (n:Int):Tells (fun k=>Bzv.f k l n) ([],e):=by
  unfold Bzv.f;refine h.bind ?_;simp only[if_neg he];exact Tells.const _

theorem same12 (l:List Int) (hl:l.length≤1000):Tells (fun k=>Azy.f k l l) true:=by
  have lp:∀ n i k,n < k→i+n=l.length→Azy.l0 k l l (i:Int)=some true:=by
    intro n;induction n with
    | zero =>
      intro i k hk hi;obtain⟨m,rfl⟩:∃ m,k=m+1:=⟨k - 1,by omega⟩
      unfold Azy.l0;rw[if_neg (by omega)]
    | succ n ih =>
      intro i k hk hi;obtain⟨m,rfl⟩:∃ m,k=m+1:=⟨k - 1,by omega⟩
      unfold Azy.l0;rw[if_pos (by omega),if_pos (by omega),if_pos (by omega),if_pos rfl,wrap64_id (by omega) (by omega)]
      exact ih (i+1) m (by omega) (by omega)
  refine⟨l.length+1,fun k hk=>?_⟩
  show Azy.f k l l=some true
  unfold Azy.f;rw[if_pos rfl];exact lp l.length 0 k (by omega) (by omega)

theorem limbs_same (l:List Int) (hl:l.length≤1000):Tells (fun k=>Bzj.f k l l) true:=by
  have lp:∀ d:Nat,∀ i:Nat,i+d=l.length→Tells (fun k=>Bzj.l0 k l l (i:Int)) true:=by
    intro d;induction d with
    | zero =>
      intro i hi;exact Tells.up (Tells.const _) (fun k=>by rw[Bzj.l0,if_neg (by omega)])
    | succ d ih =>
      intro i hi;exact Tells.up (ih (i+1) (by omega)) (fun k=>by rw[Bzj.l0,if_pos (by omega),if_pos (by omega),if_pos (by omega),if_pos rfl,wsucc (n:=l.length) (by omega) (by omega)])
  unfold Bzj.f;simp only[if_true];exact lp l.length 0 (by omega)
theorem same_self (a:Bool) (p q:List Int) (hp:p.length≤1000) (hq:q.length≤1000):Tells (fun k=>Dzj.f k a p q a p q) true:=by
  unfold Dzj.f;simp only[beq_self_eq_true,if_true];refine(limbs_same p hp).bind ?_;simp only[if_true];exact(limbs_same q hq).bind (Tells.const _)
theorem dg_len {n m:Int} (h0:0≤m) (h:m < 9223372036854775808) (hg:0 < n):(dg (m / n)).length≤1000:=by
  have h1:0≤m / n:=Int.ediv_nonneg h0 (Int.le_of_lt hg);have h2:m / n≤m:=Int.ediv_le_self n h0;refine Nat.le_trans (len_le (can_dg _) (n:=3) ?_) (by omega)
  rw[nv_dg h1,LB3];omega
theorem is_self {p q:Int} (hp:inR p=true) (hq0:0 < q) (hq1:q < 1000000000):Tells (fun k=>Czf.f k (redR ((decide (p < 0)) != (decide (q < 0))) (absI p) q).1 (redR ((decide (p < 0)) != (decide (q < 0))) (absI p) q).2.1 (redR ((decide (p < 0)) != (decide (q < 0))) (absI p) q).2.2.1 p q) true:=by
  unfold Czf.f;refine(Make_short hp hq0 hq1).bind ?_;have hg:=gI_pos (P:=absI p) hq0;have ha:=absI_le hp;have hn:=absI_nonneg p;simp only[redR,if_true];exact(same_self _ _ _ (dg_len hn (by omega) hg) (dg_len (by omega) (by omega) hg)).bind (Tells.const _)
theorem ss_end {l:List Int} (h:StOk l) (hl:l.length≤100) (n:Nat) (hn:1≤n) (hnl:n≤l.length) (i:Nat) (hi:i+0=l.length - n+1):Tells (fun k=>papermilllaw60_StatsSums.l0 k l (n:Int) (movL l n (l.length - n+1)) (i:Int)) true:=by
  have hm:(movL l n (l.length - n+1)).length=l.length - n+1:=by unfold movL;simp
  have ht:StOk (l.take n):=⟨by rw[List.length_take];omega,by rw[List.length_take];omega,fun j hj=>by
    rw[List.length_take] at hj;have:=h.rng j (by omega)
    rw[rd_at l j (by omega)] at this
    rw[rd_at (l.take n) j (by rw[List.length_take];omega),List.getElem_take]
    exact this⟩
  have hlen:(l.take n).length=n:=by rw[List.length_take];omega
  have hs:=ssum_tells (l.take n) (by omega)
  rw[sumFrom_isum _ ht.mem 0 (by omega) (by omega) (by omega),Int.zero_add] at hs
  have e0:rd (movL l n (l.length - n+1)) 0=isum (l.take n):=by
    have:=rd_movL l n (l.length - n+1) 0 (by omega)
    rw[show((0:Nat):Int)=0 from rfl] at this
    rw[this];unfold winS;rw[Nat.zero_add,List.drop_zero]
  have hb:=winS_bound h n 0 (by omega)
  unfold winS at hb;rw[Nat.zero_add,List.drop_zero] at hb;have hp:inR (isum (l.take n))=true:=inR_iff.2 ⟨by omega,by omega⟩
  have hM:=Make_short hp (q:=(n:Int)) (by omega) (by omega)
  have hMean:Tells (fun k=>Dzv.f k (l.take n)) (redR ((decide (isum (l.take n) < 0)) != (decide ((n:Int) < 0))) (absI (isum (l.take n))) (n:Int)):=by
    unfold Dzv.f;refine(check_ok ht).bind ?_;simp only[if_true];refine hs.bind ?_;rw[hlen];exact hM.bind (Tells.const _)
  refine Tells.up (hMean.bind (g:=fun k bt734=>if bt734.2.2.2=0 then(if 0 < ((movL l n (l.length - n+1)).length:Int) then((Czf.f k bt734.1 bt734.2.1 bt734.2.2.1 (rd (movL l n (l.length - n+1)) 0) (n:Int)).bind fun t744=>(if t744=true then((Azz.f k).bind fun t745=>(some t745)) else(none))) else(none)) else(none)) ?_) (fun k=>by rw[papermilllaw60_StatsSums.l0,if_neg (by omega),if_pos (by omega),if_pos (by omega),Int.toNat_natCast])
  rw[e0];refine Tells.pos rfl (Tells.pos (by omega) ?_)
  refine(is_self hp (by omega) (by omega)).bind ?_
  simp only[if_true];exact awake_end
theorem ss_value {l:List Int} (h:StOk l) (n i:Nat) (hn:n≤100) (h0:0 < i) (h1:i - 1+n < l.length):winS l n i=wrap64 (wrap64 (winS l n (i - 1) - rd l ((i - 1:Nat):Int))+rd l ((i - 1+n:Nat):Int)):=by
  have s:=winS_step l n (i - 1) h1;rw[show i - 1+1=i by omega] at s
  have b1:=winS_bound h n (i - 1) hn;have b2:=winS_bound h n i hn;have b3:=h.rng (i - 1) (by omega)
  generalize winS l n (i - 1)=A at *;generalize winS l n i=B at *;generalize rd l ((i - 1:Nat):Int)=C at *;generalize rd l ((i - 1+n:Nat):Int)=D at *;rw[wrap64_id (n:=A - C) (by omega) (by omega),wrap64_id (by omega) (by omega)]
  exact s
theorem ss_l0 {l:List Int} (h:StOk l) (hl:l.length≤100) (n:Nat) (hn:1≤n) (hnl:n≤l.length) (d:Nat):∀ i:Nat,i+d=l.length - n+1→Tells (fun k=>papermilllaw60_StatsSums.l0 k l (n:Int) (movL l n (l.length - n+1)) (i:Int)) true:=by
  induction d with
  | zero=>exact fun i hi=>ss_end h hl n hn hnl i hi
  | succ d ih =>
    intro i hi;have hm:(movL l n (l.length - n+1)).length=l.length - n+1:=by unfold movL;simp
    have a:=ih (i+1) (by omega)
    clear ih;refine Tells.up a (fun k=>?_)
    clear a;have w4:=wsucc (i:=i) (n:=512) (by omega) (by omega)
    rw[papermilllaw60_StatsSums.l0,if_pos (by omega),w4]
    by_cases hz:i=0
    · rw[if_neg (by omega)]
    · have w1:wrap64 ((i:Int) - 1)=((i - 1:Nat):Int):=by rw[wrap64_id (by omega) (by omega)];omega
      have w2:wrap64 ((i:Int)+(n:Int))=((i+n:Nat):Int):=by rw[wrap64_id (by omega) (by omega)];omega
      have w3:wrap64 (((i+n:Nat):Int) - 1)=((i - 1+n:Nat):Int):=by rw[wrap64_id (by omega) (by omega)];omega
      rw[if_pos (by omega),if_pos (by omega),w1,w2,w3,if_pos (by omega),if_pos (by omega),if_pos (by omega),if_pos (by omega),if_pos (by omega),rd_movL l n (l.length - n+1) i (by omega),rd_movL l n (l.length - n+1) (i - 1) (by omega),if_pos (ss_value h n i (by omega) (by omega) (by omega))]
theorem StatsSums:papermilllaw60_StatsSums.Pure:=by
  intro l n _ _ _ _;refine Tells.get ?_;unfold papermilllaw60_StatsSums.f;refine both (fun _=>awake_end) (fun h100=>?_)
  obtain⟨e,ck,_,hok⟩:=check60 l;by_cases he:e=0
  · have h:=hok he
    have hp:=h.pos;by_cases hn:n < 1∨n > (l.length:Int)
    · refine(mov_bad h n hn).bind ?_
      simp only[show ¬ (1:Int)=0 by decide,if_false,List.length_nil]
      simp only[show((0:Nat):Int)=0 from rfl,if_true]
      exact awake_end
    · obtain⟨m,rfl⟩:∃ m:Nat,n=(m:Int):=⟨n.toNat,by omega⟩
      refine(mov_exact h m (by omega) (by omega)).bind ?_
      have m1:=mov_exact h 1 (by omega) hp
      rw[show l.length - 1+1=l.length by omega,movL_one] at m1
      have hm:(movL l m (l.length - m+1)).length=l.length - m+1:=by unfold movL;simp
      have w1:wrap64 ((l.length:Int) - (m:Int))=((l.length - m:Nat):Int):=by rw[wrap64_id (by omega) (by omega)];omega
      have w2:wrap64 (((l.length - m:Nat):Int)+1)=((l.length - m+1:Nat):Int):=by rw[wrap64_id (by omega) (by omega)];omega
      simp only[if_true];refine Tells.bind (f:=fun k=>Bzv.f k l 1) m1 ?_
      simp only[if_true];refine(same12 l (by omega)).bind ?_
      simp only[if_true,if_neg (show ¬ (m:Int) < 1 by omega),if_neg (show ¬ (m:Int) > (l.length:Int) by omega),w1,w2,hm]
      refine Tells.up (ss_l0 h (by omega) m (by omega) (by omega) (l.length - m+1) 0 (by omega)) (fun k=>?_)
      rw[papermilllaw60_StatsSums.j0,if_neg (by simp)]
      rfl
  · refine(mov_fault ck he n).bind ?_
    simp only[if_neg he,List.length_nil];simp only[show((0:Nat):Int)=0 from rfl,if_true]
    exact awake_end

end Go.Proofs.Ytokkiljkgejnhaa.Pure
