import Derived.Test.YtokkiljkgejnhaaPrint47
import Derived.Test.YtokkiljkgejnhaaPrint38
import Derived.Test.YtokkiljkgejnhaaPrint40
namespace Go.Proofs.Ytokkiljkgejnhaa.Pure
open Go.RowKit Go.Proofs.Ytokkiljkgejnhaa.Print Go.Proofs.YtokkiljkgejnhaaW.PrintWords Go.Proofs.YtokkiljkgejnhaaW.PrintLast
set_option linter.unusedVariables false
set_option linter.unusedSimpArgs false

/-- From some number of rounds on f tells r. -/
def Tells {α:Type} (f:Nat→Option α) (r:α):Prop:=∃ K,∀ k,K≤k→f k=some r
namespace Tells
theorem leO {α:Type} {f:Nat→Option α} (hm:∀ k,LeO (f k) (f (k+1))) {K:Nat} {r:α} (h:f K=some r):∀ k,K≤k→f k=some r:=by
  intro k hk;induction hk with
  | refl=>exact h
  | step _ ih=>exact hm _ _ ih
theorem of {α:Type} {f:Nat→Option α} (hm:∀ k,LeO (f k) (f (k+1))) {r:α} (h:∃ K,f K=some r):Tells f r:=by
  obtain⟨K,h⟩:=h;exact⟨K,leO hm h⟩
theorem get {α:Type} {f:Nat→Option α} {r:α} (h:Tells f r):∃ k,f k=some r:=by
  obtain⟨K,h⟩:=h;exact⟨K,h K (Nat.le_refl K)⟩
theorem const {α:Type} (r:α):Tells (fun _=>some r) r:=⟨0,fun _ _=>rfl⟩
theorem bind {α β:Type} {f:Nat→Option α} {g:Nat→α→Option β} {r:α} {s:β} (h:Tells f r) (h':Tells (fun k=>g k r) s):Tells (fun k=>(f k).bind (g k)) s:=by
  obtain⟨K,h⟩:=h;obtain⟨K',h'⟩:=h';refine⟨max K K',fun k hk=>?_⟩
  show(f k).bind (g k)=some s
  rw[h k (by omega)]
  exact h' k (by omega)
theorem congr {α:Type} {f g:Nat→Option α} {r:α} (h:Tells g r) (e:∀ k,f k=g k):Tells f r:=by
  obtain⟨K,h⟩:=h;exact⟨K,fun k hk=>(e k).trans (h k hk)⟩
theorem up {α:Type} {f g:Nat→Option α} {r:α} (h:Tells g r) (e:∀ k,f (k+1)=g k):Tells f r:=by
  obtain⟨K,h⟩:=h;refine⟨K+1,fun k hk=>?_⟩
  obtain⟨m,rfl⟩:∃ m,k=m+1:=⟨k - 1,by omega⟩
  exact(e m).trans (h m (by omega))
theorem ite {α:Type} {c:Prop} [Decidable c] {f g:Nat→Option α} {r s:α} (h:c→Tells f r) (h':¬ c→Tells g s):Tells (fun k=>if c then f k else g k) (if c then r else s):=by
  by_cases hc:c
  · simp only[if_pos hc];exact h hc
  · simp only[if_neg hc];exact h' hc
theorem pos {α:Type} {c:Prop} [Decidable c] {f g:Nat→Option α} {r:α} (hc:c) (h:Tells f r):Tells (fun k=>if c then f k else g k) r:=by
  simp only[if_pos hc];exact h
theorem neg {α:Type} {c:Prop} [Decidable c] {f g:Nat→Option α} {r:α} (hc:¬ c) (h:Tells g r):Tells (fun k=>if c then f k else g k) r:=by
  simp only[if_neg hc];exact h
end Tells
theorem wrap64_id {n:Int} (h0:-9223372036854775808≤n) (h1:n < 9223372036854775808):wrap64 n=n:=by
  unfold wrap64;omega
theorem wf64 {n:Int} (h:(Lit.int .i64 n).wf=true):-9223372036854775808≤n∧n < 9223372036854775808:=by
  have h':(decide (-9223372036854775808≤n) && decide (n≤9223372036854775807))=true:=h;simp only[Bool.and_eq_true,decide_eq_true_eq] at h';omega

theorem rd_drop (l:List Int) (i:Nat) (h:i < l.length):l.drop i=rd l (i:Int) :: l.drop (i+1):=by
  rw[List.drop_eq_getElem_cons h];congr 1
  show l[i]=l.getD (i:Int).toNat 0
  simp [h]
theorem rd_at (l:List Int) (i:Nat) (h:i < l.length):rd l (i:Int)=l[i]:=by
  show l.getD (i:Int).toNat 0=_
  simp [h]
theorem rd_mid (A:List Int) (x:Int) (B:List Int):rd (A ++ x :: B) (A.length:Int)=x:=by
  show(A ++ x :: B).getD (A.length:Int).toNat 0=x
  simp
theorem rd_mid' {l A:List Int} {x:Int} {B:List Int} {i:Int} (h:l=A ++ x :: B) (hi:i=(A.length:Int)):rd l i=x:=by
  subst h hi;exact rd_mid A x B
theorem set_mid (A:List Int) (x v:Int) (B:List Int):(A ++ x :: B).set ((A.length:Int)).toNat v=A ++ v :: B:=by simp
theorem set_mid' {l A:List Int} {x v:Int} {B:List Int} {i:Int} (h:l=A ++ x :: B) (hi:i=(A.length:Int)):l.set i.toNat v=A ++ v :: B:=by
  subst h hi;exact set_mid A x v B
theorem rd_mem (l:List Int) (i:Int) (h0:0≤i) (h:i < (l.length:Int)):rd l i ∈ l:=by
  obtain⟨j,rfl⟩:∃ j:Nat,i=(j:Int):=⟨i.toNat,by omega⟩
  rw[rd_at l j (by omega)]
  exact List.getElem_mem _
theorem ext_rd {a b:List Int} (hl:a.length=b.length) (h:∀ i:Nat,i < a.length→rd a (i:Int)=rd b (i:Int)):a=b:=by
  apply List.ext_getElem hl;intro i h1 h2;have:=h i h1;rwa [rd_at a i h1,rd_at b i h2] at this
theorem rd_map (f:Int→Int) (l:List Int) (i:Nat) (h:i < l.length):rd (l.map f) (i:Int)=f (rd l (i:Int)):=by
  rw[rd_at _ i (by simpa using h),rd_at l i h]
  simp
theorem rd_set (l:List Int) (i j:Nat) (v:Int) (h:j < l.length):rd (l.set i v) (j:Int)=if i=j then v else rd l (j:Int):=by
  rw[rd_at _ j (by simpa using h),rd_at l j h,List.getElem_set]
theorem rd_replicate (n i:Nat) (v:Int) (h:i < n):rd (List.replicate n v) (i:Int)=v:=by
  rw[rd_at _ i (by simpa using h)]
  simp
/-- The sum,as the program adds it up. -/
def sumFrom (s:Int):List Int→Int
  | []=>s
  | x :: l=>sumFrom (wrap64 (s+x)) l
/-- All from 0 to most. -/
def inAll (most:Int) (l:List Int):Bool:=l.all fun x=>decide (0≤x) && decide (x≤most)
theorem inAll_iff {m:Int} {l:List Int}:inAll m l=true ↔ ∀ x ∈ l,0≤x∧x≤m:=by
  unfold inAll;simp [List.all_eq_true,Bool.and_eq_true,decide_eq_true_eq]
theorem inAll_cons {m x:Int} {l:List Int}:inAll m (x :: l)=((decide (0≤x) && decide (x≤m)) && inAll m l):=rfl
theorem sum_bounds {m:Int} {l:List Int} (h:inAll m l=true):0≤l.sum∧l.sum≤m * l.length:=by
  induction l with
  | nil=>simp
  | cons x l ih =>
    rw[inAll_cons,Bool.and_eq_true,Bool.and_eq_true,decide_eq_true_eq,decide_eq_true_eq] at h;have:=ih h.2;rw[List.sum_cons,List.length_cons];have e:m * ((l.length+1:Nat):Int)=m * l.length+m:=by rw[Int.natCast_add,Int.mul_add];simp
    omega
theorem sum_mem_le {m:Int} {l:List Int} (h:inAll m l=true):∀ x ∈ l,x≤l.sum:=by
  induction l with
  | nil=>simp
  | cons y l ih =>
    have h':=h;rw[inAll_cons,Bool.and_eq_true,Bool.and_eq_true,decide_eq_true_eq,decide_eq_true_eq] at h';have hb:=sum_bounds h'.2;intro x hx;rw[List.sum_cons];rcases List.mem_cons.1 hx with rfl|hx
    · omega
    · have:=ih h'.2 x hx;omega
theorem sumFrom_eq {m:Int} (l:List Int) (h:inAll m l=true):∀ s,0≤s→0≤m→s+m * l.length < 9223372036854775808→sumFrom s l=s+l.sum:=by
  induction l with
  | nil=>intro s _ _ _;simp [sumFrom]
  | cons x l ih =>
    intro s h0 hm h1;rw[inAll_cons,Bool.and_eq_true,Bool.and_eq_true,decide_eq_true_eq,decide_eq_true_eq] at h;have e:m * ((l.length+1:Nat):Int)=m * l.length+m:=by rw[Int.natCast_add,Int.mul_add];simp
    rw[List.length_cons,e] at h1;have hp:0≤m * (l.length:Int):=Int.mul_nonneg hm (by omega)
    show sumFrom (wrap64 (s+x)) l=_
    rw[wrap64_id (by omega) (by omega),ih h.2 (s+x) (by omega) hm (by omega),List.sum_cons]
    omega
/-- 0,1,..,n - 1 -/
def idx (n:Nat):List Int:=(List.range n).map (fun i:Nat=>(i:Int))
theorem idx_len (n:Nat):(idx n).length=n:=by simp [idx]
theorem idx_succ (n:Nat):idx (n+1)=idx n ++ [(n:Int)]:=by simp [idx,List.range_succ]
theorem mem_idx {n:Nat} {i:Int}:i ∈ idx n ↔ 0≤i∧i < (n:Int):=by
  unfold idx;rw[List.mem_map];constructor
  · rintro ⟨j,hj,rfl⟩
    have:=List.mem_range.1 hj;omega
  · rintro ⟨h0,h1⟩
    exact⟨i.toNat,List.mem_range.2 (by omega),by omega⟩
theorem rd_idx (n i:Nat) (h:i < n):rd (idx n) (i:Int)=i:=by
  rw[rd_at _ i (by rw[idx_len];exact h)]
  simp [idx]
theorem idx_nodup (n:Nat):(idx n).Nodup:=by
  induction n with
  | zero=>simp [idx]
  | succ n ih =>
    rw[idx_succ,List.nodup_append];refine⟨ih,by simp,?_⟩
    intro a ha b hb;rw[List.mem_singleton] at hb;have:=mem_idx.1 ha;omega
theorem map_idx (l:List Int):(idx l.length).map (rd l)=l:=by
  apply ext_rd (by simp [idx_len])
  intro i hi;have hi':i < l.length:=by simpa [idx_len] using hi
  rw[rd_map _ _ i (by rw[idx_len];exact hi'),rd_idx _ _ hi']

structure StOk (l:List Int):Prop where
  pos:0 < l.length
  len:l.length≤512
  rng:∀ i:Nat,i < l.length→-1099511627776≤rd l (i:Int)∧rd l (i:Int)≤1099511627776
theorem both {α:Type} {c:Prop} [Decidable c] {f g:Nat→Option α} {r:α} (h:c→Tells f r) (h':¬ c→Tells g r):Tells (fun k=>if c then f k else g k) r:=by
  by_cases hc:c
  · simp only[if_pos hc];exact h hc
  · simp only[if_neg hc];exact h' hc
theorem wsucc {i n:Nat} (h:i < n) (hn:n≤100000):wrap64 ((i:Int)+1)=((i+1:Nat):Int):=by rw[wrap64_id (by omega) (by omega)];omega
theorem stcheck_loop (l:List Int) (hl:l.length≤1000) (d:Nat):∀ i:Nat,i+d=l.length→∃ r,Tells (fun k=>Azp.l0 k l (l.length:Int) (i:Int)) r∧Tells (fun k=>Azj.l0 k l (i:Int)) (if r≥0 then 1 else 0)∧(¬ r≥0→∀ j:Nat,i≤j→j < l.length→-1099511627776≤rd l (j:Int)∧rd l (j:Int)≤1099511627776):=by
  induction d with
  | zero =>
    intro i hi;refine⟨-1,Tells.up (Tells.const _) (fun k=>?_),Tells.up (Tells.const _) (fun k=>?_),fun _ j h1 h2=>by omega⟩
    · rw[Azp.l0,if_neg (by omega)]
    · rw[Azj.l0,if_neg (by omega),if_neg (by omega)]
  | succ d ih =>
    intro i hi;have e2:=wsucc (i:=i) (n:=l.length) (by omega) (by omega)
    have c1:(i:Int) < (l.length:Int):=by omega
    have c2:(0:Int)≤(i:Int):=by omega
    by_cases h0:rd l (i:Int) < -1099511627776
    · refine⟨(i:Int),Tells.up (Tells.const _) (fun k=>?_),Tells.up (Tells.const _) (fun k=>?_),fun h=>absurd c2 h⟩
      · rw[Azp.l0,if_pos c1,if_pos c2,if_pos c1]
        unfold Ezx.f;rw[if_pos h0,Option.bind_some,if_pos rfl]
      · rw[Azj.l0,if_pos c1,if_pos c2,if_pos h0,if_pos c2]
    by_cases h1:rd l (i:Int) > 1099511627776
    · refine⟨(i:Int),Tells.up (Tells.const _) (fun k=>?_),Tells.up (Tells.const _) (fun k=>?_),fun h=>absurd c2 h⟩
      · rw[Azp.l0,if_pos c1,if_pos c2,if_pos c1]
        unfold Ezx.f;rw[if_neg h0,Option.bind_some,if_pos (decide_eq_true h1)]
      · rw[Azj.l0,if_pos c1,if_pos c2,if_neg h0,if_pos h1,if_pos c2]
    obtain⟨r,a,b,c⟩:=ih (i+1) (by omega)
    refine⟨r,Tells.up a (fun k=>?_),Tells.up b (fun k=>?_),fun hr j hj hj2=>?_⟩
    · rw[Azp.l0,if_pos c1,if_pos c2,if_pos c1]
      unfold Ezx.f;rw[if_neg h0,Option.bind_some,decide_eq_false h1,if_neg (by decide),e2]
    · rw[Azj.l0,if_pos c1,if_pos c2,if_neg h0,if_neg h1,e2]
    · rcases Nat.lt_or_ge i j with hij|hij
      · exact c hr j hij hj2
      · obtain rfl:j=i:=by omega
        exact⟨by omega,by omega⟩
theorem check60 (l:List Int):∃ r,Tells (fun k=>Bzx.f k l) r∧Tells (fun k=>Azj.f k l) r∧(r=0→StOk l):=by
  by_cases h2:(l.length:Int)=0
  · exact⟨10,(Tells.const 10).congr (fun k=>by unfold Bzx.f;rw[if_pos h2]),(Tells.const 10).congr (fun k=>by unfold Azj.f;rw[if_pos h2]),fun h=>absurd h (by decide)⟩
  by_cases h5:(l.length:Int) > 512
  · exact⟨8,(Tells.const 8).congr (fun k=>by unfold Bzx.f;rw[if_neg h2,if_pos h5]),(Tells.const 8).congr (fun k=>by unfold Azj.f;rw[if_neg h2,if_pos h5]),fun h=>absurd h (by decide)⟩
  obtain⟨r,a,b,c⟩:=stcheck_loop l (by omega) l.length 0 (by omega)
  refine⟨if r≥0 then 1 else 0,?_,b.congr (fun k=>by unfold Azj.f;rw[if_neg h2,if_neg h5];rfl),fun h=>?_⟩
  · unfold Bzx.f Bzy.f Azp.f
    simp only[if_neg h2,if_neg h5];refine Tells.bind (a.bind (Tells.const (decide (r≥0)))) ?_;by_cases hr:r≥0
    · simp only[decide_eq_true hr,if_true,if_pos hr];exact Tells.const _
    · simp only[decide_eq_false hr,Bool.false_eq_true,if_false,if_neg hr];exact Tells.const _
  · by_cases hr:r≥0
    · rw[if_pos hr] at h;exact absurd h (by decide)
    · exact⟨by omega,by omega,fun i hi=>c hr i (by omega) hi⟩
theorem awake_tells:Tells (fun k=>Azz.f k) true:=Tells.of (fun k=>Azz.mono k) ⟨300,by decide +kernel⟩
theorem awake_end:Tells (fun k=>(Azz.f k).bind fun t=>(some t)) true:=awake_tells.bind (Tells.const _)
theorem mx_eq (a b:Int):mx a b=max a b:=by unfold mx;split <;> omega

theorem rd_one (t:Int):rd [t] 0=t:=rfl
def stepR (P:Int→Bool) (s:Int × Int) (x:Int):Int × Int:=(mx s.1 (if P x then s.2+1 else 0),if P x then s.2+1 else 0)
def runR (P:Int→Bool) (s:Int × Int) (l:List Int):Int:=(l.foldl (stepR P) s).1
theorem runs1_loop (l:List Int) (t:Int) (hl:l.length≤1000) (d:Nat):∀ (i:Nat) (m r:Int),i+d=l.length→0≤r→r≤(i:Int)→Tells (fun k=>Azm.l0 k m r l (l.length:Int) (i:Int) [t]) (runR (fun x=>decide (x > t)) (m,r) (l.drop i)):=by
  induction d with
  | zero =>
    intro i m r hi h0 h1;rw[List.drop_of_length_le (by omega)]
    refine Tells.up (Tells.const _) (fun k=>?_)
    rw[Azm.l0,if_neg (by omega)]
    rfl
  | succ d ih =>
    intro i m r hi h0 h1;have e2:=wsucc (i:=i) (n:=l.length) (by omega) (by omega)
    have e3:wrap64 (r+1)=r+1:=wrap64_id (by omega) (by omega)
    rw[rd_drop l i (by omega)]
    show Tells _ (((l.drop (i+1)).foldl (stepR _) (stepR _ (m,r) (rd l (i:Int)))).1)
    by_cases c:rd l (i:Int) > t
    · refine Tells.up (g:=fun k=>Azm.l0 k (mx m (r+1)) (r+1) l (l.length:Int) ((i+1:Nat):Int) [t]) ?_ (fun k=>?_)
      · have:=ih (i+1) (mx m (r+1)) (r+1) (by omega) (by omega) (by omega)
        unfold stepR;simp only[decide_eq_true c,if_true];exact this
      · rw[Azm.l0,if_pos (by omega),if_pos (by omega),if_pos (by omega)]
        unfold Ezb.f;rw[if_pos (by simp),Option.bind_some,rd_one,if_pos (decide_eq_true c),e2,e3]
    · refine Tells.up (g:=fun k=>Azm.l0 k (mx m 0) 0 l (l.length:Int) ((i+1:Nat):Int) [t]) ?_ (fun k=>?_)
      · have:=ih (i+1) (mx m 0) 0 (by omega) (by omega) (by omega)
        unfold stepR;simp only[decide_eq_false c,Bool.false_eq_true,if_false];exact this
      · rw[Azm.l0,if_pos (by omega),if_pos (by omega),if_pos (by omega)]
        unfold Ezb.f;rw[if_pos (by simp),Option.bind_some,rd_one,if_neg (by simpa using c),e2]
theorem runs2_loop (l:List Int) (t:Int) (hl:l.length≤1000) (d:Nat):∀ (i:Nat) (m r:Int),i+d=l.length→0≤r→r≤(i:Int)→Tells (fun k=>Azf.l0 k m r l (l.length:Int) (i:Int) [t]) (runR (fun x=>decide (x < t)) (m,r) (l.drop i)):=by
  induction d with
  | zero =>
    intro i m r hi h0 h1;rw[List.drop_of_length_le (by omega)]
    refine Tells.up (Tells.const _) (fun k=>?_)
    rw[Azf.l0,if_neg (by omega)]
    rfl
  | succ d ih =>
    intro i m r hi h0 h1;have e2:=wsucc (i:=i) (n:=l.length) (by omega) (by omega)
    have e3:wrap64 (r+1)=r+1:=wrap64_id (by omega) (by omega)
    rw[rd_drop l i (by omega)]
    show Tells _ (((l.drop (i+1)).foldl (stepR _) (stepR _ (m,r) (rd l (i:Int)))).1)
    by_cases c:rd l (i:Int) < t
    · refine Tells.up (g:=fun k=>Azf.l0 k (mx m (r+1)) (r+1) l (l.length:Int) ((i+1:Nat):Int) [t]) ?_ (fun k=>?_)
      · have:=ih (i+1) (mx m (r+1)) (r+1) (by omega) (by omega) (by omega)
        unfold stepR;simp only[decide_eq_true c,if_true];exact this
      · rw[Azf.l0,if_pos (by omega),if_pos (by omega),if_pos (by omega)]
        unfold Ezp.f;rw[if_pos (by simp),Option.bind_some,rd_one,if_pos (decide_eq_true c),e2,e3]
    · refine Tells.up (g:=fun k=>Azf.l0 k (mx m 0) 0 l (l.length:Int) ((i+1:Nat):Int) [t]) ?_ (fun k=>?_)
      · have:=ih (i+1) (mx m 0) 0 (by omega) (by omega) (by omega)
        unfold stepR;simp only[decide_eq_false c,Bool.false_eq_true,if_false];exact this
      · rw[Azf.l0,if_pos (by omega),if_pos (by omega),if_pos (by omega)]
        unfold Ezp.f;rw[if_pos (by simp),Option.bind_some,rd_one,if_neg (by simpa using c),e2]
theorem rruns_loop (l:List Int) (t:Int) (hl:l.length≤1000) (d:Nat):∀ (i:Nat) (m n r q:Int),i+d=l.length→0≤r→r≤(i:Int)→0≤q→q≤(i:Int)→Tells (fun k=>Bzz.l0 k l t m n r q (i:Int)) (runR (fun x=>decide (x > t)) (m,r) (l.drop i),runR (fun x=>decide (x < t)) (n,q) (l.drop i),0):=by
  induction d with
  | zero =>
    intro i m n r q hi h0 h1 h2 h3;rw[List.drop_of_length_le (by omega)]
    refine Tells.up (Tells.const _) (fun k=>?_)
    rw[Bzz.l0,if_neg (by omega)]
    rfl
  | succ d ih =>
    intro i m n r q hi h0 h1 h2 h3;have e2:=wsucc (i:=i) (n:=l.length) (by omega) (by omega)
    have e3:wrap64 (r+1)=r+1:=wrap64_id (by omega) (by omega)
    have e4:wrap64 (q+1)=q+1:=wrap64_id (by omega) (by omega)
    have key:∀ m' n' r' q',(m',r')=stepR (fun x=>decide (x > t)) (m,r) (rd l (i:Int))→(n',q')=stepR (fun x=>decide (x < t)) (n,q) (rd l (i:Int))→0≤r'→r'≤((i+1:Nat):Int)→0≤q'→q'≤((i+1:Nat):Int)→Tells (fun k=>Bzz.l0 k l t m' n' r' q' ((i+1:Nat):Int)) (runR (fun x=>decide (x > t)) (m,r) (l.drop i),runR (fun x=>decide (x < t)) (n,q) (l.drop i),0):=by
      intro m' n' r' q' e e' g0 g1 g2 g3;have:=ih (i+1) m' n' r' q' (by omega) g0 g1 g2 g3
      rw[e,e'] at this;rw[rd_drop l i (by omega)]
      exact this
    by_cases c:rd l (i:Int)≤t
    · by_cases c':rd l (i:Int)≥t
      · refine Tells.up (key (mx m 0) (mx n 0) 0 0 ?_ ?_ (by omega) (by omega) (by omega) (by omega)) (fun k=>?_)
        · unfold stepR;simp only[decide_eq_false (show ¬ rd l (i:Int) > t by omega),Bool.false_eq_true,if_false]
        · unfold stepR;simp only[decide_eq_false (show ¬ rd l (i:Int) < t by omega),Bool.false_eq_true,if_false]
        · rw[Bzz.l0,if_pos (by omega),if_pos (by omega),if_pos c,if_pos c',e2]
      · refine Tells.up (key (mx m 0) (mx n (q+1)) 0 (q+1) ?_ ?_ (by omega) (by omega) (by omega) (by omega)) (fun k=>?_)
        · unfold stepR;simp only[decide_eq_false (show ¬ rd l (i:Int) > t by omega),Bool.false_eq_true,if_false]
        · unfold stepR;simp only[decide_eq_true (show rd l (i:Int) < t by omega),if_true]
        · rw[Bzz.l0,if_pos (by omega),if_pos (by omega),if_pos c,if_neg c',e2,e4]
    · by_cases c':rd l (i:Int)≥t
      · refine Tells.up (key (mx m (r+1)) (mx n 0) (r+1) 0 ?_ ?_ (by omega) (by omega) (by omega) (by omega)) (fun k=>?_)
        · unfold stepR;simp only[decide_eq_true (show rd l (i:Int) > t by omega),if_true]
        · unfold stepR;simp only[decide_eq_false (show ¬ rd l (i:Int) < t by omega),Bool.false_eq_true,if_false]
        · rw[Bzz.l0,if_pos (by omega),if_pos (by omega),if_neg c,if_pos c',e2,e3]
      · exact absurd (show rd l (i:Int)≤t∨rd l (i:Int)≥t by omega) (by omega)
def runsR (l:List Int) (t:Int):Int × Int × Int:=(runR (fun x=>decide (x > t)) (0,0) l,runR (fun x=>decide (x < t)) (0,0) l,0)
theorem runs_tells {l:List Int} (h:StOk l) {e:Int} (hc:Tells (fun k=>Bzx.f k l) e) (he:e=0) (t:Int):Tells (fun k=>Czz.f k l t) (runsR l t):=by
  subst he;have hn:=h.len;unfold Czz.f Azm.f Azf.f;refine hc.bind ?_;simp only[if_true];exact(runs1_loop l t (by omega) l.length 0 0 0 (by omega) (by omega) (by omega)).bind ((runs2_loop l t (by omega) l.length 0 0 0 (by omega) (by omega) (by omega)).bind (Tells.const _))
theorem runs60 (l:List Int) (t:Int):∃ r,Tells (fun k=>Czz.f k l t) r∧Tells (fun k=>Bzz.f k l t) r:=by
  obtain⟨e,a,b,c⟩:=check60 l;by_cases he:e=0
  · have h:=c he
    have hn:=h.len;refine⟨runsR l t,runs_tells h a he t,?_⟩;subst he;unfold Bzz.f;refine b.bind ?_;simp only[if_true];exact rruns_loop l t (by omega) l.length 0 0 0 0 0 (by omega) (by omega) (by omega) (by omega) (by omega)
  · refine⟨(0,0,e),?_,?_⟩
    · unfold Czz.f;refine a.bind ?_;simp only[if_neg he];exact Tells.const _
    · unfold Bzz.f;refine b.bind ?_;simp only[if_neg he];exact Tells.const _

theorem idx_ok (l:List Int) (hl:l.length≤1000) (hr:∀ i:Nat,i < l.length→-1099511627776≤rd l (i:Int)∧rd l (i:Int)≤1099511627776) (d:Nat):∀ i:Nat,i+d=l.length→Tells (fun k=>Azp.l0 k l (l.length:Int) (i:Int)) (-1):=by
  induction d with
  | zero =>
    intro i hi;refine Tells.up (Tells.const _) (fun k=>?_)
    rw[Azp.l0,if_neg (by omega)]
  | succ d ih =>
    intro i hi;have h:=hr i (by omega)
    refine Tells.up (ih (i+1) (by omega)) (fun k=>?_)
    rw[Azp.l0,if_pos (by omega),if_pos (by omega),if_pos (by omega)]
    unfold Ezx.f;rw[if_neg (by omega),Option.bind_some,decide_eq_false (by omega),if_neg (by decide),wsucc (n:=l.length) (by omega) (by omega)]
theorem check_ok {l:List Int} (h:StOk l):Tells (fun k=>Bzx.f k l) 0:=by
  have hp:=h.pos;have hn:=h.len;unfold Bzx.f Bzy.f Azp.f;simp only[if_neg (show ¬ (l.length:Int)=0 by omega),if_neg (show ¬ (l.length:Int) > 512 by omega)]
  refine Tells.bind ((idx_ok l (by omega) h.rng l.length 0 (by omega)).bind (Tells.const (decide ((-1:Int)≥0)))) ?_
  simp only[show decide ((-1:Int)≥0)=false from rfl,Bool.false_eq_true,if_false]
  exact Tells.const _

def lead (P:Int→Bool):List Int→Nat
  | []=>0
  | x :: l=>if P x then lead P l+1 else 0
def best (P:Int→Bool):List Int→Nat
  | []=>0
  | x :: l=>max (lead P (x :: l)) (best P l)
theorem lead_le_best (P:Int→Bool) (l:List Int):lead P l≤best P l:=by
  cases l with
  | nil=>exact Nat.le_refl _
  | cons x l=>exact Nat.le_max_left _ _
theorem lead_len (P:Int→Bool) (l:List Int):lead P l≤l.length:=by
  induction l with
  | nil=>exact Nat.le_refl _
  | cons x l ih=>unfold lead;split <;> simp <;> omega
theorem best_len (P:Int→Bool) (l:List Int):best P l≤l.length:=by
  induction l with
  | nil=>exact Nat.le_refl _
  | cons x l ih =>
    have:=lead_len P (x :: l);unfold best;rw[List.length_cons] at *;omega
theorem run_best (P:Int→Bool) (l:List Int):∀ m r:Int,0≤r→r≤m→runR P (m,r) l=max m (max (r+lead P l) (best P l)):=by
  induction l with
  | nil=>intro m r h0 h1;show m=_;simp [lead,best];omega
  | cons x l ih =>
    intro m r h0 h1;show runR P (stepR P (m,r) x) l=_
    have hb:=lead_le_best P l;unfold stepR;by_cases hx:P x=true
    · simp only[if_pos hx]
      rw[ih _ _ (by omega) (by rw[mx_eq];omega),mx_eq]
      have e1:lead P (x :: l)=lead P l+1:=by rw[lead,if_pos hx]
      have e2:best P (x :: l)=max (lead P l+1) (best P l):=by rw[best,e1]
      rw[e1,e2];omega
    · simp only[if_neg hx]
      rw[ih _ _ (by omega) (by rw[mx_eq];omega),mx_eq]
      have e1:lead P (x :: l)=0:=by rw[lead,if_neg hx]
      have e2:best P (x :: l)=best P l:=by rw[best,e1];omega
      rw[e1,e2];omega
theorem run_best0 (P:Int→Bool) (l:List Int):runR P (0,0) l=(best P l:Int):=by
  rw[run_best P l 0 0 (by omega) (by omega)]
  have:=lead_le_best P l;omega
theorem best_ge (P:Int→Bool) (l:List Int):∀ i,lead P (l.drop i)≤best P l:=by
  induction l with
  | nil=>intro i;simp [lead]
  | cons x l ih =>
    intro i;cases i with
    | zero=>exact Nat.le_max_left _ _
    | succ i=>exact Nat.le_trans (ih i) (Nat.le_max_right _ _)
theorem best_at (P:Int→Bool) (l:List Int):best P l=0∨∃ i,i < l.length∧lead P (l.drop i)=best P l:=by
  induction l with
  | nil=>exact .inl rfl
  | cons x l ih =>
    unfold best;rcases Nat.le_total (best P l) (lead P (x :: l)) with h|h
    · exact .inr ⟨0,by simp,by rw[Nat.max_eq_left h];rfl⟩
    · rw[Nat.max_eq_right h]
      rcases ih with ih|⟨i,hi,e⟩
      · exact .inl ih
      · exact .inr ⟨i+1,by simpa using hi,e⟩
theorem best_zero (P:Int→Bool) (l:List Int):best P l=0 ↔ ∀ x ∈ l,P x=false:=by
  induction l with
  | nil=>simp [best]
  | cons x l ih =>
    have hb:=lead_le_best P l;unfold best;by_cases hx:P x=true
    · rw[lead,if_pos hx]
      constructor
      · intro h;omega
      · intro h;have:=h x List.mem_cons_self;rw[hx] at this;cases this
    · rw[lead,if_neg hx,Nat.zero_max,ih]
      constructor
      · intro h y hy
        rcases List.mem_cons.1 hy with rfl|hy
        · simpa using hx
        · exact h y hy
      · intro h y hy;exact h y (List.mem_cons_of_mem _ hy)
theorem lead_mono {P Q:Int→Bool} (h:∀ x,P x=true→Q x=true) (l:List Int):lead P l≤lead Q l:=by
  induction l with
  | nil=>exact Nat.le_refl _
  | cons x l ih =>
    unfold lead;by_cases hx:P x=true
    · rw[if_pos hx,if_pos (h x hx)];omega
    · rw[if_neg hx];exact Nat.zero_le _
theorem best_mono {P Q:Int→Bool} (h:∀ x,P x=true→Q x=true) (l:List Int):best P l≤best Q l:=by
  induction l with
  | nil=>exact Nat.le_refl _
  | cons x l ih =>
    have:=lead_mono h (x :: l);unfold best;omega
theorem lead_map (P:Int→Bool) (f:Int→Int) (l:List Int):lead P (l.map f)=lead (fun x=>P (f x)) l:=by
  induction l with
  | nil=>rfl
  | cons x l ih=>rw[List.map_cons,lead,lead,ih]
theorem best_map (P:Int→Bool) (f:Int→Int) (l:List Int):best P (l.map f)=best (fun x=>P (f x)) l:=by
  induction l with
  | nil=>rfl
  | cons x l ih=>rw[List.map_cons,best,best,ih,← List.map_cons,lead_map]
theorem moved0_loop (l:List Int) (hl:l.length≤1000) (hr:∀ i:Nat,i < l.length→-1099511627776≤rd l (i:Int)∧rd l (i:Int)≤1099511627776) (d:Nat):∀ (i:Nat) (x:List Int),i+d=l.length→x.length=i→Tells (fun k=>Bzq.l0 k l 0 x (i:Int)) (x ++ (l.drop i).map (fun y=>-y)):=by
  induction d with
  | zero =>
    intro i x hi hx;rw[List.drop_of_length_le (by omega),List.map_nil,List.append_nil]
    refine Tells.up (Tells.const _) (fun k=>?_)
    rw[Bzq.l0,if_neg (by omega)]
  | succ d ih =>
    intro i x hi hx;have h:=hr i (by omega)
    rw[rd_drop l i (by omega),List.map_cons]
    have:=ih (i+1) (x ++ [-(rd l (i:Int))]) (by omega) (by simp;omega)
    rw[List.append_assoc] at this;refine Tells.up this (fun k=>?_)
    rw[Bzq.l0,if_pos (by omega),if_pos rfl,if_pos (by omega),if_pos (by omega),wsucc (n:=l.length) (by omega) (by omega),wrap64_id (n:=-_) (by omega) (by omega)]
theorem moved0_tells {l:List Int} (h:StOk l):Tells (fun k=>Bzq.f k l 0) (l.map (fun y=>-y)):=by
  have hn:=h.len;unfold Bzq.f;exact moved0_loop l (by omega) h.rng l.length 0 [] (by omega) rfl
theorem neg_ok {l:List Int} (h:StOk l):StOk (l.map (fun y=>-y)):=by
  refine⟨by rw[List.length_map];exact h.pos,by rw[List.length_map];exact h.len,fun i hi=>?_⟩
  rw[List.length_map] at hi;rw[rd_map _ _ i hi];have:=h.rng i hi;omega
theorem lead_drop (P:Int→Bool) (l:List Int) (i n:Nat) (hn:i+n < l.length):lead P (l.drop (i+n))=if P (rd l ((i+n:Nat):Int)) then lead P (l.drop (i+n+1))+1 else 0:=by
  rw[rd_drop l (i+n) hn,lead]
theorem sr_l1 (l:List Int) (t a b:Int) (f m q:Bool) (i:Nat) (hi:i < l.length) (hl:l.length≤100) (R:Bool)
    (hT:Tells (fun k=>papermilllaw60_StatsRuns.l0 k l t a b (f || (((lead (fun x=>decide (x > t)) (l.drop i):Nat):Int) == a)) (m || decide (((lead (fun x=>decide (x > t)) (l.drop i):Nat):Int) > a)) (q && (rd l (i:Int) == t)) ((i+1:Nat):Int)) R) (d:Nat) :
    ∀ n:Nat,i+n+d=l.length→n+lead (fun x=>decide (x > t)) (l.drop (i+n))=lead (fun x=>decide (x > t)) (l.drop i)→Tells (fun k=>papermilllaw60_StatsRuns.l1 k l t a b f m q (i:Int) (n:Int)) R:=by
  have wi:=wsucc (i:=i) (n:=l.length) hi (by omega)
  have c1:(0:Int)≤(i:Int):=by omega
  have c2:(i:Int) < (l.length:Int):=by omega
  have fin:∀ n:Nat,n=lead (fun x=>decide (x > t)) (l.drop i)→∀ k,papermilllaw60_StatsRuns.l0 k l t a b (f || (((lead (fun x=>decide (x > t)) (l.drop i):Nat):Int) == a)) (m || decide (((lead (fun x=>decide (x > t)) (l.drop i):Nat):Int) > a)) (q && (rd l (i:Int) == t)) ((i+1:Nat):Int)=(if f=true then(if m=true then(if q=true then(if 0≤(i:Int) then(if(i:Int) < (l.length:Int) then(papermilllaw60_StatsRuns.l0 k l t a b true true ((rd l (i:Int)) == t) ((i+1:Nat):Int)) else(none)) else(none)) else(papermilllaw60_StatsRuns.l0 k l t a b true true false ((i+1:Nat):Int))) else(if q=true then(if 0≤(i:Int) then(if(i:Int) < (l.length:Int) then(papermilllaw60_StatsRuns.l0 k l t a b true (decide ((n:Int) > a)) ((rd l (i:Int)) == t) ((i+1:Nat):Int)) else(none)) else(none)) else(papermilllaw60_StatsRuns.l0 k l t a b true (decide ((n:Int) > a)) false ((i+1:Nat):Int)))) else(if m=true then(if q=true then(if 0≤(i:Int) then(if(i:Int) < (l.length:Int) then(papermilllaw60_StatsRuns.l0 k l t a b ((n:Int) == a) true ((rd l (i:Int)) == t) ((i+1:Nat):Int)) else(none)) else(none)) else(papermilllaw60_StatsRuns.l0 k l t a b ((n:Int) == a) true false ((i+1:Nat):Int))) else(if q=true then(if 0≤(i:Int) then(if(i:Int) < (l.length:Int) then(papermilllaw60_StatsRuns.l0 k l t a b ((n:Int) == a) (decide ((n:Int) > a)) ((rd l (i:Int)) == t) ((i+1:Nat):Int)) else(none)) else(none)) else(papermilllaw60_StatsRuns.l0 k l t a b ((n:Int) == a) (decide ((n:Int) > a)) false ((i+1:Nat):Int))))):=by
    intro n hn k;rw[← hn];cases f <;> cases m <;> cases q <;> simp only[Bool.false_or,Bool.true_or,Bool.true_and,Bool.false_and,if_true,Bool.false_eq_true,if_false,if_pos c1,if_pos c2]
  induction d with
  | zero =>
    intro n hd hn;have e0:lead (fun x=>decide (x > t)) (l.drop (i+n))=0:=by rw[List.drop_of_length_le (by omega)];rfl
    refine Tells.up hT (fun k=>?_)
    rw[fin n (by omega) k,papermilllaw60_StatsRuns.l1,wrap64_id (n:=(i:Int)+(n:Int)) (by omega) (by omega),if_neg (by omega),wi]
  | succ d ih =>
    intro n hd hn;have w0:wrap64 ((i:Int)+(n:Int))=((i+n:Nat):Int):=by rw[wrap64_id (by omega) (by omega)];omega
    have w1:wrap64 ((n:Int)+1)=((n+1:Nat):Int):=by rw[wrap64_id (by omega) (by omega)];omega
    have el:=lead_drop (fun x=>decide (x > t)) l i n (by omega)
    by_cases hx:rd l ((i+n:Nat):Int) > t
    · rw[if_pos (decide_eq_true hx)] at el
      refine Tells.up (ih (n+1) (by omega) (by rw[show i+(n+1)=i+n+1 by omega];omega)) (fun k=>?_)
      rw[papermilllaw60_StatsRuns.l1,w0,if_pos (by omega),if_pos (by omega),if_pos hx,w1]
    · rw[if_neg (by simpa using hx)] at el
      refine Tells.up hT (fun k=>?_)
      rw[fin n (by omega) k,papermilllaw60_StatsRuns.l1,w0,if_pos (by omega),if_pos (by omega),if_neg hx,wi]
theorem sr_l0 (l:List Int) (t a b:Int) (hl:l.length≤100) (R:Bool) (hT:∀ f m q:Bool,(f=true ↔ a=0∨∃ j,j < l.length∧((lead (fun x=>decide (x > t)) (l.drop j):Nat):Int)=a)→(m=true ↔ ∃ j,j < l.length∧((lead (fun x=>decide (x > t)) (l.drop j):Nat):Int) > a)→(q=true ↔ ∀ j:Nat,j < l.length→rd l (j:Int)=t)→Tells (fun k=>papermilllaw60_StatsRuns.l0 k l t a b f m q (l.length:Int)) R) (d:Nat) :
    ∀ (i:Nat) (f m q:Bool),i+d=l.length→(f=true ↔ a=0∨∃ j,j < i∧((lead (fun x=>decide (x > t)) (l.drop j):Nat):Int)=a)→(m=true ↔ ∃ j,j < i∧((lead (fun x=>decide (x > t)) (l.drop j):Nat):Int) > a)→(q=true ↔ ∀ j:Nat,j < i→rd l (j:Int)=t)→Tells (fun k=>papermilllaw60_StatsRuns.l0 k l t a b f m q (i:Int)) R:=by
  induction d with
  | zero =>
    intro i f m q hi hf hm hq;obtain rfl:i=l.length:=by omega
    exact hT f m q hf hm hq
  | succ d ih =>
    intro i f m q hi hf hm hq;have key:=ih (i+1) (f || (((lead (fun x=>decide (x > t)) (l.drop i):Nat):Int) == a)) (m || decide (((lead (fun x=>decide (x > t)) (l.drop i):Nat):Int) > a)) (q && (rd l (i:Int) == t)) (by omega) ?_ ?_ ?_
    · refine Tells.up (sr_l1 l t a b f m q i (by omega) hl R key (l.length - i) 0 (by omega) (by rw[Nat.add_zero,Nat.zero_add])) (fun k=>?_)
      rw[papermilllaw60_StatsRuns.l0,if_pos (by omega)]
      rfl
    · rw[Bool.or_eq_true,hf,beq_iff_eq]
      constructor
      · rintro ((h|⟨j,hj,e⟩)|h)
        · exact .inl h
        · exact .inr ⟨j,by omega,e⟩
        · exact .inr ⟨i,by omega,h⟩
      · rintro (h|⟨j,hj,e⟩)
        · exact .inl (.inl h)
        · rcases Nat.lt_or_ge j i with hji|hji
          · exact .inl (.inr ⟨j,hji,e⟩)
          · obtain rfl:j=i:=by omega
            exact .inr e
    · rw[Bool.or_eq_true,hm,decide_eq_true_eq]
      constructor
      · rintro (⟨j,hj,e⟩|h)
        · exact⟨j,by omega,e⟩
        · exact⟨i,by omega,h⟩
      · rintro ⟨j,hj,e⟩
        rcases Nat.lt_or_ge j i with hji|hji
        · exact .inl ⟨j,hji,e⟩
        · obtain rfl:j=i:=by omega
          exact .inr e
    · rw[Bool.and_eq_true,hq,beq_iff_eq]
      constructor
      · rintro ⟨h,e⟩ j hj
        rcases Nat.lt_or_ge j i with hji|hji
        · exact h j hji
        · obtain rfl:j=i:=by omega
          exact e
      · intro h
        exact⟨fun j hj=>h j (by omega),h i (by omega)⟩
theorem StatsRuns:papermilllaw60_StatsRuns.Pure:=by
  intro l t _ _ _ ht;have htw:=wf64 ht;refine Tells.get ?_;unfold papermilllaw60_StatsRuns.f;refine both (fun _=>awake_end) (fun hlen=>?_)
  obtain⟨e,ck,_,hok⟩:=check60 l;by_cases he:e=0
  · have h:=hok he
    have hpos:=h.pos;refine(runs_tells h ck he t).bind ?_;unfold runsR;simp only[run_best0,if_true];have hA:∀ i,lead (fun x=>decide (x > t)) (l.drop i)≤best (fun x=>decide (x > t)) l:=best_ge _ l
    have hA2:=best_at (fun x=>decide (x > t)) l
    have hA3:=best_zero (fun x=>decide (x > t)) l
    have hB3:=best_zero (fun x=>decide (x < t)) l
    have hA4:=best_len (fun x=>decide (x > t)) l
    have hB4:=best_len (fun x=>decide (x < t)) l
    have hmem:∀ x ∈ l,∃ j:Nat,j < l.length∧rd l (j:Int)=x:=fun x hx=>by
      obtain⟨j,hj,ej⟩:=List.getElem_of_mem hx;exact⟨j,hj,by rw[rd_at l j hj,ej]⟩
    have hj3:Tells (fun k=>papermilllaw60_StatsRuns.j2 k l t (best (fun x=>decide (x > t)) l:Int) (best (fun x=>decide (x < t)) l:Int) false) true:=by
      have hT:Tells (fun k=>papermilllaw60_StatsRuns.j3 k l t (best (fun x=>decide (x > t)) l:Int) (best (fun x=>decide (x < t)) l:Int) true) true:=Tells.up awake_end (fun k=>by rw[papermilllaw60_StatsRuns.j3,if_pos rfl])
      by_cases r1:t < -1125899906842624
      · exact Tells.up hT (fun k=>by rw[papermilllaw60_StatsRuns.j2,if_neg (by decide),if_pos r1])
      by_cases r2:t > 1125899906842624
      · exact Tells.up hT (fun k=>by rw[papermilllaw60_StatsRuns.j2,if_neg (by decide),if_neg r1,decide_eq_true r2])
      refine Tells.up (g:=fun k=>papermilllaw60_StatsRuns.j3 k l t (best (fun x=>decide (x > t)) l:Int) (best (fun x=>decide (x < t)) l:Int) false) ?_ (fun k=>by rw[papermilllaw60_StatsRuns.j2,if_neg (by decide),if_neg r1,decide_eq_false r2])
      have w1:wrap64 (-t)=-t:=wrap64_id (by omega) (by omega)
      have w2:wrap64 (t - 1)=t - 1:=wrap64_id (by omega) (by omega)
      have t1:=runs_tells (neg_ok h) (check_ok (neg_ok h)) rfl (-t);have t2:=runs_tells h ck he (t - 1);unfold runsR at t1 t2;rw[run_best0,run_best0,best_map,best_map] at t1;rw[run_best0,run_best0] at t2;have g1:(fun x:Int=>decide (-x > -t))=(fun x=>decide (x < t)):=by funext x;by_cases hx:x < t <;> simp <;> omega
      have g2:(fun x:Int=>decide (-x < -t))=(fun x=>decide (x > t)):=by funext x;by_cases hx:x > t <;> simp <;> omega
      rw[g1,g2] at t1;have m1:best (fun x=>decide (x > t)) l≤best (fun x=>decide (x > t - 1)) l:=best_mono (fun x hx=>by simp only[decide_eq_true_eq] at *;omega) l
      have m2:best (fun x=>decide (x < t - 1)) l≤best (fun x=>decide (x < t)) l:=best_mono (fun x hx=>by simp only[decide_eq_true_eq] at *;omega) l
      generalize best (fun x=>decide (x > t)) l=A at *
      generalize best (fun x=>decide (x < t)) l=B at *
      generalize best (fun x=>decide (x > t - 1)) l=A' at *
      generalize best (fun x=>decide (x < t - 1)) l=B' at *
      refine Tells.up ((moved0_tells h).bind (g:=fun k t910=>((Czz.f k t910 (wrap64 (-t))).bind fun bt913=>((Czz.f k l (wrap64 (t - 1))).bind fun bt916=>(if bt913.2.2=0 then(if bt916.2.2=0 then(if bt913.1=(B:Int) then(if bt913.2.1=(A:Int) then(if bt916.1≥(A:Int) then(if bt916.2.1≤(B:Int) then((Azz.f k).bind fun t919=>(some t919)) else(none)) else(none)) else(none)) else(none)) else(none)) else(none))))) ?_) (fun k=>by rw[papermilllaw60_StatsRuns.j3,if_neg (by decide)])
      rw[w1,w2];refine t1.bind (t2.bind ?_);simp only[if_true,if_pos (show(A':Int)≥(A:Int) by omega),if_pos (show(B':Int)≤(B:Int) by omega)]
      exact awake_end
    refine sr_l0 l t _ _ (by omega) true (fun f m q hf hm hq=>?_) l.length 0 ((best (fun x=>decide (x > t)) l:Int) == 0) false true (by omega) (by simp) (by simp) (by simp)
    have f1:f=true:=by
      rw[hf];rcases hA2 with h0|⟨i,hi,e⟩
      · exact .inl (by omega)
      · exact .inr ⟨i,hi,by omega⟩
    have m1:m=false:=by
      cases m with
      | false=>rfl
      | true =>
        obtain⟨j,_,hj⟩:=hm.1 rfl;have:=hA j;omega
    subst f1 m1;have q1:q=(decide (best (fun x=>decide (x > t)) l=0) && decide (best (fun x=>decide (x < t)) l=0)):=by
      rw[Bool.eq_iff_iff,hq,Bool.and_eq_true,decide_eq_true_eq,decide_eq_true_eq,hA3,hB3];constructor
      · intro hx
        constructor <;> intro x hxl <;> obtain⟨j,hj,ej⟩:=hmem x hxl <;> have:=hx j hj <;> rw[ej] at this <;> simp <;> omega
      · rintro ⟨h1,h2⟩ j hj
        have hm:=rd_mem l (j:Int) (by omega) (by omega)
        have a:=h1 _ hm;have b:=h2 _ hm;simp only[decide_eq_false_iff_not] at a b;omega
    subst q1;clear hf hm hq hA hA2 hA3 hB3;generalize best (fun x=>decide (x > t)) l=A at *
    generalize best (fun x=>decide (x < t)) l=B at *
    refine Tells.up hj3 (fun k=>?_)
    rw[papermilllaw60_StatsRuns.l0,if_neg (by omega),if_pos rfl,if_neg (by decide),if_neg (by omega),if_neg (by omega),if_neg (by omega),if_neg (by omega)]
    by_cases a0:A=0
    · rw[if_pos (by omega)]
      congr 1
      by_cases b0:B=0
      · subst a0 b0;rfl
      · rw[show((B:Int) == 0)=false by simp;omega,decide_eq_false b0,Bool.and_false];rfl
    · rw[if_neg (by omega),decide_eq_false a0];rfl
  · have hQ:Tells (fun k=>Czz.f k l t) (0,0,e):=by
      unfold Czz.f;refine ck.bind ?_;simp only[if_neg he];exact Tells.const _
    refine hQ.bind ?_;simp only[if_neg he,if_true];exact awake_end

end Go.Proofs.Ytokkiljkgejnhaa.Pure
