import Derived.Test.YtokkiljkgejnhaaPrint42
namespace Go.Proofs.Ytokkiljkgejnhaa.Pure
open Go.RowKit Go.Proofs.Ytokkiljkgejnhaa.Print Go.Proofs.YtokkiljkgejnhaaW.PrintWords Go.Proofs.YtokkiljkgejnhaaW.PrintLast
set_option linter.unusedVariables false
set_option linter.unusedSimpArgs false

/-- From some number of rounds on f tells r. -/
def Tells {α:Type} (f:Nat→Option α) (r:α):Prop:=∃ K,∀ k,K≤k→f k=some r
namespace Tells
theorem leO {α:Type} {f:Nat→Option α} (hm:∀ k,LeO (f k) (f (k+1))) {K:Nat} {r:α} (h:f K=some r):∀ k,K≤k→f k=some r:=by
  intro k hk;induction hk with
  | refl=>exact h
  | step _ ih=>exact hm _ _ ih
theorem of {α:Type} {f:Nat→Option α} (hm:∀ k,LeO (f k) (f (k+1))) {r:α} (h:∃ K,f K=some r):Tells f r:=by
  obtain⟨K,h⟩:=h;exact⟨K,leO hm h⟩
theorem get {α:Type} {f:Nat→Option α} {r:α} (h:Tells f r):∃ k,f k=some r:=by
  obtain⟨K,h⟩:=h;exact⟨K,h K (Nat.le_refl K)⟩
theorem const {α:Type} (r:α):Tells (fun _=>some r) r:=⟨0,fun _ _=>rfl⟩
theorem bind {α β:Type} {f:Nat→Option α} {g:Nat→α→Option β} {r:α} {s:β} (h:Tells f r) (h':Tells (fun k=>g k r) s):Tells (fun k=>(f k).bind (g k)) s:=by
  obtain⟨K,h⟩:=h;obtain⟨K',h'⟩:=h';refine⟨max K K',fun k hk=>?_⟩
  show(f k).bind (g k)=some s
  rw[h k (by omega)]
  exact h' k (by omega)
theorem congr {α:Type} {f g:Nat→Option α} {r:α} (h:Tells g r) (e:∀ k,f k=g k):Tells f r:=by
  obtain⟨K,h⟩:=h;exact⟨K,fun k hk=>(e k).trans (h k hk)⟩
theorem up {α:Type} {f g:Nat→Option α} {r:α} (h:Tells g r) (e:∀ k,f (k+1)=g k):Tells f r:=by
  obtain⟨K,h⟩:=h;refine⟨K+1,fun k hk=>?_⟩
  obtain⟨m,rfl⟩:∃ m,k=m+1:=⟨k - 1,by omega⟩
  exact(e m).trans (h m (by omega))
theorem ite {α:Type} {c:Prop} [Decidable c] {f g:Nat→Option α} {r s:α} (h:c→Tells f r) (h':¬ c→Tells g s):Tells (fun k=>if c then f k else g k) (if c then r else s):=by
  by_cases hc:c
  · simp only[if_pos hc];exact h hc
  · simp only[if_neg hc];exact h' hc
theorem pos {α:Type} {c:Prop} [Decidable c] {f g:Nat→Option α} {r:α} (hc:c) (h:Tells f r):Tells (fun k=>if c then f k else g k) r:=by
  simp only[if_pos hc];exact h
theorem neg {α:Type} {c:Prop} [Decidable c] {f g:Nat→Option α} {r:α} (hc:¬ c) (h:Tells g r):Tells (fun k=>if c then f k else g k) r:=by
  simp only[if_neg hc];exact h
end Tells
theorem wrap64_id {n:Int} (h0:-9223372036854775808≤n) (h1:n < 9223372036854775808):wrap64 n=n:=by
  unfold wrap64;omega
theorem wf64 {n:Int} (h:(Lit.int .i64 n).wf=true):-9223372036854775808≤n∧n < 9223372036854775808:=by
  have h':(decide (-9223372036854775808≤n) && decide (n≤9223372036854775807))=true:=h;simp only[Bool.and_eq_true,decide_eq_true_eq] at h';omega

theorem rd_drop (l:List Int) (i:Nat) (h:i < l.length):l.drop i=rd l (i:Int) :: l.drop (i+1):=by
  rw[List.drop_eq_getElem_cons h];congr 1
  show l[i]=l.getD (i:Int).toNat 0
  simp [h]
theorem rd_at (l:List Int) (i:Nat) (h:i < l.length):rd l (i:Int)=l[i]:=by
  show l.getD (i:Int).toNat 0=_
  simp [h]
theorem rd_mid (A:List Int) (x:Int) (B:List Int):rd (A ++ x :: B) (A.length:Int)=x:=by
  show(A ++ x :: B).getD (A.length:Int).toNat 0=x
  simp
theorem rd_mid' {l A:List Int} {x:Int} {B:List Int} {i:Int} (h:l=A ++ x :: B) (hi:i=(A.length:Int)):rd l i=x:=by
  subst h hi;exact rd_mid A x B
theorem set_mid (A:List Int) (x v:Int) (B:List Int):(A ++ x :: B).set ((A.length:Int)).toNat v=A ++ v :: B:=by simp
theorem set_mid' {l A:List Int} {x v:Int} {B:List Int} {i:Int} (h:l=A ++ x :: B) (hi:i=(A.length:Int)):l.set i.toNat v=A ++ v :: B:=by
  subst h hi;exact set_mid A x v B
theorem rd_mem (l:List Int) (i:Int) (h0:0≤i) (h:i < (l.length:Int)):rd l i ∈ l:=by
  obtain⟨j,rfl⟩:∃ j:Nat,i=(j:Int):=⟨i.toNat,by omega⟩
  rw[rd_at l j (by omega)]
  exact List.getElem_mem _
theorem ext_rd {a b:List Int} (hl:a.length=b.length) (h:∀ i:Nat,i < a.length→rd a (i:Int)=rd b (i:Int)):a=b:=by
  apply List.ext_getElem hl;intro i h1 h2;have:=h i h1;rwa [rd_at a i h1,rd_at b i h2] at this
theorem rd_map (f:Int→Int) (l:List Int) (i:Nat) (h:i < l.length):rd (l.map f) (i:Int)=f (rd l (i:Int)):=by
  rw[rd_at _ i (by simpa using h),rd_at l i h]
  simp
theorem rd_set (l:List Int) (i j:Nat) (v:Int) (h:j < l.length):rd (l.set i v) (j:Int)=if i=j then v else rd l (j:Int):=by
  rw[rd_at _ j (by simpa using h),rd_at l j h,List.getElem_set]
theorem rd_replicate (n i:Nat) (v:Int) (h:i < n):rd (List.replicate n v) (i:Int)=v:=by
  rw[rd_at _ i (by simpa using h)]
  simp
/-- The sum,as the program adds it up. -/
def sumFrom (s:Int):List Int→Int
  | []=>s
  | x :: l=>sumFrom (wrap64 (s+x)) l
/-- All from 0 to most. -/
def inAll (most:Int) (l:List Int):Bool:=l.all fun x=>decide (0≤x) && decide (x≤most)
theorem inAll_iff {m:Int} {l:List Int}:inAll m l=true ↔ ∀ x ∈ l,0≤x∧x≤m:=by
  unfold inAll;simp [List.all_eq_true,Bool.and_eq_true,decide_eq_true_eq]
theorem inAll_cons {m x:Int} {l:List Int}:inAll m (x :: l)=((decide (0≤x) && decide (x≤m)) && inAll m l):=rfl
theorem sum_bounds {m:Int} {l:List Int} (h:inAll m l=true):0≤l.sum∧l.sum≤m * l.length:=by
  induction l with
  | nil=>simp
  | cons x l ih =>
    rw[inAll_cons,Bool.and_eq_true,Bool.and_eq_true,decide_eq_true_eq,decide_eq_true_eq] at h;have:=ih h.2;rw[List.sum_cons,List.length_cons];have e:m * ((l.length+1:Nat):Int)=m * l.length+m:=by rw[Int.natCast_add,Int.mul_add];simp
    omega
theorem sum_mem_le {m:Int} {l:List Int} (h:inAll m l=true):∀ x ∈ l,x≤l.sum:=by
  induction l with
  | nil=>simp
  | cons y l ih =>
    have h':=h;rw[inAll_cons,Bool.and_eq_true,Bool.and_eq_true,decide_eq_true_eq,decide_eq_true_eq] at h';have hb:=sum_bounds h'.2;intro x hx;rw[List.sum_cons];rcases List.mem_cons.1 hx with rfl|hx
    · omega
    · have:=ih h'.2 x hx;omega
theorem sumFrom_eq {m:Int} (l:List Int) (h:inAll m l=true):∀ s,0≤s→0≤m→s+m * l.length < 9223372036854775808→sumFrom s l=s+l.sum:=by
  induction l with
  | nil=>intro s _ _ _;simp [sumFrom]
  | cons x l ih =>
    intro s h0 hm h1;rw[inAll_cons,Bool.and_eq_true,Bool.and_eq_true,decide_eq_true_eq,decide_eq_true_eq] at h;have e:m * ((l.length+1:Nat):Int)=m * l.length+m:=by rw[Int.natCast_add,Int.mul_add];simp
    rw[List.length_cons,e] at h1;have hp:0≤m * (l.length:Int):=Int.mul_nonneg hm (by omega)
    show sumFrom (wrap64 (s+x)) l=_
    rw[wrap64_id (by omega) (by omega),ih h.2 (s+x) (by omega) hm (by omega),List.sum_cons]
    omega
/-- 0,1,..,n - 1 -/
def idx (n:Nat):List Int:=(List.range n).map (fun i:Nat=>(i:Int))
theorem idx_len (n:Nat):(idx n).length=n:=by simp [idx]
theorem idx_succ (n:Nat):idx (n+1)=idx n ++ [(n:Int)]:=by simp [idx,List.range_succ]
theorem mem_idx {n:Nat} {i:Int}:i ∈ idx n ↔ 0≤i∧i < (n:Int):=by
  unfold idx;rw[List.mem_map];constructor
  · rintro ⟨j,hj,rfl⟩
    have:=List.mem_range.1 hj;omega
  · rintro ⟨h0,h1⟩
    exact⟨i.toNat,List.mem_range.2 (by omega),by omega⟩
theorem rd_idx (n i:Nat) (h:i < n):rd (idx n) (i:Int)=i:=by
  rw[rd_at _ i (by rw[idx_len];exact h)]
  simp [idx]
theorem idx_nodup (n:Nat):(idx n).Nodup:=by
  induction n with
  | zero=>simp [idx]
  | succ n ih =>
    rw[idx_succ,List.nodup_append];refine⟨ih,by simp,?_⟩
    intro a ha b hb;rw[List.mem_singleton] at hb;have:=mem_idx.1 ha;omega
theorem map_idx (l:List Int):(idx l.length).map (rd l)=l:=by
  apply ext_rd (by simp [idx_len])
  intro i hi;have hi':i < l.length:=by simpa [idx_len] using hi
  rw[rd_map _ _ i (by rw[idx_len];exact hi'),rd_idx _ _ hi']

structure StOk (l:List Int):Prop where
  pos:0 < l.length
  len:l.length≤512
  rng:∀ i:Nat,i < l.length→-1099511627776≤rd l (i:Int)∧rd l (i:Int)≤1099511627776
theorem both {α:Type} {c:Prop} [Decidable c] {f g:Nat→Option α} {r:α} (h:c→Tells f r) (h':¬ c→Tells g r):Tells (fun k=>if c then f k else g k) r:=by
  by_cases hc:c
  · simp only[if_pos hc];exact h hc
  · simp only[if_neg hc];exact h' hc
theorem wsucc {i n:Nat} (h:i < n) (hn:n≤100000):wrap64 ((i:Int)+1)=((i+1:Nat):Int):=by rw[wrap64_id (by omega) (by omega)];omega
theorem stcheck_loop (l:List Int) (hl:l.length≤1000) (d:Nat):∀ i:Nat,i+d=l.length→∃ r,Tells (fun k=>Azp.l0 k l (l.length:Int) (i:Int)) r∧Tells (fun k=>Azj.l0 k l (i:Int)) (if r≥0 then 1 else 0)∧(¬ r≥0→∀ j:Nat,i≤j→j < l.length→-1099511627776≤rd l (j:Int)∧rd l (j:Int)≤1099511627776):=by
  induction d with
  | zero =>
    intro i hi;refine⟨-1,Tells.up (Tells.const _) (fun k=>?_),Tells.up (Tells.const _) (fun k=>?_),fun _ j h1 h2=>by omega⟩
    · rw[Azp.l0,if_neg (by omega)]
    · rw[Azj.l0,if_neg (by omega),if_neg (by omega)]
  | succ d ih =>
    intro i hi;have e2:=wsucc (i:=i) (n:=l.length) (by omega) (by omega)
    have c1:(i:Int) < (l.length:Int):=by omega
    have c2:(0:Int)≤(i:Int):=by omega
    by_cases h0:rd l (i:Int) < -1099511627776
    · refine⟨(i:Int),Tells.up (Tells.const _) (fun k=>?_),Tells.up (Tells.const _) (fun k=>?_),fun h=>absurd c2 h⟩
      · rw[Azp.l0,if_pos c1,if_pos c2,if_pos c1]
        unfold Ezx.f;rw[if_pos h0,Option.bind_some,if_pos rfl]
      · rw[Azj.l0,if_pos c1,if_pos c2,if_pos h0,if_pos c2]
    by_cases h1:rd l (i:Int) > 1099511627776
    · refine⟨(i:Int),Tells.up (Tells.const _) (fun k=>?_),Tells.up (Tells.const _) (fun k=>?_),fun h=>absurd c2 h⟩
      · rw[Azp.l0,if_pos c1,if_pos c2,if_pos c1]
        unfold Ezx.f;rw[if_neg h0,Option.bind_some,if_pos (decide_eq_true h1)]
      · rw[Azj.l0,if_pos c1,if_pos c2,if_neg h0,if_pos h1,if_pos c2]
    obtain⟨r,a,b,c⟩:=ih (i+1) (by omega)
    refine⟨r,Tells.up a (fun k=>?_),Tells.up b (fun k=>?_),fun hr j hj hj2=>?_⟩
    · rw[Azp.l0,if_pos c1,if_pos c2,if_pos c1]
      unfold Ezx.f;rw[if_neg h0,Option.bind_some,decide_eq_false h1,if_neg (by decide),e2]
    · rw[Azj.l0,if_pos c1,if_pos c2,if_neg h0,if_neg h1,e2]
    · rcases Nat.lt_or_ge i j with hij|hij
      · exact c hr j hij hj2
      · obtain rfl:j=i:=by omega
        exact⟨by omega,by omega⟩
theorem check60 (l:List Int):∃ r,Tells (fun k=>Bzx.f k l) r∧Tells (fun k=>Azj.f k l) r∧(r=0→StOk l):=by
  by_cases h2:(l.length:Int)=0
  · exact⟨10,(Tells.const 10).congr (fun k=>by unfold Bzx.f;rw[if_pos h2]),(Tells.const 10).congr (fun k=>by unfold Azj.f;rw[if_pos h2]),fun h=>absurd h (by decide)⟩
  by_cases h5:(l.length:Int) > 512
  · exact⟨8,(Tells.const 8).congr (fun k=>by unfold Bzx.f;rw[if_neg h2,if_pos h5]),(Tells.const 8).congr (fun k=>by unfold Azj.f;rw[if_neg h2,if_pos h5]),fun h=>absurd h (by decide)⟩
  obtain⟨r,a,b,c⟩:=stcheck_loop l (by omega) l.length 0 (by omega)
  refine⟨if r≥0 then 1 else 0,?_,b.congr (fun k=>by unfold Azj.f;rw[if_neg h2,if_neg h5];rfl),fun h=>?_⟩
  · unfold Bzx.f Bzy.f Azp.f
    simp only[if_neg h2,if_neg h5];refine Tells.bind (a.bind (Tells.const (decide (r≥0)))) ?_;by_cases hr:r≥0
    · simp only[decide_eq_true hr,if_true,if_pos hr];exact Tells.const _
    · simp only[decide_eq_false hr,Bool.false_eq_true,if_false,if_neg hr];exact Tells.const _
  · by_cases hr:r≥0
    · rw[if_pos hr] at h;exact absurd h (by decide)
    · exact⟨by omega,by omega,fun i hi=>c hr i (by omega) hi⟩
theorem awake_tells:Tells (fun k=>Azz.f k) true:=Tells.of (fun k=>Azz.mono k) ⟨300,by decide +kernel⟩
theorem awake_end:Tells (fun k=>(Azz.f k).bind fun t=>(some t)) true:=awake_tells.bind (Tells.const _)
theorem mx_eq (a b:Int):mx a b=max a b:=by unfold mx;split <;> omega

theorem hist_l2 (l E:List Int) (m:Nat) (hE:E.length=m+1) (hm:m≤100) (j:Nat) (hj:j < l.length) (hl:l.length≤1000)
    (next:∀ y:List Int,y.length=m→∃ r,Tells (fun k=>Azv.l1 k E y l (l.length:Int) ((j+1:Nat):Int)) r∧Tells (fun k=>Azq.l1 k l E y ((j+1:Nat):Int)) r∧r.1.length≤1000) (d:Nat) :
    ∀ (i:Nat) (y:List Int),i+d=m→y.length=m→∃ r,Tells (fun k=>Azv.l2 k E y (rd l (j:Int)) l (l.length:Int) (j:Int) (m:Int) (i:Int)) r∧Tells (fun k=>Azq.l2 k l E y (j:Int) (i:Int)) r∧r.1.length≤1000:=by
  have ej:=wsucc (i:=j) (n:=l.length) hj (by omega)
  induction d with
  | zero =>
    intro i y hi hy;obtain⟨r,a,b,c⟩:=next y hy
    refine⟨r,Tells.up a (fun k=>?_),Tells.up b (fun k=>?_),c⟩
    · rw[Azv.l2,if_neg (by omega),ej]
    · rw[Azq.l2,if_neg (by omega),ej]
  | succ d ih =>
    intro i y hi hy;have ei:=wsucc (i:=i) (n:=m) (by omega) (by omega)
    have c0:(i:Int) < (m:Int):=by omega
    have c1:(0:Int)≤(i:Int):=by omega
    have c2:(i:Int) < (E.length:Int):=by omega
    have c3:(0:Int)≤((i+1:Nat):Int):=by omega
    have c4:((i+1:Nat):Int) < (E.length:Int):=by omega
    have c5:(i:Int) < (y.length:Int):=by omega
    have c6:(0:Int)≤(j:Int):=by omega
    have c7:(j:Int) < (l.length:Int):=by omega
    by_cases h1:rd E (i:Int)≤rd l (j:Int)
    · by_cases h2:rd l (j:Int) < rd E ((i+1:Nat):Int)
      · obtain⟨r,a,b,c⟩:=ih (i+1) (y.set ((i:Nat):Int).toNat (wrap64 (rd y (i:Int)+1))) (by omega) (by simpa using hy)
        refine⟨r,Tells.up a (fun k=>?_),Tells.up b (fun k=>?_),c⟩
        · rw[Azv.l2,if_pos c0,if_pos c1,if_pos c2,if_pos h1,ei,if_pos c3,if_pos c4,if_pos h2,if_pos c5]
        · rw[Azq.l2,if_pos c5,if_pos c1,if_pos c2,if_pos c6,if_pos c7,if_pos h1,ei,if_pos c3,if_pos c4,if_pos h2]
      · obtain⟨r,a,b,c⟩:=ih (i+1) y (by omega) hy
        refine⟨r,Tells.up a (fun k=>?_),Tells.up b (fun k=>?_),c⟩
        · rw[Azv.l2,if_pos c0,if_pos c1,if_pos c2,if_pos h1,ei,if_pos c3,if_pos c4,if_neg h2]
        · rw[Azq.l2,if_pos c5,if_pos c1,if_pos c2,if_pos c6,if_pos c7,if_pos h1,ei,if_pos c3,if_pos c4,if_neg h2]
    · obtain⟨r,a,b,c⟩:=ih (i+1) y (by omega) hy
      refine⟨r,Tells.up a (fun k=>?_),Tells.up b (fun k=>?_),c⟩
      · rw[Azv.l2,if_pos c0,if_pos c1,if_pos c2,if_neg h1,ei]
      · rw[Azq.l2,if_pos c5,if_pos c1,if_pos c2,if_pos c6,if_pos c7,if_neg h1,ei]
theorem hist_l1 (l E:List Int) (m:Nat) (hE:E.length=m+1) (hm:m≤100) (hl:l.length≤1000) (d:Nat) :
    ∀ (j:Nat) (y:List Int),j+d=l.length→y.length=m→∃ r,Tells (fun k=>Azv.l1 k E y l (l.length:Int) (j:Int)) r∧Tells (fun k=>Azq.l1 k l E y (j:Int)) r∧r.1.length≤1000:=by
  induction d with
  | zero =>
    intro j y hj hy;refine⟨(y,0),Tells.up (Tells.const _) (fun k=>?_),Tells.up (Tells.const _) (fun k=>?_),by show y.length≤_;omega⟩
    · rw[Azv.l1,if_neg (by omega)]
    · rw[Azq.l1,if_neg (by omega)]
  | succ d ih =>
    intro j y hj hy;obtain⟨r,a,b,c⟩:=hist_l2 l E m hE hm j (by omega) hl (fun z hz=>ih (j+1) z (by omega) hz) m 0 y (by omega) hy
    refine⟨r,Tells.up a (fun k=>?_),Tells.up b (fun k=>?_),c⟩
    · rw[Azv.l1,if_pos (by omega),if_pos (by omega),if_pos (by omega),hy];rfl
    · rw[Azq.l1,if_pos (by omega)];rfl
theorem hist_l0 (l E:List Int) (m:Nat) (hE:E.length=m+1) (hm:m≤100) (hm1:1≤m) (hl:l.length≤1000) (d:Nat):∀ i:Nat,1≤i→i+d=E.length→∃ r,Tells (fun k=>Azv.l0 k l E (i:Int)) r∧Tells (fun k=>Azq.l0 k l E (i:Int)) r∧r.1.length≤1000:=by
  induction d with
  | zero =>
    intro i h1 hi;have w1:wrap64 ((E.length:Int) - 1)=(m:Int):=by rw[wrap64_id (by omega) (by omega)];omega
    have c0:(0:Int)≤(m:Int):=by omega
    have c1:(m:Int).toNat≤35184372088832:=by omega
    obtain⟨r,a,b,c⟩:=hist_l1 l E m hE hm hl l.length 0 (List.replicate m 0) (by omega) (by simp)
    refine⟨r,Tells.up a (fun k=>?_),Tells.up b (fun k=>?_),c⟩
    · rw[Azv.l0,if_neg (by omega),w1,if_pos c0,if_pos c1,Int.toNat_natCast];rfl
    · rw[Azq.l0,if_neg (by omega),w1,if_pos c0,if_pos c1,Int.toNat_natCast];rfl
  | succ d ih =>
    intro i h1 hi;have w1:wrap64 ((i:Int) - 1)=((i - 1:Nat):Int):=by rw[wrap64_id (by omega) (by omega)];omega
    have ei:=wsucc (i:=i) (n:=E.length) (by omega) (by omega)
    have c0:(i:Int) < (E.length:Int):=by omega
    have c1:(0:Int)≤(i:Int):=by omega
    have c2:(0:Int)≤((i - 1:Nat):Int):=by omega
    have c3:((i - 1:Nat):Int) < (E.length:Int):=by omega
    by_cases h:rd E (i:Int)≤rd E ((i - 1:Nat):Int)
    · refine⟨([],9),Tells.up (Tells.const _) (fun k=>?_),Tells.up (Tells.const _) (fun k=>?_),by simp⟩
      · rw[Azv.l0,if_pos c0,if_pos c1,w1,if_pos c2,if_pos c3,if_pos h]
      · rw[Azq.l0,if_pos c0,if_pos c1,w1,if_pos c2,if_pos c3,if_pos h]
    · obtain⟨r,a,b,c⟩:=ih (i+1) (by omega) (by omega)
      refine⟨r,Tells.up a (fun k=>?_),Tells.up b (fun k=>?_),c⟩
      · rw[Azv.l0,if_pos c0,if_pos c1,w1,if_pos c2,if_pos c3,if_neg h,ei]
      · rw[Azq.l0,if_pos c0,if_pos c1,w1,if_pos c2,if_pos c3,if_neg h,ei]
theorem hist60 (l E:List Int):∃ r,Tells (fun k=>Azv.f k l E) r∧Tells (fun k=>Azq.f k l E) r∧r.1.length≤1000:=by
  obtain⟨e,a,b,c⟩:=check60 l;unfold Azv.f Azq.f;by_cases he:e=0
  · have h:=c he
    have hn:=h.len;subst he;by_cases h2:(E.length:Int) < 2
    · refine⟨([],10),a.bind ?_,b.bind ?_,by simp⟩ <;> simp only[if_true,if_pos h2] <;> exact Tells.const _
    by_cases h3:(E.length:Int) > 64
    · refine⟨([],8),a.bind ?_,b.bind ?_,by simp⟩ <;> simp only[if_true,if_neg h2,if_pos h3] <;> exact Tells.const _
    obtain⟨r,x,y,z⟩:=hist_l0 l E (E.length - 1) (by omega) (by omega) (by omega) (by omega) (E.length - 1) 1 (by omega) (by omega)
    refine⟨r,a.bind ?_,b.bind ?_,z⟩ <;> simp only[if_true,if_neg h2,if_neg h3]
    · exact x
    · exact y
  · refine⟨([],e),a.bind ?_,b.bind ?_,by simp⟩ <;> simp only[if_neg he] <;> exact Tells.const _
theorem ssum_loop (l:List Int) (hl:l.length≤1000) (d:Nat):∀ (i:Nat) (s:Int),i+d=l.length→Tells (fun k=>Czp.l0 k s l (l.length:Int) (i:Int)) (sumFrom s (l.drop i)):=by
  induction d with
  | zero =>
    intro i s hi;rw[List.drop_of_length_le (by omega)]
    refine Tells.up (Tells.const _) (fun k=>?_)
    rw[Czp.l0,if_neg (by omega)];rfl
  | succ d ih =>
    intro i s hi;rw[rd_drop l i (by omega)]
    refine Tells.up (ih (i+1) (wrap64 (s+rd l (i:Int))) (by omega)) (fun k=>?_)
    rw[Czp.l0,if_pos (by omega),if_pos (by omega),if_pos (by omega),wsucc (n:=l.length) (by omega) (by omega)]
theorem ssum_tells (l:List Int) (hl:l.length≤1000):Tells (fun k=>Czp.f k l) (sumFrom 0 l):=by
  unfold Czp.f;exact ssum_loop l hl l.length 0 0 (by omega)
theorem rmov_l1 (l:List Int) (n i:Nat) (hin:i+n≤l.length) (hl:l.length≤1000) (x:List Int) (hx:x.length≤1000) (R:List Int × Int)
    (hT:Tells (fun k=>Azx.l0 k l (n:Int) (x ++ [sumFrom 0 ((l.take (i+n)).drop i)]) ((i+1:Nat):Int)) R) (d:Nat):∀ (j:Nat) (s:Int),j+d=i+n→i≤j→sumFrom s ((l.take (i+n)).drop j)=sumFrom 0 ((l.take (i+n)).drop i)→Tells (fun k=>Azx.l1 k l (n:Int) x (i:Int) s (j:Int)) R:=by
  have w0:wrap64 ((i:Int)+(n:Int))=((i+n:Nat):Int):=by rw[wrap64_id (by omega) (by omega)];omega
  have wi:wrap64 ((i:Int)+1)=((i+1:Nat):Int):=by rw[wrap64_id (by omega) (by omega)];omega
  induction d with
  | zero =>
    intro j s hj hij hs;have hd:(l.take (i+n)).drop j=[]:=List.drop_of_length_le (by rw[List.length_take];omega)
    rw[hd] at hs;have hs:s=sumFrom 0 ((l.take (i+n)).drop i):=hs;rw[← hs] at hT;refine Tells.up hT (fun k=>?_)
    rw[Azx.l1,w0,if_neg (by omega),if_pos (by omega),wi]
  | succ d ih =>
    intro j s hj hij hs;have hlt:(l.take (i+n)).length=i+n:=by rw[List.length_take];omega
    have hd:=rd_drop (l.take (i+n)) j (by omega)
    have er:rd (l.take (i+n)) (j:Int)=rd l (j:Int):=by rw[rd_at _ j (by omega),rd_at l j (by omega),List.getElem_take]
    rw[hd,er] at hs;refine Tells.up (ih (j+1) (wrap64 (s+rd l (j:Int))) (by omega) (by omega) hs) (fun k=>?_)
    rw[Azx.l1,w0,if_pos (by omega),if_pos (by omega),if_pos (by omega),wsucc (n:=l.length) (by omega) (by omega)]
theorem mov_l0 (l:List Int) (n:Nat) (hn:1≤n) (hnl:n≤l.length) (hl:l.length≤1000) (d:Nat):∀ (i:Nat) (x:List Int),i+n+d=l.length+1→x.length=i→∃ r,Tells (fun k=>Bzv.l0 k l (n:Int) x (i:Int)) r∧Tells (fun k=>Azx.l0 k l (n:Int) x (i:Int)) r∧r.1.length≤1000:=by
  induction d with
  | zero =>
    intro i x hi hx;have w0:wrap64 ((i:Int)+(n:Int))=((i+n:Nat):Int):=by rw[wrap64_id (by omega) (by omega)];omega
    refine⟨(x,0),Tells.up (Tells.const _) (fun k=>?_),Tells.up (Tells.const _) (fun k=>?_),by show x.length≤_;omega⟩
    · rw[Bzv.l0,w0,if_neg (by omega)]
    · rw[Azx.l0,w0,if_neg (by omega)]
  | succ d ih =>
    intro i x hi hx;have w0:wrap64 ((i:Int)+(n:Int))=((i+n:Nat):Int):=by rw[wrap64_id (by omega) (by omega)];omega
    have wi:wrap64 ((i:Int)+1)=((i+1:Nat):Int):=by rw[wrap64_id (by omega) (by omega)];omega
    obtain⟨r,a,b,c⟩:=ih (i+1) (x ++ [sumFrom 0 ((l.take (i+n)).drop i)]) (by omega) (by simp;omega)
    have hs:=ssum_tells ((l.take (i+n)).drop i) (by rw[List.length_drop,List.length_take];omega)
    refine⟨r,?_,?_,c⟩
    · refine Tells.up (hs.bind (g:=fun k t=>if x.length < 17592186044416 then Bzv.l0 k l (n:Int) (x ++ [t]) ((i+1:Nat):Int) else none) ?_) (fun k=>?_)
      · simp only[if_pos (show x.length < 17592186044416 by omega)];exact a
      · rw[Bzv.l0,w0,wi,if_pos (by omega),if_pos (by omega),if_pos (by omega),Int.toNat_natCast,Int.toNat_natCast]
    · refine Tells.up (rmov_l1 l n i (by omega) hl x (by omega) r b n i 0 (by omega) (by omega) rfl) (fun k=>?_)
      rw[Azx.l0,w0,if_pos (by omega)]
theorem mov60 (l:List Int) (n:Int):∃ r,Tells (fun k=>Bzv.f k l n) r∧Tells (fun k=>Azx.f k l n) r∧r.1.length≤1000:=by
  obtain⟨e,a,b,c⟩:=check60 l;unfold Bzv.f Azx.f;by_cases he:e=0
  · have h:=c he
    have hl:=h.len;subst he;have hA:Tells (fun k=>Bzv.j0 k l n true) ([],1):=Tells.up (Tells.const _) (fun k=>by rw[Bzv.j0,if_pos rfl])
    have hB:Tells (fun k=>Azx.j0 k l n true) ([],1):=Tells.up (Tells.const _) (fun k=>by rw[Azx.j0,if_pos rfl])
    by_cases h1:n < 1
    · refine⟨([],1),a.bind ?_,b.bind ?_,by simp⟩ <;> simp only[if_true,if_pos h1]
      · exact hA
      · exact hB
    by_cases h2:n > (l.length:Int)
    · refine⟨([],1),a.bind ?_,b.bind ?_,by simp⟩ <;> simp only[if_true,if_neg h1,decide_eq_true h2]
      · exact hA
      · exact hB
    obtain⟨m,rfl⟩:∃ m:Nat,n=(m:Int):=⟨n.toNat,by omega⟩
    obtain⟨r,x,y,z⟩:=mov_l0 l m (by omega) (by omega) (by omega) (l.length+1 - m) 0 [] (by omega) rfl
    refine⟨r,a.bind ?_,b.bind ?_,z⟩ <;> simp only[if_true,if_neg h1,decide_eq_false h2]
    · exact Tells.up x (fun k=>by rw[Bzv.j0,if_neg (by decide)];rfl)
    · exact Tells.up y (fun k=>by rw[Azx.j0,if_neg (by decide)];rfl)
  · refine⟨([],e),a.bind ?_,b.bind ?_,by simp⟩ <;> simp only[if_neg he] <;> exact Tells.const _

theorem same12 (l:List Int) (hl:l.length≤1000):Tells (fun k=>Azy.f k l l) true:=by
  have lp:∀ n i k,n < k→i+n=l.length→Azy.l0 k l l (i:Int)=some true:=by
    intro n;induction n with
    | zero =>
      intro i k hk hi;obtain⟨m,rfl⟩:∃ m,k=m+1:=⟨k - 1,by omega⟩
      unfold Azy.l0;rw[if_neg (by omega)]
    | succ n ih =>
      intro i k hk hi;obtain⟨m,rfl⟩:∃ m,k=m+1:=⟨k - 1,by omega⟩
      unfold Azy.l0;rw[if_pos (by omega),if_pos (by omega),if_pos (by omega),if_pos rfl,wrap64_id (by omega) (by omega)]
      exact ih (i+1) m (by omega) (by omega)
  refine⟨l.length+1,fun k hk=>?_⟩
  show Azy.f k l l=some true
  unfold Azy.f;rw[if_pos rfl];exact lp l.length 0 k (by omega) (by omega)

theorem StatsLists:papermilllaw60_StatsLists.Pure:=by
  intro l E n _ _ _ _ _ _ _;have hj:∀ x:Bool,Tells (fun k=>papermilllaw60_StatsLists.j0 k l E n x) true:=by
    intro x;cases x with
    | true=>exact Tells.up awake_end (fun k=>by rw[papermilllaw60_StatsLists.j0,if_pos rfl])
    | false =>
      obtain⟨r,a,b,c⟩:=hist60 l E;obtain⟨q,x,y,z⟩:=mov60 l n;refine Tells.up (a.bind (g:=fun k bt760=>((Azq.f k l E).bind fun bt764=>((Bzv.f k l n).bind fun bt768=>((Azx.f k l n).bind fun bt772=>((Azy.f k bt760.1 bt764.1).bind fun t776=>(if t776=true then(if bt760.2=bt764.2 then((Azy.f k bt768.1 bt772.1).bind fun t777=>(if t777=true then(if bt768.2=bt772.2 then((Azz.f k).bind fun t778=>(some t778)) else(none)) else(none))) else(none)) else(none))))))) (b.bind (x.bind (y.bind ((same12 r.1 c).bind ?_))))) (fun k=>by rw[papermilllaw60_StatsLists.j0,if_neg (by decide)])
      simp only[if_true];refine(same12 q.1 z).bind ?_;simp only[if_true];exact awake_end
  refine Tells.get ?_;unfold papermilllaw60_StatsLists.f;exact both (fun _=>hj _) (fun _=>hj _)

end Go.Proofs.Ytokkiljkgejnhaa.Pure
