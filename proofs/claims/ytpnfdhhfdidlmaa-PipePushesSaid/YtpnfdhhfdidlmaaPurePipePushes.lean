import Derived.Test.YtpnfdhhfdidlmaaPrint24
namespace Go.Proofs.Ytpnfdhhfdidlmaa.Pure
open Go.RowKit Go.Proofs.Ytpnfdhhfdidlmaa.Print Go.Proofs.YtpnfdhhfdidlmaaW.PrintWords Go.Proofs.YtpnfdhhfdidlmaaW.PrintLast
set_option linter.unusedVariables false
set_option linter.unusedSimpArgs false

/-- From some number of rounds on f tells r. -/
def Tells {α:Type} (f:Nat→Option α) (r:α):Prop:=∃ K,∀ k,K≤k→f k=some r
namespace Tells
theorem leO {α:Type} {f:Nat→Option α} (hm:∀ k,LeO (f k) (f (k+1))) {K:Nat} {r:α} (h:f K=some r):∀ k,K≤k→f k=some r:=by
  intro k hk;induction hk with
  | refl=>exact h
  | step _ ih=>exact hm _ _ ih
theorem of {α:Type} {f:Nat→Option α} (hm:∀ k,LeO (f k) (f (k+1))) {r:α} (h:∃ K,f K=some r):Tells f r:=by
  obtain⟨K,h⟩:=h;exact⟨K,leO hm h⟩
theorem get {α:Type} {f:Nat→Option α} {r:α} (h:Tells f r):∃ k,f k=some r:=by
  obtain⟨K,h⟩:=h;exact⟨K,h K (Nat.le_refl K)⟩
theorem const {α:Type} (r:α):Tells (fun _=>some r) r:=⟨0,fun _ _=>rfl⟩
theorem bind {α β:Type} {f:Nat→Option α} {g:Nat→α→Option β} {r:α} {s:β} (h:Tells f r) (h':Tells (fun k=>g k r) s):Tells (fun k=>(f k).bind (g k)) s:=by
  obtain⟨K,h⟩:=h;obtain⟨K',h'⟩:=h';refine⟨max K K',fun k hk=>?_⟩
  show(f k).bind (g k)=some s
  rw[h k (by omega)]
  exact h' k (by omega)
theorem congr {α:Type} {f g:Nat→Option α} {r:α} (h:Tells g r) (e:∀ k,f k=g k):Tells f r:=by
  obtain⟨K,h⟩:=h;exact⟨K,fun k hk=>(e k).trans (h k hk)⟩
theorem up {α:Type} {f g:Nat→Option α} {r:α} (h:Tells g r) (e:∀ k,f (k+1)=g k):Tells f r:=by
  obtain⟨K,h⟩:=h;refine⟨K+1,fun k hk=>?_⟩
  obtain⟨m,rfl⟩:∃ m,k=m+1:=⟨k - 1,by omega⟩
  exact(e m).trans (h m (by omega))
theorem ite {α:Type} {c:Prop} [Decidable c] {f g:Nat→Option α} {r s:α} (h:c→Tells f r) (h':¬ c→Tells g s):Tells (fun k=>if c then f k else g k) (if c then r else s):=by
  by_cases hc:c
  · simp only[if_pos hc];exact h hc
  · simp only[if_neg hc];exact h' hc
theorem pos {α:Type} {c:Prop} [Decidable c] {f g:Nat→Option α} {r:α} (hc:c) (h:Tells f r):Tells (fun k=>if c then f k else g k) r:=by
  simp only[if_pos hc];exact h
theorem neg {α:Type} {c:Prop} [Decidable c] {f g:Nat→Option α} {r:α} (hc:¬ c) (h:Tells g r):Tells (fun k=>if c then f k else g k) r:=by
  simp only[if_neg hc];exact h
end Tells
theorem wrap64_id {n:Int} (h0:-9223372036854775808≤n) (h1:n < 9223372036854775808):wrap64 n=n:=by
  unfold wrap64;omega
theorem wf64 {n:Int} (h:(Lit.int .i64 n).wf=true):-9223372036854775808≤n∧n < 9223372036854775808:=by
  have h':(decide (-9223372036854775808≤n) && decide (n≤9223372036854775807))=true:=h;simp only[Bool.and_eq_true,decide_eq_true_eq] at h';omega

theorem rd_drop (l:List Int) (i:Nat) (h:i < l.length):l.drop i=rd l (i:Int) :: l.drop (i+1):=by
  rw[List.drop_eq_getElem_cons h];congr 1
  show l[i]=l.getD (i:Int).toNat 0
  simp [h]
theorem rd_at (l:List Int) (i:Nat) (h:i < l.length):rd l (i:Int)=l[i]:=by
  show l.getD (i:Int).toNat 0=_
  simp [h]
theorem rd_mid (A:List Int) (x:Int) (B:List Int):rd (A ++ x :: B) (A.length:Int)=x:=by
  show(A ++ x :: B).getD (A.length:Int).toNat 0=x
  simp
theorem rd_mid' {l A:List Int} {x:Int} {B:List Int} {i:Int} (h:l=A ++ x :: B) (hi:i=(A.length:Int)):rd l i=x:=by
  subst h hi;exact rd_mid A x B
theorem set_mid (A:List Int) (x v:Int) (B:List Int):(A ++ x :: B).set ((A.length:Int)).toNat v=A ++ v :: B:=by simp
theorem set_mid' {l A:List Int} {x v:Int} {B:List Int} {i:Int} (h:l=A ++ x :: B) (hi:i=(A.length:Int)):l.set i.toNat v=A ++ v :: B:=by
  subst h hi;exact set_mid A x v B
theorem rd_mem (l:List Int) (i:Int) (h0:0≤i) (h:i < (l.length:Int)):rd l i ∈ l:=by
  obtain⟨j,rfl⟩:∃ j:Nat,i=(j:Int):=⟨i.toNat,by omega⟩
  rw[rd_at l j (by omega)]
  exact List.getElem_mem _
theorem ext_rd {a b:List Int} (hl:a.length=b.length) (h:∀ i:Nat,i < a.length→rd a (i:Int)=rd b (i:Int)):a=b:=by
  apply List.ext_getElem hl;intro i h1 h2;have:=h i h1;rwa [rd_at a i h1,rd_at b i h2] at this
theorem rd_map (f:Int→Int) (l:List Int) (i:Nat) (h:i < l.length):rd (l.map f) (i:Int)=f (rd l (i:Int)):=by
  rw[rd_at _ i (by simpa using h),rd_at l i h]
  simp
theorem rd_set (l:List Int) (i j:Nat) (v:Int) (h:j < l.length):rd (l.set i v) (j:Int)=if i=j then v else rd l (j:Int):=by
  rw[rd_at _ j (by simpa using h),rd_at l j h,List.getElem_set]
theorem rd_replicate (n i:Nat) (v:Int) (h:i < n):rd (List.replicate n v) (i:Int)=v:=by
  rw[rd_at _ i (by simpa using h)]
  simp
/-- The sum,as the program adds it up. -/
def sumFrom (s:Int):List Int→Int
  | []=>s
  | x :: l=>sumFrom (wrap64 (s+x)) l
/-- All from 0 to most. -/
def inAll (most:Int) (l:List Int):Bool:=l.all fun x=>decide (0≤x) && decide (x≤most)
theorem inAll_iff {m:Int} {l:List Int}:inAll m l=true ↔ ∀ x ∈ l,0≤x∧x≤m:=by
  unfold inAll;simp [List.all_eq_true,Bool.and_eq_true,decide_eq_true_eq]
theorem inAll_cons {m x:Int} {l:List Int}:inAll m (x :: l)=((decide (0≤x) && decide (x≤m)) && inAll m l):=rfl
theorem sum_bounds {m:Int} {l:List Int} (h:inAll m l=true):0≤l.sum∧l.sum≤m * l.length:=by
  induction l with
  | nil=>simp
  | cons x l ih =>
    rw[inAll_cons,Bool.and_eq_true,Bool.and_eq_true,decide_eq_true_eq,decide_eq_true_eq] at h;have:=ih h.2;rw[List.sum_cons,List.length_cons];have e:m * ((l.length+1:Nat):Int)=m * l.length+m:=by rw[Int.natCast_add,Int.mul_add];simp
    omega
theorem sum_mem_le {m:Int} {l:List Int} (h:inAll m l=true):∀ x ∈ l,x≤l.sum:=by
  induction l with
  | nil=>simp
  | cons y l ih =>
    have h':=h;rw[inAll_cons,Bool.and_eq_true,Bool.and_eq_true,decide_eq_true_eq,decide_eq_true_eq] at h';have hb:=sum_bounds h'.2;intro x hx;rw[List.sum_cons];rcases List.mem_cons.1 hx with rfl|hx
    · omega
    · have:=ih h'.2 x hx;omega
theorem sumFrom_eq {m:Int} (l:List Int) (h:inAll m l=true):∀ s,0≤s→0≤m→s+m * l.length < 9223372036854775808→sumFrom s l=s+l.sum:=by
  induction l with
  | nil=>intro s _ _ _;simp [sumFrom]
  | cons x l ih =>
    intro s h0 hm h1;rw[inAll_cons,Bool.and_eq_true,Bool.and_eq_true,decide_eq_true_eq,decide_eq_true_eq] at h;have e:m * ((l.length+1:Nat):Int)=m * l.length+m:=by rw[Int.natCast_add,Int.mul_add];simp
    rw[List.length_cons,e] at h1;have hp:0≤m * (l.length:Int):=Int.mul_nonneg hm (by omega)
    show sumFrom (wrap64 (s+x)) l=_
    rw[wrap64_id (by omega) (by omega),ih h.2 (s+x) (by omega) hm (by omega),List.sum_cons]
    omega
/-- 0,1,..,n - 1 -/
def idx (n:Nat):List Int:=(List.range n).map (fun i:Nat=>(i:Int))
theorem idx_len (n:Nat):(idx n).length=n:=by simp [idx]
theorem idx_succ (n:Nat):idx (n+1)=idx n ++ [(n:Int)]:=by simp [idx,List.range_succ]
theorem mem_idx {n:Nat} {i:Int}:i ∈ idx n ↔ 0≤i∧i < (n:Int):=by
  unfold idx;rw[List.mem_map];constructor
  · rintro ⟨j,hj,rfl⟩
    have:=List.mem_range.1 hj;omega
  · rintro ⟨h0,h1⟩
    exact⟨i.toNat,List.mem_range.2 (by omega),by omega⟩
theorem rd_idx (n i:Nat) (h:i < n):rd (idx n) (i:Int)=i:=by
  rw[rd_at _ i (by rw[idx_len];exact h)]
  simp [idx]
theorem idx_nodup (n:Nat):(idx n).Nodup:=by
  induction n with
  | zero=>simp [idx]
  | succ n ih =>
    rw[idx_succ,List.nodup_append];refine⟨ih,by simp,?_⟩
    intro a ha b hb;rw[List.mem_singleton] at hb;have:=mem_idx.1 ha;omega
theorem map_idx (l:List Int):(idx l.length).map (rd l)=l:=by
  apply ext_rd (by simp [idx_len])
  intro i hi;have hi':i < l.length:=by simpa [idx_len] using hi
  rw[rd_map _ _ i (by rw[idx_len];exact hi'),rd_idx _ _ hi']

theorem index_tells (l:List Int) (hl:l.length≤1000000):Tells (fun k=>Bzm.f k l) (!(inAll 1125899906842624 l)):=by
  have lp:∀ n i k,n < k→i+n=l.length→∃ r,Bzz.l0 k l (l.length:Int) (i:Int)=some r∧decide (r≥0)=!(inAll 1125899906842624 (l.drop i)):=by
    intro n;induction n with
    | zero =>
      intro i k hk hi;obtain⟨m,rfl⟩:∃ m,k=m+1:=⟨k - 1,by omega⟩
      refine⟨-1,?_,?_⟩
      · unfold Bzz.l0
        rw[if_neg (by omega)]
      · rw[List.drop_of_length_le (by omega)];rfl
    | succ n ih =>
      intro i k hk hi;obtain⟨m,rfl⟩:∃ m,k=m+1:=⟨k - 1,by omega⟩
      have e:Dzm.f (rd l (i:Int))=some (!(decide (0≤rd l (i:Int)) && decide (rd l (i:Int)≤1125899906842624))):=by
        unfold Dzm.f;by_cases h:rd l (i:Int) < 0
        · rw[if_pos h,decide_eq_false (p:=0≤rd l (i:Int)) (by omega)];rfl
        · rw[if_neg h,decide_eq_true (p:=0≤rd l (i:Int)) (by omega)]
          by_cases h2:rd l (i:Int)≤1125899906842624
          · rw[decide_eq_true h2,decide_eq_false (by omega)];rfl
          · rw[decide_eq_false h2,decide_eq_true (by omega)];rfl
      rw[rd_drop l i (by omega),inAll_cons]
      by_cases h:(decide (0≤rd l (i:Int)) && decide (rd l (i:Int)≤1125899906842624))=true
      · obtain⟨r,hr,hd⟩:=ih (i+1) m (by omega) (by omega)
        refine⟨r,?_,?_⟩
        · unfold Bzz.l0
          rw[if_pos (by omega),if_pos (by omega),if_pos (by omega),e,h,wrap64_id (n:=(i:Int)+1) (by omega) (by omega)]
          exact hr
        · rw[h,Bool.true_and];exact hd
      · refine⟨i,?_,?_⟩
        · unfold Bzz.l0
          rw[if_pos (by omega),if_pos (by omega),if_pos (by omega),e,eq_false_of_ne_true h]
          rfl
        · rw[eq_false_of_ne_true h,decide_eq_true (by omega)];rfl
  obtain⟨r,hr,hd⟩:=lp l.length 0 (l.length+1) (by omega) (by omega)
  have hf:Tells (fun k=>Bzz.f k l) r:=Tells.of (fun k=>by apply Bzz.mono) ⟨l.length+1,hr⟩
  refine Tells.congr (g:=fun k=>(Bzz.f k l).bind fun t=>some (decide (t≥0))) ?_ (fun k=>by unfold Bzm.f;rfl)
  refine Tells.bind hf ?_;rw[hd,List.drop_zero];exact Tells.const _
theorem in_tells (l:List Int) (hl:l.length≤1000000):Tells (fun k=>Czy.f k l) (l.all Azq.inB) :=
  Tells.of (fun k=>by apply Czy.mono) ⟨l.length+1,Azq.in_f l (by omega)⟩
theorem inB_of {x:Int} (h0:-1125899906842624≤x) (h1:x≤1125899906842624):Azq.inB x=true:=by
  unfold Azq.inB;rw[decide_eq_true h0,decide_eq_true h1];rfl
theorem result_tells (x:Int):Tells (fun k=>Dzy.f k x) (if Azq.inB x=true then(x,0) else(0,2)):=by
  refine Tells.congr (g:=fun k=>(Czy.f k [x]).bind fun t=>if t=true then some (x,0) else some (0,2)) ?_ (fun k=>by unfold Dzy.f;rfl)
  refine Tells.bind (in_tells [x] (by simp)) ?_
  have e:[x].all Azq.inB=Azq.inB x:=by simp
  rw[e];exact Tells.ite (fun _=>Tells.const _) (fun _=>Tells.const _)
theorem Sum_tells (l:List Int) (h:inAll 1125899906842624 l=true) (hl:l.length≤65536):Tells (fun k=>Dzj.f k l) (if l.sum > 1125899906842624 then(0,2) else(l.sum,0)):=by
  have hm:=inAll_iff.1 h;have lp:∀ n i x4 x5,i+n=l.length→0≤x4→x4≤(i:Int) * 33554432→0≤x5→x5≤(i:Int) * 33554432→x4 * 33554432+x5+(l.drop i).sum=l.sum→Tells (fun k=>Dzj.l0 k x4 x5 l (l.length:Int) (i:Int)) (if l.sum > 1125899906842624 then(0,2) else(l.sum,0)):=by
    intro n;induction n with
    | zero =>
      intro i x4 x5 hi h40 h41 h50 h51 hs;rw[List.drop_of_length_le (by omega),List.sum_nil,Int.add_zero] at hs
      have d1:Int.tdiv x5 33554432=x5 / 33554432:=Int.tdiv_eq_ediv_of_nonneg h50;have d2:Int.tmod x5 33554432=x5 % 33554432:=Int.tmod_eq_emod_of_nonneg h50;refine Tells.up (g:=fun k=>if x4+x5 / 33554432 > 33554433 then some (0,2) else if x4+x5 / 33554432 < -33554433 then some (0,2) else(Dzy.f k (wrap64 (wrap64 ((x4+x5 / 33554432) * 33554432)+x5 % 33554432))).bind fun b=>some (b.1,b.2)) ?_ (fun k=>by
        rw[Dzj.l0];rw[if_neg (by omega),d1,d2,wrap64_id (n:=x5 / 33554432) (by omega) (by omega),wrap64_id (n:=x4+x5 / 33554432) (by omega) (by omega)])
      by_cases c1:x4+x5 / 33554432 > 33554433
      · rw[if_pos (by omega)]
        exact Tells.pos c1 (Tells.const _)
      · refine Tells.neg c1 (Tells.neg (by omega) ?_)
        rw[wrap64_id (n:=(x4+x5 / 33554432) * 33554432) (by omega) (by omega),wrap64_id (by omega) (by omega)]
        have e:(x4+x5 / 33554432) * 33554432+x5 % 33554432=l.sum:=by omega
        rw[e];refine Tells.bind (result_tells _) ?_;have e2:(if Azq.inB l.sum=true then(l.sum,(0:Int)) else(0,2))=if l.sum > 1125899906842624 then(0,2) else(l.sum,0):=by
          by_cases c2:l.sum > 1125899906842624
          · rw[if_pos c2,if_neg]
            unfold Azq.inB;rw[decide_eq_false (p:=l.sum≤1125899906842624) (by omega),Bool.and_false]
            simp
          · rw[if_neg c2,if_pos (inB_of (by omega) (by omega))]
        rw[e2];exact Tells.const _
    | succ n ih =>
      intro i x4 x5 hi h40 h41 h50 h51 hs;have hx:=hm _ (rd_mem l (i:Int) (by omega) (by omega))
      rw[rd_drop l i (by omega),List.sum_cons] at hs
      generalize hx':rd l (i:Int)=x at hx hs;have d1:Int.tdiv x 33554432=x / 33554432:=Int.tdiv_eq_ediv_of_nonneg hx.1;have d2:Int.tmod x 33554432=x % 33554432:=Int.tmod_eq_emod_of_nonneg hx.1;refine Tells.up (g:=fun k=>Dzj.l0 k (x4+x / 33554432) (x5+x % 33554432) l (l.length:Int) ((i+1:Nat):Int)) ?_ (fun k=>by
        rw[Dzj.l0];rw[if_pos (by omega),if_pos (by omega),if_pos (by omega),hx',d1,d2,wrap64_id (n:=x / 33554432) (by omega) (by omega),wrap64_id (n:=x4+x / 33554432) (by omega) (by omega),wrap64_id (n:=x5+x % 33554432) (by omega) (by omega),wrap64_id (n:=(i:Int)+1) (by omega) (by omega)]
        rfl)
      exact ih (i+1) _ _ (by omega) (by omega) (by omega) (by omega) (by omega) (by omega)
  refine Tells.congr (g:=fun k=>(Czy.f k l).bind fun t=>if t=true then Dzj.l0 k 0 0 l (l.length:Int) ((0:Nat):Int) else some (0,1)) ?_ (fun k=>by
    unfold Dzj.f;rw[if_neg (by omega)];rfl)
  refine Tells.bind (in_tells l (by omega)) ?_
  have ha:l.all Azq.inB=true:=by
    rw[List.all_eq_true];intro x hx;have:=hm x hx;exact inB_of (by omega) (by omega)
  refine Tells.pos ha ?_;exact lp l.length 0 0 0 (by omega) (by omega) (by omega) (by omega) (by omega) (by simp)
/-- The sum of the weights,or the error. -/
def shCheckS (t:Int) (l:List Int):Int × Int :=
  if t < 0∨t > 1125899906842624 then(0,1) else if(l.length:Int)=0 then(0,10) else if(l.length:Int) > 512 then(0,8) else if inAll 1125899906842624 l=true then(if l.sum > 1125899906842624 then(0,2) else if l.sum=0 then(if t > 0 then(0,16) else(l.sum,0)) else(l.sum,0)) else(0,1)
theorem shCheck_tells (t:Int) (l:List Int) (hl:l.length≤1000000):Tells (fun k=>Czf.f k t l) (shCheckS t l):=by
  refine Tells.congr (g:=fun k=>Czf.j0 k t l (decide (t < 0∨t > 1125899906842624))) ?_ (fun k=>by
    unfold Czf.f;by_cases h:t < 0
    · rw[if_pos h,decide_eq_true (p:=t < 0∨t > 1125899906842624) (Or.inl h)]
    · rw[if_neg h];congr 1;simp [h])
  refine Tells.up (g:=fun k=>if decide (t < 0∨t > 1125899906842624)=true then some (0,1) else if(l.length:Int)=0 then some (0,10) else if(l.length:Int) > 512 then some (0,8) else(Bzm.f k l).bind fun b=>if b=true then some (0,1) else(Dzj.f k l).bind fun s=>if s.2=0 then(if s.1=0 then(if t > 0 then some (0,16) else some (s.1,0)) else some (s.1,0)) else some (0,2)) ?_ (fun k=>by rw[Czf.j0])
  unfold shCheckS;by_cases h1:t < 0∨t > 1125899906842624
  · rw[if_pos h1];exact Tells.pos (decide_eq_true h1) (Tells.const _)
  rw[if_neg h1];refine Tells.neg (by simpa using h1) ?_
  refine Tells.ite (fun _=>Tells.const _) (fun h2=>?_)
  refine Tells.ite (fun _=>Tells.const _) (fun h3=>?_)
  refine Tells.bind (index_tells l hl) ?_;by_cases h4:inAll 1125899906842624 l=true
  · rw[if_pos h4]
    refine Tells.neg (by rw[h4];simp) ?_
    refine Tells.bind (Sum_tells l h4 (by omega)) ?_
    by_cases h5:l.sum > 1125899906842624
    · rw[if_pos h5,if_pos h5]
      exact Tells.neg (by decide) (Tells.const _)
    · rw[if_neg h5,if_neg h5]
      refine Tells.pos rfl ?_;refine Tells.ite (fun _=>?_) (fun _=>Tells.const _)
      exact Tells.ite (fun _=>Tells.const _) (fun _=>Tells.const _)
  · rw[if_neg h4]
    exact Tells.pos (by rw[eq_false_of_ne_true h4];rfl) (Tells.const _)
theorem shCheck_ok {t:Int} {l:List Int} (h:(shCheckS t l).2=0):0≤t∧t≤1125899906842624∧0 < l.length∧l.length≤512∧inAll 1125899906842624 l=true∧l.sum≤1125899906842624∧(l.sum=0→t=0)∧(shCheckS t l).1=l.sum:=by
  unfold shCheckS at h ⊢;split at h
  · simp at h
  split at h
  · simp at h
  split at h
  · simp at h
  split at h
  · rename_i h1 h2 h3 h4
    split at h
    · simp at h
    split at h
    · split at h
      · simp at h
      · rename_i h5 h6 h7
        refine⟨by omega,by omega,by omega,by omega,h4,by omega,fun _=>by omega,?_⟩
        rw[if_neg h1,if_neg h2,if_neg h3,if_pos h4,if_neg h5,if_pos h6,if_neg h7]
    · rename_i h5 h6
      refine⟨by omega,by omega,by omega,by omega,h4,by omega,fun h0=>absurd h0 h6,?_⟩
      rw[if_neg h1,if_neg h2,if_neg h3,if_pos h4,if_neg h5,if_neg h6]
  · simp at h
theorem wrap64_mod (n:Int):∃ q,wrap64 n=n+q * 18446744073709551616:=by
  refine⟨-((n+9223372036854775808) / 18446744073709551616),?_⟩;unfold wrap64;omega
theorem quotient_val (t w s:Int) (ht0:0≤t) (ht:t≤1125899906842624) (hw0:0≤w) (hws:w≤s) (hs:s≤1125899906842624):Dzf.f t w s=some (t * w / s,t * w % s):=by
  unfold Dzf.f;by_cases h:s=0
  · have hw:w=0:=by omega
    rw[if_pos h,h,hw];simp
  rw[if_neg h];have hs1:0 < s:=by omega
  have hX0:0≤t * w:=Int.mul_nonneg ht0 hw0;have hq0:0≤t * w / s:=Int.ediv_nonneg hX0 (by omega)
  have hq1:t * w / s≤t:=by
    have h1:t * w≤t * s:=Int.mul_le_mul_of_nonneg_left hws ht0;have h2:=Int.ediv_le_ediv hs1 h1;rwa [Int.mul_ediv_cancel _ h] at h2
  have hr0:0≤t * w % s:=Int.emod_nonneg _ h;have hr1:t * w % s < s:=Int.emod_lt_of_pos _ hs1;have hv:Azq.f t w s 0=some (t * w / s,0):=by
    unfold Azq.f;rw[inB_of (x:=t) (by omega) (by omega),inB_of (x:=w) (by omega) (by omega),inB_of (x:=s) (by omega) (by omega)]
    rw[if_pos (by rfl),if_neg h,if_neg (by omega),if_neg (by omega)]
    unfold Azq.val Azq.ab;rw[if_neg (show ¬ t < 0 by omega),if_neg (show ¬ w < 0 by omega),if_neg (show ¬ s < 0 by omega),decide_eq_false (show ¬ t < 0 by omega),decide_eq_false (show ¬ w < 0 by omega),decide_eq_false (show ¬ s < 0 by omega)]
    unfold Azq.grows Azq.fin;simp;omega
  rw[hv];simp only[Option.bind_some];congr 2
  obtain⟨a,ha⟩:=wrap64_mod (t * w);obtain⟨b,hb⟩:=wrap64_mod (t * w / s * s);have hd:t * w / s * s+t * w % s=t * w:=by rw[Int.mul_comm];exact Int.mul_ediv_add_emod _ _
  unfold wrap64 at ha hb ⊢;omega

/-- x goes from the right past the smaller ones (the list is turned round). -/
def insR (R:List Int) (x:Int):List Int→List Int
  | []=>[x]
  | y :: l=>if rd R x > rd R y then y :: insR R x l else x :: y :: l
def ltR (R:List Int) (u v:Int):Prop:=rd R u > rd R v∨(rd R u=rd R v∧u < v)
theorem insR_perm (R:List Int) (x:Int) (l:List Int):(insR R x l).Perm (x :: l):=by
  induction l with
  | nil=>exact List.Perm.refl _
  | cons y l ih =>
    unfold insR;split
    · exact(List.Perm.cons y ih).trans (List.Perm.swap x y l)
    · exact List.Perm.refl _
theorem insR_sorted (R:List Int) (x:Int) (l:List Int) (h:l.Pairwise fun u v=>ltR R v u) (hx:∀ y ∈ l,y < x):(insR R x l).Pairwise fun u v=>ltR R v u:=by
  induction l with
  | nil=>simp [insR]
  | cons y l ih =>
    rw[List.pairwise_cons] at h;unfold insR;split
    · rename_i hc
      rw[List.pairwise_cons];refine⟨?_,ih h.2 (fun z hz=>hx z (List.mem_cons_of_mem _ hz))⟩
      intro z hz;rcases List.mem_cons.1 ((insR_perm R x l).mem_iff.1 hz) with rfl|hz
      · exact Or.inl hc
      · exact h.1 z hz
    · rename_i hc
      rw[List.pairwise_cons,List.pairwise_cons];refine⟨?_,h⟩;intro z hz;rcases List.mem_cons.1 hz with rfl|hz
      · have:=hx z List.mem_cons_self
        unfold ltR;omega
      · have h1:=h.1 z hz
        have h2:=hx z (List.mem_cons_of_mem _ hz);unfold ltR at h1 ⊢;omega
/-- The insertion sort of some elements,turned round. -/
def insAll (R:List Int):List Int→List Int→List Int
  | [],r=>r
  | x :: l,r=>insAll R l (insR R x r)
theorem insAll_append (R a b r:List Int):insAll R (a ++ b) r=insAll R b (insAll R a r):=by
  induction a generalizing r with
  | nil=>rfl
  | cons x a ih=>exact ih _
theorem insAll_perm (R:List Int) (l:List Int):∀ r,(insAll R l r).Perm (l ++ r):=by
  induction l with
  | nil=>intro r;exact List.Perm.refl _
  | cons x l ih =>
    intro r;show(insAll R l (insR R x r)).Perm _
    refine(ih _).trans ?_;refine(List.Perm.append_left l (insR_perm R x r)).trans ?_;exact List.perm_middle
theorem insAll_sorted (R:List Int) (l:List Int):∀ r,r.Pairwise (fun u v=>ltR R v u)→l.Pairwise (· < ·)→(∀ y ∈ r,∀ x ∈ l,y < x)→(insAll R l r).Pairwise fun u v=>ltR R v u:=by
  induction l with
  | nil=>intro r h _ _;exact h
  | cons x l ih =>
    intro r h hl hx;rw[List.pairwise_cons] at hl;show(insAll R l (insR R x r)).Pairwise _
    refine ih _ (insR_sorted R x r h (fun y hy=>hx y hy x List.mem_cons_self)) hl.2 ?_
    intro y hy z hz;rcases List.mem_cons.1 ((insR_perm R x r).mem_iff.1 hy) with rfl|hy
    · exact hl.1 z hz
    · exact hx y hy z (List.mem_cons_of_mem _ hz)
theorem idx_lt (n:Nat):(idx n).Pairwise (· < ·):=by
  induction n with
  | zero=>simp [idx]
  | succ n ih =>
    rw[idx_succ,List.pairwise_append];refine⟨ih,by simp,?_⟩
    intro a ha b hb;rw[List.mem_singleton] at hb;have:=mem_idx.1 ha;omega
/-- The indices by their remainders,the greatest first,of the same the first one first. -/
def ordS (R:List Int) (n:Nat):List Int:=(insAll R (idx n) []).reverse
theorem ordS_perm (R:List Int) (n:Nat):(ordS R n).Perm (idx n):=by
  unfold ordS;refine(List.reverse_perm _).trans ((insAll_perm R (idx n) []).trans ?_);rw[List.append_nil]
theorem ordS_sorted (R:List Int) (n:Nat):(ordS R n).Pairwise (ltR R):=by
  unfold ordS;rw[List.pairwise_reverse];exact insAll_sorted R (idx n) [] List.Pairwise.nil (idx_lt n) (by simp)
theorem ordS_len (R:List Int) (n:Nat):(ordS R n).length=n:=by rw[(ordS_perm R n).length_eq,idx_len]
theorem ordS_nodup (R:List Int) (n:Nat):(ordS R n).Nodup:=(ordS_perm R n).nodup_iff.2 (idx_nodup n)
theorem mem_ordS {R:List Int} {n:Nat} {i:Int}:i ∈ ordS R n ↔ 0≤i∧i < (n:Int):=by rw[(ordS_perm R n).mem_iff,mem_idx]
theorem ordS_unique (R:List Int) (n:Nat) (l:List Int) (hp:l.Perm (idx n)) (hs:l.Pairwise (ltR R)):l=ordS R n:=by
  refine List.Perm.eq_of_pairwise (le:=ltR R) ?_ hs (ordS_sorted R n) (hp.trans (ordS_perm R n).symm);intro a b _ _ h1 h2;unfold ltR at h1 h2;omega
theorem ins_l1 (R:List Int) (pre post:List Int) (b x8:Int) (out:List Int) (x:Int) (hx:0≤x∧x < (R.length:Int)) (hb:(pre.length:Int)+1000000 < 9223372036854775808) (hR:∀ y ∈ R,0≤y∧y≤1125899906842624):∀ (r:List Int) (done:List Int),r.length≤1000→(∀ y ∈ r,0≤y∧y < (R.length:Int)) →
    Tells (fun k=>Azz.l0 k (pre ++ (insR R x r).reverse ++ done ++ post) (pre.length:Int) b (wrap64 (x8+1)) [R]) out →
    Tells (fun k=>Azz.l1 k (pre ++ r.reverse ++ x :: done ++ post) (pre.length:Int) b x8 ((pre.length:Int)+(r.length:Int)) [R]) out:=by
  intro r;induction r with
  | nil =>
    intro done _ _ h;refine Tells.up h (fun k=>?_)
    rw[Azz.l1];rw[if_neg (by simp)]
    simp [insR]
  | cons y r ih =>
    intro done hr hm h;have hy:=hm y List.mem_cons_self;have hx9:wrap64 ((pre.length:Int)+((y :: r).length:Int) - 1)=(pre.length:Int)+(r.length:Int):=by
      rw[List.length_cons];rw[wrap64_id (by omega) (by simp at hr;omega)]
      omega
    have e1:rd (pre ++ (y :: r).reverse ++ x :: done ++ post) ((pre.length:Int)+((y :: r).length:Int))=x :=
      rd_mid' (A:=pre ++ (y :: r).reverse) (B:=done ++ post) (by simp) (by simp)
    have e2:rd (pre ++ (y :: r).reverse ++ x :: done ++ post) ((pre.length:Int)+(r.length:Int))=y :=
      rd_mid' (A:=pre ++ r.reverse) (B:=x :: done ++ post) (by simp) (by simp)
    have s1:(pre ++ (y :: r).reverse ++ x :: done ++ post).set ((pre.length:Int)+((y :: r).length:Int)).toNat y=pre ++ (y :: r).reverse ++ y :: (done ++ post) :=
      set_mid' (A:=pre ++ (y :: r).reverse) (x:=x) (B:=done ++ post) (by simp) (by simp)
    have s2:(pre ++ (y :: r).reverse ++ y :: (done ++ post)).set ((pre.length:Int)+(r.length:Int)).toNat x=pre ++ r.reverse ++ x :: (y :: (done ++ post)) :=
      set_mid' (A:=pre ++ r.reverse) (x:=y) (B:=y :: (done ++ post)) (by simp) (by simp)
    have hlen:((pre ++ (y :: r).reverse ++ x :: done ++ post).length:Int)=(pre.length:Int)+((y :: r).length:Int)+1+(done.length:Int)+(post.length:Int):=by
      simp;omega
    have hl1:(((y :: r).length:Nat):Int)=(r.length:Int)+1:=by simp
    have hc:Dzp.f x y [R]=some (wrap64 (rd R y - rd R x)):=by
      show(if 0 < (([R]:List (List Int)).length:Int) then(if 0≤y then(if y < (R.length:Int) then(if 0≤x then(if x < (R.length:Int) then some (wrap64 (rd R y - rd R x)) else none) else none) else none) else none) else none)=_
      rw[if_pos (by simp),if_pos (by omega),if_pos (by omega),if_pos (by omega),if_pos (by omega)]
    have hry:=hR _ (rd_mem R y hy.1 hy.2);have hrx:=hR _ (rd_mem R x hx.1 hx.2);rw[wrap64_id (by omega) (by omega)] at hc
    by_cases c:rd R x > rd R y
    · have e3:insR R x (y :: r)=y :: insR R x r:=by rw[insR];rw[if_pos c]
      rw[e3] at h;have:=ih (y :: done) (by simp at hr;omega) (fun z hz=>hm z (List.mem_cons_of_mem _ hz)) (by simpa using h)
      refine Tells.up this (fun k=>?_)
      rw[Azz.l1];rw[if_pos (by omega),if_pos (by omega),if_pos (by omega),hx9,if_pos (by omega),if_pos (by omega),e1,e2,hc]
      simp only[Option.bind_some];rw[if_pos (by omega),s1,s2]
      simp
    · have e3:insR R x (y :: r)=x :: y :: r:=by rw[insR];rw[if_neg c]
      rw[e3] at h;refine Tells.up h (fun k=>?_)
      rw[Azz.l1];rw[if_pos (by omega),if_pos (by omega),if_pos (by omega),hx9,if_pos (by omega),if_pos (by omega),e1,e2,hc]
      simp only[Option.bind_some];rw[if_neg (by omega)]
      simp
theorem ins_l0 (R:List Int) (pre post:List Int) (hb:(pre.length:Int)+1000000 < 9223372036854775808) (hR:∀ y ∈ R,0≤y∧y≤1125899906842624):∀ (todo r:List Int),r.length+todo.length≤1000→(∀ y ∈ r,0≤y∧y < (R.length:Int))→(∀ y ∈ todo,0≤y∧y < (R.length:Int)) →
    Tells (fun k=>Azz.l0 k (pre ++ r.reverse ++ todo ++ post) (pre.length:Int) ((pre.length:Int)+(r.length:Int)+(todo.length:Int)) ((pre.length:Int)+(r.length:Int)) [R]) (pre ++ (insAll R todo r).reverse ++ post):=by
  intro todo;induction todo with
  | nil =>
    intro r _ _ _;refine Tells.up (Tells.const _) (fun k=>?_)
    rw[Azz.l0];rw[if_neg (by simp)]
    simp [insAll]
  | cons x todo ih =>
    intro r hl hr ht;have hx:=ht x List.mem_cons_self;have hl1:(((x :: todo).length:Nat):Int)=(todo.length:Int)+1:=by simp
    have hll:(x :: todo).length=todo.length+1:=by simp
    have hp:=insR_perm R x r;have hpl:(insR R x r).length=r.length+1:=by rw[hp.length_eq];simp
    refine Tells.up (g:=fun k=>Azz.l1 k (pre ++ r.reverse ++ x :: todo ++ post) (pre.length:Int) ((pre.length:Int)+(r.length:Int)+((x :: todo).length:Int)) ((pre.length:Int)+(r.length:Int)) ((pre.length:Int)+(r.length:Int)) [R]) ?_ (fun k=>by
      rw[Azz.l0];rw[if_pos (by omega)])
    refine ins_l1 R pre post _ _ _ x hx hb hR r todo (by omega) hr ?_
    have:=ih (insR R x r) (by omega) (fun y hy=>by
      rcases List.mem_cons.1 (hp.mem_iff.1 hy) with rfl|hy
      · exact hx
      · exact hr y hy) (fun y hy=>ht y (List.mem_cons_of_mem _ hy))
    rw[wrap64_id (by omega) (by omega)]
    have e1:(pre.length:Int)+((insR R x r).length:Int)+(todo.length:Int)=(pre.length:Int)+(r.length:Int)+((x :: todo).length:Int):=by omega
    have e2:(pre.length:Int)+((insR R x r).length:Int)=(pre.length:Int)+(r.length:Int)+1:=by omega
    rw[e1,e2] at this;exact this
theorem ins_tells (R:List Int) (pre mid post:List Int) (hb:(pre.length:Int)+1000000 < 9223372036854775808) (hR:∀ y ∈ R,0≤y∧y≤1125899906842624) (hl:mid.length≤1000) (hm:∀ y ∈ mid,0≤y∧y < (R.length:Int)) :
    Tells (fun k=>Azz.f k (pre ++ mid ++ post) (pre.length:Int) ((pre.length:Int)+(mid.length:Int)) [R]) (pre ++ (insAll R mid []).reverse ++ post):=by
  refine Tells.congr (g:=fun k=>Azz.l0 k (pre ++ mid ++ post) (pre.length:Int) ((pre.length:Int)+(mid.length:Int)) ((pre.length:Int)+1) [R]) ?_ (fun k=>by
    unfold Azz.f;rw[wrap64_id (by omega) (by omega)])
  cases mid with
  | nil =>
    refine Tells.up (Tells.const _) (fun k=>?_)
    rw[Azz.l0];rw[if_neg (by simp;omega)]
    simp [insAll]
  | cons x mid =>
    have hx:=hm x List.mem_cons_self;have:=ins_l0 R pre post hb hR mid [x] (by simp at hl ⊢;omega) (by simpa using hx) (fun y hy=>hm y (List.mem_cons_of_mem _ hy))
    have e:(pre.length:Int)+(([x]:List Int).length:Int)+(mid.length:Int)=(pre.length:Int)+((x :: mid).length:Int):=by simp;omega
    rw[e] at this;have e2:pre ++ ([x]:List Int).reverse ++ mid ++ post=pre ++ x :: mid ++ post:=by simp
    rw[e2] at this;exact this
/-- At most 20: one insertion sort. -/
theorem sort20_tells (R:List Int) (n:Nat) (hn:n≤20) (hRn:R.length=n) (hR:∀ y ∈ R,0≤y∧y≤1125899906842624):Tells (fun k=>Czj.f k (idx n) [R]) (ordS R n):=by
  refine Tells.congr (g:=fun k=>(Azx.l0 k (idx n) ((idx n).length:Int) 20 0 20 [R]).bind fun t=>some t) ?_ (fun k=>by
    unfold Czj.f Azx.f;rfl)
  rw[idx_len];have hend:Tells (fun k=>Azx.l1 k (ordS R n) (n:Int) 20 [R]) (ordS R n):=by
    refine Tells.up (Tells.const _) (fun k=>?_)
    rw[Azx.l1];rw[if_neg (by omega)]
  have hins:Tells (fun k=>Azz.f k (idx n) 0 (n:Int) [R]) (ordS R n):=by
    have:=ins_tells R [] (idx n) [] (by simp) hR (by rw[idx_len];omega) (fun y hy=>by have:=mem_idx.1 hy;rw[hRn];exact this)
    simpa [idx_len,ordS] using this
  refine Tells.bind (r:=ordS R n) ?_ (Tells.const _);by_cases h20:n=20
  · subst h20
    refine Tells.up (g:=fun k=>(Azz.f k (idx 20) 0 20 [R]).bind fun t=>Azx.l0 k t 20 20 20 40 [R]) ?_ (fun k=>by
      rw[Azx.l0];rw[if_pos (by omega),wrap64_id (n:=20+20) (by omega) (by omega)]
      rfl)
    refine Tells.bind hins ?_;refine Tells.up (g:=fun k=>(Azz.f k (ordS R 20) 20 20 [R]).bind fun t=>Azx.l1 k t 20 20 [R]) ?_ (fun k=>by
      rw[Azx.l0];rw[if_neg (by omega)])
    refine Tells.bind (r:=ordS R 20) ?_ hend;refine Tells.congr (g:=fun k=>Azz.l0 k (ordS R 20) 20 20 21 [R]) ?_ (fun k=>by
      unfold Azz.f;rw[wrap64_id (n:=20+1) (by omega) (by omega)];rfl)
    refine Tells.up (Tells.const _) (fun k=>?_)
    rw[Azz.l0];rw[if_neg (by omega)]
  · refine Tells.up (g:=fun k=>(Azz.f k (idx n) 0 (n:Int) [R]).bind fun t=>Azx.l1 k t (n:Int) 20 [R]) ?_ (fun k=>by
      rw[Azx.l0];rw[if_neg (by omega)])
    exact Tells.bind hins hend

def remS (t s:Int) (l:List Int):List Int:=l.map fun w=>t * w % s
def quoS (t s:Int) (l:List Int):List Int:=l.map fun w=>t * w / s
/-- What the quotients leave. -/
def leftS (t s:Int) (l:List Int):Int:=t - (quoS t s l).sum
/-- The parts: rounded down,and one more for those of D. -/
def bumpS (t s:Int) (l D:List Int):List Int:=(idx l.length).map fun i=>t * rd l i / s+if i ∈ D then 1 else 0
def partsSp (t s:Int) (l:List Int):List Int:=bumpS t s l ((ordS (remS t s l) l.length).take (leftS t s l).toNat)
def splitS (t:Int) (l:List Int):List Int × Int:=if(shCheckS t l).2=0 then(partsSp t l.sum l,0) else([],(shCheckS t l).2)
theorem bumpS_len (t s:Int) (l D:List Int):(bumpS t s l D).length=l.length:=by simp [bumpS,idx_len]
theorem rd_bumpS (t s:Int) (l D:List Int) (i:Nat) (h:i < l.length):rd (bumpS t s l D) (i:Int)=t * rd l i / s+if(i:Int) ∈ D then 1 else 0:=by
  unfold bumpS;rw[rd_map _ _ i (by rw[idx_len];exact h),rd_idx _ _ h]
theorem bumpS_nil (t s:Int) (l:List Int):bumpS t s l []=quoS t s l:=by
  apply ext_rd (by simp [bumpS_len,quoS])
  intro i hi;rw[bumpS_len] at hi;rw[rd_bumpS _ _ _ _ _ hi];unfold quoS;rw[rd_map _ _ i hi];simp
theorem bumpS_step (t s:Int) (l D:List Int) (i:Nat) (h:i < l.length) (hD:(i:Int) ∉ D):(bumpS t s l D).set i (rd (bumpS t s l D) (i:Int)+1)=bumpS t s l (D ++ [(i:Int)]):=by
  apply ext_rd (by simp [bumpS_len])
  intro j hj;have hj':j < l.length:=by simpa [bumpS_len] using hj
  rw[rd_set _ _ _ _ (by rw[bumpS_len];exact hj'),rd_bumpS _ _ _ _ _ hj',rd_bumpS _ _ _ _ _ hj',rd_bumpS _ _ _ _ _ h]
  by_cases e:i=j
  · subst e
    simp [hD]
  · rw[if_neg e]
    have:((j:Int) ∈ D ++ [(i:Int)]) ↔ (j:Int) ∈ D:=by
      rw[List.mem_append,List.mem_singleton];constructor
      · rintro (h|h)
        · exact h
        · omega
      · exact Or.inl
    simp only[this]
theorem quo_le {t w s:Int} (ht0:0≤t) (hw0:0≤w) (hws:w≤s):0≤t * w / s∧t * w / s≤t:=by
  by_cases h:s=0
  · rw[h,Int.ediv_zero];omega
  have hX0:0≤t * w:=Int.mul_nonneg ht0 hw0;refine⟨Int.ediv_nonneg hX0 (by omega),?_⟩
  have h1:t * w≤t * s:=Int.mul_le_mul_of_nonneg_left hws ht0;have h2:=Int.ediv_le_ediv (show 0 < s by omega) h1
  rwa [Int.mul_ediv_cancel _ h] at h2
theorem sum_quo_rem (t s:Int) (l:List Int):s * (quoS t s l).sum+(remS t s l).sum=t * l.sum:=by
  induction l with
  | nil=>simp [quoS,remS]
  | cons x l ih =>
    unfold quoS remS at ih ⊢;rw[List.map_cons,List.map_cons,List.sum_cons,List.sum_cons,List.sum_cons,Int.mul_add,Int.mul_add,← ih];have:=Int.mul_ediv_add_emod (t * x) s;omega
theorem rem_bounds {t s:Int} {l:List Int} (hs:0 < s):∀ y ∈ remS t s l,0≤y∧y < s:=by
  intro y hy;unfold remS at hy;obtain⟨w,_,rfl⟩:=List.mem_map.1 hy;exact⟨Int.emod_nonneg _ (by omega),Int.emod_lt_of_pos _ hs⟩
theorem sum_le_mul {m:Int} {l:List Int} (h:∀ y ∈ l,0≤y∧y≤m):0≤l.sum∧l.sum≤m * l.length:=sum_bounds (inAll_iff.2 h)
theorem sum_nonneg {l:List Int} (h:∀ w ∈ l,0≤w):0≤l.sum:=by
  induction l with
  | nil=>simp
  | cons x l ih =>
    have h1:=h x List.mem_cons_self;have h2:=ih (fun w hw=>h w (List.mem_cons_of_mem _ hw))
    rw[List.sum_cons];omega
theorem quoS_zero (t s:Int) (l:List Int) (h:∀ w ∈ l,t * w / s=0):quoS t s l=List.replicate l.length 0:=by
  unfold quoS;rw[List.eq_replicate_iff];refine⟨by simp,?_⟩
  intro b hb;obtain⟨w,hw,rfl⟩:=List.mem_map.1 hb;exact h w hw
theorem left_bounds {t:Int} {l:List Int} (hl0:0 < l.length) (ht0:0≤t) (hl:∀ w ∈ l,0≤w) (hz:l.sum=0→t=0):0≤leftS t l.sum l∧leftS t l.sum l≤l.length∧(0 < l.sum→leftS t l.sum l < l.length):=by
  unfold leftS;by_cases h0:l.sum=0
  · have ht:=hz h0
    have:(quoS t l.sum l).sum=0:=by
      rw[ht];unfold quoS;have e:l.map (fun w=>0 * w / l.sum)=List.replicate l.length 0:=by
        rw[List.eq_replicate_iff];refine⟨by simp,?_⟩
        intro b hb;obtain⟨w,_,rfl⟩:=List.mem_map.1 hb;simp
      rw[e];simp
    rw[this,ht,h0];refine⟨by omega,by omega,by omega⟩
  · have hs:0≤l.sum:=sum_nonneg hl
    have hs:0 < l.sum:=by omega
    have hq:=sum_quo_rem t l.sum l;have hr:=sum_le_mul (m:=l.sum - 1) (l:=remS t l.sum l) (fun y hy=>by have:=rem_bounds hs y hy;omega)
    have hrl:((remS t l.sum l).length:Int)=l.length:=by simp [remS]
    rw[hrl] at hr;generalize hS:l.sum=s at *;generalize (quoS t s l).sum=q at *;generalize (remS t s l).sum=r at *;generalize hn:(l.length:Int)=n at *;have hn0:0 < n:=by omega
    have e:s * (t - q)=r:=by
      rw[Int.mul_sub,Int.mul_comm s t];omega
    have h1:0≤t - q:=by
      by_cases h:0≤t - q
      · exact h
      · have:=Int.mul_le_mul_of_nonneg_left (show t - q≤-1 by omega) (show 0≤s by omega)
        omega
    have h2:t - q < n:=by
      by_cases h:t - q < n
      · exact h
      · have:=Int.mul_le_mul_of_nonneg_left (show n≤t - q by omega) (show 0≤s by omega)
        rw[e] at this;have e2:(s - 1) * n=s * n - n:=by rw[Int.sub_mul];omega
        omega
    exact⟨h1,by omega,fun _=>h2⟩
theorem split_l1 (t s:Int) (l L:List Int) (ht0:0≤t) (ht:t≤1125899906842624) (hw:∀ w ∈ l,0≤w∧w≤s) (hn:L.Nodup) (hm:∀ i ∈ L,0≤i∧i < (l.length:Int)) (hl:l.length≤1000000) (hLl:L.length≤1000000) :
    ∀ todo D,D ++ todo=L→Tells (fun k=>Bzp.l1 k (bumpS t s l D) L (L.length:Int) (D.length:Int)) (bumpS t s l L,0):=by
  intro todo;induction todo with
  | nil =>
    intro D hD;rw[List.append_nil] at hD;subst hD;refine Tells.up (Tells.const _) (fun k=>?_)
    rw[Bzp.l1];rw[if_neg (by omega)]
  | cons x todo ih =>
    intro D hD;have hlen:L.length=D.length+todo.length+1:=by rw[← hD];simp;omega
    have hx:=hm x (by rw[← hD];simp)
    have hxD:x ∉ D:=by
      rw[← hD,List.nodup_append] at hn;intro h;exact hn.2.2 x h x List.mem_cons_self rfl
    obtain⟨i,rfl⟩:∃ i:Nat,x=(i:Int):=⟨x.toNat,by omega⟩
    have hi:i < l.length:=by omega
    have e1:rd L (D.length:Int)=(i:Int):=rd_mid' hD.symm rfl;have hb:rd (bumpS t s l D) (i:Int)=t * rd l i / s:=by rw[rd_bumpS _ _ _ _ _ hi,if_neg hxD,Int.add_zero]
    have hq:=quo_le ht0 (hw _ (rd_mem l i (by omega) (by omega))).1 (hw _ (rd_mem l i (by omega) (by omega))).2
    refine Tells.up (g:=fun k=>Bzp.l1 k (bumpS t s l (D ++ [(i:Int)])) L (L.length:Int) ((D ++ [(i:Int)]).length:Int)) ?_ (fun k=>by
      rw[Bzp.l1];rw[if_pos (by omega),if_pos (by omega),if_pos (by omega),e1,if_pos (by omega),if_pos (by rw[bumpS_len];omega),wrap64_id (n:=rd (bumpS t s l D) (i:Int)+1) (by rw[hb];omega) (by rw[hb];omega),wrap64_id (by omega) (by omega)]
      rw[Int.toNat_natCast,bumpS_step t s l D i hi hxD];simp)
    exact ih (D ++ [(i:Int)]) (by rw[← hD];simp)
theorem split_l0 (t s:Int) (l:List Int) (out:List Int × Int) (ht0:0≤t) (ht:t≤1125899906842624) (hs:s≤1125899906842624) (hw:∀ w ∈ l,0≤w∧w≤s) (hl:l.length≤1000)
    (hend:Tells (fun k=>Bzp.l0 k t s (quoS t s l) (idx l.length) (leftS t s l) l (l.length:Int) (l.length:Int) (remS t s l)) out) :
    ∀ r pre,pre ++ r=l→Tells (fun k=>Bzp.l0 k t s (quoS t s pre ++ List.replicate r.length 0) (idx pre.length ++ List.replicate r.length 0) (t - (quoS t s pre).sum) l (l.length:Int) (pre.length:Int) (remS t s pre ++ List.replicate r.length 0)) out:=by
  intro r;induction r with
  | nil =>
    intro pre h;rw[List.append_nil] at h;subst h;simpa [leftS] using hend
  | cons x r ih =>
    intro pre h;have hlen:l.length=pre.length+r.length+1:=by rw[← h];simp;omega
    have hx:=hw x (by rw[← h];simp)
    have e1:rd l (pre.length:Int)=x:=rd_mid' h.symm rfl;have hq:=quo_le ht0 hx.1 hx.2;have hqs:=sum_le_mul (m:=t) (l:=quoS t s pre) (fun y hy=>by
      unfold quoS at hy;obtain⟨w,hw',rfl⟩:=List.mem_map.1 hy;have:=hw w (by rw[← h];exact List.mem_append_left _ hw')
      exact quo_le ht0 this.1 this.2)
    have hql:(quoS t s pre).length=pre.length:=by simp [quoS]
    have hrl:(remS t s pre).length=pre.length:=by simp [remS]
    have hil:(idx pre.length).length=pre.length:=idx_len _;rw[hql] at hqs;have hmul:t * (pre.length:Int)≤1125899906842624 * 1000:=by
      have a:=Int.mul_le_mul_of_nonneg_right ht (show(0:Int)≤(pre.length:Int) by omega)
      omega
    have sA:(quoS t s pre ++ List.replicate (x :: r).length 0).set (pre.length:Int).toNat (t * x / s)=quoS t s (pre ++ [x]) ++ List.replicate r.length 0:=by
      rw[set_mid' (A:=quoS t s pre) (x:=0) (B:=List.replicate r.length 0) (by rw[List.length_cons,List.replicate_succ]) (by rw[hql])]
      simp [quoS]
    have sB:(remS t s pre ++ List.replicate (x :: r).length 0).set (pre.length:Int).toNat (t * x % s)=remS t s (pre ++ [x]) ++ List.replicate r.length 0:=by
      rw[set_mid' (A:=remS t s pre) (x:=0) (B:=List.replicate r.length 0) (by rw[List.length_cons,List.replicate_succ]) (by rw[hrl])]
      simp [remS]
    have sC:(idx pre.length ++ List.replicate (x :: r).length 0).set (pre.length:Int).toNat (pre.length:Int)=idx (pre ++ [x]).length ++ List.replicate r.length 0:=by
      rw[set_mid' (A:=idx pre.length) (x:=0) (B:=List.replicate r.length 0) (by rw[List.length_cons,List.replicate_succ]) (by rw[hil])]
      rw[List.length_append,List.length_singleton,idx_succ];simp
    have eq:rd (quoS t s (pre ++ [x]) ++ List.replicate r.length 0) (pre.length:Int)=t * x / s :=
      rd_mid' (A:=quoS t s pre) (B:=List.replicate r.length 0) (by simp [quoS]) (by rw[hql])
    refine Tells.up (ih (pre ++ [x]) (by rw[← h];simp)) (fun k=>?_)
    rw[Bzp.l0];rw[if_pos (by omega),if_pos (by omega),if_pos (by omega),e1,quotient_val t x s ht0 ht hx.1 hx.2 hs]
    simp only[Option.bind_some];rw[if_pos (by simp [hql];omega),sA,if_pos (by simp [hrl];omega),if_pos (by simp [hil];omega),sC,eq,sB,wrap64_id (by omega) (by omega),wrap64_id (by omega) (by omega)]
    have e2:t - (quoS t s (pre ++ [x])).sum=t - (quoS t s pre).sum - t * x / s:=by
      simp [quoS];omega
    rw[e2,List.length_append,List.length_singleton];rfl
theorem split_tells_of {N:Nat} (hsort:∀ (R:List Int) (n:Nat),R.length=n→n≤N→(∀ y ∈ R,0≤y∧y≤1125899906842624)→Tells (fun k=>Czj.f k (idx n) [R]) (ordS R n)) (t:Int) (l:List Int) (hl:l.length≤N) (hN:N≤1000):Tells (fun k=>Bzp.f k t l) (splitS t l):=by
  refine Tells.congr (g:=fun k=>(Czf.f k t l).bind fun b=>if b.2=0 then Bzp.l0 k t b.1 (List.replicate l.length 0) (List.replicate l.length 0) t l (l.length:Int) 0 (List.replicate l.length 0) else some ([],b.2)) ?_ (fun k=>by
    unfold Bzp.f;congr 1;funext b
    rw[if_pos (show 0≤(l.length:Int) by omega),if_pos (show((l.length:Int):Int).toNat≤35184372088832 by omega)]
    rfl)
  refine Tells.bind (shCheck_tells t l (by omega)) ?_
  unfold splitS;refine Tells.ite (fun hc=>?_) (fun _=>Tells.const _)
  obtain⟨ht0,ht,hl0,hl1,hin,hs,hz,he⟩:=shCheck_ok hc;rw[he];have hw:∀ w ∈ l,0≤w∧w≤l.sum:=fun w hw=>⟨(inAll_iff.1 hin w hw).1,sum_mem_le hin w hw⟩
  have hlb:=left_bounds hl0 ht0 (fun w h=>(hw w h).1) hz
  have:=split_l0 t l.sum l (partsSp t l.sum l,0) ht0 ht hs hw (by omega) ?_ l [] rfl
  · simpa [quoS,remS,idx] using this
  have hR:∀ y ∈ remS t l.sum l,0≤y∧y≤1125899906842624:=by
    intro y hy;by_cases h0:l.sum=0
    · have ht:=hz h0
      unfold remS at hy;obtain⟨w,_,rfl⟩:=List.mem_map.1 hy;rw[ht];simp
    · have hs0:0≤l.sum:=sum_nonneg (fun w h=>(hw w h).1)
      have:=rem_bounds (show 0 < l.sum by omega) y hy
      omega
  refine Tells.up (g:=fun k=>(Czj.f k (idx l.length) [remS t l.sum l]).bind fun o=>Bzp.l1 k (quoS t l.sum l) (o.take (leftS t l.sum l).toNat) ((o.take (leftS t l.sum l).toNat).length:Int) 0) ?_ (fun k=>by
    rw[Bzp.l0];rw[if_neg (by omega)]
    congr 1;funext o
    rw[if_pos hlb.1,if_pos (by rw[idx_len];exact hlb.2.1)]
    rfl)
  refine Tells.bind (hsort _ l.length (by simp [remS]) hl hR) ?_
  have hsub:=List.take_sublist (leftS t l.sum l).toNat (ordS (remS t l.sum l) l.length);have:=split_l1 t l.sum l ((ordS (remS t l.sum l) l.length).take (leftS t l.sum l).toNat) ht0 ht hw (hsub.nodup (ordS_nodup _ _)) (fun i hi=>mem_ordS.1 (hsub.subset hi)) (by omega) (by rw[List.length_take,ordS_len];omega) _ [] rfl
  rw[bumpS_nil] at this;exact this
theorem split20_tells (t:Int) (l:List Int) (hl:l.length≤20):Tells (fun k=>Bzp.f k t l) (splitS t l) :=
  split_tells_of (N:=20) (fun R n hRn hn hR=>sort20_tells R n hn hRn hR) t l hl (by omega)

theorem set_sum (l:List Int) (i:Nat) (v:Int) (h:i < l.length):(l.set i v).sum=l.sum - rd l i+v:=by
  induction l generalizing i with
  | nil=>simp at h
  | cons x l ih =>
    cases i with
    | zero=>simp [rd];omega
    | succ i =>
      have:=ih i (by simpa using h)
      have e:rd (x :: l) ((i+1:Nat):Int)=rd l (i:Int):=by
        rw[rd_at _ _ h,rd_at _ _ (by simpa using h)];rfl
      rw[List.set_cons_succ,List.sum_cons,List.sum_cons,this,e];omega
theorem bumpS_sum (t s:Int) (l:List Int):∀ (todo D:List Int),(D ++ todo).Nodup→(∀ i ∈ todo,0≤i∧i < (l.length:Int))→(bumpS t s l (D ++ todo)).sum=(bumpS t s l D).sum+todo.length:=by
  intro todo;induction todo with
  | nil=>intro D _ _;simp
  | cons x todo ih =>
    intro D hn hm;have hx:=hm x List.mem_cons_self;have hxD:x ∉ D:=fun h=>by
      rw[List.nodup_append] at hn;exact hn.2.2 x h x List.mem_cons_self rfl
    obtain⟨i,rfl⟩:∃ i:Nat,x=(i:Int):=⟨x.toNat,by omega⟩
    have hi:i < l.length:=by omega
    have:=ih (D ++ [(i:Int)]) (by simpa using hn) (fun j hj=>hm j (List.mem_cons_of_mem _ hj))
    rw[← bumpS_step t s l D i hi hxD,set_sum _ _ _ (by rw[bumpS_len];exact hi)] at this
    rw[show D ++ (i:Int) :: todo=D ++ [(i:Int)] ++ todo by simp,this,List.length_cons]
    omega
theorem perm_map_sum {a b:List Int} (f:Int→Int) (h:a.Perm b):(a.map f).sum=(b.map f).sum:=by
  induction h with
  | nil=>rfl
  | cons x _ ih=>simp [ih]
  | swap x y l=>simp;omega
  | trans _ _ h1 h2=>exact h1.trans h2
/-- What splitS tells of weights that are all right. -/
structure GoodSplit (t:Int) (l p:List Int):Prop where
  len:p.length=l.length
  sum:p.sum=t
  low:∀ i:Nat,i < l.length→0≤rd p i
  high:t≤l.sum→∀ i:Nat,i < l.length→rd p i≤rd l i
  near:0 < l.sum→∀ i:Nat,i < l.length→-l.sum < l.sum * rd p i - t * rd l i∧l.sum * rd p i - t * rd l i < l.sum
/-- Whoever gets one more has a remainder. -/
theorem bump_rem (t:Int) (l:List Int) (hs:0 < l.sum) (i:Nat) (hi:i < l.length) (hmem:(i:Int) ∈ (ordS (remS t l.sum l) l.length).take (leftS t l.sum l).toNat) (hr:t * rd l i % l.sum=0):False:=by
  obtain⟨A,B,hAB⟩:=List.append_of_mem hmem;have hO:ordS (remS t l.sum l) l.length=A ++ (i:Int) :: (B ++ (ordS (remS t l.sum l) l.length).drop (leftS t l.sum l).toNat):=by
    have:=List.take_append_drop (leftS t l.sum l).toNat (ordS (remS t l.sum l) l.length);rw[hAB] at this;rw[← List.cons_append,← List.append_assoc];exact this.symm
  have hso:=ordS_sorted (remS t l.sum l) l.length;have hpm:=perm_map_sum (rd (remS t l.sum l)) (ordS_perm (remS t l.sum l) l.length);have hmi:(idx l.length).map (rd (remS t l.sum l))=remS t l.sum l:=by
    have:=map_idx (remS t l.sum l);simpa [remS] using this
  rw[hmi,hO,List.map_append,List.map_cons,List.sum_append,List.sum_cons] at hpm;have hri:rd (remS t l.sum l) (i:Int)=0:=by
    unfold remS;rw[rd_map _ _ i hi];exact hr
  have hAl:A.length < (leftS t l.sum l).toNat:=by
    have:=congrArg List.length hAB;rw[List.length_take,List.length_append,List.length_cons] at this;omega
  rw[hO,List.pairwise_append] at hso;have hs2:=hso.2.1;rw[List.pairwise_cons] at hs2;have hmemO:∀ x,x ∈ A ++ (i:Int) :: (B ++ (ordS (remS t l.sum l) l.length).drop (leftS t l.sum l).toNat)→0≤rd (remS t l.sum l) x∧rd (remS t l.sum l) x < l.sum:=by
    intro x hx;rw[← hO] at hx;have:=mem_ordS.1 hx;exact rem_bounds hs _ (rd_mem _ x this.1 (by simpa [remS] using this.2))
  have hA:=sum_le_mul (m:=l.sum - 1) (l:=A.map (rd (remS t l.sum l))) (fun y hy=>by
    obtain⟨x,hx,rfl⟩:=List.mem_map.1 hy;have:=hmemO x (List.mem_append_left _ hx);omega)
  have hB:=sum_le_mul (m:=0) (l:=(B ++ (ordS (remS t l.sum l) l.length).drop (leftS t l.sum l).toNat).map (rd (remS t l.sum l))) (fun y hy=>by
    obtain⟨x,hx,rfl⟩:=List.mem_map.1 hy;have h1:=hmemO x (List.mem_append_right _ (List.mem_cons_of_mem _ hx));have h2:=hs2.1 x hx;unfold ltR at h2;omega)
  have hsq:=sum_quo_rem t l.sum l;rw[List.length_map] at hA;have hleft:l.sum * leftS t l.sum l=(remS t l.sum l).sum:=by
    unfold leftS;rw[Int.mul_sub,Int.mul_comm l.sum t];omega
  have hlt:(A.length:Int)≤leftS t l.sum l - 1:=by omega
  have h3:=Int.mul_le_mul_of_nonneg_left hlt (show 0≤l.sum - 1 by omega)
  have h4:(l.sum - 1) * (leftS t l.sum l - 1)=l.sum * leftS t l.sum l - leftS t l.sum l - l.sum+1:=by
    rw[Int.sub_mul,Int.mul_sub,Int.one_mul,Int.mul_one];omega
  rw[hri] at hpm;omega
theorem partsSp_good (t:Int) (l:List Int) (hl0:0 < l.length) (ht0:0≤t) (hw:∀ w ∈ l,0≤w∧w≤l.sum) (hz:l.sum=0→t=0):GoodSplit t l (partsSp t l.sum l):=by
  have hlb:=left_bounds hl0 ht0 (fun w h=>(hw w h).1) hz
  have hsub:=List.take_sublist (leftS t l.sum l).toNat (ordS (remS t l.sum l) l.length);have hnd:=hsub.nodup (ordS_nodup (remS t l.sum l) l.length);have hq:∀ i:Nat,i < l.length→0≤t * rd l i / l.sum∧t * rd l i / l.sum≤t:=fun i hi=>by
    have:=hw _ (rd_mem l i (by omega) (by omega))
    exact quo_le ht0 this.1 this.2
  refine⟨bumpS_len _ _ _ _,?_,?_,?_,?_⟩
  · unfold partsSp
    have:=bumpS_sum t l.sum l ((ordS (remS t l.sum l) l.length).take (leftS t l.sum l).toNat) [] (by simpa using hnd) (fun i hi=>mem_ordS.1 (hsub.subset hi))
    rw[List.nil_append] at this;rw[this,bumpS_nil,List.length_take,ordS_len];unfold leftS at hlb ⊢;omega
  · intro i hi
    unfold partsSp;rw[rd_bumpS _ _ _ _ _ hi];have:=(hq i hi).1;split <;> omega
  · intro hts i hi
    unfold partsSp;rw[rd_bumpS _ _ _ _ _ hi];have hwi:=hw _ (rd_mem l i (by omega) (by omega))
    have hq0:=hq i hi;by_cases h0:l.sum=0
    · have ht:=hz h0
      have e0:(leftS t l.sum l).toNat=0:=by
        unfold leftS;rw[quoS_zero t l.sum l (fun w _=>by rw[ht];simp)]
        rw[ht];simp
      rw[e0,List.take_zero,h0,Int.ediv_zero];simp;omega
    have hs:0 < l.sum:=by have:=sum_nonneg (fun w h=>(hw w h).1);omega
    have hdm:=Int.mul_ediv_add_emod (t * rd l i) l.sum;have hle:t * rd l i≤l.sum * rd l i:=Int.mul_le_mul_of_nonneg_right hts hwi.1;have hqw:t * rd l i / l.sum≤rd l i:=by
      have h2:=Int.ediv_le_ediv hs hle;rwa [Int.mul_ediv_cancel_left _ h0] at h2
    split
    · rename_i hmem
      have hr0:0≤t * rd l i % l.sum:=Int.emod_nonneg _ h0;by_cases hr:t * rd l i % l.sum=0
      · exfalso
        exact bump_rem t l hs i hi hmem hr
      · have h5:l.sum * (t * rd l i / l.sum) < l.sum * rd l i:=by omega
        have h6:=Int.lt_of_mul_lt_mul_left h5 (by omega)
        omega
    · omega
  · intro hs i hi
    unfold partsSp;rw[rd_bumpS _ _ _ _ _ hi];have hdm:=Int.mul_ediv_add_emod (t * rd l i) l.sum;have hr0:0≤t * rd l i % l.sum:=Int.emod_nonneg _ (by omega)
    have hr1:t * rd l i % l.sum < l.sum:=Int.emod_lt_of_pos _ hs;rw[Int.mul_add];split
    · rename_i hmem
      by_cases hr:t * rd l i % l.sum=0
      · exact absurd (bump_rem t l hs i hi hmem hr) (by simp)
      · rw[Int.mul_one];omega
    · rw[Int.mul_zero];omega
theorem splitS_good {t:Int} {l:List Int} (h:(splitS t l).2=0):GoodSplit t l (splitS t l).1:=by
  unfold splitS at h ⊢;split at h
  · rename_i hc
    rw[if_pos hc];obtain⟨ht0,ht,hl0,hl1,hin,hs,hz,he⟩:=shCheck_ok hc;exact partsSp_good t l hl0 ht0 (fun w hw=>⟨(inAll_iff.1 hin w hw).1,sum_mem_le hin w hw⟩) hz
  · rename_i hc
    exact absurd h hc

theorem within_tells (l:List Int) (m:Int) (hl:l.length≤1000):Tells (fun k=>Dzw.f k l m) (inAll m l):=by
  have lp:∀ n i k,n < k→i+n=l.length→Bzk.l0 k l (l.length:Int) (i:Int) [m]=some (inAll m (l.drop i)):=by
    intro n;induction n with
    | zero =>
      intro i k hk hi;obtain⟨j,rfl⟩:∃ j,k=j+1:=⟨k - 1,by omega⟩
      unfold Bzk.l0;rw[if_neg (by omega),List.drop_of_length_le (by omega)]
      rfl
    | succ n ih =>
      intro i k hk hi;obtain⟨j,rfl⟩:∃ j,k=j+1:=⟨k - 1,by omega⟩
      unfold Bzk.l0;rw[if_pos (by omega),if_pos (by omega),if_pos (by omega),wrap64_id (n:=(i:Int)+1) (by omega) (by omega),rd_drop l i (by omega)]
      have e:Dzb.f (rd l (i:Int)) [m]=some (decide (0≤rd l (i:Int)) && decide (rd l (i:Int)≤m)):=by
        unfold Dzb.f;by_cases h:rd l (i:Int)≥0
        · have h':0≤rd l (i:Int):=h
          rw[if_pos h,if_pos (by simp)]
          rw[decide_eq_true h',Bool.true_and];rfl
        · have h':¬ 0≤rd l (i:Int):=h
          rw[if_neg h];simp [h']
      rw[e];show(if _=true then _ else _)=_
      unfold inAll;rw[List.all_cons];by_cases h:(decide (0≤rd l (i:Int)) && decide (rd l (i:Int)≤m))=true
      · rw[if_pos h,h,Bool.true_and]
        exact ih (i+1) j (by omega) (by omega)
      · rw[if_neg h,eq_false_of_ne_true h]
        rfl
  refine⟨l.length+1,fun k hk=>?_⟩
  show Dzw.f k l m=_
  unfold Dzw.f Bzk.f;have:=lp l.length 0 k (by omega) (by omega)
  rw[show((0:Nat):Int)=0 from rfl] at this
  rw[this];rfl
def partsS (l:List Int) (n:Int):Int:=if 1≤n∧n≤8∧(l.length:Int)=n then(if inAll 1099511627776 l then 0 else 1) else 17
theorem parts_tells (l:List Int) (n:Int) (hl:l.length≤1000):Tells (fun k=>Czm.f k l n) (partsS l n):=by
  have e:Dzk.f l n=some (decide (1≤n∧n≤8∧(l.length:Int)=n)):=by
    unfold Dzk.f;by_cases h1:n≥1
    · by_cases h2:n≤8
      · have h1':1≤n:=h1
        rw[if_pos h1,if_pos h2];by_cases h3:(l.length:Int)=n
        · simp [h1',h2,h3]
        · simp [h1',h2,h3]
      · rw[if_pos h1,if_neg h2];simp [h2]
    · have h1':¬ 1≤n:=h1
      rw[if_neg h1];simp [h1']
  refine Tells.congr (g:=fun k=>if(1≤n∧n≤8∧(l.length:Int)=n) then((Dzw.f k l 1099511627776).bind fun t=>if t=true then some 0 else some 1) else some 17) ?_ (fun k=>by
    unfold Czm.f;rw[e];by_cases h:(1≤n∧n≤8∧(l.length:Int)=n)
    · rw[if_pos h];simp only[Option.bind_some,decide_eq_true h,if_true]
    · rw[if_neg h];simp only[Option.bind_some,decide_eq_false h,Bool.false_eq_true,if_false])
  unfold partsS;refine Tells.ite (fun h=>?_) (fun h=>Tells.const 17)
  refine Tells.bind (within_tells l _ hl) ?_;exact Tells.ite (fun _=>Tells.const 0) (fun _=>Tells.const 1)

theorem psum_tells (l:List Int) (hl:l.length≤1000):Tells (fun k=>Czk.f k l) (sumFrom 0 l):=by
  have lp:∀ n i k s,n < k→i+n=l.length→Czk.l0 k s l (l.length:Int) (i:Int)=some (sumFrom s (l.drop i)):=by
    intro n;induction n with
    | zero =>
      intro i k s hk hi;obtain⟨m,rfl⟩:∃ m,k=m+1:=⟨k - 1,by omega⟩
      unfold Czk.l0;rw[if_neg (by omega),List.drop_of_length_le (by omega)]
      rfl
    | succ n ih =>
      intro i k s hk hi;obtain⟨m,rfl⟩:∃ m,k=m+1:=⟨k - 1,by omega⟩
      unfold Czk.l0;rw[if_pos (by omega),if_pos (by omega),if_pos (by omega),wrap64_id (n:=(i:Int)+1) (by omega) (by omega),rd_drop l i (by omega)]
      exact ih (i+1) m _ (by omega) (by omega)
  refine⟨l.length+1,fun k hk=>?_⟩
  show Czk.f k l=_
  unfold Czk.f;exact lp l.length 0 k 0 (by omega) (by omega)

theorem sum16_tells (l:List Int) (hl:l.length≤1000):Tells (fun k=>Azp.f k l) (sumFrom 0 l):=by
  have lp:∀ n i k s,n < k→i+n=l.length→Azp.l0 k l s (i:Int)=some (sumFrom s (l.drop i)):=by
    intro n;induction n with
    | zero =>
      intro i k s hk hi;obtain⟨m,rfl⟩:∃ m,k=m+1:=⟨k - 1,by omega⟩
      unfold Azp.l0;rw[if_neg (by omega),List.drop_of_length_le (by omega)]
      rfl
    | succ n ih =>
      intro i k s hk hi;obtain⟨m,rfl⟩:∃ m,k=m+1:=⟨k - 1,by omega⟩
      unfold Azp.l0;rw[if_pos (by omega),if_pos (by omega),wrap64_id (n:=(i:Int)+1) (by omega) (by omega),rd_drop l i (by omega)]
      exact ih (i+1) m _ (by omega) (by omega)
  refine⟨l.length+1,fun k hk=>?_⟩
  show Azp.f k l=_
  unfold Azp.f;exact lp l.length 0 k 0 (by omega) (by omega)

theorem list16_tells (l:List Int) (n m:Int) (hl:l.length≤1000000):Tells (fun k=>Bzx.f k l n m) (if 1≤n∧n≤8∧(l.length:Int)=n then(if inAll m l then 0 else 1) else 17):=by
  have lp:∀ d i,i+d=l.length→Tells (fun k=>Bzx.l0 k l m (i:Int)) (if inAll m (l.drop i) then 0 else 1):=by
    intro d;induction d with
    | zero =>
      intro i hi;refine Tells.up (g:=fun _=>some 0) ?_ (fun k=>by
        rw[Bzx.l0];rw[if_neg (by omega)])
      rw[List.drop_of_length_le (by omega)]
      exact Tells.const _
    | succ d ih =>
      intro i hi;refine Tells.up (g:=fun k=>if rd l (i:Int) < 0 then some 1 else if rd l (i:Int) > m then some 1 else Bzx.l0 k l m ((i+1:Nat):Int)) ?_ (fun k=>by
        rw[Bzx.l0];rw[if_pos (by omega),if_pos (by omega),wrap64_id (n:=(i:Int)+1) (by omega) (by omega)]
        rfl)
      rw[rd_drop l i (by omega),inAll_cons]
      by_cases h1:rd l (i:Int) < 0
      · rw[decide_eq_false (p:=0≤rd l (i:Int)) (by omega)]
        exact Tells.pos h1 (Tells.const 1)
      by_cases h2:rd l (i:Int) > m
      · rw[decide_eq_false (p:=rd l (i:Int)≤m) (by omega),Bool.and_false]
        exact Tells.neg h1 (Tells.pos h2 (Tells.const 1))
      rw[decide_eq_true (p:=0≤rd l (i:Int)) (by omega),decide_eq_true (p:=rd l (i:Int)≤m) (by omega)]
      exact Tells.neg h1 (Tells.neg h2 (ih (i+1) (by omega)))
  have hj:∀ b:Bool,b=decide (¬ (1≤n∧n≤8∧(l.length:Int)=n))→Tells (fun k=>Bzx.j0 k l m b) (if 1≤n∧n≤8∧(l.length:Int)=n then(if inAll m l then 0 else 1) else 17):=by
    intro b hb;refine Tells.up (g:=fun k=>if b=true then some 17 else Bzx.l0 k l m ((0:Nat):Int)) ?_ (fun k=>by rw[Bzx.j0];rfl)
    by_cases h:1≤n∧n≤8∧(l.length:Int)=n
    · rw[if_pos h]
      refine Tells.neg (by rw[hb];simpa using h) ?_
      exact lp l.length 0 (by omega)
    · rw[if_neg h]
      exact Tells.pos (by rw[hb];exact decide_eq_true h) (Tells.const _)
  by_cases h1:n < 1
  · refine Tells.congr (hj true (by rw[decide_eq_true (p:=¬ (1≤n∧n≤8∧(l.length:Int)=n)) (by omega)])) (fun k=>?_)
    unfold Bzx.f;rw[if_pos h1]
  by_cases h2:n > 8
  · refine Tells.congr (hj true (by rw[decide_eq_true (p:=¬ (1≤n∧n≤8∧(l.length:Int)=n)) (by omega)])) (fun k=>?_)
    unfold Bzx.f;rw[if_neg h1,if_pos h2]
  · refine Tells.congr (hj ((l.length:Int) != n) ?_) (fun k=>?_)
    · by_cases h3:(l.length:Int)=n
      · rw[decide_eq_false (p:=¬ (1≤n∧n≤8∧(l.length:Int)=n)) (by omega)];simp [h3]
      · rw[decide_eq_true (p:=¬ (1≤n∧n≤8∧(l.length:Int)=n)) (by omega)];simp [h3]
    unfold Bzx.f;rw[if_neg h1,if_neg h2]
theorem parts16_tells (l:List Int) (n:Int) (hl:l.length≤1000000):Tells (fun k=>Czv.f k l n) (partsS l n):=by
  refine Tells.congr (g:=fun k=>(Bzx.f k l n 1099511627776).bind fun t=>some t) ?_ (fun k=>by unfold Czv.f;rfl)
  exact Tells.bind (list16_tells l n _ hl) (Tells.const _)

theorem and1' (x:Int) (h0:0≤x) (h1:x < 4611686018427387904):Go.bits .and .i64 x 1=x % 2:=by
  have h:=bits_mask .i64 62 (by decide) (fun n a b=>by rw[IntKind.wrap_i64];omega) 1 (by decide) x h0 (by simpa using h1)
  simpa using h
theorem divide01_tells (a b c:Int) (ha0:0≤a) (ha:a≤1125899906842624) (hb0:0≤b) (hb:b≤1125899906842624) (hc1:1≤c) (hc:c≤1125899906842624) (hq:a * b / c≤4503599627370496):Tells (fun k=>Bzy.f k a b c) (a * b / c,a * b % c):=by
  have lp:∀ (j:Nat),j≤51→Tells (fun k=>Bzy.l0 k a b c (a / 2 ^ j * b / c) (a / 2 ^ j * b % c) ((j:Int) - 1)) (a * b / c,a * b % c):=by
    intro j;induction j with
    | zero =>
      intro _;refine Tells.up (g:=fun _=>some (a * b / c,a * b % c)) (Tells.const _) (fun k=>?_)
      rw[Bzy.l0];rw[if_neg (by omega)]
      simp
    | succ j ih =>
      intro hj;have hpos:(0:Int) < 2 ^ j:=Int.pow_pos (by decide)
      have hA:a / 2 ^ (j+1)=a / 2 ^ j / 2:=by
        rw[Int.pow_succ,Int.ediv_ediv_of_nonneg (by omega)]
      have hAj0:0≤a / 2 ^ j:=Int.ediv_nonneg ha0 (by omega)
      have hAj1:a / 2 ^ j≤a:=Int.ediv_le_self _ ha0;generalize hAA:a / 2 ^ j=A at *;have hX0:0≤A / 2 * b:=Int.mul_nonneg (by omega) hb0
      have hr0:0≤A / 2 * b % c:=Int.emod_nonneg _ (by omega)
      have hr1:A / 2 * b % c < c:=Int.emod_lt_of_pos _ (by omega)
      have hq0:0≤A / 2 * b / c:=Int.ediv_nonneg hX0 (by omega)
      have hdm:c * (A / 2 * b / c)+A / 2 * b % c=A / 2 * b:=Int.mul_ediv_add_emod _ _;have hAb:A * b≤a * b:=Int.mul_le_mul_of_nonneg_right hAj1 hb0;have hAq:A * b / c≤4503599627370496:=Int.le_trans (Int.ediv_le_ediv (by omega) hAb) hq
      have hAb2:A / 2 * b≤A * b:=Int.mul_le_mul_of_nonneg_right (by omega) hb0
      have hqq:A / 2 * b / c≤4503599627370496:=Int.le_trans (Int.ediv_le_ediv (by omega) hAb2) hAq
      rw[hA];generalize hqe:A / 2 * b / c=q at *;generalize hre:A / 2 * b % c=r at *;have hs:shr .i64 a (((j+1:Nat):Int) - 1)=A:=by
        unfold shr;rw[show((((j+1:Nat):Int) - 1)).toNat=j by omega,show min j (IntKind.i64.bits)=j by
          have:IntKind.i64.bits=64:=rfl;omega]
        exact hAA
      have hX:A * b=2 * (A / 2 * b)+(A % 2) * b:=by
        have:=Int.mul_ediv_add_emod A 2;calc A * b=(2 * (A / 2)+A % 2) * b:=by rw[this]
          _=2 * (A / 2 * b)+(A % 2) * b:=by rw[Int.add_mul,Int.mul_assoc]
      have hstep:∀ (rr:Int),rr=2 * r+(A % 2) * b→mn (wrap64 (2 * q+wrap64 (Int.tdiv rr c))) 4503599627370496=A * b / c∧Int.tmod rr c=A * b % c:=by
        intro rr hrr;have hba:0≤(A % 2) * b∧(A % 2) * b≤b:=by
          rcases Int.emod_two_eq A with h|h
          · rw[h];simp [hb0]
          · rw[h];simp [hb0]
        have hrr0:0≤rr:=by omega
        have hXX:A * b=rr+(2 * q) * c:=by
          rw[hX,hrr,← hdm,Int.mul_add,Int.mul_comm c q,← Int.mul_assoc];omega
        have e1:2 * q+rr / c=A * b / c:=by
          rw[hXX,Int.add_mul_ediv_right _ _ (by omega)];omega
        have e2:rr % c=A * b % c:=by rw[hXX,Int.add_mul_emod_self_right]
        have hd0:0≤rr / c:=Int.ediv_nonneg hrr0 (by omega)
        rw[Int.tdiv_eq_ediv_of_nonneg hrr0,Int.tmod_eq_emod_of_nonneg hrr0,wrap64_id (n:=rr / c) (by omega) (by omega),e1,e2,wrap64_id (by omega) (by omega)]
        refine⟨?_,rfl⟩;unfold mn;omega
      rw[show((j+1:Nat):Int) - 1=(j:Int) by omega] at hs ⊢
      have hi:=ih (by omega)
      refine Tells.up hi (fun k=>?_)
      rw[Bzy.l0];rw[if_pos (by omega),if_pos (by omega),hs,and1' A hAj0 (by omega),wrap64_id (n:=2 * q) (by omega) (by omega),wrap64_id (n:=2 * r) (by omega) (by omega),wrap64_id (n:=(j:Int) - 1) (by omega) (by omega)]
      rcases Int.emod_two_eq A with h|h
      · have:=hstep (2 * r) (by rw[h];simp)
        rw[if_neg (by omega),if_neg (by omega),this.1,this.2]
      · have:=hstep (2 * r+b) (by rw[h];simp)
        rw[if_pos h,if_neg (by omega),wrap64_id (n:=2 * r+b) (by omega) (by omega),this.1,this.2]
  have h51:=lp 51 (by omega)
  have e:a / 2 ^ 51=0:=Int.ediv_eq_zero_of_lt ha0 (by omega)
  rw[e] at h51;simp at h51;refine Tells.congr h51 (fun k=>?_)
  unfold Bzy.f;rfl
theorem in01 {x:Int} (h0:0≤x) (h1:x≤1125899906842624):Czb.f x=some true:=by
  unfold Czb.f;rw[if_pos (by omega),decide_eq_true h1]
theorem abs01 {x:Int} (h0:0≤x):Dzz.f x=some x:=by
  unfold Dzz.f;rw[if_neg (by omega)]
/-- Rounded down (0) or to the nearest,of two the even one (2). -/
def mdS (a b c mode:Int):Int:=if mode=2∧(2 * (a * b % c) > c∨(2 * (a * b % c)=c∧a * b / c % 2=1)) then a * b / c+1 else a * b / c
theorem muldiv01_tells (a b c mode:Int) (ha0:0≤a) (ha:a≤1125899906842624) (hb0:0≤b) (hb:b≤1125899906842624) (hc1:1≤c) (hc:c≤1125899906842624) (hq:a * b / c < 1125899906842624∨(a * b / c≤1125899906842624∧mode=0)) (hm:mode=0∨mode=2):Tells (fun k=>Azv.f k a b c mode) (mdS a b c mode,0):=by
  have hX0:0≤a * b:=Int.mul_nonneg ha0 hb0;have hq0:0≤a * b / c:=Int.ediv_nonneg hX0 (by omega)
  have hr0:0≤a * b % c:=Int.emod_nonneg _ (by omega)
  have hr1:a * b % c < c:=Int.emod_lt_of_pos _ (by omega)
  have hd:=divide01_tells a b c ha0 ha hb0 hb hc1 hc (by omega)
  have hv0:0≤mdS a b c mode∧mdS a b c mode≤1125899906842624:=by
    unfold mdS;split <;> omega
  have h6:∀ y:Bool,(if y then a * b / c+1 else a * b / c)=mdS a b c mode→Tells (fun k=>Azv.j6 k (a * b / c) false y) (mdS a b c mode,0):=by
    intro y hy;have hres:Dzq.f (mdS a b c mode)=some (mdS a b c mode,0):=by
      unfold Dzq.f;rw[in01 hv0.1 hv0.2];rfl
    refine Tells.up (g:=fun _=>some (mdS a b c mode,0)) (Tells.const _) (fun k=>?_)
    rw[Azv.j6];cases y with
    | true =>
      have hy':a * b / c+1=mdS a b c mode:=hy;rw[if_pos rfl,if_neg (by simp),wrap64_id (by omega) (by omega),hy',hres]
      rfl
    | false =>
      have hy':a * b / c=mdS a b c mode:=hy;rw[if_neg (by simp),if_neg (by simp)]
      rw[hy',hres];rfl
  have h5:∀ y:Bool,(if a * b % c > 0 then(if y then a * b / c+1 else a * b / c) else a * b / c)=mdS a b c mode→Tells (fun k=>Azv.j5 k (a * b / c) (a * b % c) false y) (mdS a b c mode,0):=by
    intro y hy;refine Tells.up (g:=fun k=>if a * b % c > 0 then Azv.j6 k (a * b / c) false y else Azv.j6 k (a * b / c) false false) ?_ (fun k=>by rw[Azv.j5])
    by_cases h:a * b % c > 0
    · rw[if_pos h] at hy
      exact Tells.pos h (h6 y hy)
    · rw[if_neg h] at hy
      exact Tells.neg h (h6 false (by simpa using hy))
  have h4:Tells (fun k=>Azv.j4 k c mode (a * b / c) (a * b % c) false false) (mdS a b c mode,0):=by
    rcases hm with hm|hm
    · refine Tells.up (h5 false ?_) (fun k=>by
        rw[Azv.j4];rw[if_neg (by omega)])
      unfold mdS;rw[if_neg (show ¬ (mode=2∧_) by omega)]
      simp
    · by_cases c1:2 * (a * b % c) > c
      · refine Tells.up (h5 true ?_) (fun k=>by
          rw[Azv.j4];rw[if_pos hm,abs01 (by omega:0≤c)]
          simp only[Option.bind_some];rw[wrap64_id (by omega) (by omega),if_pos c1])
        unfold mdS;rw[if_pos (show a * b % c > 0 by omega),if_pos (show mode=2∧(2 * (a * b % c) > c∨_) from⟨hm,Or.inl c1⟩)]
        rfl
      · by_cases c2:2 * (a * b % c)=c
        · refine Tells.up (h5 (Int.tmod (a * b / c) 2 == 1) ?_) (fun k=>by
            rw[Azv.j4];rw[if_pos hm,abs01 (by omega:0≤c)]
            simp only[Option.bind_some];rw[wrap64_id (by omega) (by omega),if_neg c1,if_pos c2])
          rw[Int.tmod_eq_emod_of_nonneg hq0];unfold mdS;rw[if_pos (show a * b % c > 0 by omega)]
          by_cases c3:a * b / c % 2=1
          · rw[if_pos (show mode=2∧(2 * (a * b % c) > c∨(2 * (a * b % c)=c∧a * b / c % 2=1)) from⟨hm,Or.inr ⟨c2,c3⟩⟩)]
            simp [c3]
          · rw[if_neg (show ¬ (mode=2∧(2 * (a * b % c) > c∨(2 * (a * b % c)=c∧a * b / c % 2=1))) by omega)]
            simp [c3]
        · refine Tells.up (h5 false ?_) (fun k=>by
            rw[Azv.j4];rw[if_pos hm,abs01 (by omega:0≤c)]
            simp only[Option.bind_some];rw[wrap64_id (by omega) (by omega),if_neg c1,if_neg c2])
          unfold mdS;rw[if_neg (show ¬ (mode=2∧(2 * (a * b % c) > c∨(2 * (a * b % c)=c∧a * b / c % 2=1))) by omega)]
          simp
  have h3:Tells (fun k=>Azv.j3 k c mode (a * b / c) (a * b % c) false) (mdS a b c mode,0):=by
    refine Tells.up h4 (fun k=>?_)
    rw[Azv.j3];rcases hm with hm|hm
    · rw[if_pos hm,if_neg (by simp),if_neg (by omega)]
    · rw[if_neg (by omega),if_neg (by omega)]
  have h2:Tells (fun k=>Azv.j2 k c mode (a * b / c) (a * b % c) false) (mdS a b c mode,0):=by
    refine Tells.up h3 (fun k=>?_)
    rw[Azv.j2];rw[if_neg (by omega)]
  have h1:Tells (fun k=>Azv.j1 k a b c mode false) (mdS a b c mode,0):=by
    refine Tells.up (g:=fun k=>(Bzy.f k a b c).bind fun d=>Azv.j2 k c mode d.1 d.2 false) (Tells.bind hd h2) (fun k=>?_)
    rw[Azv.j1];rw[if_neg (by simp),abs01 ha0,abs01 hb0,abs01 (by omega:0≤c)]
    simp only[Option.bind_some];congr 1;funext d
    rw[if_neg (by omega),decide_eq_false (by omega)]
  have h0:Tells (fun k=>Azv.j0 k a b c mode false) (mdS a b c mode,0):=by
    refine Tells.up h1 (fun k=>?_)
    rw[Azv.j0];rw[if_neg (by simp),if_neg (by omega),if_neg (by omega),decide_eq_false (by omega)]
  refine Tells.congr h0 (fun k=>?_)
  unfold Azv.f;rw[in01 ha0 ha,in01 hb0 hb,in01 (by omega:0≤c) hc]
  rfl
theorem muldiv01_down (t x s:Int) (ht0:0≤t) (ht:t≤1125899906842624) (hx0:0≤x) (hxs:x≤s) (hs1:1≤s) (hs:s≤1125899906842624):Tells (fun k=>Azv.f k t x s 0) (t * x / s,0):=by
  have hq1:t * x / s≤t:=by
    have h1:t * x≤t * s:=Int.mul_le_mul_of_nonneg_left hxs ht0;have h2:=Int.ediv_le_ediv (show 0 < s by omega) h1
    rwa [Int.mul_ediv_cancel _ (by omega)] at h2
  have:=muldiv01_tells t x s 0 ht0 ht hx0 (by omega) hs1 hs (Or.inr ⟨by omega,rfl⟩) (Or.inl rfl)
  unfold mdS at this;rw[if_neg (by omega)] at this
  exact this

/-- The remainders,without those that are picked. -/
def pickS (R D:List Int) (n:Nat):List Int:=(idx n).map fun i=>if i ∈ D then -1 else rd R i
theorem pickS_len (R D:List Int) (n:Nat):(pickS R D n).length=n:=by simp [pickS,idx_len]
theorem rd_pickS (R D:List Int) (n i:Nat) (h:i < n):rd (pickS R D n) (i:Int)=if(i:Int) ∈ D then -1 else rd R i:=by
  unfold pickS;rw[rd_map _ _ i (by rw[idx_len];exact h),rd_idx _ _ h]
theorem pickS_nil (R:List Int):pickS R [] R.length=R:=by
  apply ext_rd (by rw[pickS_len])
  intro i hi;rw[pickS_len] at hi;rw[rd_pickS _ _ _ _ hi];simp
theorem pickS_step (R D:List Int) (n i:Nat) (h:i < n):(pickS R D n).set i (-1)=pickS R (D ++ [(i:Int)]) n:=by
  apply ext_rd (by simp [pickS_len])
  intro j hj;have hj':j < n:=by simpa [pickS_len] using hj
  rw[rd_set _ _ _ _ (by rw[pickS_len];exact hj'),rd_pickS _ _ _ _ hj',rd_pickS _ _ _ _ hj']
  by_cases e:i=j
  · subst e;simp
  · rw[if_neg e]
    have:((j:Int) ∈ D ++ [(i:Int)]) ↔ (j:Int) ∈ D:=by
      rw[List.mem_append,List.mem_singleton];constructor
      · rintro (h|h)
        · exact h
        · omega
      · exact Or.inl
    simp only[this]

/-- The search ends at the first greatest one. -/
theorem r16_l2 (P X:List Int) (left:Int) (o:Nat) (out:List Int) (hX:X.length=P.length) (hl:X.length≤1000000) (ho:o < X.length) (h1:∀ j:Nat,j < X.length→rd X j≤rd X o) (h2:∀ j:Nat,j < o→rd X j < rd X o)
    (hend:Tells (fun k=>Azm.l1 k (P.set o (wrap64 (rd P (o:Int)+1))) (X.set o (-1)) (wrap64 (left - 1))) out) :
    ∀ n i b:Nat,i+n=X.length→b < i→(∀ j:Nat,j < i→rd X j≤rd X b)→(∀ j:Nat,j < b→rd X j < rd X b)→Tells (fun k=>Azm.l2 k P X left (b:Int) (i:Int)) out:=by
  intro n;induction n with
  | zero =>
    intro i b hi hb h3 h4;have e:b=o:=by
      rcases Nat.lt_trichotomy b o with h|h|h
      · have:=h2 b h;have:=h3 o (by omega);omega
      · exact h
      · have:=h4 o h;have:=h1 b (by omega);omega
    subst e;refine Tells.up hend (fun k=>?_)
    rw[Azm.l2];rw[if_neg (by omega),if_pos (by omega),if_pos (by omega),if_pos (by omega)]
    rfl
  | succ n ih =>
    intro i b hi hb h3 h4;by_cases c:rd X (i:Int) > rd X (b:Int)
    · refine Tells.up (ih (i+1) i (by omega) (by omega) ?_ ?_) (fun k=>?_)
      · intro j hj
        by_cases e:j=i
        · subst e;omega
        · have:=h3 j (by omega);omega
      · intro j hj
        have:=h3 j (by omega);omega
      · rw[Azm.l2]
        rw[if_pos (by omega),if_pos (by omega),if_pos (by omega),if_pos (by omega),if_pos c,wrap64_id (by omega) (by omega)]
        rfl
    · refine Tells.up (ih (i+1) b (by omega) (by omega) ?_ h4) (fun k=>?_)
      · intro j hj
        by_cases e:j=i
        · subst e;omega
        · exact h3 j (by omega)
      · rw[Azm.l2]
        rw[if_pos (by omega),if_pos (by omega),if_pos (by omega),if_pos (by omega),if_neg c,wrap64_id (by omega) (by omega)]
        rfl
theorem r16_l1 (t s:Int) (l:List Int) (ht0:0≤t) (ht:t≤1125899906842624) (hw:∀ w ∈ l,0≤w∧w≤s) (hl0:0 < l.length) (hl:l.length≤1000000) (hR:∀ y ∈ remS t s l,0≤y) :
    ∀ (todo D post:List Int),D ++ todo ++ post=ordS (remS t s l) l.length→Tells (fun k=>Azm.l1 k (bumpS t s l D) (pickS (remS t s l) D l.length) (todo.length:Int)) (bumpS t s l (D ++ todo)):=by
  intro todo;induction todo with
  | nil =>
    intro D post _;rw[List.append_nil];refine Tells.up (Tells.const _) (fun k=>?_)
    rw[Azm.l1];rw[if_neg (by simp)]
  | cons x todo ih =>
    intro D post hD;have hO:=ordS_sorted (remS t s l) l.length;have hN:=ordS_nodup (remS t s l) l.length;have hx:0≤x∧x < (l.length:Int):=mem_ordS.1 (by rw[← hD];simp:x ∈ ordS (remS t s l) l.length)
    have hall:∀ j:Nat,j < l.length→(j:Int) ∈ D∨(j:Int)=x∨(j:Int) ∈ todo ++ post:=by
      intro j hj;have:(j:Int) ∈ ordS (remS t s l) l.length:=mem_ordS.2 (by omega)
      rw[← hD] at this;simp at this ⊢;rcases this with h|h|h|h
      · exact Or.inl h
      · exact Or.inr (Or.inl h)
      · exact Or.inr (Or.inr (Or.inl h))
      · exact Or.inr (Or.inr (Or.inr h))
    rw[← hD,List.append_assoc,List.nodup_append] at hN;have hxD:x ∉ D:=fun h=>hN.2.2 x h x (by simp) rfl
    rw[← hD,List.append_assoc,List.pairwise_append] at hO;have hO2:=hO.2.1;rw[List.cons_append,List.pairwise_cons] at hO2;obtain⟨o,rfl⟩:∃ o:Nat,x=(o:Int):=⟨x.toNat,by omega⟩
    have ho:o < l.length:=by omega
    have hRo:0≤rd (remS t s l) (o:Int):=hR _ (rd_mem _ _ (by omega) (by simp [remS];omega))
    have hb:rd (bumpS t s l D) (o:Int)=t * rd l o / s:=by rw[rd_bumpS _ _ _ _ _ ho,if_neg hxD,Int.add_zero]
    have hq:=quo_le ht0 (hw _ (rd_mem l o (by omega) (by omega))).1 (hw _ (rd_mem l o (by omega) (by omega))).2
    have hto:(((o:Int) :: todo).length:Int)=(todo.length:Int)+1:=by simp
    have hpl:(pickS (remS t s l) D l.length).length=l.length:=pickS_len _ _ _;have hle:((ordS (remS t s l) l.length).length:Int)=l.length:=by rw[ordS_len]
    rw[← hD] at hle;have htl:(todo.length:Int)≤l.length:=by simp at hle;omega
    refine Tells.up (g:=fun k=>Azm.l2 k (bumpS t s l D) (pickS (remS t s l) D l.length) (((o:Int) :: todo).length:Int) ((0:Nat):Int) ((1:Nat):Int)) ?_ (fun k=>by
      rw[Azm.l1];rw[if_pos (by omega)]
      rfl)
    refine r16_l2 _ _ _ o _ (by rw[hpl,bumpS_len]) (by omega) (by omega) ?_ ?_ ?_ (l.length - 1) 1 0 (by omega) (by omega) (fun j hj=>by
      obtain rfl:j=0:=by omega
      exact Int.le_refl _) (fun j hj=>by omega)
    · intro j hj
      rw[hpl] at hj;rw[rd_pickS _ _ _ _ hj,rd_pickS _ _ _ _ ho,if_neg hxD];split
      · omega
      · rename_i hjD
        rcases hall j hj with h|h|h
        · exact absurd h hjD
        · rw[h];exact Int.le_refl _
        · have:=hO2.1 _ h
          unfold ltR at this;omega
    · intro j hj
      rw[rd_pickS _ _ _ _ (by omega:j < l.length),rd_pickS _ _ _ _ ho,if_neg hxD]
      split
      · omega
      · rename_i hjD
        rcases hall j (by omega) with h|h|h
        · exact absurd h hjD
        · omega
        · have:=hO2.1 _ h
          unfold ltR at this;omega
    · rw[hb,wrap64_id (by omega) (by omega),← hb,bumpS_step t s l D o ho hxD,pickS_step _ _ _ _ ho,wrap64_id (by omega) (by omega),hto]
      have:=ih (D ++ [(o:Int)]) post (by rw[← hD];simp)
      have e:(todo.length:Int)+1 - 1=(todo.length:Int):=by omega
      rw[e];simpa using this
theorem r16_l0 (t s:Int) (l:List Int) (out:List Int) (ht0:0≤t) (ht:t≤1125899906842624) (hs1:1≤s) (hs:s≤1125899906842624) (hw:∀ w ∈ l,0≤w∧w≤s) (hl:l.length≤1000)
    (hend:Tells (fun k=>Azm.l1 k (quoS t s l) (remS t s l) (leftS t s l)) out) :
    ∀ r pre,pre ++ r=l→Tells (fun k=>Azm.l0 k t l s (quoS t s pre ++ List.replicate r.length 0) (remS t s pre ++ List.replicate r.length 0) (t - (quoS t s pre).sum) (pre.length:Int)) out:=by
  intro r;induction r with
  | nil =>
    intro pre h;rw[List.append_nil] at h;subst h;refine Tells.up hend (fun k=>?_)
    rw[Azm.l0];rw[if_neg (by omega)]
    simp [leftS]
  | cons x r ih =>
    intro pre h;have hlen:l.length=pre.length+r.length+1:=by rw[← h];simp;omega
    have hx:=hw x (by rw[← h];simp)
    have e1:rd l (pre.length:Int)=x:=rd_mid' h.symm rfl;have hq:=quo_le ht0 hx.1 hx.2;have hqs:=sum_le_mul (m:=t) (l:=quoS t s pre) (fun y hy=>by
      unfold quoS at hy;obtain⟨w,hw',rfl⟩:=List.mem_map.1 hy;have:=hw w (by rw[← h];exact List.mem_append_left _ hw')
      exact quo_le ht0 this.1 this.2)
    have hql:(quoS t s pre).length=pre.length:=by simp [quoS]
    have hrl:(remS t s pre).length=pre.length:=by simp [remS]
    rw[hql] at hqs;have hmul:t * (pre.length:Int)≤1125899906842624 * 1000:=by
      have a:=Int.mul_le_mul_of_nonneg_right ht (show(0:Int)≤(pre.length:Int) by omega)
      omega
    have sA:(quoS t s pre ++ List.replicate (x :: r).length 0).set (pre.length:Int).toNat (t * x / s)=quoS t s (pre ++ [x]) ++ List.replicate r.length 0:=by
      rw[set_mid' (A:=quoS t s pre) (x:=0) (B:=List.replicate r.length 0) (by rw[List.length_cons,List.replicate_succ]) (by rw[hql])]
      simp [quoS]
    have sB:(remS t s pre ++ List.replicate (x :: r).length 0).set (pre.length:Int).toNat (t * x % s)=remS t s (pre ++ [x]) ++ List.replicate r.length 0:=by
      rw[set_mid' (A:=remS t s pre) (x:=0) (B:=List.replicate r.length 0) (by rw[List.length_cons,List.replicate_succ]) (by rw[hrl])]
      simp [remS]
    have e2:t - (quoS t s (pre ++ [x])).sum=t - (quoS t s pre).sum - t * x / s:=by
      simp [quoS];omega
    have hr0:0≤t * x % s:=Int.emod_nonneg _ (by omega)
    have hr1:t * x % s < s:=Int.emod_lt_of_pos _ (by omega)
    have er:wrap64 (wrap64 (t * x) - wrap64 (t * x / s * s))=t * x % s:=by
      obtain⟨a,ha⟩:=wrap64_mod (t * x);obtain⟨b,hb⟩:=wrap64_mod (t * x / s * s);have hd:t * x / s * s+t * x % s=t * x:=by rw[Int.mul_comm];exact Int.mul_ediv_add_emod _ _
      unfold wrap64 at ha hb ⊢;omega
    have hnext:=ih (pre ++ [x]) (by rw[← h];simp)
    rw[e2] at hnext;refine Tells.up (g:=fun k=>(Azv.f k t x s 0).bind fun b=>if(pre.length:Int) < ((quoS t s pre ++ List.replicate (x :: r).length 0).length:Int) then(if(pre.length:Int) < ((remS t s pre ++ List.replicate (x :: r).length 0).length:Int) then Azm.l0 k t l s ((quoS t s pre ++ List.replicate (x :: r).length 0).set (pre.length:Int).toNat b.1) ((remS t s pre ++ List.replicate (x :: r).length 0).set (pre.length:Int).toNat (wrap64 (wrap64 (t * x) - wrap64 (b.1 * s)))) (wrap64 (t - (quoS t s pre).sum - b.1)) (wrap64 ((pre.length:Int)+1)) else none) else none) ?_ (fun k=>by
      rw[Azm.l0];rw[if_pos (by omega),if_pos (by omega),e1])
    refine Tells.bind (muldiv01_down t x s ht0 ht hx.1 hx.2 hs1 hs) ?_;refine Tells.pos (by simp [hql];omega) ?_
    refine Tells.pos (by simp [hrl];omega) ?_
    rw[er,sA,sB,wrap64_id (by omega) (by omega),wrap64_id (by omega) (by omega)]
    rw[List.length_append,List.length_singleton] at hnext;exact hnext
theorem split16_tells (t:Int) (l:List Int) (ht0:0≤t) (ht:t≤1125899906842624) (hl0:0 < l.length) (hl:l.length≤1000) (hin:inAll 1125899906842624 l=true) (hs1:1≤l.sum) (hs:l.sum≤1125899906842624):Tells (fun k=>Azm.f k t l) (partsSp t l.sum l):=by
  have hw:∀ w ∈ l,0≤w∧w≤l.sum:=fun w hw=>⟨(inAll_iff.1 hin w hw).1,sum_mem_le hin w hw⟩
  have hlb:=left_bounds hl0 ht0 (fun w h=>(hw w h).1) (by omega)
  have hsf:sumFrom 0 l=l.sum:=by
    have hlen:(l.length:Int)≤1000:=by omega
    have hin2:inAll l.sum l=true:=inAll_iff.2 hw;have:∀ (r:List Int) (s:Int),(∀ w ∈ r,0≤w)→0≤s→s+r.sum≤1125899906842624→sumFrom s r=s+r.sum:=by
      intro r;induction r with
      | nil=>intro s _ _ _;simp [sumFrom]
      | cons x r ih =>
        intro s h0 hs0 h1;rw[List.sum_cons] at h1;have hx:=h0 x List.mem_cons_self;have hn:=sum_nonneg (l:=r) (fun w hw=>h0 w (List.mem_cons_of_mem _ hw))
        show sumFrom (wrap64 (s+x)) r=_
        rw[wrap64_id (by omega) (by omega),ih (s+x) (fun w hw=>h0 w (List.mem_cons_of_mem _ hw)) (by omega) (by omega),List.sum_cons]
        omega
    have:=this l 0 (fun w h=>(hw w h).1) (by omega) (by omega)
    omega
  refine Tells.congr (g:=fun k=>(Azp.f k l).bind fun s=>Azm.l0 k t l s (List.replicate l.length 0) (List.replicate l.length 0) t 0) ?_ (fun k=>by
    unfold Azm.f;congr 1;funext b
    rw[if_pos (show 0≤(l.length:Int) by omega),if_pos (show((l.length:Int):Int).toNat≤35184372088832 by omega)]
    rfl)
  refine Tells.bind (sum16_tells l hl) ?_;rw[hsf];have hR:∀ y ∈ remS t l.sum l,0≤y:=fun y hy=>(rem_bounds (show 0 < l.sum by omega) y hy).1
  have:=r16_l0 t l.sum l (partsSp t l.sum l) ht0 ht (by omega) hs hw hl ?_ l [] rfl
  · simpa [quoS,remS] using this
  have h1:=r16_l1 t l.sum l ht0 ht hw hl0 (by omega) hR ((ordS (remS t l.sum l) l.length).take (leftS t l.sum l).toNat) [] ((ordS (remS t l.sum l) l.length).drop (leftS t l.sum l).toNat) (by rw[List.nil_append,List.take_append_drop])
  rw[bumpS_nil,List.nil_append] at h1;have e1:(((ordS (remS t l.sum l) l.length).take (leftS t l.sum l).toNat).length:Int)=leftS t l.sum l:=by
    rw[List.length_take,ordS_len];omega
  have e2:pickS (remS t l.sum l) [] l.length=remS t l.sum l:=by
    have:=pickS_nil (remS t l.sum l);simpa [remS] using this
  rw[e1,e2] at h1;exact h1

/-- The parts changed by some masses,times a sign. -/
def zipS (sg:Int) (l m:List Int):List Int:=(idx l.length).map fun i=>wrap64 (rd l i+sg * rd m i)
theorem zipS_len (sg:Int) (l m:List Int):(zipS sg l m).length=l.length:=by simp [zipS,idx_len]
theorem rd_zipS (sg:Int) (l m:List Int) (i:Nat) (h:i < l.length):rd (zipS sg l m) (i:Int)=wrap64 (rd l i+sg * rd m i):=by
  unfold zipS;rw[rd_map _ _ i (by rw[idx_len];exact h),rd_idx _ _ h]
theorem wrap64_in (a b:Int):wrap64 (a+wrap64 b)=wrap64 (a+b):=by
  unfold wrap64;omega

theorem rdL_drop (l:List (List Int)) (i:Nat) (h:i < l.length):l.drop i=rd_L1 l (i:Int) :: l.drop (i+1):=by
  rw[List.drop_eq_getElem_cons h];congr 1
  show l[i]=l.getD (i:Int).toNat []
  simp [h]
theorem rdL_mem (l:List (List Int)) (i:Nat) (h:i < l.length):rd_L1 l (i:Int) ∈ l:=by
  have:=rdL_drop l i h;have hm:rd_L1 l (i:Int) ∈ l.drop i:=by rw[this];exact List.mem_cons_self
  exact List.mem_of_mem_drop hm

theorem great_tells (h:Int) (l:List (List Int)) (hl:l.length≤maxLen):∃ b,Tells (fun k=>Bzj.f k h l) b∧(b=false→l.length≤300∧∀ x ∈ l,x.length≤20):=by
  by_cases c:(l.length:Int) > 300
  · refine⟨true,Tells.congr (Tells.const true) (fun k=>?_),by simp⟩
    unfold Bzj.f;rw[if_pos c]
  · have lp:∀ d i,i+d=l.length→∃ b,Tells (fun k=>Bzj.l0 k (i:Int) h l) b∧(b=false→∀ x ∈ l.drop i,x.length≤20):=by
      intro d;induction d with
      | zero =>
        intro i hi;refine⟨false,Tells.up (Tells.const _) (fun k=>?_),fun _ x hx=>?_⟩
        · rw[Bzj.l0]
          rw[if_neg (by omega)]
        · rw[List.drop_of_length_le (by omega)] at hx;simp at hx
      | succ d ih =>
        intro i hi;obtain⟨b,hb,hb2⟩:=ih (i+1) (by omega)
        by_cases c2:((rd_L1 l (i:Int)).length:Int) > 20
        · refine⟨true,Tells.up (Tells.const _) (fun k=>?_),by simp⟩
          rw[Bzj.l0];rw[if_pos (by omega),if_pos (by omega),if_pos c2]
        · refine⟨b,Tells.up hb (fun k=>?_),fun h2 x hx=>?_⟩
          · rw[Bzj.l0]
            rw[if_pos (by omega),if_pos (by omega),if_neg c2,wrap64_id (by omega) (by omega)]
            rfl
          · rw[rdL_drop l i (by omega)] at hx
            rcases List.mem_cons.1 hx with rfl|hx
            · omega
            · exact hb2 h2 x hx
    obtain⟨b,hb,hb2⟩:=lp l.length 0 (by omega)
    refine⟨b,Tells.congr hb (fun k=>?_),fun h2=>⟨by omega,hb2 h2⟩⟩
    unfold Bzj.f;rw[if_neg c];rfl
def errP (n:Int):List (List Int)→Int
  | []=>0
  | x :: l=>if partsS x n=0 then(if sumFrom 0 x=0 then 10 else errP n l) else partsS x n
def sumAll (s:Int):List (List Int)→Int
  | []=>s
  | x :: l=>sumAll (wrap64 (s+sumFrom 0 x)) l
def checkP (h:Int) (l:List (List Int)):Int:=if h < 1∨h > 1099511627776 then 1 else if(l.length:Int)=0 then 10 else if(l.length:Int) > 256 then 8 else if errP ((rd_L1 l 0).length:Int) l=0 then(if sumAll 0 l=h then 0 else 39) else errP ((rd_L1 l 0).length:Int) l
theorem checkP_tells (h:Int) (l:List (List Int)) (hl:l.length≤300) (hx:∀ x ∈ l,x.length≤20):Tells (fun k=>Bzb.f k h l) (checkP h l):=by
  have lp:∀ d i s,i+d=l.length→Tells (fun k=>Bzb.l0 k s l (l.length:Int) (i:Int) h l) (if errP ((rd_L1 l 0).length:Int) (l.drop i)=0 then(if sumAll s (l.drop i)=h then 0 else 39) else errP ((rd_L1 l 0).length:Int) (l.drop i)):=by
    intro d;induction d with
    | zero =>
      intro i s hi;rw[List.drop_of_length_le (by omega)]
      refine Tells.up (g:=fun k=>if s=h then some 0 else some 39) ?_ (fun k=>by
        rw[Bzb.l0];rw[if_neg (by omega)])
      exact Tells.ite (fun _=>Tells.const _) (fun _=>Tells.const _)
    | succ d ih =>
      intro i s hi;have hm:=hx _ (rdL_mem l i (by omega))
      rw[rdL_drop l i (by omega)]
      refine Tells.up (g:=fun k=>(Czm.f k (rd_L1 l (i:Int)) ((rd_L1 l 0).length:Int)).bind fun t=>if t=0 then((Czk.f k (rd_L1 l (i:Int))).bind fun t=>if t=0 then some 10 else((Czk.f k (rd_L1 l (i:Int))).bind fun t=>Bzb.l0 k (wrap64 (s+t)) l (l.length:Int) ((i+1:Nat):Int) h l)) else some t) ?_ (fun k=>by
        rw[Bzb.l0];rw[if_pos (by omega),if_pos (by omega),if_pos (by omega),if_pos (by omega),wrap64_id (n:=(i:Int)+1) (by omega) (by omega)]
        rfl)
      refine Tells.bind (parts_tells _ _ (by omega)) ?_
      rw[errP];by_cases c1:partsS (rd_L1 l (i:Int)) ((rd_L1 l 0).length:Int)=0
      · rw[if_pos c1]
        refine Tells.pos c1 (Tells.bind (psum_tells _ (by omega)) ?_)
        by_cases c2:sumFrom 0 (rd_L1 l (i:Int))=0
        · rw[if_pos c2]
          exact Tells.pos c2 (Tells.const _)
        · rw[if_neg c2]
          refine Tells.neg c2 (Tells.bind (psum_tells _ (by omega)) ?_)
          exact ih (i+1) _ (by omega)
      · rw[if_neg c1,if_neg c1]
        exact Tells.neg c1 (Tells.const _)
  refine Tells.congr (g:=fun k=>Bzb.j0 k (decide (h < 1∨h > 1099511627776)) h l) ?_ (fun k=>by
    unfold Bzb.f;by_cases c:h < 1
    · rw[if_pos c,decide_eq_true (p:=h < 1∨h > 1099511627776) (Or.inl c)]
    · rw[if_neg c];congr 1;simp [c])
  refine Tells.up (g:=fun k=>if decide (h < 1∨h > 1099511627776)=true then some 1 else if(l.length:Int)=0 then some 10 else if(l.length:Int) > 256 then some 8 else Bzb.l0 k 0 l (l.length:Int) ((0:Nat):Int) h l) ?_ (fun k=>by rw[Bzb.j0];rfl)
  unfold checkP;by_cases c:h < 1∨h > 1099511627776
  · rw[if_pos c];exact Tells.pos (decide_eq_true c) (Tells.const _)
  rw[if_neg c];refine Tells.neg (by simpa using c) (Tells.ite (fun _=>Tells.const _) (fun _=>Tells.ite (fun _=>Tells.const _) (fun _=>?_)))
  exact lp l.length 0 0 (by omega)

theorem awake_tells:Tells (fun k=>Bzw.f k) true:=Tells.of (fun k=>Bzw.mono k) ⟨200,by decide +kernel⟩

theorem sum19_tells (h:Int) (l:List (List Int)) (hl:l.length≤300) (hx:∀ x ∈ l,x.length≤20):Tells (fun k=>Czw.f k h l) (sumAll 0 l):=by
  have lp:∀ d i s,i+d=l.length→Tells (fun k=>Czw.l0 k s (i:Int) h l) (sumAll s (l.drop i)):=by
    intro d;induction d with
    | zero =>
      intro i s hi;rw[List.drop_of_length_le (by omega)]
      refine Tells.up (Tells.const _) (fun k=>?_)
      rw[Czw.l0];rw[if_neg (by omega)]
      rfl
    | succ d ih =>
      intro i s hi;have hm:=hx _ (rdL_mem l i (by omega))
      rw[rdL_drop l i (by omega)]
      refine Tells.up (g:=fun k=>(Azp.f k (rd_L1 l (i:Int))).bind fun t=>Czw.l0 k (wrap64 (s+t)) ((i+1:Nat):Int) h l) ?_ (fun k=>by
        rw[Czw.l0];rw[if_pos (by omega),if_pos (by omega),wrap64_id (n:=(i:Int)+1) (by omega) (by omega)]
        rfl)
      exact Tells.bind (sum16_tells _ (by omega)) (ih (i+1) _ (by omega))
  exact lp l.length 0 0 (by omega)
theorem checkP19_tells (h:Int) (l:List (List Int)) (hl:l.length≤300) (hx:∀ x ∈ l,x.length≤20):Tells (fun k=>Azf.f k h l) (checkP h l):=by
  have lp:∀ d i,i+d=l.length→Tells (fun k=>Azf.l0 k (i:Int) h l) (if errP ((rd_L1 l 0).length:Int) (l.drop i)=0 then(if sumAll 0 l=h then 0 else 39) else errP ((rd_L1 l 0).length:Int) (l.drop i)):=by
    intro d;induction d with
    | zero =>
      intro i hi;rw[List.drop_of_length_le (by omega)]
      refine Tells.up (g:=fun k=>(Czw.f k h l).bind fun t=>if t=h then some 0 else some 39) ?_ (fun k=>by
        rw[Azf.l0];rw[if_neg (by omega)])
      refine Tells.bind (sum19_tells h l hl hx) ?_;exact Tells.ite (fun _=>Tells.const _) (fun _=>Tells.const _)
    | succ d ih =>
      intro i hi;have hm:=hx _ (rdL_mem l i (by omega))
      rw[rdL_drop l i (by omega)]
      refine Tells.up (g:=fun k=>(Czv.f k (rd_L1 l (i:Int)) ((rd_L1 l 0).length:Int)).bind fun t=>if t=0 then((Azp.f k (rd_L1 l (i:Int))).bind fun t=>if t=0 then some 10 else Azf.l0 k ((i+1:Nat):Int) h l) else some t) ?_ (fun k=>by
        rw[Azf.l0];rw[if_pos (by omega),if_pos (by omega),if_pos (by omega),wrap64_id (n:=(i:Int)+1) (by omega) (by omega)]
        rfl)
      refine Tells.bind (parts16_tells _ _ (by omega)) ?_
      rw[errP];by_cases c1:partsS (rd_L1 l (i:Int)) ((rd_L1 l 0).length:Int)=0
      · rw[if_pos c1]
        refine Tells.pos c1 (Tells.bind (sum16_tells _ (by omega)) ?_)
        by_cases c2:sumFrom 0 (rd_L1 l (i:Int))=0
        · rw[if_pos c2]
          exact Tells.pos c2 (Tells.const _)
        · rw[if_neg c2]
          exact Tells.neg c2 (ih (i+1) (by omega))
      · rw[if_neg c1,if_neg c1]
        exact Tells.neg c1 (Tells.const _)
  refine Tells.congr (g:=fun k=>Azf.j0 k (decide (h < 1∨h > 1099511627776)) h l) ?_ (fun k=>by
    unfold Azf.f;by_cases c:h < 1
    · rw[if_pos c,decide_eq_true (p:=h < 1∨h > 1099511627776) (Or.inl c)]
    · rw[if_neg c];congr 1;simp [c])
  refine Tells.up (g:=fun k=>if decide (h < 1∨h > 1099511627776)=true then some 1 else if(l.length:Int)=0 then some 10 else if(l.length:Int) > 256 then some 8 else Azf.l0 k ((0:Nat):Int) h l) ?_ (fun k=>by rw[Azf.j0];rfl)
  unfold checkP;by_cases c:h < 1∨h > 1099511627776
  · rw[if_pos c];exact Tells.pos (decide_eq_true c) (Tells.const _)
  rw[if_neg c];refine Tells.neg (by simpa using c) (Tells.ite (fun _=>Tells.const _) (fun _=>Tells.ite (fun _=>Tells.const _) (fun _=>?_)))
  exact lp l.length 0 (by omega)

theorem errP_ok {n:Int} {l:List (List Int)} (h:errP n l=0):∀ x ∈ l,partsS x n=0∧sumFrom 0 x≠0:=by
  induction l with
  | nil=>simp
  | cons y l ih =>
    rw[errP] at h;split at h
    · rename_i h1
      split at h
      · simp at h
      · rename_i h2
        intro x hx;rcases List.mem_cons.1 hx with rfl|hx
        · exact⟨h1,h2⟩
        · exact ih h x hx
    · rename_i h1
      exact absurd h h1
theorem plen {m:List Int} {n:Int} (h:partsS m n=0):1≤n∧n≤8∧(m.length:Int)=n∧inAll 1099511627776 m=true:=by
  unfold partsS at h;split at h
  · rename_i h1
    split at h
    · rename_i h2;exact⟨h1.1,h1.2.1,h1.2.2,h2⟩
    · simp at h
  · simp at h
theorem checkP_ok {h:Int} {l:List (List Int)} (c:checkP h l=0):1≤h∧h≤1099511627776∧0 < l.length∧l.length≤256∧errP ((rd_L1 l 0).length:Int) l=0∧sumAll 0 l=h:=by
  unfold checkP at c;split at c
  · simp at c
  split at c
  · simp at c
  split at c
  · simp at c
  split at c
  · rename_i h1 h2 h3 h4
    split at c
    · rename_i h5
      exact⟨by omega,by omega,by omega,by omega,h4,h5⟩
    · simp at c
  · rename_i h1 h2 h3 h4
    exact absurd c h4
theorem rows_len {h:Int} {l:List (List Int)} (c:checkP h l=0) (i:Nat) (hi:i < l.length):(rd_L1 l (i:Int)).length=(rd_L1 l 0).length∧(rd_L1 l 0).length≤8:=by
  obtain⟨h0,h1,l0,l1,he,hs⟩:=checkP_ok c;have:=plen (errP_ok he _ (rdL_mem l i hi)).1;omega

theorem same16 (l:List Int) (hl:l.length≤1000):Tells (fun k=>Azy.f k l l) true:=by
  have lp:∀ n i k,n < k→i+n=l.length→Azy.l0 k l l (i:Int)=some true:=by
    intro n;induction n with
    | zero =>
      intro i k hk hi;obtain⟨m,rfl⟩:∃ m,k=m+1:=⟨k - 1,by omega⟩
      unfold Azy.l0;rw[if_neg (by omega)]
    | succ n ih =>
      intro i k hk hi;obtain⟨m,rfl⟩:∃ m,k=m+1:=⟨k - 1,by omega⟩
      unfold Azy.l0;rw[if_pos (by omega),if_pos (by omega),if_pos (by omega),if_pos rfl,wrap64_id (by omega) (by omega)]
      exact ih (i+1) m (by omega) (by omega)
  refine⟨l.length+1,fun k hk=>?_⟩
  show Azy.f k l l=some true
  unfold Azy.f;rw[if_pos rfl];exact lp l.length 0 k (by omega) (by omega)

theorem same19 (h:Int) (l:List (List Int)) (hl:l.length≤1000) (hx:∀ x ∈ l,x.length≤1000):Tells (fun k=>Azk.f k h l h l) true:=by
  have lp:∀ d i,i+d=l.length→Tells (fun k=>Azk.l0 k (i:Int) h l h l) true:=by
    intro d;induction d with
    | zero =>
      intro i hi;refine Tells.up (Tells.const _) (fun k=>?_)
      rw[Azk.l0];rw[if_neg (by omega)]
    | succ d ih =>
      intro i hi;refine Tells.up (g:=fun k=>(Azy.f k (rd_L1 l (i:Int)) (rd_L1 l (i:Int))).bind fun t=>if t=true then Azk.l0 k ((i+1:Nat):Int) h l h l else some false) ?_ (fun k=>by
        rw[Azk.l0];rw[if_pos (by omega),if_pos (by omega),if_pos (by omega),wrap64_id (n:=(i:Int)+1) (by omega) (by omega)]
        rfl)
      exact Tells.bind (same16 _ (hx _ (rdL_mem l i (by omega)))) (Tells.pos rfl (ih (i+1) (by omega)))
  refine Tells.congr (g:=fun k=>Azk.j0 k false h l h l) ?_ (fun k=>by
    unfold Azk.f;rw[if_pos rfl];congr 1
    simp)
  refine Tells.up (lp l.length 0 (by omega)) (fun k=>?_)
  rw[Azk.j0];rw[if_neg (by simp)]
  rfl

theorem copied_val (l:List Int) (hl:l.length≤1000):Dzv.f l=some l:=by
  have hc:∃ q,Ezz.f (List.replicate l.length 0) l=some (q,l):=by
    unfold Ezz.f;simp
  obtain⟨q,hc⟩:=hc;unfold Dzv.f;rw[if_pos (by omega),if_pos (by omega),Int.toNat_natCast,hc]
  rfl

theorem leave_tells (p left:List Int) (m:Int) (hp:inAll 1099511627776 p=true) (hl:p.length=left.length) (hl8:p.length≤8) (hm:p.sum≤m) (hm2:m≤1099511627776):Tells (fun k=>Czp.f k p left m) (m - p.sum,zipS 1 left p):=by
  have lp:∀ d i X xm,i+d=p.length→X.length=left.length→(∀ q:Nat,q < left.length→rd X q=if q < i then wrap64 (rd left q+1 * rd p q) else rd left q)→xm - (p.drop i).sum=m - p.sum→xm≤m→Tells (fun k=>Czp.l0 k X xm p (p.length:Int) (i:Int)) (m - p.sum,zipS 1 left p):=by
    intro d;induction d with
    | zero =>
      intro i X xm hi hX hq hx hxm;rw[List.drop_of_length_le (by omega),List.sum_nil,Int.sub_zero] at hx
      have:X=zipS 1 left p:=by
        apply ext_rd (by rw[zipS_len,hX])
        intro q h;rw[hq q (by omega),if_pos (by omega),rd_zipS _ _ _ _ (by omega)]
      rw[this,← hx];refine Tells.up (Tells.const _) (fun k=>?_)
      rw[Czp.l0];rw[if_neg (by omega)]
    | succ d ih =>
      intro i X xm hi hX hq hx hxm;rw[rd_drop p i (by omega),List.sum_cons] at hx
      have h1:=inAll_iff.1 hp _ (rd_mem p i (by omega) (by omega))
      have h2:=sum_nonneg (l:=p.drop (i+1)) (fun w hw=>(inAll_iff.1 hp w (List.mem_of_mem_drop hw)).1)
      refine Tells.up (ih (i+1) (X.set i (wrap64 (rd left i+1 * rd p i))) (xm - rd p i) (by omega) (by simpa using hX) ?_ (by omega) (by omega)) (fun k=>?_)
      · intro q h
        rw[rd_set _ _ _ _ (by omega)]
        by_cases e2:i=q
        · subst e2;rw[if_pos rfl,if_pos (by omega)]
        · rw[if_neg e2,hq q h]
          by_cases h2:q < i
          · rw[if_pos h2,if_pos (by omega)]
          · rw[if_neg h2,if_neg (by omega)]
      · rw[Czp.l0]
        rw[if_pos (by omega),if_pos (by omega),if_pos (by omega),if_pos (by omega),hq i (by omega),if_neg (by omega),Int.one_mul,wrap64_id (n:=xm - rd p i) (by omega) (by omega),wrap64_id (n:=(i:Int)+1) (by omega) (by omega)]
        rfl
  refine Tells.congr (lp p.length 0 left m (by omega) rfl (fun q _=>by rw[if_neg (by omega)]) (by rw[List.drop_zero]) (by omega)) (fun k=>?_)
  unfold Czp.f;rfl
def pushS:Int→List Int→List (List Int)→List (List Int)→List (List Int) × List Int
  | _,left,out,[]=>(out,left)
  | m,left,out,p :: ps=>if m≥sumFrom 0 p then pushS (m - sumFrom 0 p) (zipS 1 left p) out ps else if m > 0 then pushS 0 (zipS 1 left (splitS m p).1) (out ++ [zipS (-1) p (splitS m p).1]) ps else pushS m left (out ++ [p]) ps
def endS (h:Int) (inn:List Int) (r:List (List Int) × List Int):Int × List (List Int) × List Int × Int:=if((if sumFrom 0 inn > 0 then r.1 ++ [inn] else r.1).length:Int) > 256 then(0,[],[],8) else(h,if sumFrom 0 inn > 0 then r.1 ++ [inn] else r.1,r.2,0)
def pushP (h:Int) (l:List (List Int)) (inn:List Int):Int × List (List Int) × List Int × Int:=if checkP h l=0 then(if partsS inn ((rd_L1 l 0).length:Int)=0 then(if sumFrom 0 inn > h then(0,[],[],8) else endS h inn (pushS (sumFrom 0 inn) (List.replicate (rd_L1 l 0).length 0) [] l)) else(0,[],[],partsS inn ((rd_L1 l 0).length:Int))) else(0,[],[],checkP h l)
theorem sum_ok {x:List Int} {n:Int} (h:partsS x n=0):sumFrom 0 x=x.sum∧0≤x.sum∧x.sum≤8796093022208:=by
  obtain⟨a1,a2,a3,a4⟩:=plen h;have hs:=sumFrom_eq x a4 0 (by omega) (by omega) (by omega)
  have hb:=sum_bounds a4;omega
theorem part_ok {p:List Int} {n m:Int} (h:partsS p n=0) (h0:0 < m) (hm:m < p.sum) (hm2:m≤1099511627776):(splitS m p).2=0∧GoodSplit m p (splitS m p).1∧inAll 1099511627776 (splitS m p).1=true:=by
  obtain⟨a1,a2,a3,a4⟩:=plen h;have hs:=sum_ok h;have hin:inAll 1125899906842624 p=true:=by
    rw[inAll_iff] at a4 ⊢;intro x hx;have:=a4 x hx;omega
  have:(shCheckS m p).2=0:=by
    unfold shCheckS;rw[if_neg (by omega),if_neg (by omega),if_neg (by omega),if_pos hin,if_neg (by omega),if_neg (by omega)]
  have hok:(splitS m p).2=0:=by
    unfold splitS;rw[if_pos this]
  have g:=splitS_good hok;refine⟨hok,g,?_⟩;rw[inAll_iff];intro x hx;obtain⟨i,hi,rfl⟩:=List.getElem_of_mem hx;rw[← rd_at _ i hi];have hi':i < p.length:=by rw[← g.len];exact hi
  have h1:=g.low i hi';have h2:=g.high (by omega) i hi'
  have h3:=inAll_iff.1 a4 _ (rd_mem p i (by omega) (by omega))
  omega
theorem push_tells (h:Int) (l:List (List Int)) (inn:List Int) (hl:l.length≤300) (hx:∀ x ∈ l,x.length≤20) (hi20:inn.length≤20):Tells (fun k=>Bzq.f k h l inn) (pushP h l inn):=by
  refine Tells.congr (g:=fun k=>(Bzb.f k h l).bind fun t=>if t=0 then(if 0 < (l.length:Int) then((Czm.f k inn ((rd_L1 l 0).length:Int)).bind fun t=>if t=0 then((Czk.f k inn).bind fun s=>if s > h then some (0,[],[],8) else(if((rd_L1 l 0).length:Int).toNat≤35184372088832 then Bzq.l0 k inn l (l.length:Int) ((0:Nat):Int) s h [] (List.replicate (rd_L1 l 0).length 0) else none)) else some (0,[],[],t)) else none) else some (0,[],[],t)) ?_ (fun k=>by
    unfold Bzq.f;simp only[if_pos (show 0≤((rd_L1 l 0).length:Int) by omega)]
    rfl)
  unfold pushP;refine Tells.bind (checkP_tells h l hl hx) (Tells.ite (fun c=>?_) (fun _=>Tells.const _))
  obtain⟨h0,h1,l0,l1,he,hs⟩:=checkP_ok c;refine Tells.pos (by omega) ?_
  refine Tells.bind (parts_tells inn _ (by omega)) (Tells.ite (fun ci=>?_) (fun _=>Tells.const _))
  refine Tells.bind (psum_tells inn (by omega)) (Tells.ite (fun _=>Tells.const _) (fun cs=>?_))
  have hn8:=rows_len c 0 l0;refine Tells.pos (by omega) ?_
  have hsi:=sum_ok ci;have hil:=plen ci;have hvalid:∀ x ∈ l,partsS x ((rd_L1 l 0).length:Int)=0∧sumFrom 0 x≠0:=errP_ok he;have lp:∀ d i m left out,i+d=l.length→0≤m→m≤1099511627776→left.length=(rd_L1 l 0).length→out.length≤i→Tells (fun k=>Bzq.l0 k inn l (l.length:Int) (i:Int) m h out left) (endS h inn (pushS m left out (l.drop i))):=by
    intro d;induction d with
    | zero =>
      intro i m left out hi hm0 hm1 hleft hout;rw[List.drop_of_length_le (by omega)]
      refine Tells.up (g:=fun k=>(Czk.f k inn).bind fun t=>if t > 0 then(if((out ++ [inn]).length:Int) > 256 then some (0,[],[],8) else some (h,out ++ [inn],left,0)) else(if(out.length:Int) > 256 then some (0,[],[],8) else some (h,out,left,0))) ?_ (fun k=>by
        rw[Bzq.l0];rw[if_neg (by omega),copied_val inn (by omega)]
        congr 1;funext t
        simp only[Option.bind_some];rw[if_pos (show out.length < 5864062014805 by omega)])
      refine Tells.bind (psum_tells inn (by omega)) ?_
      unfold endS pushS;by_cases z:sumFrom 0 inn > 0
      · simp only[if_pos z]
        exact Tells.ite (fun _=>Tells.const _) (fun _=>Tells.const _)
      · simp only[if_neg z]
        exact Tells.ite (fun _=>Tells.const _) (fun _=>Tells.const _)
    | succ d ih =>
      intro i m left out hi hm0 hm1 hleft hout;have hmem:=rdL_mem l i (by omega)
      have hv:=hvalid _ hmem;have hp20:=hx _ hmem;rw[rdL_drop l i (by omega)]
      generalize hp:rd_L1 l (i:Int)=p at *;have hps:=sum_ok hv.1;have hpl:=plen hv.1;refine Tells.up (g:=fun k=>(Czk.f k p).bind fun t=>if m≥t then((Czp.f k p left m).bind fun b=>Bzq.l0 k inn l (l.length:Int) ((i+1:Nat):Int) b.1 h out b.2) else(if m > 0 then((Bzp.f k m p).bind fun s=>if s.2=0 then((Czp.f k s.1 left m).bind fun b=>Bzq.l1 k inn p l (l.length:Int) (i:Int) s.1 (s.1.length:Int) ((0:Nat):Int) b.1 h out b.2) else some (0,[],[],s.2)) else Bzq.l0 k inn l (l.length:Int) ((i+1:Nat):Int) m h (out ++ [p]) left)) ?_ (fun k=>by
        rw[Bzq.l0];rw[if_pos (by omega),if_pos (by omega),if_pos (by omega),hp,copied_val p (by omega),wrap64_id (n:=(i:Int)+1) (by omega) (by omega)]
        simp only[Option.bind_some,if_pos (show out.length < 5864062014805 by omega)]
        rfl)
      refine Tells.bind (psum_tells p (by omega)) ?_
      rw[pushS];by_cases c1:m≥sumFrom 0 p
      · rw[if_pos c1]
        refine Tells.pos c1 ?_;refine Tells.bind (leave_tells p left m hpl.2.2.2 (by omega) (by omega) (by omega) hm1) ?_
        have:=ih (i+1) (m - sumFrom 0 p) (zipS 1 left p) out (by omega) (by omega) (by omega) (by rw[zipS_len,hleft]) (by omega)
        rw[hps.1] at this ⊢;exact this
      rw[if_neg c1];refine Tells.neg c1 ?_;by_cases c2:m > 0
      · rw[if_pos c2]
        refine Tells.pos c2 ?_;obtain⟨hok,g,hin⟩:=part_ok hv.1 (by omega) (m:=m) (by omega) (by omega)
        refine Tells.bind (split20_tells m p (by omega)) (Tells.pos hok ?_)
        have hql:=g.len;have hqs:=g.sum;refine Tells.bind (leave_tells (splitS m p).1 left m hin (by omega) (by omega) (by omega) hm1) ?_
        generalize (splitS m p).1=q at *;rw[hqs,Int.sub_self];have hn:=ih (i+1) 0 (zipS 1 left q) (out ++ [zipS (-1) p q]) (by omega) (by omega) (by omega) (by rw[zipS_len,hleft]) (by rw[List.length_append,List.length_singleton];omega)
        have l1:∀ e j X,j+e=p.length→X.length=p.length→(∀ y:Nat,y < p.length→rd X y=if y < j then wrap64 (rd p y+-1 * rd q y) else rd p y)→Tells (fun k=>Bzq.l1 k inn X l (l.length:Int) (i:Int) q (q.length:Int) (j:Int) 0 h out (zipS 1 left q)) (endS h inn (pushS 0 (zipS 1 left q) (out ++ [zipS (-1) p q]) (l.drop (i+1)))):=by
          intro e;induction e with
          | zero =>
            intro j X hj hX hy;have:X=zipS (-1) p q:=by
              apply ext_rd (by rw[zipS_len,hX])
              intro y h;rw[hy y (by omega),if_pos (by omega),rd_zipS _ _ _ _ (by omega)]
            subst this;refine Tells.up hn (fun k=>?_)
            rw[Bzq.l1];rw[if_neg (by omega),if_pos (by omega),wrap64_id (n:=(i:Int)+1) (by omega) (by omega)]
            rfl
          | succ e ih2 =>
            intro j X hj hX hy;refine Tells.up (ih2 (j+1) (X.set j (wrap64 (rd p j+-1 * rd q j))) (by omega) (by simpa using hX) ?_) (fun k=>?_)
            · intro y h
              rw[rd_set _ _ _ _ (by omega)]
              by_cases e2:j=y
              · subst e2;rw[if_pos rfl,if_pos (by omega)]
              · rw[if_neg e2,hy y h]
                by_cases h2:y < j
                · rw[if_pos h2,if_pos (by omega)]
                · rw[if_neg h2,if_neg (by omega)]
            · rw[Bzq.l1]
              have e3:rd p (j:Int) - rd q (j:Int)=rd p (j:Int)+-1 * rd q (j:Int):=by omega
              rw[if_pos (by omega),if_pos (by omega),if_pos (by omega),if_pos (by omega),hy j (by omega),if_neg (by omega),e3,wrap64_id (n:=(j:Int)+1) (by omega) (by omega)]
              rfl
        exact l1 p.length 0 p (by omega) rfl (fun y _=>by rw[if_neg (by omega)])
      · rw[if_neg c2]
        refine Tells.neg c2 ?_;exact ih (i+1) m left (out ++ [p]) (by omega) hm0 hm1 hleft (by rw[List.length_append,List.length_singleton];omega)
  have:=lp l.length 0 (sumFrom 0 inn) (List.replicate (rd_L1 l 0).length 0) [] (by omega) (by omega) (by omega) (by simp) (by simp)
  rw[List.drop_zero] at this;exact this

/-- What is left of the mass,what has left,and what stays. -/
def pushT:Int→List Int→List (List Int)→List (List Int)→Int × List (List Int) × List Int
  | m,left,out,[]=>(m,out,left)
  | m,left,out,p :: ps=>if m≥sumFrom 0 p then pushT (m - sumFrom 0 p) (zipS 1 left p) out ps else if m > 0 then pushT 0 (zipS 1 left (splitS m p).1) (out ++ [zipS (-1) p (splitS m p).1]) ps else pushT m left (out ++ [p]) ps
theorem pushS_T (ps:List (List Int)):∀ m left out,pushS m left out ps=(pushT m left out ps).2:=by
  induction ps with
  | nil=>intro m left out;rfl
  | cons p ps ih =>
    intro m left out;rw[pushS,pushT];split
    · exact ih _ _ _
    split
    · exact ih _ _ _
    · exact ih _ _ _
theorem pushT_one (m:Int) (left:List Int) (out:List (List Int)) (p:List Int):pushT m left out [p]=if m≥sumFrom 0 p then(m - sumFrom 0 p,out,zipS 1 left p) else if m > 0 then(0,out ++ [zipS (-1) p (splitS m p).1],zipS 1 left (splitS m p).1) else(m,out ++ [p],left):=by
  rw[pushT];rfl
theorem pushT_append (a b:List (List Int)):∀ m left out,pushT m left out (a ++ b)=pushT (pushT m left out a).1 (pushT m left out a).2.2 (pushT m left out a).2.1 b:=by
  induction a with
  | nil=>intro m left out;rfl
  | cons p a ih =>
    intro m left out;rw[List.cons_append,pushT,pushT];split
    · exact ih _ _ _
    split
    · exact ih _ _ _
    · exact ih _ _ _
theorem pushT_len (ps:List (List Int)):∀ m left out,(pushT m left out ps).2.2.length=left.length∧(pushT m left out ps).2.1.length≤out.length+ps.length∧∀ x ∈ (pushT m left out ps).2.1,x ∈ out∨∃ p ∈ ps,x.length=p.length:=by
  induction ps with
  | nil=>intro m left out;exact⟨rfl,by simp [pushT],fun x hx=>Or.inl hx⟩
  | cons p ps ih =>
    intro m left out;rw[pushT];split
    · obtain⟨h1,h2,h3⟩:=ih (m - sumFrom 0 p) (zipS 1 left p) out
      refine⟨by rw[h1,zipS_len],by rw[List.length_cons];omega,fun x hx=>?_⟩
      rcases h3 x hx with h|⟨q,hq,e⟩
      · exact Or.inl h
      · exact Or.inr ⟨q,List.mem_cons_of_mem _ hq,e⟩
    split
    · obtain⟨h1,h2,h3⟩:=ih 0 (zipS 1 left (splitS m p).1) (out ++ [zipS (-1) p (splitS m p).1])
      rw[List.length_append,List.length_singleton] at h2;refine⟨by rw[h1,zipS_len],by rw[List.length_cons];omega,fun x hx=>?_⟩
      rcases h3 x hx with h|⟨q,hq,e⟩
      · rcases List.mem_append.1 h with h|h
        · exact Or.inl h
        · rw[List.mem_singleton] at h
          exact Or.inr ⟨p,List.mem_cons_self,by rw[h,zipS_len]⟩
      · exact Or.inr ⟨q,List.mem_cons_of_mem _ hq,e⟩
    · obtain⟨h1,h2,h3⟩:=ih m left (out ++ [p])
      rw[List.length_append,List.length_singleton] at h2;refine⟨h1,by rw[List.length_cons];omega,fun x hx=>?_⟩
      rcases h3 x hx with h|⟨q,hq,e⟩
      · rcases List.mem_append.1 h with h|h
        · exact Or.inl h
        · rw[List.mem_singleton] at h
          exact Or.inr ⟨p,List.mem_cons_self,by rw[h]⟩
      · exact Or.inr ⟨q,List.mem_cons_of_mem _ hq,e⟩
def sums (l:List (List Int)):Int:=(l.map List.sum).sum
theorem sums_cons (p:List Int) (l:List (List Int)):sums (p :: l)=p.sum+sums l:=rfl
theorem sums_append (a b:List (List Int)):sums (a ++ b)=sums a+sums b:=by
  induction a with
  | nil=>simp [sums]
  | cons p a ih=>rw[List.cons_append,sums_cons,sums_cons,ih];omega
structure Plugs (n:Int) (l:List (List Int)):Prop where
  ok:∀ x ∈ l,partsS x n=0∧sumFrom 0 x≠0
theorem Plugs.tail {n:Int} {p:List Int} {l:List (List Int)} (h:Plugs n (p :: l)):Plugs n l:=⟨fun x hx=>h.ok x (List.mem_cons_of_mem _ hx)⟩
theorem Plugs.head {n:Int} {p:List Int} {l:List (List Int)} (h:Plugs n (p :: l)):sumFrom 0 p=p.sum∧1≤p.sum∧p.sum≤8796093022208∧(p.length:Int)=n:=by
  have h1:=h.ok p List.mem_cons_self;have:=sum_ok h1.1;have hl:=plen h1.1;omega
theorem Plugs.left {n:Int} {a b:List (List Int)} (h:Plugs n (a ++ b)):Plugs n a:=⟨fun x hx=>h.ok x (List.mem_append_left _ hx)⟩
theorem Plugs.right {n:Int} {a b:List (List Int)} (h:Plugs n (a ++ b)):Plugs n b:=⟨fun x hx=>h.ok x (List.mem_append_right _ hx)⟩
theorem Plugs.sums {n:Int} {l:List (List Int)} (h:Plugs n l):(l.length:Int)≤sums l∧sums l≤8796093022208 * l.length:=by
  induction l with
  | nil=>simp [_root_.Go.Proofs.Ytpnfdhhfdidlmaa.Pure.sums]
  | cons p l ih =>
    have h1:=h.head;have h2:=ih h.tail;rw[sums_cons,List.length_cons];omega
theorem sumAll_eq {n:Int} (l:List (List Int)):Plugs n l→∀ s:Int,0≤s→s+8796093022208 * l.length≤9000000000000000000→sumAll s l=s+sums l:=by
  induction l with
  | nil=>intro _ s _ _;simp [sumAll,sums]
  | cons p l ih =>
    intro h s h0 h1;have hh:=h.head;rw[List.length_cons] at h1;rw[sumAll,hh.1,wrap64_id (by omega) (by omega),ih h.tail (s+p.sum) (by omega) (by omega),sums_cons]
    omega
theorem checkP_plugs {h:Int} {l:List (List Int)} (c:checkP h l=0):Plugs ((rd_L1 l 0).length:Int) l∧sums l=h:=by
  obtain⟨h0,h1,l0,l1,he,hs⟩:=checkP_ok c;have hp:Plugs ((rd_L1 l 0).length:Int) l:=⟨errP_ok he⟩;refine⟨hp,?_⟩;rw[← hs,sumAll_eq l hp 0 (by omega) (by omega)]
  omega
theorem pushT_mass {n:Int} (ps:List (List Int)):Plugs n ps→∀ m left out,0≤m→(pushT m left out ps).1=0∨(pushT m left out ps).1=m - sums ps:=by
  induction ps with
  | nil=>intro _ m left out h0;right;simp [pushT,sums]
  | cons p ps ih =>
    intro h m left out h0;have hh:=h.head;rw[pushT,sums_cons];split
    · rename_i c
      rcases ih h.tail (m - sumFrom 0 p) (zipS 1 left p) out (by omega) with e|e
      · exact Or.inl e
      · right;rw[e];omega
    split
    · rcases ih h.tail 0 (zipS 1 left (splitS m p).1) (out ++ [zipS (-1) p (splitS m p).1]) (by omega) with e|e
      · exact Or.inl e
      · left
        have:=h.tail.sums;have h2:∀ (qs:List (List Int)),Plugs n qs→∀ left out,(pushT 0 left out qs).1=0:=by
          intro qs;induction qs with
          | nil=>intro _ left out;rfl
          | cons q qs ih2 =>
            intro hq left out;have hqh:=hq.head;rw[pushT,if_neg (by omega),if_neg (by omega)]
            exact ih2 hq.tail _ _
        exact h2 ps h.tail _ _
    · rename_i c1 c2
      obtain rfl:m=0:=by omega
      left
      have h2:∀ (qs:List (List Int)),Plugs n qs→∀ left out,(pushT 0 left out qs).1=0:=by
        intro qs;induction qs with
        | nil=>intro _ left out;rfl
        | cons q qs ih2 =>
          intro hq left out;have hqh:=hq.head;rw[pushT,if_neg (by omega),if_neg (by omega)]
          exact ih2 hq.tail _ _
      exact h2 ps h.tail _ _
theorem endS_len {h:Int} {inn:List Int} {r:List (List Int) × List Int} (hr:r.2.length≤20) (hi:inn.length≤20) (hx:∀ x ∈ r.1,x.length≤20):(endS h inn r).2.1.length≤256∧(∀ x ∈ (endS h inn r).2.1,x.length≤20)∧(endS h inn r).2.2.1.length≤20:=by
  unfold endS;by_cases z:sumFrom 0 inn > 0
  · rw[if_pos z]
    split
    · simp
    · rename_i c
      refine⟨by show(r.1 ++ [inn]).length≤256;omega,?_,hr⟩
      intro x hx';rcases List.mem_append.1 hx' with h|h
      · exact hx x h
      · rw[List.mem_singleton] at h;rw[h];exact hi
  · rw[if_neg z]
    split
    · simp
    · rename_i c
      exact⟨by show r.1.length≤256;omega,hx,hr⟩
theorem pushP_len {h:Int} {l:List (List Int)} {inn:List Int} (hx:∀ x ∈ l,x.length≤20) (hi:inn.length≤20):(pushP h l inn).2.1.length≤256∧(∀ x ∈ (pushP h l inn).2.1,x.length≤20)∧(pushP h l inn).2.2.1.length≤20:=by
  unfold pushP;split
  · rename_i c
    split
    · split
      · simp
      · have hr:=rows_len c 0 (checkP_ok c).2.2.1
        rw[pushS_T];obtain⟨h1,h2,h3⟩:=pushT_len l (sumFrom 0 inn) (List.replicate (rd_L1 l 0).length 0) [];refine endS_len (by rw[h1];simp;omega) hi (fun x hx'=>?_)
        rcases h3 x hx' with e|⟨p,hp,e⟩
        · simp at e
        · rw[e];exact hx p hp
    · simp
  · simp

theorem zip_sub_sum {p q:List Int} (hl:q.length=p.length) (h:∀ i:Nat,i < p.length→0≤rd q i∧rd q i≤rd p i∧rd p i≤1099511627776):(zipS (-1) p q).sum=p.sum - q.sum∧inAll 1099511627776 (zipS (-1) p q)=true:=by
  have hx:∀ i:Nat,i < p.length→rd (zipS (-1) p q) (i:Int)=rd p i+-1 * rd q i:=fun i hi=>by
    have:=h i hi;rw[rd_zipS _ _ _ _ hi,wrap64_id (by omega) (by omega)]
  have e:zipS (-1) p q=(idx p.length).map fun i=>rd p i+-1 * rd q i:=by
    unfold zipS;apply List.map_congr_left;intro x hxm;obtain⟨h0,h2⟩:=mem_idx.1 hxm;obtain⟨i,rfl⟩:∃ i:Nat,x=(i:Int):=⟨x.toNat,by omega⟩
    have:=hx i (by omega)
    rwa [rd_zipS _ _ _ _ (by omega)] at this
  have hsum:∀ (n:List Int) (f g:Int→Int),(n.map fun i=>f i+-1 * g i).sum=(n.map f).sum - (n.map g).sum:=by
    intro n f g;induction n with
    | nil=>simp
    | cons x n ih=>rw[List.map_cons,List.map_cons,List.map_cons,List.sum_cons,List.sum_cons,List.sum_cons,ih];omega
  have hp1:=map_idx p;have hq1:=map_idx q;rw[hl] at hq1;refine⟨by rw[e,hsum,hp1,hq1],?_⟩
  rw[inAll_iff];intro x hxm;obtain⟨i,hi,rfl⟩:=List.getElem_of_mem hxm;rw[← rd_at _ i hi];rw[zipS_len] at hi;have:=h i hi;rw[hx i hi];omega
theorem wsucc19 {i:Nat} {l:List (List Int)} (h:i < l.length) (hl:l.length≤300):wrap64 ((i:Int)+1)=((i+1:Nat):Int):=by rw[wrap64_id (by omega) (by omega)];omega
theorem wrap_zero:wrap64 0=0:=wrap64_id (by omega) (by omega)
theorem wrap_idem (n:Int):wrap64 (wrap64 n)=wrap64 n:=by
  have:=wrap64_in 0 n;rwa [Int.zero_add,Int.zero_add] at this
theorem sum_zeros (n:Nat):sumFrom 0 (List.replicate n 0)=0:=by
  induction n with
  | zero=>rfl
  | succ n ih =>
    rw[List.replicate_succ];show sumFrom (wrap64 (0+0)) _=0
    rw[wrap64_id (by omega) (by omega)]
    exact ih
theorem zip_self0 (p:List Int):zipS (-1) p p=List.replicate p.length 0:=ext_rd (by rw[zipS_len];simp) (fun i h=>by
  rw[zipS_len] at h;rw[rd_zipS _ _ _ _ h,rd_replicate _ i 0 h,show rd p (i:Int)+-1 * rd p (i:Int)=0 by omega];exact wrap64_id (by omega) (by omega))
theorem zip_zero (sg:Int) (p:List Int) (h:∀ q:Nat,q < p.length→wrap64 (rd p q)=rd p q):zipS sg p (List.replicate p.length 0)=p:=ext_rd (zipS_len _ _ _) (fun i hi=>by
  rw[zipS_len] at hi;rw[rd_zipS _ _ _ _ hi,rd_replicate _ i 0 hi,Int.mul_zero,Int.add_zero,h i hi])
theorem rp_l1 {inn gone p:List Int} {K:Nat} {m h h2:Int} {l next:List (List Int)} {i:Nat} {R:Int × List (List Int) × List Int × Int} (hi:i < l.length) (hp:rd_L1 l (i:Int)=p) (hpK:p.length=K) (hgK:gone.length=K) (hK:K≤20) (out:List Int) (ho:out.length=K)
    (hcont:Tells (fun k=>(Azp.f k gone).bind fun t457=>((Azp.f k (zipS (-1) p gone)).bind fun t458=>(if t458 > 0 then(if next.length < 5864062014805 then(Azw.l0 k inn (K:Int) (wrap64 (m - t457)) (zipS 1 out gone) (wrap64 ((i:Int)+1)) h l h2 (next ++ [zipS (-1) p gone])) else none) else(Azw.l0 k inn (K:Int) (wrap64 (m - t457)) (zipS 1 out gone) (wrap64 ((i:Int)+1)) h l h2 next)))) R) (d:Nat) :
    ∀ (j:Nat) (X Y:List Int),j+d=K→X.length=K→Y.length=K→(∀ q:Nat,q < K→rd X q=if q < j then wrap64 (rd out q+1 * rd gone q) else rd out q)→(∀ q:Nat,q < j→rd Y q=wrap64 (rd p q+-1 * rd gone q))→Tells (fun k=>Azw.l1 k inn (K:Int) m X (i:Int) gone Y (j:Int) h l h2 next) R:=by
  induction d with
  | zero =>
    intro j X Y hj hX hY hx hy;have e1:X=zipS 1 out gone:=ext_rd (by rw[zipS_len,hX,ho]) (fun q hq=>by rw[hx q (by omega),if_pos (by omega),rd_zipS _ _ _ _ (by omega)])
    have e2:Y=zipS (-1) p gone:=ext_rd (by rw[zipS_len,hY,hpK]) (fun q hq=>by rw[hy q (by omega),rd_zipS _ _ _ _ (by omega)])
    subst e1 e2;exact Tells.up hcont (fun k=>by rw[Azw.l1,if_neg (by omega)])
  | succ d ih =>
    intro j X Y hj hX hY hx hy;have c1:(j:Int) < (K:Int):=by omega
    have c2:(0:Int)≤(j:Int):=by omega
    have c3:(j:Int) < (X.length:Int):=by omega
    have c4:(j:Int) < (gone.length:Int):=by omega
    have c5:(0:Int)≤(i:Int):=by omega
    have c6:(i:Int) < (l.length:Int):=by omega
    have c7:(j:Int) < (p.length:Int):=by omega
    have c8:(j:Int) < (Y.length:Int):=by omega
    have f0:j < K:=by omega
    have f1:∀ q:Nat,q < K→q < X.length:=fun q h=>by omega
    have f2:∀ q:Nat,q < j+1→q < Y.length:=fun q h=>by omega
    have f3:(j+1)+d=K:=by omega
    have ej:wrap64 ((j:Int)+1)=((j+1:Nat):Int):=by rw[wrap64_id (by omega) (by omega)];omega
    refine Tells.up (ih (j+1) (X.set j (wrap64 (rd out j+1 * rd gone j))) (Y.set j (wrap64 (rd p j+-1 * rd gone j))) f3 (by simpa using hX) (by simpa using hY) (fun q hq=>?_) (fun q hq=>?_)) (fun k=>?_)
    · rw[rd_set X j q _ (f1 q hq)]
      by_cases e:j=q
      · subst e;rw[if_pos rfl,if_pos (Nat.lt_succ_self _)]
      · rw[if_neg e,hx q hq]
        by_cases e2:q < j
        · rw[if_pos e2,if_pos (Nat.lt_succ_of_lt e2)]
        · rw[if_neg e2,if_neg (fun h=>(Nat.lt_succ_iff_lt_or_eq.1 h).elim e2 (fun h'=>e h'.symm))]
    · rw[rd_set Y j q _ (f2 q hq)]
      by_cases e:j=q
      · subst e;rw[if_pos rfl]
      · rw[if_neg e];exact hy q ((Nat.lt_succ_iff_lt_or_eq.1 hq).resolve_right (fun h'=>e h'.symm))
    · have e3:rd p (j:Int) - rd gone (j:Int)=rd p (j:Int)+-1 * rd gone (j:Int):=by rw[Int.neg_mul,Int.one_mul];rfl
      rw[Azw.l1,if_pos c1,if_pos c2,if_pos c3,if_pos c4,if_pos c5,if_pos c6,hp,if_pos c7,if_pos c8,ej,hx j f0,if_neg (Nat.lt_irrefl _),e3,Int.one_mul,Int.toNat_natCast]
theorem rp_l52 {inn gone p:List Int} {K:Nat} {m h h2:Int} {l next:List (List Int)} {i:Nat} {R:Int × List (List Int) × List Int × Int} (hi:i < l.length) (hp:rd_L1 l (i:Int)=p) (hpK:p.length=K) (hgK:gone.length=K) (hK:K≤20) (out:List Int) (ho:out.length=K)
    (hcont:Tells (fun k=>(Azp.f k gone).bind fun t457=>((Azp.f k (zipS (-1) p gone)).bind fun t458=>(if t458 > 0 then(if next.length < 5864062014805 then(Azw.l0 k inn (K:Int) (wrap64 (m - t457)) (zipS 1 out gone) (wrap64 ((i:Int)+1)) h l h2 (next ++ [zipS (-1) p gone])) else none) else(Azw.l0 k inn (K:Int) (wrap64 (m - t457)) (zipS 1 out gone) (wrap64 ((i:Int)+1)) h l h2 next)))) R) (d:Nat) :
    ∀ (j:Nat) (X Y:List Int),j+d=K→X.length=K→Y.length=K→(∀ q:Nat,q < K→rd X q=if q < j then wrap64 (rd out q+1 * rd gone q) else rd out q)→(∀ q:Nat,q < j→rd Y q=wrap64 (rd p q+-1 * rd gone q))→Tells (fun k=>Azw.l52 k inn (K:Int) m X (i:Int) gone Y (j:Int) h l h2 next) R:=by
  induction d with
  | zero =>
    intro j X Y hj hX hY hx hy;have e1:X=zipS 1 out gone:=ext_rd (by rw[zipS_len,hX,ho]) (fun q hq=>by rw[hx q (by omega),if_pos (by omega),rd_zipS _ _ _ _ (by omega)])
    have e2:Y=zipS (-1) p gone:=ext_rd (by rw[zipS_len,hY,hpK]) (fun q hq=>by rw[hy q (by omega),rd_zipS _ _ _ _ (by omega)])
    subst e1 e2;exact Tells.up hcont (fun k=>by rw[Azw.l52,if_neg (by omega)])
  | succ d ih =>
    intro j X Y hj hX hY hx hy;have c1:(j:Int) < (K:Int):=by omega
    have c2:(0:Int)≤(j:Int):=by omega
    have c3:(j:Int) < (X.length:Int):=by omega
    have c4:(j:Int) < (gone.length:Int):=by omega
    have c5:(0:Int)≤(i:Int):=by omega
    have c6:(i:Int) < (l.length:Int):=by omega
    have c7:(j:Int) < (p.length:Int):=by omega
    have c8:(j:Int) < (Y.length:Int):=by omega
    have f0:j < K:=by omega
    have f1:∀ q:Nat,q < K→q < X.length:=fun q h=>by omega
    have f2:∀ q:Nat,q < j+1→q < Y.length:=fun q h=>by omega
    have f3:(j+1)+d=K:=by omega
    have ej:wrap64 ((j:Int)+1)=((j+1:Nat):Int):=by rw[wrap64_id (by omega) (by omega)];omega
    refine Tells.up (ih (j+1) (X.set j (wrap64 (rd out j+1 * rd gone j))) (Y.set j (wrap64 (rd p j+-1 * rd gone j))) f3 (by simpa using hX) (by simpa using hY) (fun q hq=>?_) (fun q hq=>?_)) (fun k=>?_)
    · rw[rd_set X j q _ (f1 q hq)]
      by_cases e:j=q
      · subst e;rw[if_pos rfl,if_pos (Nat.lt_succ_self _)]
      · rw[if_neg e,hx q hq]
        by_cases e2:q < j
        · rw[if_pos e2,if_pos (Nat.lt_succ_of_lt e2)]
        · rw[if_neg e2,if_neg (fun h=>(Nat.lt_succ_iff_lt_or_eq.1 h).elim e2 (fun h'=>e h'.symm))]
    · rw[rd_set Y j q _ (f2 q hq)]
      by_cases e:j=q
      · subst e;rw[if_pos rfl]
      · rw[if_neg e];exact hy q ((Nat.lt_succ_iff_lt_or_eq.1 hq).resolve_right (fun h'=>e h'.symm))
    · have e3:rd p (j:Int) - rd gone (j:Int)=rd p (j:Int)+-1 * rd gone (j:Int):=by rw[Int.neg_mul,Int.one_mul];rfl
      rw[Azw.l52,if_pos c1,if_pos c2,if_pos c3,if_pos c4,if_pos c5,if_pos c6,hp,if_pos c7,if_pos c8,ej,hx j f0,if_neg (Nat.lt_irrefl _),e3,Int.one_mul,Int.toNat_natCast]
theorem rp_l53 {inn gone p:List Int} {K:Nat} {m h h2:Int} {l next:List (List Int)} {i:Nat} {R:Int × List (List Int) × List Int × Int} (hi:i < l.length) (hp:rd_L1 l (i:Int)=p) (hpK:p.length=K) (hgK:gone.length=K) (hK:K≤20) (out:List Int) (ho:out.length=K)
    (hcont:Tells (fun k=>(Azp.f k gone).bind fun t457=>((Azp.f k (zipS (-1) p gone)).bind fun t458=>(if t458 > 0 then(if next.length < 5864062014805 then(Azw.l0 k inn (K:Int) (wrap64 (m - t457)) (zipS 1 out gone) (wrap64 ((i:Int)+1)) h l h2 (next ++ [zipS (-1) p gone])) else none) else(Azw.l0 k inn (K:Int) (wrap64 (m - t457)) (zipS 1 out gone) (wrap64 ((i:Int)+1)) h l h2 next)))) R) (d:Nat) :
    ∀ (j:Nat) (X Y:List Int),j+d=K→X.length=K→Y.length=K→(∀ q:Nat,q < K→rd X q=if q < j then wrap64 (rd out q+1 * rd gone q) else rd out q)→(∀ q:Nat,q < j→rd Y q=wrap64 (rd p q+-1 * rd gone q))→Tells (fun k=>Azw.l53 k inn (K:Int) m X (i:Int) gone Y (j:Int) h l h2 next) R:=by
  induction d with
  | zero =>
    intro j X Y hj hX hY hx hy;have e1:X=zipS 1 out gone:=ext_rd (by rw[zipS_len,hX,ho]) (fun q hq=>by rw[hx q (by omega),if_pos (by omega),rd_zipS _ _ _ _ (by omega)])
    have e2:Y=zipS (-1) p gone:=ext_rd (by rw[zipS_len,hY,hpK]) (fun q hq=>by rw[hy q (by omega),rd_zipS _ _ _ _ (by omega)])
    subst e1 e2;exact Tells.up hcont (fun k=>by rw[Azw.l53,if_neg (by omega)])
  | succ d ih =>
    intro j X Y hj hX hY hx hy;have c1:(j:Int) < (K:Int):=by omega
    have c2:(0:Int)≤(j:Int):=by omega
    have c3:(j:Int) < (X.length:Int):=by omega
    have c4:(j:Int) < (gone.length:Int):=by omega
    have c5:(0:Int)≤(i:Int):=by omega
    have c6:(i:Int) < (l.length:Int):=by omega
    have c7:(j:Int) < (p.length:Int):=by omega
    have c8:(j:Int) < (Y.length:Int):=by omega
    have f0:j < K:=by omega
    have f1:∀ q:Nat,q < K→q < X.length:=fun q h=>by omega
    have f2:∀ q:Nat,q < j+1→q < Y.length:=fun q h=>by omega
    have f3:(j+1)+d=K:=by omega
    have ej:wrap64 ((j:Int)+1)=((j+1:Nat):Int):=by rw[wrap64_id (by omega) (by omega)];omega
    refine Tells.up (ih (j+1) (X.set j (wrap64 (rd out j+1 * rd gone j))) (Y.set j (wrap64 (rd p j+-1 * rd gone j))) f3 (by simpa using hX) (by simpa using hY) (fun q hq=>?_) (fun q hq=>?_)) (fun k=>?_)
    · rw[rd_set X j q _ (f1 q hq)]
      by_cases e:j=q
      · subst e;rw[if_pos rfl,if_pos (Nat.lt_succ_self _)]
      · rw[if_neg e,hx q hq]
        by_cases e2:q < j
        · rw[if_pos e2,if_pos (Nat.lt_succ_of_lt e2)]
        · rw[if_neg e2,if_neg (fun h=>(Nat.lt_succ_iff_lt_or_eq.1 h).elim e2 (fun h'=>e h'.symm))]
    · rw[rd_set Y j q _ (f2 q hq)]
      by_cases e:j=q
      · subst e;rw[if_pos rfl]
      · rw[if_neg e];exact hy q ((Nat.lt_succ_iff_lt_or_eq.1 hq).resolve_right (fun h'=>e h'.symm))
    · have e3:rd p (j:Int) - rd gone (j:Int)=rd p (j:Int)+-1 * rd gone (j:Int):=by rw[Int.neg_mul,Int.one_mul];rfl
      rw[Azw.l53,if_pos c1,if_pos c2,if_pos c3,if_pos c4,if_pos c5,if_pos c6,hp,if_pos c7,if_pos c8,ej,hx j f0,if_neg (Nat.lt_irrefl _),e3,Int.one_mul,Int.toNat_natCast]
theorem refPush_tells (h:Int) (l:List (List Int)) (inn:List Int) (hl:l.length≤300) (hx:∀ x ∈ l,x.length≤20) (hi20:inn.length≤20):Tells (fun k=>Azw.f k h l inn) (pushP h l inn):=by
  unfold Azw.f pushP;refine Tells.bind (checkP19_tells h l hl hx) (Tells.ite (fun c=>?_) (fun _=>Tells.const _))
  obtain⟨h0,h1,l0,l1,he,hs⟩:=checkP_ok c;refine Tells.pos (by omega) ?_
  refine Tells.bind (parts16_tells inn _ (by omega)) (Tells.ite (fun ci=>?_) (fun _=>Tells.const _))
  refine Tells.bind (sum16_tells inn (by omega)) (Tells.ite (fun _=>Tells.const _) (fun cs=>?_))
  have hn8:=(rows_len c 0 l0).2;refine Tells.pos (by omega) (Tells.pos (by omega) ?_)
  rw[Int.toNat_natCast];have hsi:=sum_ok ci;have hvalid:∀ x ∈ l,partsS x ((rd_L1 l 0).length:Int)=0∧sumFrom 0 x≠0:=errP_ok he;obtain⟨K,hK⟩:∃ K,(rd_L1 l 0).length=K:=⟨_,rfl⟩;rw[hK] at hn8 hvalid ⊢;have lp:∀ d i m out next,i+d=l.length→0≤m→m≤1099511627776→out.length=K→(∀ q:Nat,q < K→wrap64 (rd out q)=rd out q)→next.length≤i→Tells (fun k=>Azw.l0 k inn (K:Int) m out (i:Int) h l h next) (endS h inn (pushS m out next (l.drop i))):=by
    intro d;induction d with
    | zero =>
      intro i m out next hi hm0 hm1 hout hw hnext
      rw[List.drop_of_length_le (by omega)]
      refine Tells.up (g:=fun k=>(Azp.f k inn).bind fun t=>if t > 0 then(if((next ++ [inn]).length:Int) > 256 then some (0,[],[],8) else some (h,next ++ [inn],out,0)) else(if(next.length:Int) > 256 then some (0,[],[],8) else some (h,next,out,0))) ?_ (fun k=>by
        rw[Azw.l0];rw[if_neg (by omega)]
        simp only[Option.bind_some,List.nil_append,List.length_nil,if_pos (show 0+inn.length < 17592186044416 by omega),if_pos (show next.length < 5864062014805 by omega)])
      refine Tells.bind (sum16_tells inn (by omega)) ?_
      unfold endS pushS;by_cases z:sumFrom 0 inn > 0
      · simp only[if_pos z]
        exact Tells.ite (fun _=>Tells.const _) (fun _=>Tells.const _)
      · simp only[if_neg z]
        exact Tells.ite (fun _=>Tells.const _) (fun _=>Tells.const _)
    | succ d ih =>
      intro i m out next hi hm0 hm1 hout hw hnext
      have hil:i < l.length:=by omega
      have hmem:=rdL_mem l i hil;have hv:=hvalid _ hmem;rw[rdL_drop l i hil];generalize hp:rd_L1 l (i:Int)=p at *;have hps:=sum_ok hv.1;have hpl:=plen hv.1;have hp0:0 < p.sum:=by have:=hv.2;omega
      have hpK:p.length=K:=by omega
      have hpr:∀ q:Nat,q < p.length→0≤rd p q∧rd p q≤1099511627776:=fun q hq=>inAll_iff.1 hpl.2.2.2 _ (rd_mem p q (by omega) (by omega))
      have hzw:∀ g:List Int,∀ q:Nat,q < K→wrap64 (rd (zipS 1 out g) q)=rd (zipS 1 out g) q:=fun g q hq=>by rw[rd_zipS _ _ _ _ (by omega),wrap_idem]
      have hrep:(List.replicate K (0:Int)).length=K:=by simp
      have start:∀ X Y:List Int,∀ q:Nat,q < K→rd out q=if q < 0 then wrap64 (rd out q+1 * rd X q) else rd out q:=fun X Y q hq=>by rw[if_neg (by omega)]
      refine Tells.up (g:=fun k=>(Azp.f k p).bind fun t445=>(if t445≤m then(Azw.l1 k inn (K:Int) m out (i:Int) p (List.replicate K 0) 0 h l h next) else(if m > 0 then((Azm.f k m p).bind fun t463=>(Azw.l52 k inn (K:Int) m out (i:Int) t463 (List.replicate K 0) 0 h l h next)) else(Azw.l53 k inn (K:Int) m out (i:Int) (List.replicate K 0) (List.replicate K 0) 0 h l h next)))) ?_ (fun k=>by
        rw[Azw.l0];rw[if_pos (by omega),if_pos (by omega),if_pos (by omega),if_pos (by omega),hp,Int.toNat_natCast])
      refine Tells.bind (sum16_tells p (by omega)) ?_
      rw[pushS];by_cases c1:m≥sumFrom 0 p
      · rw[if_pos c1]
        refine Tells.pos c1 ?_;refine rp_l1 hil hp hpK hpK (by omega) out hout ?_ K 0 out (List.replicate K 0) (by omega) hout hrep (start p p) (fun q hq=>absurd hq (by omega))
        refine Tells.bind (sum16_tells p (by omega)) ?_
        rw[zip_self0];refine Tells.bind (sum16_tells _ (by simp;omega)) ?_
        rw[sum_zeros,wrap64_id (n:=m - sumFrom 0 p) (by omega) (by omega),wsucc19 hil hl]
        refine Tells.neg (by decide) ?_
        exact ih (i+1) (m - sumFrom 0 p) (zipS 1 out p) next (by omega) (by omega) (by omega) (by rw[zipS_len,hout]) (hzw p) (by omega)
      rw[if_neg c1];refine Tells.neg c1 ?_;by_cases c2:m > 0
      · rw[if_pos c2]
        refine Tells.pos c2 ?_;obtain⟨hok,g,hin⟩:=part_ok hv.1 (by omega) (m:=m) (by omega) (by omega)
        have hin50:inAll 1125899906842624 p=true:=by
          rw[inAll_iff];intro x hxm;have:=inAll_iff.1 hpl.2.2.2 x hxm;omega
        have hsp:partsSp m p.sum p=(splitS m p).1:=by
          unfold splitS at hok ⊢;split
          · rfl
          · rename_i hc
            rw[if_neg hc] at hok;exact absurd hok hc
        have ht:=split16_tells m p (by omega) (by omega) (by omega) (by omega) hin50 (by omega) (by omega)
        rw[hsp] at ht;refine Tells.bind ht ?_;have hql:=g.len;have hqs:=g.sum;have hlow:=g.low;have hhigh:=g.high (by omega)
        generalize (splitS m p).1=q at *;have hgs:sumFrom 0 q=m:=by
          rw[sumFrom_eq q hin 0 (by omega) (by omega) (by omega)];omega
        obtain⟨z1,z2⟩:=zip_sub_sum hql (fun j hj=>⟨hlow j hj,hhigh j hj,(hpr j hj).2⟩)
        have hzs:sumFrom 0 (zipS (-1) p q)=p.sum - m:=by
          rw[sumFrom_eq _ z2 0 (by omega) (by omega) (by rw[zipS_len];omega),z1];omega
        refine rp_l52 hil hp hpK (by omega) (by omega) out hout ?_ K 0 out (List.replicate K 0) (by omega) hout hrep (start q q) (fun q hq=>absurd hq (by omega))
        refine Tells.bind (sum16_tells q (by omega)) (Tells.bind (sum16_tells _ (by rw[zipS_len];omega)) ?_)
        rw[hgs,hzs,wsucc19 hil hl,Int.sub_self,wrap_zero];refine Tells.pos (by omega) (Tells.pos (by omega) ?_)
        exact ih (i+1) 0 (zipS 1 out q) (next ++ [zipS (-1) p q]) (by omega) (by omega) (by omega) (by rw[zipS_len,hout]) (hzw q) (by rw[List.length_append,List.length_singleton];omega)
      · rw[if_neg c2]
        refine Tells.neg c2 ?_;obtain rfl:m=0:=by omega
        have zo:zipS 1 out (List.replicate K 0)=out:=by
          have:=zip_zero 1 out (fun q hq=>hw q (by omega))
          rwa [hout] at this
        have zp:zipS (-1) p (List.replicate K 0)=p:=by
          have:=zip_zero (-1) p (fun q hq=>by have:=hpr q hq;exact wrap64_id (by omega) (by omega))
          rwa [hpK] at this
        refine rp_l53 hil hp hpK hrep (by omega) out hout ?_ K 0 out (List.replicate K 0) (by omega) hout hrep (start p p) (fun q hq=>absurd hq (by omega))
        rw[zo,zp];refine Tells.bind (sum16_tells _ (by rw[hrep];omega)) (Tells.bind (sum16_tells p (by omega)) ?_)
        rw[sum_zeros,wsucc19 hil hl,Int.sub_self,wrap_zero];refine Tells.pos (by omega) (Tells.pos (by omega) ?_)
        exact ih (i+1) 0 out (next ++ [p]) (by omega) (by omega) (by omega) hout hw (by rw[List.length_append,List.length_singleton];omega)
  have:=lp l.length 0 (sumFrom 0 inn) (List.replicate K 0) [] (by omega) (by omega) (by omega) (by simp) (fun q hq=>by rw[rd_replicate _ q 0 hq];exact wrap64_id (by omega) (by omega)) (by simp)
  rw[List.drop_zero] at this;exact this
theorem PipePushes:Bzf.Pure:=by
  intro h l inn _ hl _ hlx hil _ _;have awake_end:Tells (fun k=>(Bzw.f k).bind fun t=>(some t)) true:=awake_tells.bind (Tells.const _)
  have jt:Tells (fun k=>Bzf.j0 k inn true h l) true:=Tells.up awake_end (fun k=>by rw[Bzf.j0,if_pos rfl])
  refine Tells.get ?_;unfold Bzf.f;obtain⟨b,hb,hbf⟩:=great_tells h l hl;refine hb.bind ?_;cases b with
  | true=>exact Tells.pos rfl jt
  | false =>
    refine Tells.neg (by decide) ?_
    obtain⟨l300,lx⟩:=hbf rfl;by_cases h20:(inn.length:Int) > 20
    · rw[decide_eq_true h20];exact jt
    · rw[decide_eq_false h20]
      have P:=pushP_len (h:=h) (l:=l) (inn:=inn) lx (by omega)
      refine Tells.up (g:=fun k=>(Bzq.f k h l inn).bind fun bt509=>((Azw.f k h l inn).bind fun bt518=>((Azk.f k bt509.1 bt509.2.1 bt518.1 bt518.2.1).bind fun t527=>(if t527=true then((Azy.f k bt509.2.2.1 bt518.2.2.1).bind fun t528=>(if t528=true then(if bt509.2.2.2=bt518.2.2.2 then((Bzw.f k).bind fun t529=>(some t529)) else(none)) else(none))) else(none))))) ?_ (fun k=>by rw[Bzf.j0,if_neg (by decide)])
      refine(push_tells h l inn l300 lx (by omega)).bind ((refPush_tells h l inn l300 lx (by omega)).bind ?_)
      generalize pushP h l inn=r at *;refine(same19 r.1 r.2.1 (by have:=P.1;omega) (fun x hx=>by have:=P.2.1 x hx;omega)).bind ?_
      refine Tells.pos rfl ((same16 r.2.2.1 (by have:=P.2.2;omega)).bind ?_)
      exact Tells.pos rfl (Tells.pos rfl awake_end)

end Go.Proofs.Ytpnfdhhfdidlmaa.Pure
