import Derived.Test.YtnklckihalhlmaaPrint49
namespace Go.Proofs.Ytnklckihalhlmaa.Pure
open Go.RowKit Go.Proofs.Ytnklckihalhlmaa.Print Go.Proofs.YtnklckihalhlmaaW.PrintWords Go.Proofs.YtnklckihalhlmaaW.PrintLast
set_option linter.unusedVariables false
set_option linter.unusedSimpArgs false

/-- From some number of rounds on f tells r. -/
def Tells {α:Type} (f:Nat→Option α) (r:α):Prop:=∃ K,∀ k,K≤k→f k=some r
namespace Tells
theorem leO {α:Type} {f:Nat→Option α} (hm:∀ k,LeO (f k) (f (k+1))) {K:Nat} {r:α} (h:f K=some r):∀ k,K≤k→f k=some r:=by
  intro k hk;induction hk with
  | refl=>exact h
  | step _ ih=>exact hm _ _ ih
theorem of {α:Type} {f:Nat→Option α} (hm:∀ k,LeO (f k) (f (k+1))) {r:α} (h:∃ K,f K=some r):Tells f r:=by
  obtain⟨K,h⟩:=h;exact⟨K,leO hm h⟩
theorem get {α:Type} {f:Nat→Option α} {r:α} (h:Tells f r):∃ k,f k=some r:=by
  obtain⟨K,h⟩:=h;exact⟨K,h K (Nat.le_refl K)⟩
theorem const {α:Type} (r:α):Tells (fun _=>some r) r:=⟨0,fun _ _=>rfl⟩
theorem bind {α β:Type} {f:Nat→Option α} {g:Nat→α→Option β} {r:α} {s:β} (h:Tells f r) (h':Tells (fun k=>g k r) s):Tells (fun k=>(f k).bind (g k)) s:=by
  obtain⟨K,h⟩:=h;obtain⟨K',h'⟩:=h';refine⟨max K K',fun k hk=>?_⟩
  show(f k).bind (g k)=some s
  rw[h k (by omega)]
  exact h' k (by omega)
theorem congr {α:Type} {f g:Nat→Option α} {r:α} (h:Tells g r) (e:∀ k,f k=g k):Tells f r:=by
  obtain⟨K,h⟩:=h;exact⟨K,fun k hk=>(e k).trans (h k hk)⟩
theorem up {α:Type} {f g:Nat→Option α} {r:α} (h:Tells g r) (e:∀ k,f (k+1)=g k):Tells f r:=by
  obtain⟨K,h⟩:=h;refine⟨K+1,fun k hk=>?_⟩
  obtain⟨m,rfl⟩:∃ m,k=m+1:=⟨k - 1,by omega⟩
  exact(e m).trans (h m (by omega))
theorem ite {α:Type} {c:Prop} [Decidable c] {f g:Nat→Option α} {r s:α} (h:c→Tells f r) (h':¬ c→Tells g s):Tells (fun k=>if c then f k else g k) (if c then r else s):=by
  by_cases hc:c
  · simp only[if_pos hc];exact h hc
  · simp only[if_neg hc];exact h' hc
theorem pos {α:Type} {c:Prop} [Decidable c] {f g:Nat→Option α} {r:α} (hc:c) (h:Tells f r):Tells (fun k=>if c then f k else g k) r:=by
  simp only[if_pos hc];exact h
theorem neg {α:Type} {c:Prop} [Decidable c] {f g:Nat→Option α} {r:α} (hc:¬ c) (h:Tells g r):Tells (fun k=>if c then f k else g k) r:=by
  simp only[if_neg hc];exact h
end Tells
theorem wrap64_id {n:Int} (h0:-9223372036854775808≤n) (h1:n < 9223372036854775808):wrap64 n=n:=by
  unfold wrap64;omega

theorem rd_drop (l:List Int) (i:Nat) (h:i < l.length):l.drop i=rd l (i:Int) :: l.drop (i+1):=by
  rw[List.drop_eq_getElem_cons h];congr 1
  show l[i]=l.getD (i:Int).toNat 0
  simp [h]
theorem rd_at (l:List Int) (i:Nat) (h:i < l.length):rd l (i:Int)=l[i]:=by
  show l.getD (i:Int).toNat 0=_
  simp [h]
theorem rd_mid (A:List Int) (x:Int) (B:List Int):rd (A ++ x :: B) (A.length:Int)=x:=by
  show(A ++ x :: B).getD (A.length:Int).toNat 0=x
  simp
theorem rd_mid' {l A:List Int} {x:Int} {B:List Int} {i:Int} (h:l=A ++ x :: B) (hi:i=(A.length:Int)):rd l i=x:=by
  subst h hi;exact rd_mid A x B
theorem set_mid (A:List Int) (x v:Int) (B:List Int):(A ++ x :: B).set ((A.length:Int)).toNat v=A ++ v :: B:=by simp
theorem set_mid' {l A:List Int} {x v:Int} {B:List Int} {i:Int} (h:l=A ++ x :: B) (hi:i=(A.length:Int)):l.set i.toNat v=A ++ v :: B:=by
  subst h hi;exact set_mid A x v B
theorem rd_mem (l:List Int) (i:Int) (h0:0≤i) (h:i < (l.length:Int)):rd l i ∈ l:=by
  obtain⟨j,rfl⟩:∃ j:Nat,i=(j:Int):=⟨i.toNat,by omega⟩
  rw[rd_at l j (by omega)]
  exact List.getElem_mem _
theorem ext_rd {a b:List Int} (hl:a.length=b.length) (h:∀ i:Nat,i < a.length→rd a (i:Int)=rd b (i:Int)):a=b:=by
  apply List.ext_getElem hl;intro i h1 h2;have:=h i h1;rwa [rd_at a i h1,rd_at b i h2] at this
theorem rd_map (f:Int→Int) (l:List Int) (i:Nat) (h:i < l.length):rd (l.map f) (i:Int)=f (rd l (i:Int)):=by
  rw[rd_at _ i (by simpa using h),rd_at l i h]
  simp
theorem rd_set (l:List Int) (i j:Nat) (v:Int) (h:j < l.length):rd (l.set i v) (j:Int)=if i=j then v else rd l (j:Int):=by
  rw[rd_at _ j (by simpa using h),rd_at l j h,List.getElem_set]
theorem rd_replicate (n i:Nat) (v:Int) (h:i < n):rd (List.replicate n v) (i:Int)=v:=by
  rw[rd_at _ i (by simpa using h)]
  simp
/-- The sum,as the program adds it up. -/
def inAll (most:Int) (l:List Int):Bool:=l.all fun x=>decide (0≤x) && decide (x≤most)
theorem inAll_iff {m:Int} {l:List Int}:inAll m l=true ↔ ∀ x ∈ l,0≤x∧x≤m:=by
  unfold inAll;simp [List.all_eq_true,Bool.and_eq_true,decide_eq_true_eq]
theorem inAll_cons {m x:Int} {l:List Int}:inAll m (x :: l)=((decide (0≤x) && decide (x≤m)) && inAll m l):=rfl
theorem sum_bounds {m:Int} {l:List Int} (h:inAll m l=true):0≤l.sum∧l.sum≤m * l.length:=by
  induction l with
  | nil=>simp
  | cons x l ih =>
    rw[inAll_cons,Bool.and_eq_true,Bool.and_eq_true,decide_eq_true_eq,decide_eq_true_eq] at h;have:=ih h.2;rw[List.sum_cons,List.length_cons];have e:m * ((l.length+1:Nat):Int)=m * l.length+m:=by rw[Int.natCast_add,Int.mul_add];simp
    omega
theorem sum_mem_le {m:Int} {l:List Int} (h:inAll m l=true):∀ x ∈ l,x≤l.sum:=by
  induction l with
  | nil=>simp
  | cons y l ih =>
    have h':=h;rw[inAll_cons,Bool.and_eq_true,Bool.and_eq_true,decide_eq_true_eq,decide_eq_true_eq] at h';have hb:=sum_bounds h'.2;intro x hx;rw[List.sum_cons];rcases List.mem_cons.1 hx with rfl|hx
    · omega
    · have:=ih h'.2 x hx;omega
def idx (n:Nat):List Int:=(List.range n).map (fun i:Nat=>(i:Int))
theorem idx_len (n:Nat):(idx n).length=n:=by simp [idx]
theorem idx_succ (n:Nat):idx (n+1)=idx n ++ [(n:Int)]:=by simp [idx,List.range_succ]
theorem mem_idx {n:Nat} {i:Int}:i ∈ idx n ↔ 0≤i∧i < (n:Int):=by
  unfold idx;rw[List.mem_map];constructor
  · rintro ⟨j,hj,rfl⟩
    have:=List.mem_range.1 hj;omega
  · rintro ⟨h0,h1⟩
    exact⟨i.toNat,List.mem_range.2 (by omega),by omega⟩
theorem rd_idx (n i:Nat) (h:i < n):rd (idx n) (i:Int)=i:=by
  rw[rd_at _ i (by rw[idx_len];exact h)]
  simp [idx]
theorem idx_nodup (n:Nat):(idx n).Nodup:=by
  induction n with
  | zero=>simp [idx]
  | succ n ih =>
    rw[idx_succ,List.nodup_append];refine⟨ih,by simp,?_⟩
    intro a ha b hb;rw[List.mem_singleton] at hb;have:=mem_idx.1 ha;omega

theorem index_tells (l:List Int) (hl:l.length≤1000000):Tells (fun k=>Bzf.f k l) (!(inAll 1125899906842624 l)):=by
  have lp:∀ n i k,n < k→i+n=l.length→∃ r,Bzq.l0 k l (l.length:Int) (i:Int)=some r∧decide (r≥0)=!(inAll 1125899906842624 (l.drop i)):=by
    intro n;induction n with
    | zero =>
      intro i k hk hi;obtain⟨m,rfl⟩:∃ m,k=m+1:=⟨k - 1,by omega⟩
      refine⟨-1,?_,?_⟩
      · unfold Bzq.l0
        rw[if_neg (by omega)]
      · rw[List.drop_of_length_le (by omega)];rfl
    | succ n ih =>
      intro i k hk hi;obtain⟨m,rfl⟩:∃ m,k=m+1:=⟨k - 1,by omega⟩
      have e:Gzp.f (rd l (i:Int))=some (!(decide (0≤rd l (i:Int)) && decide (rd l (i:Int)≤1125899906842624))):=by
        unfold Gzp.f;by_cases h:rd l (i:Int) < 0
        · rw[if_pos h,decide_eq_false (p:=0≤rd l (i:Int)) (by omega)];rfl
        · rw[if_neg h,decide_eq_true (p:=0≤rd l (i:Int)) (by omega)]
          by_cases h2:rd l (i:Int)≤1125899906842624
          · rw[decide_eq_true h2,decide_eq_false (by omega)];rfl
          · rw[decide_eq_false h2,decide_eq_true (by omega)];rfl
      rw[rd_drop l i (by omega),inAll_cons]
      by_cases h:(decide (0≤rd l (i:Int)) && decide (rd l (i:Int)≤1125899906842624))=true
      · obtain⟨r,hr,hd⟩:=ih (i+1) m (by omega) (by omega)
        refine⟨r,?_,?_⟩
        · unfold Bzq.l0
          rw[if_pos (by omega),if_pos (by omega),if_pos (by omega),e,h,wrap64_id (n:=(i:Int)+1) (by omega) (by omega)]
          exact hr
        · rw[h,Bool.true_and];exact hd
      · refine⟨i,?_,?_⟩
        · unfold Bzq.l0
          rw[if_pos (by omega),if_pos (by omega),if_pos (by omega),e,eq_false_of_ne_true h]
          rfl
        · rw[eq_false_of_ne_true h,decide_eq_true (by omega)];rfl
  obtain⟨r,hr,hd⟩:=lp l.length 0 (l.length+1) (by omega) (by omega)
  have hf:Tells (fun k=>Bzq.f k l) r:=Tells.of (fun k=>by apply Bzq.mono) ⟨l.length+1,hr⟩
  refine Tells.congr (g:=fun k=>(Bzq.f k l).bind fun t=>some (decide (t≥0))) ?_ (fun k=>by unfold Bzf.f;rfl)
  refine Tells.bind hf ?_;rw[hd,List.drop_zero];exact Tells.const _
theorem in_tells (l:List Int) (hl:l.length≤1000000):Tells (fun k=>Dzq.f k l) (l.all Azj.inB) :=
  Tells.of (fun k=>by apply Dzq.mono) ⟨l.length+1,Azj.in_f l (by omega)⟩
theorem inB_of {x:Int} (h0:-1125899906842624≤x) (h1:x≤1125899906842624):Azj.inB x=true:=by
  unfold Azj.inB;rw[decide_eq_true h0,decide_eq_true h1];rfl
theorem result_tells (x:Int):Tells (fun k=>Gzv.f k x) (if Azj.inB x=true then(x,0) else(0,2)):=by
  refine Tells.congr (g:=fun k=>(Dzq.f k [x]).bind fun t=>if t=true then some (x,0) else some (0,2)) ?_ (fun k=>by unfold Gzv.f;rfl)
  refine Tells.bind (in_tells [x] (by simp)) ?_
  have e:[x].all Azj.inB=Azj.inB x:=by simp
  rw[e];exact Tells.ite (fun _=>Tells.const _) (fun _=>Tells.const _)
theorem Sum_tells (l:List Int) (h:inAll 1125899906842624 l=true) (hl:l.length≤65536):Tells (fun k=>Fzv.f k l) (if l.sum > 1125899906842624 then(0,2) else(l.sum,0)):=by
  have hm:=inAll_iff.1 h;have lp:∀ n i x4 x5,i+n=l.length→0≤x4→x4≤(i:Int) * 33554432→0≤x5→x5≤(i:Int) * 33554432→x4 * 33554432+x5+(l.drop i).sum=l.sum→Tells (fun k=>Fzv.l0 k x4 x5 l (l.length:Int) (i:Int)) (if l.sum > 1125899906842624 then(0,2) else(l.sum,0)):=by
    intro n;induction n with
    | zero =>
      intro i x4 x5 hi h40 h41 h50 h51 hs;rw[List.drop_of_length_le (by omega),List.sum_nil,Int.add_zero] at hs
      have d1:Int.tdiv x5 33554432=x5 / 33554432:=Int.tdiv_eq_ediv_of_nonneg h50;have d2:Int.tmod x5 33554432=x5 % 33554432:=Int.tmod_eq_emod_of_nonneg h50;refine Tells.up (g:=fun k=>if x4+x5 / 33554432 > 33554433 then some (0,2) else if x4+x5 / 33554432 < -33554433 then some (0,2) else(Gzv.f k (wrap64 (wrap64 ((x4+x5 / 33554432) * 33554432)+x5 % 33554432))).bind fun b=>some (b.1,b.2)) ?_ (fun k=>by
        rw[Fzv.l0];rw[if_neg (by omega),d1,d2,wrap64_id (n:=x5 / 33554432) (by omega) (by omega),wrap64_id (n:=x4+x5 / 33554432) (by omega) (by omega)])
      by_cases c1:x4+x5 / 33554432 > 33554433
      · rw[if_pos (by omega)]
        exact Tells.pos c1 (Tells.const _)
      · refine Tells.neg c1 (Tells.neg (by omega) ?_)
        rw[wrap64_id (n:=(x4+x5 / 33554432) * 33554432) (by omega) (by omega),wrap64_id (by omega) (by omega)]
        have e:(x4+x5 / 33554432) * 33554432+x5 % 33554432=l.sum:=by omega
        rw[e];refine Tells.bind (result_tells _) ?_;have e2:(if Azj.inB l.sum=true then(l.sum,(0:Int)) else(0,2))=if l.sum > 1125899906842624 then(0,2) else(l.sum,0):=by
          by_cases c2:l.sum > 1125899906842624
          · rw[if_pos c2,if_neg]
            unfold Azj.inB;rw[decide_eq_false (p:=l.sum≤1125899906842624) (by omega),Bool.and_false]
            simp
          · rw[if_neg c2,if_pos (inB_of (by omega) (by omega))]
        rw[e2];exact Tells.const _
    | succ n ih =>
      intro i x4 x5 hi h40 h41 h50 h51 hs;have hx:=hm _ (rd_mem l (i:Int) (by omega) (by omega))
      rw[rd_drop l i (by omega),List.sum_cons] at hs
      generalize hx':rd l (i:Int)=x at hx hs;have d1:Int.tdiv x 33554432=x / 33554432:=Int.tdiv_eq_ediv_of_nonneg hx.1;have d2:Int.tmod x 33554432=x % 33554432:=Int.tmod_eq_emod_of_nonneg hx.1;refine Tells.up (g:=fun k=>Fzv.l0 k (x4+x / 33554432) (x5+x % 33554432) l (l.length:Int) ((i+1:Nat):Int)) ?_ (fun k=>by
        rw[Fzv.l0];rw[if_pos (by omega),if_pos (by omega),if_pos (by omega),hx',d1,d2,wrap64_id (n:=x / 33554432) (by omega) (by omega),wrap64_id (n:=x4+x / 33554432) (by omega) (by omega),wrap64_id (n:=x5+x % 33554432) (by omega) (by omega),wrap64_id (n:=(i:Int)+1) (by omega) (by omega)]
        rfl)
      exact ih (i+1) _ _ (by omega) (by omega) (by omega) (by omega) (by omega) (by omega)
  refine Tells.congr (g:=fun k=>(Dzq.f k l).bind fun t=>if t=true then Fzv.l0 k 0 0 l (l.length:Int) ((0:Nat):Int) else some (0,1)) ?_ (fun k=>by
    unfold Fzv.f;rw[if_neg (by omega)];rfl)
  refine Tells.bind (in_tells l (by omega)) ?_
  have ha:l.all Azj.inB=true:=by
    rw[List.all_eq_true];intro x hx;have:=hm x hx;exact inB_of (by omega) (by omega)
  refine Tells.pos ha ?_;exact lp l.length 0 0 0 (by omega) (by omega) (by omega) (by omega) (by omega) (by simp)
/-- The sum of the weights,or the error. -/
def shCheckS (t:Int) (l:List Int):Int × Int :=
  if t < 0∨t > 1125899906842624 then(0,1) else if(l.length:Int)=0 then(0,10) else if(l.length:Int) > 512 then(0,8) else if inAll 1125899906842624 l=true then(if l.sum > 1125899906842624 then(0,2) else if l.sum=0 then(if t > 0 then(0,16) else(l.sum,0)) else(l.sum,0)) else(0,1)
theorem shCheck_tells (t:Int) (l:List Int) (hl:l.length≤1000000):Tells (fun k=>Ezz.f k t l) (shCheckS t l):=by
  refine Tells.congr (g:=fun k=>Ezz.j0 k t l (decide (t < 0∨t > 1125899906842624))) ?_ (fun k=>by
    unfold Ezz.f;by_cases h:t < 0
    · rw[if_pos h,decide_eq_true (p:=t < 0∨t > 1125899906842624) (Or.inl h)]
    · rw[if_neg h];congr 1;simp [h])
  refine Tells.up (g:=fun k=>if decide (t < 0∨t > 1125899906842624)=true then some (0,1) else if(l.length:Int)=0 then some (0,10) else if(l.length:Int) > 512 then some (0,8) else(Bzf.f k l).bind fun b=>if b=true then some (0,1) else(Fzv.f k l).bind fun s=>if s.2=0 then(if s.1=0 then(if t > 0 then some (0,16) else some (s.1,0)) else some (s.1,0)) else some (0,2)) ?_ (fun k=>by rw[Ezz.j0])
  unfold shCheckS;by_cases h1:t < 0∨t > 1125899906842624
  · rw[if_pos h1];exact Tells.pos (decide_eq_true h1) (Tells.const _)
  rw[if_neg h1];refine Tells.neg (by simpa using h1) ?_
  refine Tells.ite (fun _=>Tells.const _) (fun h2=>?_)
  refine Tells.ite (fun _=>Tells.const _) (fun h3=>?_)
  refine Tells.bind (index_tells l hl) ?_;by_cases h4:inAll 1125899906842624 l=true
  · rw[if_pos h4]
    refine Tells.neg (by rw[h4];simp) ?_
    refine Tells.bind (Sum_tells l h4 (by omega)) ?_
    by_cases h5:l.sum > 1125899906842624
    · rw[if_pos h5,if_pos h5]
      exact Tells.neg (by decide) (Tells.const _)
    · rw[if_neg h5,if_neg h5]
      refine Tells.pos rfl ?_;refine Tells.ite (fun _=>?_) (fun _=>Tells.const _)
      exact Tells.ite (fun _=>Tells.const _) (fun _=>Tells.const _)
  · rw[if_neg h4]
    exact Tells.pos (by rw[eq_false_of_ne_true h4];rfl) (Tells.const _)
theorem shCheck_ok {t:Int} {l:List Int} (h:(shCheckS t l).2=0):0≤t∧t≤1125899906842624∧0 < l.length∧l.length≤512∧inAll 1125899906842624 l=true∧l.sum≤1125899906842624∧(l.sum=0→t=0)∧(shCheckS t l).1=l.sum:=by
  unfold shCheckS at h ⊢;split at h
  · simp at h
  split at h
  · simp at h
  split at h
  · simp at h
  split at h
  · rename_i h1 h2 h3 h4
    split at h
    · simp at h
    split at h
    · split at h
      · simp at h
      · rename_i h5 h6 h7
        refine⟨by omega,by omega,by omega,by omega,h4,by omega,fun _=>by omega,?_⟩
        rw[if_neg h1,if_neg h2,if_neg h3,if_pos h4,if_neg h5,if_pos h6,if_neg h7]
    · rename_i h5 h6
      refine⟨by omega,by omega,by omega,by omega,h4,by omega,fun h0=>absurd h0 h6,?_⟩
      rw[if_neg h1,if_neg h2,if_neg h3,if_pos h4,if_neg h5,if_neg h6]
  · simp at h
theorem wrap64_mod (n:Int):∃ q,wrap64 n=n+q * 18446744073709551616:=by
  refine⟨-((n+9223372036854775808) / 18446744073709551616),?_⟩;unfold wrap64;omega
theorem quotient_val (t w s:Int) (ht0:0≤t) (ht:t≤1125899906842624) (hw0:0≤w) (hws:w≤s) (hs:s≤1125899906842624):Gzf.f t w s=some (t * w / s,t * w % s):=by
  unfold Gzf.f;by_cases h:s=0
  · have hw:w=0:=by omega
    rw[if_pos h,h,hw];simp
  rw[if_neg h];have hs1:0 < s:=by omega
  have hX0:0≤t * w:=Int.mul_nonneg ht0 hw0;have hq0:0≤t * w / s:=Int.ediv_nonneg hX0 (by omega)
  have hq1:t * w / s≤t:=by
    have h1:t * w≤t * s:=Int.mul_le_mul_of_nonneg_left hws ht0;have h2:=Int.ediv_le_ediv hs1 h1;rwa [Int.mul_ediv_cancel _ h] at h2
  have hr0:0≤t * w % s:=Int.emod_nonneg _ h;have hr1:t * w % s < s:=Int.emod_lt_of_pos _ hs1;have hv:Azj.f t w s 0=some (t * w / s,0):=by
    unfold Azj.f;rw[inB_of (x:=t) (by omega) (by omega),inB_of (x:=w) (by omega) (by omega),inB_of (x:=s) (by omega) (by omega)]
    rw[if_pos (by rfl),if_neg h,if_neg (by omega),if_neg (by omega)]
    unfold Azj.val Azj.ab;rw[if_neg (show ¬ t < 0 by omega),if_neg (show ¬ w < 0 by omega),if_neg (show ¬ s < 0 by omega),decide_eq_false (show ¬ t < 0 by omega),decide_eq_false (show ¬ w < 0 by omega),decide_eq_false (show ¬ s < 0 by omega)]
    unfold Azj.grows Azj.fin;simp;omega
  rw[hv];simp only[Option.bind_some];congr 2
  obtain⟨a,ha⟩:=wrap64_mod (t * w);obtain⟨b,hb⟩:=wrap64_mod (t * w / s * s);have hd:t * w / s * s+t * w % s=t * w:=by rw[Int.mul_comm];exact Int.mul_ediv_add_emod _ _
  unfold wrap64 at ha hb ⊢;omega
/-- x goes from the right past the smaller ones (the list is turned round). -/

def insR (R:List Int) (x:Int):List Int→List Int
  | []=>[x]
  | y :: l=>if rd R x > rd R y then y :: insR R x l else x :: y :: l
def ltR (R:List Int) (u v:Int):Prop:=rd R u > rd R v∨(rd R u=rd R v∧u < v)
theorem insR_perm (R:List Int) (x:Int) (l:List Int):(insR R x l).Perm (x :: l):=by
  induction l with
  | nil=>exact List.Perm.refl _
  | cons y l ih =>
    unfold insR;split
    · exact(List.Perm.cons y ih).trans (List.Perm.swap x y l)
    · exact List.Perm.refl _
theorem insR_sorted (R:List Int) (x:Int) (l:List Int) (h:l.Pairwise fun u v=>ltR R v u) (hx:∀ y ∈ l,y < x):(insR R x l).Pairwise fun u v=>ltR R v u:=by
  induction l with
  | nil=>simp [insR]
  | cons y l ih =>
    rw[List.pairwise_cons] at h;unfold insR;split
    · rename_i hc
      rw[List.pairwise_cons];refine⟨?_,ih h.2 (fun z hz=>hx z (List.mem_cons_of_mem _ hz))⟩
      intro z hz;rcases List.mem_cons.1 ((insR_perm R x l).mem_iff.1 hz) with rfl|hz
      · exact Or.inl hc
      · exact h.1 z hz
    · rename_i hc
      rw[List.pairwise_cons,List.pairwise_cons];refine⟨?_,h⟩;intro z hz;rcases List.mem_cons.1 hz with rfl|hz
      · have:=hx z List.mem_cons_self
        unfold ltR;omega
      · have h1:=h.1 z hz
        have h2:=hx z (List.mem_cons_of_mem _ hz);unfold ltR at h1 ⊢;omega
/-- The insertion sort of some elements,turned round. -/
def insAll (R:List Int):List Int→List Int→List Int
  | [],r=>r
  | x :: l,r=>insAll R l (insR R x r)
theorem insAll_perm (R:List Int) (l:List Int):∀ r,(insAll R l r).Perm (l ++ r):=by
  induction l with
  | nil=>intro r;exact List.Perm.refl _
  | cons x l ih =>
    intro r;show(insAll R l (insR R x r)).Perm _
    refine(ih _).trans ?_;refine(List.Perm.append_left l (insR_perm R x r)).trans ?_;exact List.perm_middle
theorem insAll_sorted (R:List Int) (l:List Int):∀ r,r.Pairwise (fun u v=>ltR R v u)→l.Pairwise (· < ·)→(∀ y ∈ r,∀ x ∈ l,y < x)→(insAll R l r).Pairwise fun u v=>ltR R v u:=by
  induction l with
  | nil=>intro r h _ _;exact h
  | cons x l ih =>
    intro r h hl hx;rw[List.pairwise_cons] at hl;show(insAll R l (insR R x r)).Pairwise _
    refine ih _ (insR_sorted R x r h (fun y hy=>hx y hy x List.mem_cons_self)) hl.2 ?_
    intro y hy z hz;rcases List.mem_cons.1 ((insR_perm R x r).mem_iff.1 hy) with rfl|hy
    · exact hl.1 z hz
    · exact hx y hy z (List.mem_cons_of_mem _ hz)
theorem idx_lt (n:Nat):(idx n).Pairwise (· < ·):=by
  induction n with
  | zero=>simp [idx]
  | succ n ih =>
    rw[idx_succ,List.pairwise_append];refine⟨ih,by simp,?_⟩
    intro a ha b hb;rw[List.mem_singleton] at hb;have:=mem_idx.1 ha;omega
/-- The indices by their remainders,the greatest first,of the same the first one first. -/
def ordS (R:List Int) (n:Nat):List Int:=(insAll R (idx n) []).reverse
theorem ordS_perm (R:List Int) (n:Nat):(ordS R n).Perm (idx n):=by
  unfold ordS;refine(List.reverse_perm _).trans ((insAll_perm R (idx n) []).trans ?_);rw[List.append_nil]
theorem ordS_sorted (R:List Int) (n:Nat):(ordS R n).Pairwise (ltR R):=by
  unfold ordS;rw[List.pairwise_reverse];exact insAll_sorted R (idx n) [] List.Pairwise.nil (idx_lt n) (by simp)
theorem ordS_len (R:List Int) (n:Nat):(ordS R n).length=n:=by rw[(ordS_perm R n).length_eq,idx_len]
theorem ordS_nodup (R:List Int) (n:Nat):(ordS R n).Nodup:=(ordS_perm R n).nodup_iff.2 (idx_nodup n)
theorem mem_ordS {R:List Int} {n:Nat} {i:Int}:i ∈ ordS R n ↔ 0≤i∧i < (n:Int):=by rw[(ordS_perm R n).mem_iff,mem_idx]
theorem ordS_unique (R:List Int) (n:Nat) (l:List Int) (hp:l.Perm (idx n)) (hs:l.Pairwise (ltR R)):l=ordS R n:=by
  refine List.Perm.eq_of_pairwise (le:=ltR R) ?_ hs (ordS_sorted R n) (hp.trans (ordS_perm R n).symm);intro a b _ _ h1 h2;unfold ltR at h1 h2;omega

theorem ins_l1 (R:List Int) (pre post:List Int) (b x8:Int) (out:List Int) (x:Int) (hx:0≤x∧x < (R.length:Int)) (hb:(pre.length:Int)+1000000 < 9223372036854775808) (hR:∀ y ∈ R,0≤y∧y≤1125899906842624):∀ (r:List Int) (done:List Int),r.length≤1000→(∀ y ∈ r,0≤y∧y < (R.length:Int)) →
    Tells (fun k=>Azq.l0 k (pre ++ (insR R x r).reverse ++ done ++ post) (pre.length:Int) b (wrap64 (x8+1)) [R]) out →
    Tells (fun k=>Azq.l1 k (pre ++ r.reverse ++ x :: done ++ post) (pre.length:Int) b x8 ((pre.length:Int)+(r.length:Int)) [R]) out:=by
  intro r;induction r with
  | nil =>
    intro done _ _ h;refine Tells.up h (fun k=>?_)
    rw[Azq.l1];rw[if_neg (by simp)]
    simp [insR]
  | cons y r ih =>
    intro done hr hm h;have hy:=hm y List.mem_cons_self;have hx9:wrap64 ((pre.length:Int)+((y :: r).length:Int) - 1)=(pre.length:Int)+(r.length:Int):=by
      rw[List.length_cons];rw[wrap64_id (by omega) (by simp at hr;omega)]
      omega
    have e1:rd (pre ++ (y :: r).reverse ++ x :: done ++ post) ((pre.length:Int)+((y :: r).length:Int))=x :=
      rd_mid' (A:=pre ++ (y :: r).reverse) (B:=done ++ post) (by simp) (by simp)
    have e2:rd (pre ++ (y :: r).reverse ++ x :: done ++ post) ((pre.length:Int)+(r.length:Int))=y :=
      rd_mid' (A:=pre ++ r.reverse) (B:=x :: done ++ post) (by simp) (by simp)
    have s1:(pre ++ (y :: r).reverse ++ x :: done ++ post).set ((pre.length:Int)+((y :: r).length:Int)).toNat y=pre ++ (y :: r).reverse ++ y :: (done ++ post) :=
      set_mid' (A:=pre ++ (y :: r).reverse) (x:=x) (B:=done ++ post) (by simp) (by simp)
    have s2:(pre ++ (y :: r).reverse ++ y :: (done ++ post)).set ((pre.length:Int)+(r.length:Int)).toNat x=pre ++ r.reverse ++ x :: (y :: (done ++ post)) :=
      set_mid' (A:=pre ++ r.reverse) (x:=y) (B:=y :: (done ++ post)) (by simp) (by simp)
    have hlen:((pre ++ (y :: r).reverse ++ x :: done ++ post).length:Int)=(pre.length:Int)+((y :: r).length:Int)+1+(done.length:Int)+(post.length:Int):=by
      simp;omega
    have hl1:(((y :: r).length:Nat):Int)=(r.length:Int)+1:=by simp
    have hc:Ezb.f x y [R]=some (wrap64 (rd R y - rd R x)):=by
      show(if 0 < (([R]:List (List Int)).length:Int) then(if 0≤y then(if y < (R.length:Int) then(if 0≤x then(if x < (R.length:Int) then some (wrap64 (rd R y - rd R x)) else none) else none) else none) else none) else none)=_
      rw[if_pos (by simp),if_pos (by omega),if_pos (by omega),if_pos (by omega),if_pos (by omega)]
    have hry:=hR _ (rd_mem R y hy.1 hy.2);have hrx:=hR _ (rd_mem R x hx.1 hx.2);rw[wrap64_id (by omega) (by omega)] at hc
    by_cases c:rd R x > rd R y
    · have e3:insR R x (y :: r)=y :: insR R x r:=by rw[insR];rw[if_pos c]
      rw[e3] at h;have:=ih (y :: done) (by simp at hr;omega) (fun z hz=>hm z (List.mem_cons_of_mem _ hz)) (by simpa using h)
      refine Tells.up this (fun k=>?_)
      rw[Azq.l1];rw[if_pos (by omega),if_pos (by omega),if_pos (by omega),hx9,if_pos (by omega),if_pos (by omega),e1,e2,hc]
      simp only[Option.bind_some];rw[if_pos (by omega),s1,s2]
      simp
    · have e3:insR R x (y :: r)=x :: y :: r:=by rw[insR];rw[if_neg c]
      rw[e3] at h;refine Tells.up h (fun k=>?_)
      rw[Azq.l1];rw[if_pos (by omega),if_pos (by omega),if_pos (by omega),hx9,if_pos (by omega),if_pos (by omega),e1,e2,hc]
      simp only[Option.bind_some];rw[if_neg (by omega)]
      simp
theorem ins_l0 (R:List Int) (pre post:List Int) (hb:(pre.length:Int)+1000000 < 9223372036854775808) (hR:∀ y ∈ R,0≤y∧y≤1125899906842624):∀ (todo r:List Int),r.length+todo.length≤1000→(∀ y ∈ r,0≤y∧y < (R.length:Int))→(∀ y ∈ todo,0≤y∧y < (R.length:Int)) →
    Tells (fun k=>Azq.l0 k (pre ++ r.reverse ++ todo ++ post) (pre.length:Int) ((pre.length:Int)+(r.length:Int)+(todo.length:Int)) ((pre.length:Int)+(r.length:Int)) [R]) (pre ++ (insAll R todo r).reverse ++ post):=by
  intro todo;induction todo with
  | nil =>
    intro r _ _ _;refine Tells.up (Tells.const _) (fun k=>?_)
    rw[Azq.l0];rw[if_neg (by simp)]
    simp [insAll]
  | cons x todo ih =>
    intro r hl hr ht;have hx:=ht x List.mem_cons_self;have hl1:(((x :: todo).length:Nat):Int)=(todo.length:Int)+1:=by simp
    have hll:(x :: todo).length=todo.length+1:=by simp
    have hp:=insR_perm R x r;have hpl:(insR R x r).length=r.length+1:=by rw[hp.length_eq];simp
    refine Tells.up (g:=fun k=>Azq.l1 k (pre ++ r.reverse ++ x :: todo ++ post) (pre.length:Int) ((pre.length:Int)+(r.length:Int)+((x :: todo).length:Int)) ((pre.length:Int)+(r.length:Int)) ((pre.length:Int)+(r.length:Int)) [R]) ?_ (fun k=>by
      rw[Azq.l0];rw[if_pos (by omega)])
    refine ins_l1 R pre post _ _ _ x hx hb hR r todo (by omega) hr ?_
    have:=ih (insR R x r) (by omega) (fun y hy=>by
      rcases List.mem_cons.1 (hp.mem_iff.1 hy) with rfl|hy
      · exact hx
      · exact hr y hy) (fun y hy=>ht y (List.mem_cons_of_mem _ hy))
    rw[wrap64_id (by omega) (by omega)]
    have e1:(pre.length:Int)+((insR R x r).length:Int)+(todo.length:Int)=(pre.length:Int)+(r.length:Int)+((x :: todo).length:Int):=by omega
    have e2:(pre.length:Int)+((insR R x r).length:Int)=(pre.length:Int)+(r.length:Int)+1:=by omega
    rw[e1,e2] at this;exact this
theorem ins_tells (R:List Int) (pre mid post:List Int) (hb:(pre.length:Int)+1000000 < 9223372036854775808) (hR:∀ y ∈ R,0≤y∧y≤1125899906842624) (hl:mid.length≤1000) (hm:∀ y ∈ mid,0≤y∧y < (R.length:Int)) :
    Tells (fun k=>Azq.f k (pre ++ mid ++ post) (pre.length:Int) ((pre.length:Int)+(mid.length:Int)) [R]) (pre ++ (insAll R mid []).reverse ++ post):=by
  refine Tells.congr (g:=fun k=>Azq.l0 k (pre ++ mid ++ post) (pre.length:Int) ((pre.length:Int)+(mid.length:Int)) ((pre.length:Int)+1) [R]) ?_ (fun k=>by
    unfold Azq.f;rw[wrap64_id (by omega) (by omega)])
  cases mid with
  | nil =>
    refine Tells.up (Tells.const _) (fun k=>?_)
    rw[Azq.l0];rw[if_neg (by simp;omega)]
    simp [insAll]
  | cons x mid =>
    have hx:=hm x List.mem_cons_self;have:=ins_l0 R pre post hb hR mid [x] (by simp at hl ⊢;omega) (by simpa using hx) (fun y hy=>hm y (List.mem_cons_of_mem _ hy))
    have e:(pre.length:Int)+(([x]:List Int).length:Int)+(mid.length:Int)=(pre.length:Int)+((x :: mid).length:Int):=by simp;omega
    rw[e] at this;have e2:pre ++ ([x]:List Int).reverse ++ mid ++ post=pre ++ x :: mid ++ post:=by simp
    rw[e2] at this;exact this
/-- At most 20: one insertion sort. -/


def remS (t s:Int) (l:List Int):List Int:=l.map fun w=>t * w % s
def quoS (t s:Int) (l:List Int):List Int:=l.map fun w=>t * w / s
/-- What the quotients leave. -/
def leftS (t s:Int) (l:List Int):Int:=t - (quoS t s l).sum
/-- The parts: rounded down,and one more for those of D. -/
def bumpS (t s:Int) (l D:List Int):List Int:=(idx l.length).map fun i=>t * rd l i / s+if i ∈ D then 1 else 0
def partsSp (t s:Int) (l:List Int):List Int:=bumpS t s l ((ordS (remS t s l) l.length).take (leftS t s l).toNat)
def splitS (t:Int) (l:List Int):List Int × Int:=if(shCheckS t l).2=0 then(partsSp t l.sum l,0) else([],(shCheckS t l).2)
theorem bumpS_len (t s:Int) (l D:List Int):(bumpS t s l D).length=l.length:=by simp [bumpS,idx_len]
theorem rd_bumpS (t s:Int) (l D:List Int) (i:Nat) (h:i < l.length):rd (bumpS t s l D) (i:Int)=t * rd l i / s+if(i:Int) ∈ D then 1 else 0:=by
  unfold bumpS;rw[rd_map _ _ i (by rw[idx_len];exact h),rd_idx _ _ h]
theorem bumpS_nil (t s:Int) (l:List Int):bumpS t s l []=quoS t s l:=by
  apply ext_rd (by simp [bumpS_len,quoS])
  intro i hi;rw[bumpS_len] at hi;rw[rd_bumpS _ _ _ _ _ hi];unfold quoS;rw[rd_map _ _ i hi];simp
theorem bumpS_step (t s:Int) (l D:List Int) (i:Nat) (h:i < l.length) (hD:(i:Int) ∉ D):(bumpS t s l D).set i (rd (bumpS t s l D) (i:Int)+1)=bumpS t s l (D ++ [(i:Int)]):=by
  apply ext_rd (by simp [bumpS_len])
  intro j hj;have hj':j < l.length:=by simpa [bumpS_len] using hj
  rw[rd_set _ _ _ _ (by rw[bumpS_len];exact hj'),rd_bumpS _ _ _ _ _ hj',rd_bumpS _ _ _ _ _ hj',rd_bumpS _ _ _ _ _ h]
  by_cases e:i=j
  · subst e
    simp [hD]
  · rw[if_neg e]
    have:((j:Int) ∈ D ++ [(i:Int)]) ↔ (j:Int) ∈ D:=by
      rw[List.mem_append,List.mem_singleton];constructor
      · rintro (h|h)
        · exact h
        · omega
      · exact Or.inl
    simp only[this]
theorem quo_le {t w s:Int} (ht0:0≤t) (hw0:0≤w) (hws:w≤s):0≤t * w / s∧t * w / s≤t:=by
  by_cases h:s=0
  · rw[h,Int.ediv_zero];omega
  have hX0:0≤t * w:=Int.mul_nonneg ht0 hw0;refine⟨Int.ediv_nonneg hX0 (by omega),?_⟩
  have h1:t * w≤t * s:=Int.mul_le_mul_of_nonneg_left hws ht0;have h2:=Int.ediv_le_ediv (show 0 < s by omega) h1
  rwa [Int.mul_ediv_cancel _ h] at h2
theorem sum_quo_rem (t s:Int) (l:List Int):s * (quoS t s l).sum+(remS t s l).sum=t * l.sum:=by
  induction l with
  | nil=>simp [quoS,remS]
  | cons x l ih =>
    unfold quoS remS at ih ⊢;rw[List.map_cons,List.map_cons,List.sum_cons,List.sum_cons,List.sum_cons,Int.mul_add,Int.mul_add,← ih];have:=Int.mul_ediv_add_emod (t * x) s;omega
theorem rem_bounds {t s:Int} {l:List Int} (hs:0 < s):∀ y ∈ remS t s l,0≤y∧y < s:=by
  intro y hy;unfold remS at hy;obtain⟨w,_,rfl⟩:=List.mem_map.1 hy;exact⟨Int.emod_nonneg _ (by omega),Int.emod_lt_of_pos _ hs⟩
theorem sum_le_mul {m:Int} {l:List Int} (h:∀ y ∈ l,0≤y∧y≤m):0≤l.sum∧l.sum≤m * l.length:=sum_bounds (inAll_iff.2 h)
theorem sum_nonneg {l:List Int} (h:∀ w ∈ l,0≤w):0≤l.sum:=by
  induction l with
  | nil=>simp
  | cons x l ih =>
    have h1:=h x List.mem_cons_self;have h2:=ih (fun w hw=>h w (List.mem_cons_of_mem _ hw))
    rw[List.sum_cons];omega
theorem quoS_zero (t s:Int) (l:List Int) (h:∀ w ∈ l,t * w / s=0):quoS t s l=List.replicate l.length 0:=by
  unfold quoS;rw[List.eq_replicate_iff];refine⟨by simp,?_⟩
  intro b hb;obtain⟨w,hw,rfl⟩:=List.mem_map.1 hb;exact h w hw
theorem left_bounds {t:Int} {l:List Int} (hl0:0 < l.length) (ht0:0≤t) (hl:∀ w ∈ l,0≤w) (hz:l.sum=0→t=0):0≤leftS t l.sum l∧leftS t l.sum l≤l.length∧(0 < l.sum→leftS t l.sum l < l.length):=by
  unfold leftS;by_cases h0:l.sum=0
  · have ht:=hz h0
    have:(quoS t l.sum l).sum=0:=by
      rw[ht];unfold quoS;have e:l.map (fun w=>0 * w / l.sum)=List.replicate l.length 0:=by
        rw[List.eq_replicate_iff];refine⟨by simp,?_⟩
        intro b hb;obtain⟨w,_,rfl⟩:=List.mem_map.1 hb;simp
      rw[e];simp
    rw[this,ht,h0];refine⟨by omega,by omega,by omega⟩
  · have hs:0≤l.sum:=sum_nonneg hl
    have hs:0 < l.sum:=by omega
    have hq:=sum_quo_rem t l.sum l;have hr:=sum_le_mul (m:=l.sum - 1) (l:=remS t l.sum l) (fun y hy=>by have:=rem_bounds hs y hy;omega)
    have hrl:((remS t l.sum l).length:Int)=l.length:=by simp [remS]
    rw[hrl] at hr;generalize hS:l.sum=s at *;generalize (quoS t s l).sum=q at *;generalize (remS t s l).sum=r at *;generalize hn:(l.length:Int)=n at *;have hn0:0 < n:=by omega
    have e:s * (t - q)=r:=by
      rw[Int.mul_sub,Int.mul_comm s t];omega
    have h1:0≤t - q:=by
      by_cases h:0≤t - q
      · exact h
      · have:=Int.mul_le_mul_of_nonneg_left (show t - q≤-1 by omega) (show 0≤s by omega)
        omega
    have h2:t - q < n:=by
      by_cases h:t - q < n
      · exact h
      · have:=Int.mul_le_mul_of_nonneg_left (show n≤t - q by omega) (show 0≤s by omega)
        rw[e] at this;have e2:(s - 1) * n=s * n - n:=by rw[Int.sub_mul];omega
        omega
    exact⟨h1,by omega,fun _=>h2⟩
theorem split_l1 (t s:Int) (l L:List Int) (ht0:0≤t) (ht:t≤1125899906842624) (hw:∀ w ∈ l,0≤w∧w≤s) (hn:L.Nodup) (hm:∀ i ∈ L,0≤i∧i < (l.length:Int)) (hl:l.length≤1000000) (hLl:L.length≤1000000) :
    ∀ todo D,D ++ todo=L→Tells (fun k=>Bzp.l1 k (bumpS t s l D) L (L.length:Int) (D.length:Int)) (bumpS t s l L,0):=by
  intro todo;induction todo with
  | nil =>
    intro D hD;rw[List.append_nil] at hD;subst hD;refine Tells.up (Tells.const _) (fun k=>?_)
    rw[Bzp.l1];rw[if_neg (by omega)]
  | cons x todo ih =>
    intro D hD;have hlen:L.length=D.length+todo.length+1:=by rw[← hD];simp;omega
    have hx:=hm x (by rw[← hD];simp)
    have hxD:x ∉ D:=by
      rw[← hD,List.nodup_append] at hn;intro h;exact hn.2.2 x h x List.mem_cons_self rfl
    obtain⟨i,rfl⟩:∃ i:Nat,x=(i:Int):=⟨x.toNat,by omega⟩
    have hi:i < l.length:=by omega
    have e1:rd L (D.length:Int)=(i:Int):=rd_mid' hD.symm rfl;have hb:rd (bumpS t s l D) (i:Int)=t * rd l i / s:=by rw[rd_bumpS _ _ _ _ _ hi,if_neg hxD,Int.add_zero]
    have hq:=quo_le ht0 (hw _ (rd_mem l i (by omega) (by omega))).1 (hw _ (rd_mem l i (by omega) (by omega))).2
    refine Tells.up (g:=fun k=>Bzp.l1 k (bumpS t s l (D ++ [(i:Int)])) L (L.length:Int) ((D ++ [(i:Int)]).length:Int)) ?_ (fun k=>by
      rw[Bzp.l1];rw[if_pos (by omega),if_pos (by omega),if_pos (by omega),e1,if_pos (by omega),if_pos (by rw[bumpS_len];omega),wrap64_id (n:=rd (bumpS t s l D) (i:Int)+1) (by rw[hb];omega) (by rw[hb];omega),wrap64_id (by omega) (by omega)]
      rw[Int.toNat_natCast,bumpS_step t s l D i hi hxD];simp)
    exact ih (D ++ [(i:Int)]) (by rw[← hD];simp)
theorem split_l0 (t s:Int) (l:List Int) (out:List Int × Int) (ht0:0≤t) (ht:t≤1125899906842624) (hs:s≤1125899906842624) (hw:∀ w ∈ l,0≤w∧w≤s) (hl:l.length≤1000)
    (hend:Tells (fun k=>Bzp.l0 k t s (quoS t s l) (idx l.length) (leftS t s l) l (l.length:Int) (l.length:Int) (remS t s l)) out) :
    ∀ r pre,pre ++ r=l→Tells (fun k=>Bzp.l0 k t s (quoS t s pre ++ List.replicate r.length 0) (idx pre.length ++ List.replicate r.length 0) (t - (quoS t s pre).sum) l (l.length:Int) (pre.length:Int) (remS t s pre ++ List.replicate r.length 0)) out:=by
  intro r;induction r with
  | nil =>
    intro pre h;rw[List.append_nil] at h;subst h;simpa [leftS] using hend
  | cons x r ih =>
    intro pre h;have hlen:l.length=pre.length+r.length+1:=by rw[← h];simp;omega
    have hx:=hw x (by rw[← h];simp)
    have e1:rd l (pre.length:Int)=x:=rd_mid' h.symm rfl;have hq:=quo_le ht0 hx.1 hx.2;have hqs:=sum_le_mul (m:=t) (l:=quoS t s pre) (fun y hy=>by
      unfold quoS at hy;obtain⟨w,hw',rfl⟩:=List.mem_map.1 hy;have:=hw w (by rw[← h];exact List.mem_append_left _ hw')
      exact quo_le ht0 this.1 this.2)
    have hql:(quoS t s pre).length=pre.length:=by simp [quoS]
    have hrl:(remS t s pre).length=pre.length:=by simp [remS]
    have hil:(idx pre.length).length=pre.length:=idx_len _;rw[hql] at hqs;have hmul:t * (pre.length:Int)≤1125899906842624 * 1000:=by
      have a:=Int.mul_le_mul_of_nonneg_right ht (show(0:Int)≤(pre.length:Int) by omega)
      omega
    have sA:(quoS t s pre ++ List.replicate (x :: r).length 0).set (pre.length:Int).toNat (t * x / s)=quoS t s (pre ++ [x]) ++ List.replicate r.length 0:=by
      rw[set_mid' (A:=quoS t s pre) (x:=0) (B:=List.replicate r.length 0) (by rw[List.length_cons,List.replicate_succ]) (by rw[hql])]
      simp [quoS]
    have sB:(remS t s pre ++ List.replicate (x :: r).length 0).set (pre.length:Int).toNat (t * x % s)=remS t s (pre ++ [x]) ++ List.replicate r.length 0:=by
      rw[set_mid' (A:=remS t s pre) (x:=0) (B:=List.replicate r.length 0) (by rw[List.length_cons,List.replicate_succ]) (by rw[hrl])]
      simp [remS]
    have sC:(idx pre.length ++ List.replicate (x :: r).length 0).set (pre.length:Int).toNat (pre.length:Int)=idx (pre ++ [x]).length ++ List.replicate r.length 0:=by
      rw[set_mid' (A:=idx pre.length) (x:=0) (B:=List.replicate r.length 0) (by rw[List.length_cons,List.replicate_succ]) (by rw[hil])]
      rw[List.length_append,List.length_singleton,idx_succ];simp
    have eq:rd (quoS t s (pre ++ [x]) ++ List.replicate r.length 0) (pre.length:Int)=t * x / s :=
      rd_mid' (A:=quoS t s pre) (B:=List.replicate r.length 0) (by simp [quoS]) (by rw[hql])
    refine Tells.up (ih (pre ++ [x]) (by rw[← h];simp)) (fun k=>?_)
    rw[Bzp.l0];rw[if_pos (by omega),if_pos (by omega),if_pos (by omega),e1,quotient_val t x s ht0 ht hx.1 hx.2 hs]
    simp only[Option.bind_some];rw[if_pos (by simp [hql];omega),sA,if_pos (by simp [hrl];omega),if_pos (by simp [hil];omega),sC,eq,sB,wrap64_id (by omega) (by omega),wrap64_id (by omega) (by omega)]
    have e2:t - (quoS t s (pre ++ [x])).sum=t - (quoS t s pre).sum - t * x / s:=by
      simp [quoS];omega
    rw[e2,List.length_append,List.length_singleton];rfl
theorem split_tells_of {N:Nat} (hsort:∀ (R:List Int) (n:Nat),R.length=n→n≤N→(∀ y ∈ R,0≤y∧y≤1125899906842624)→Tells (fun k=>Czx.f k (idx n) [R]) (ordS R n)) (t:Int) (l:List Int) (hl:l.length≤N) (hN:N≤1000):Tells (fun k=>Bzp.f k t l) (splitS t l):=by
  refine Tells.congr (g:=fun k=>(Ezz.f k t l).bind fun b=>if b.2=0 then Bzp.l0 k t b.1 (List.replicate l.length 0) (List.replicate l.length 0) t l (l.length:Int) 0 (List.replicate l.length 0) else some ([],b.2)) ?_ (fun k=>by
    unfold Bzp.f;congr 1;funext b
    rw[if_pos (show 0≤(l.length:Int) by omega),if_pos (show((l.length:Int):Int).toNat≤35184372088832 by omega)]
    rfl)
  refine Tells.bind (shCheck_tells t l (by omega)) ?_
  unfold splitS;refine Tells.ite (fun hc=>?_) (fun _=>Tells.const _)
  obtain⟨ht0,ht,hl0,hl1,hin,hs,hz,he⟩:=shCheck_ok hc;rw[he];have hw:∀ w ∈ l,0≤w∧w≤l.sum:=fun w hw=>⟨(inAll_iff.1 hin w hw).1,sum_mem_le hin w hw⟩
  have hlb:=left_bounds hl0 ht0 (fun w h=>(hw w h).1) hz
  have:=split_l0 t l.sum l (partsSp t l.sum l,0) ht0 ht hs hw (by omega) ?_ l [] rfl
  · simpa [quoS,remS,idx] using this
  have hR:∀ y ∈ remS t l.sum l,0≤y∧y≤1125899906842624:=by
    intro y hy;by_cases h0:l.sum=0
    · have ht:=hz h0
      unfold remS at hy;obtain⟨w,_,rfl⟩:=List.mem_map.1 hy;rw[ht];simp
    · have hs0:0≤l.sum:=sum_nonneg (fun w h=>(hw w h).1)
      have:=rem_bounds (show 0 < l.sum by omega) y hy
      omega
  refine Tells.up (g:=fun k=>(Czx.f k (idx l.length) [remS t l.sum l]).bind fun o=>Bzp.l1 k (quoS t l.sum l) (o.take (leftS t l.sum l).toNat) ((o.take (leftS t l.sum l).toNat).length:Int) 0) ?_ (fun k=>by
    rw[Bzp.l0];rw[if_neg (by omega)]
    congr 1;funext o
    rw[if_pos hlb.1,if_pos (by rw[idx_len];exact hlb.2.1)]
    rfl)
  refine Tells.bind (hsort _ l.length (by simp [remS]) hl hR) ?_
  have hsub:=List.take_sublist (leftS t l.sum l).toNat (ordS (remS t l.sum l) l.length);have:=split_l1 t l.sum l ((ordS (remS t l.sum l) l.length).take (leftS t l.sum l).toNat) ht0 ht hw (hsub.nodup (ordS_nodup _ _)) (fun i hi=>mem_ordS.1 (hsub.subset hi)) (by omega) (by rw[List.length_take,ordS_len];omega) _ [] rfl
  rw[bumpS_nil] at this;exact this


theorem half_val (x y:Int) (h0:0≤x+y) (h1:x+y < 1000000):wrap64 ((IntKind.u64.wrap (wrap64 (x+y))) / 2)=(x+y) / 2:=by
  have e:IntKind.u64.wrap (wrap64 (x+y))=x+y:=by
    rw[wrap64_id (by omega) (by omega)]
    exact Bzw.w64 _ (by omega) (by omega)
  rw[e,wrap64_id (by omega) (by omega)]
theorem cmp_val (R:List Int) (x y:Int) (hR:∀ z ∈ R,0≤z∧z≤1125899906842624) (hx:0≤x∧x < (R.length:Int)) (hy:0≤y∧y < (R.length:Int)):Ezb.f x y [R]=some (rd R y - rd R x):=by
  show(if 0 < (([R]:List (List Int)).length:Int) then(if 0≤y then(if y < (R.length:Int) then(if 0≤x then(if x < (R.length:Int) then some (wrap64 (rd R y - rd R x)) else none) else none) else none) else none) else none)=_
  have h1:=hR _ (rd_mem R y hy.1 hy.2);have h2:=hR _ (rd_mem R x hx.1 hx.2);rw[if_pos (by simp),if_pos (by omega),if_pos (by omega),if_pos (by omega),if_pos (by omega),wrap64_id (by omega) (by omega)]
theorem rd_seg (A B C:List Int) (i:Nat) (h0:A.length≤i) (h1:i < A.length+B.length):rd (A ++ B ++ C) (i:Int)=rd B ((i - A.length:Nat):Int):=by
  show(A ++ B ++ C).getD (i:Int).toNat 0=B.getD ((i - A.length:Nat):Int).toNat 0
  rw[Int.toNat_natCast,Int.toNat_natCast,List.append_assoc,List.getD_eq_getElem?_getD,List.getD_eq_getElem?_getD,List.getElem?_append_right h0,List.getElem?_append_left (by omega)]
theorem swapRange_tells (pars:List (List Int)) (A C B:List Int) (n:Nat) (hN:A.length+n+C.length+n+B.length≤100000):∀ (X2 Y2 X1 Y1:List Int),X1.length=Y1.length→X2.length=Y2.length→X1.length+X2.length=n →
    Tells (fun k=>Azv.l0 k (A ++ Y1 ++ X2 ++ C ++ X1 ++ Y2 ++ B) (A.length:Int) ((A.length+n+C.length:Nat):Int) (n:Int) (X1.length:Int)) (A ++ (Y1 ++ Y2) ++ C ++ (X1 ++ X2) ++ B):=by
  intro X2;induction X2 with
  | nil =>
    intro Y2 X1 Y1 h1 h2 h3;have:Y2=[]:=List.eq_nil_of_length_eq_zero (by simpa using h2.symm)
    subst this;refine Tells.up (Tells.const _) (fun k=>?_)
    rw[Azv.l0];rw[if_neg (by simp at h3;omega)]
    simp
  | cons x X2 ih =>
    intro Y2 X1 Y1 h1 h2 h3;cases Y2 with
    | nil=>simp at h2
    | cons y Y2 =>
      rw[List.length_cons,List.length_cons] at h2;rw[List.length_cons] at h3;have hn:=ih Y2 (X1 ++ [x]) (Y1 ++ [y]) (by simp [h1]) (by omega) (by simp;omega)
      have i1:wrap64 ((A.length:Int)+(X1.length:Int))=((A ++ Y1).length:Int):=by rw[wrap64_id (by omega) (by omega)];simp;omega
      have i2:wrap64 (((A.length+n+C.length:Nat):Int)+(X1.length:Int))=((A ++ Y1 ++ x :: X2 ++ C ++ X1).length:Int):=by rw[wrap64_id (by omega) (by omega)];simp;omega
      have r1:rd (A ++ Y1 ++ x :: X2 ++ C ++ X1 ++ y :: Y2 ++ B) ((A ++ Y1).length:Int)=x:=rd_mid' (A:=A ++ Y1) (B:=X2 ++ C ++ X1 ++ y :: Y2 ++ B) (by simp) rfl
      have r2:rd (A ++ Y1 ++ x :: X2 ++ C ++ X1 ++ y :: Y2 ++ B) ((A ++ Y1 ++ x :: X2 ++ C ++ X1).length:Int)=y:=rd_mid' (A:=A ++ Y1 ++ x :: X2 ++ C ++ X1) (B:=Y2 ++ B) (by simp) rfl
      have s1:(A ++ Y1 ++ x :: X2 ++ C ++ X1 ++ y :: Y2 ++ B).set ((A ++ Y1).length:Int).toNat y=A ++ Y1 ++ y :: (X2 ++ C ++ X1 ++ y :: Y2 ++ B):=set_mid' (A:=A ++ Y1) (x:=x) (by simp) rfl
      have s2:(A ++ Y1 ++ y :: (X2 ++ C ++ X1 ++ y :: Y2 ++ B)).set ((A ++ Y1 ++ x :: X2 ++ C ++ X1).length:Int).toNat x=A ++ Y1 ++ y :: X2 ++ C ++ X1 ++ x :: (Y2 ++ B):=set_mid' (A:=A ++ Y1 ++ y :: X2 ++ C ++ X1) (x:=y) (by simp) (by simp)
      have hlen:((A ++ Y1 ++ x :: X2 ++ C ++ X1 ++ y :: Y2 ++ B).length:Int)=A.length+Y1.length+X2.length+1+C.length+X1.length+Y2.length+1+B.length:=by simp;omega
      have l1:((A ++ Y1).length:Int)=A.length+Y1.length:=by simp
      have l2:((A ++ Y1 ++ x :: X2 ++ C ++ X1).length:Int)=A.length+Y1.length+X2.length+1+C.length+X1.length:=by simp;omega
      refine Tells.up (g:=fun k=>Azv.l0 k (A ++ (Y1 ++ [y]) ++ X2 ++ C ++ (X1 ++ [x]) ++ Y2 ++ B) (A.length:Int) ((A.length+n+C.length:Nat):Int) (n:Int) ((X1 ++ [x]).length:Int)) ?_ (fun k=>by
        rw[Azv.l0];rw[if_pos (by omega),i1,i2,if_pos (by omega),if_pos (by omega),if_pos (by omega),if_pos (by omega),r1,r2,s1,s2,wrap64_id (by omega) (by omega)]
        simp)
      simpa using hn
theorem swap_tells (pars:List (List Int)) (A X C Y B:List Int) (hXY:X.length=Y.length) (hN:A.length+X.length+C.length+X.length+B.length≤100000):Tells (fun k=>Azv.f k (A ++ X ++ C ++ Y ++ B) (A.length:Int) ((A.length+X.length+C.length:Nat):Int) (X.length:Int) pars) (A ++ Y ++ C ++ X ++ B):=by
  have:=swapRange_tells pars A C B X.length hN X Y [] [] rfl hXY (by simp)
  refine Tells.congr (g:=fun k=>Azv.l0 k (A ++ X ++ C ++ Y ++ B) (A.length:Int) ((A.length+X.length+C.length:Nat):Int) (X.length:Int) 0) ?_ (fun k=>by unfold Azv.f;rfl)
  simpa using this
theorem rotate_l0 (pars:List (List Int)) (m:Nat) (hm:m≤10000):∀ (d:Nat) (A X Y B:List Int),X.length+Y.length≤d→1≤X.length→1≤Y.length→A.length+X.length=m→A.length+X.length+Y.length+B.length≤10000 →
    Tells (fun k=>Azb.l0 k (A ++ X ++ Y ++ B) (m:Int) (X.length:Int) (Y.length:Int) pars) (A ++ Y ++ X ++ B):=by
  intro d;induction d with
  | zero=>intro A X Y B h1 h2;omega
  | succ d ih =>
    intro A X Y B hd hX hY hA hB;have hmi:wrap64 ((m:Int) - (X.length:Int))=(A.length:Int):=by rw[wrap64_id (by omega) (by omega)];omega
    by_cases e:X.length=Y.length
    · refine Tells.up (g:=fun k=>(Azv.f k (A ++ X ++ Y ++ B) (A.length:Int) (m:Int) (X.length:Int) pars).bind fun t=>some t) ?_ (fun k=>by
        rw[Azb.l0];rw[if_pos (by omega),hmi])
      have:=swap_tells pars A X [] Y B e (by simp;omega)
      rw[List.append_nil,List.append_nil,List.length_nil,Nat.add_zero,hA] at this;exact Tells.bind this (Tells.const _)
    · by_cases c:X.length > Y.length
      · have hX12:X=X.take Y.length ++ X.drop Y.length:=(List.take_append_drop _ _).symm
        have hlt:Y.length < X.length:=by omega
        clear e c;have hl1:(X.take Y.length).length=Y.length:=by rw[List.length_take];omega
        have hl2:(X.drop Y.length).length+Y.length=X.length:=by rw[List.length_drop];omega
        generalize X.take Y.length=X1 at *;generalize X.drop Y.length=X2 at *;refine Tells.up (g:=fun k=>(Azv.f k (A ++ X ++ Y ++ B) (A.length:Int) (m:Int) (Y.length:Int) pars).bind fun t=>Azb.l0 k t (m:Int) (X2.length:Int) (Y.length:Int) pars) ?_ (fun k=>by
          rw[Azb.l0];rw[if_neg (by omega),if_pos (by omega),hmi,wrap64_id (n:=(X.length:Int) - (Y.length:Int)) (by omega) (by omega)]
          rw[show(X.length:Int) - (Y.length:Int)=(X2.length:Int) by omega])
        have hs:=swap_tells pars A X1 X2 Y B hl1 (by omega)
        rw[hl1,show A.length+Y.length+X2.length=m by omega] at hs
        have hn:=ih (A ++ Y) X2 X1 B (by omega) (by omega) (by omega) (by rw[List.length_append];omega) (by rw[List.length_append];omega)
        rw[hl1] at hn;rw[hX12];refine Tells.bind (r:=A ++ Y ++ X2 ++ X1 ++ B) (by simpa using hs) ?_
        simpa using hn
      · have hY12:Y=Y.take (Y.length - X.length) ++ Y.drop (Y.length - X.length):=(List.take_append_drop _ _).symm
        have hlt:X.length < Y.length:=by omega
        clear e c;have hl1:(Y.take (Y.length - X.length)).length+X.length=Y.length:=by rw[List.length_take];omega
        have hl2:(Y.drop (Y.length - X.length)).length=X.length:=by rw[List.length_drop];omega
        generalize Y.take (Y.length - X.length)=Y1 at *;generalize Y.drop (Y.length - X.length)=Y2 at *;have hmj:wrap64 (wrap64 ((m:Int)+(Y.length:Int)) - (X.length:Int))=((A.length+X.length+Y1.length:Nat):Int):=by
          rw[wrap64_id (n:=(m:Int)+(Y.length:Int)) (by omega) (by omega),wrap64_id (by omega) (by omega)];omega
        have hmk:wrap64 ((Y.length:Int) - (X.length:Int))=(Y1.length:Int):=by rw[wrap64_id (by omega) (by omega)];omega
        refine Tells.up (g:=fun k=>(Azv.f k (A ++ X ++ Y ++ B) (A.length:Int) ((A.length+X.length+Y1.length:Nat):Int) (X.length:Int) pars).bind fun t=>Azb.l0 k t (m:Int) (X.length:Int) (Y1.length:Int) pars) ?_ (fun k=>by
          rw[Azb.l0];rw[if_neg (show ¬ (X.length:Int)=(Y.length:Int) by omega),if_neg (show ¬ (X.length:Int) > (Y.length:Int) by omega),hmi,hmj,hmk])
        have hs:=swap_tells pars A X Y1 Y2 B hl2.symm (by omega)
        have hn:=ih A Y2 Y1 (X ++ B) (by omega) (by omega) (by omega) (by omega) (by rw[List.length_append];omega)
        rw[hl2] at hn;rw[hY12];refine Tells.bind (r:=A ++ Y2 ++ Y1 ++ X ++ B) (by simpa using hs) ?_
        simpa using hn
theorem rotate_tells (pars:List (List Int)) (A X Y B:List Int) (hX:1≤X.length) (hY:1≤Y.length) (hN:A.length+X.length+Y.length+B.length≤10000):Tells (fun k=>Azb.f k (A ++ X ++ Y ++ B) (A.length:Int) ((A.length+X.length:Nat):Int) ((A.length+X.length+Y.length:Nat):Int) pars) (A ++ Y ++ X ++ B):=by
  refine Tells.congr (rotate_l0 pars (A.length+X.length) (by omega) (X.length+Y.length) A X Y B (Nat.le_refl _) hX hY rfl hN) (fun k=>?_)
  unfold Azb.f;rw[wrap64_id (by omega) (by omega),wrap64_id (by omega) (by omega)]
  congr 1 <;> omega

structure Blocks (R L M:List Int):Prop where
  l:L.Pairwise (ltR R)
  r:M.Pairwise (ltR R)
  lr:∀ x ∈ L,∀ y ∈ M,x < y
  okl:∀ x ∈ L,0≤x∧x < (R.length:Int)
  okr:∀ x ∈ M,0≤x∧x < (R.length:Int)
theorem ltR_ge {R:List Int} {x y:Int} (h:ltR R x y):rd R y≤rd R x:=by unfold ltR at h;omega
/-- The elements with a greater remainder stand ahead. -/
theorem cut_gt (R:List Int) (v:Int):∀ M:List Int,M.Pairwise (ltR R)→∃ A B,M=A ++ B∧(∀ y ∈ A,rd R y > v)∧(∀ y ∈ B,rd R y≤v):=by
  intro M;induction M with
  | nil=>intro _;exact⟨[],[],rfl,by simp,by simp⟩
  | cons z M ih =>
    intro h;rw[List.pairwise_cons] at h;by_cases c:rd R z > v
    · obtain⟨A,B,e,hA,hB⟩:=ih h.2
      refine⟨z :: A,B,by rw[e];rfl,fun y hy=>?_,hB⟩
      rcases List.mem_cons.1 hy with rfl|hy
      · exact c
      · exact hA y hy
    · refine⟨[],z :: M,rfl,by simp,fun y hy=>?_⟩
      rcases List.mem_cons.1 hy with rfl|hy
      · omega
      · have:=ltR_ge (h.1 y hy);omega
theorem rd_pre (A B C:List Int) (i:Nat) (h0:A.length≤i) (h1:i < A.length+B.length):rd (A ++ (B ++ C)) (i:Int) ∈ B:=by
  rw[← List.append_assoc,rd_seg A B C i h0 h1];exact rd_mem B _ (by omega) (by omega)
theorem sym_l1 (P Q:List Int) (x:Int) (i:Nat) (hN:P.length+Q.length≤50000):∀ (todo P':List Int),P'.length+todo.length+1=i→P'.length+todo.length+Q.length≤100000→i≤100000 →
    Tells (fun k=>Azz.l1 k (P' ++ x :: todo ++ Q) (i:Int) (P'.length:Int)) (P' ++ todo ++ x :: Q):=by
  intro todo;induction todo with
  | nil =>
    intro P' hi hl hi2;refine Tells.up (Tells.const _) (fun k=>?_)
    rw[Azz.l1];rw[if_neg (by rw[wrap64_id (by omega) (by omega)];simp at hi;omega)]
    simp
  | cons y todo ih =>
    intro P' hi hl hi2;rw[List.length_cons] at hi hl;have hn:=ih (P' ++ [y]) (by simp;omega) (by simp;omega) hi2
    have hlen:((P' ++ x :: y :: todo ++ Q).length:Int)=P'.length+todo.length+2+Q.length:=by simp;omega
    have w1:wrap64 ((P'.length:Int)+1)=(P'.length:Int)+1:=wrap64_id (by omega) (by omega)
    have w2:wrap64 ((i:Int) - 1)=(i:Int) - 1:=wrap64_id (by omega) (by omega)
    have c1:(P'.length:Int) < (i:Int) - 1:=by omega
    have c2:0≤(P'.length:Int)+1:=by omega
    have c3:(P'.length:Int)+1 < ((P' ++ x :: y :: todo ++ Q).length:Int):=by rw[hlen];omega
    have c4:0≤(P'.length:Int):=by omega
    have c5:(P'.length:Int) < ((P' ++ x :: y :: todo ++ Q).length:Int):=by rw[hlen];omega
    have r1:rd (P' ++ x :: y :: todo ++ Q) (P'.length:Int)=x:=rd_mid' (A:=P') (B:=y :: todo ++ Q) (by simp) rfl
    have r2:rd (P' ++ x :: y :: todo ++ Q) ((P'.length:Int)+1)=y:=rd_mid' (A:=P' ++ [x]) (B:=todo ++ Q) (by simp) (by simp)
    have s1:(P' ++ x :: y :: todo ++ Q).set (P'.length:Int).toNat y=P' ++ y :: (y :: todo ++ Q):=set_mid' (A:=P') (x:=x) (by simp) rfl
    have s2:(P' ++ y :: (y :: todo ++ Q)).set ((P'.length:Int)+1).toNat x=P' ++ [y] ++ x :: (todo ++ Q):=set_mid' (A:=P' ++ [y]) (x:=y) (by simp) (by simp)
    refine Tells.up (g:=fun k=>Azz.l1 k (P' ++ [y] ++ x :: todo ++ Q) (i:Int) ((P' ++ [y]).length:Int)) ?_ (fun k=>by
      rw[Azz.l1];rw[w1,w2,if_pos c1,if_pos c2,if_pos c3,if_pos c4,if_pos c5,r1,r2,s1,s2];simp)
    simpa using hn
theorem sym_l0 (R D:List Int) (a x:Int) (e:Nat) (lo hi:Nat) (out:List Int) (hR:∀ z ∈ R,0≤z∧z≤1125899906842624) (hx:0≤x∧x < (R.length:Int)) (ha:0≤a∧a < (D.length:Int)) (hax:rd D a=x) (hD:D.length≤100000) (hhi:hi≤D.length)
    (hok:∀ q:Nat,lo≤q→q < hi→0≤rd D (q:Int)∧rd D (q:Int) < (R.length:Int)) (hlt:∀ q:Nat,lo≤q→q < e→rd R (rd D (q:Int)) > rd R x) (hge:∀ q:Nat,e≤q→q < hi→rd R (rd D (q:Int))≤rd R x)
    (hend:Tells (fun k=>Azz.l1 k D (e:Int) a) out):∀ (d i j:Nat),j - i≤d→lo≤i→i≤e→e≤j→j≤hi→Tells (fun k=>Azz.l0 k D a (i:Int) (j:Int) [R]) out:=by
  intro d;induction d with
  | zero =>
    intro i j h1 h2 h3 h4 h5;obtain rfl:i=e:=by omega
    obtain rfl:j=i:=by omega
    refine Tells.up hend (fun k=>?_)
    rw[Azz.l0];rw[if_neg (by omega)]
  | succ d ih =>
    intro i j h1 h2 h3 h4 h5;by_cases c:i < j
    · have hh:=half_val (i:Int) (j:Int) (by omega) (by omega)
      obtain⟨q,hq⟩:∃ q:Nat,((i:Int)+(j:Int)) / 2=(q:Int):=⟨(i+j) / 2,by omega⟩
      rw[hq] at hh;have hqi:i≤q∧q < j:=by omega
      have hokq:=hok q (by omega) (by omega)
      have hc:=cmp_val R (rd D (q:Int)) x hR hokq hx;by_cases c2:q < e
      · have hgt:=hlt q (by omega) c2
        refine Tells.up (ih (q+1) j (by omega) (by omega) (by omega) h4 h5) (fun k=>?_)
        rw[Azz.l0];rw[if_pos (by omega),hh,if_pos (by omega),if_pos (by omega),if_pos ha.1,if_pos ha.2,hax,hc]
        simp only[Option.bind_some];rw[if_pos (by omega),wrap64_id (by omega) (by omega)]
        rfl
      · have hle:=hge q (by omega) (by omega)
        refine Tells.up (ih i q (by omega) h2 h3 (by omega) (by omega)) (fun k=>?_)
        rw[Azz.l0];rw[if_pos (by omega),hh,if_pos (by omega),if_pos (by omega),if_pos ha.1,if_pos ha.2,hax,hc]
        simp only[Option.bind_some];rw[if_neg (by omega)]
    · obtain rfl:i=e:=by omega
      obtain rfl:j=i:=by omega
      refine Tells.up hend (fun k=>?_)
      rw[Azz.l0];rw[if_neg (by omega)]
theorem sym_l3 (Q:List Int) (y:Int) (i:Nat):∀ (todo P tail:List Int),P.length=i→P.length+todo.length+tail.length≤100000 →
    Tells (fun k=>Azz.l3 k (P ++ todo.reverse ++ y :: tail) (i:Int) ((P.length+todo.length:Nat):Int)) (P ++ y :: todo.reverse ++ tail):=by
  intro todo;induction todo with
  | nil =>
    intro P tail hi hl;refine Tells.up (Tells.const _) (fun k=>?_)
    rw[Azz.l3];rw[if_neg (by simp;omega)]
    simp
  | cons z todo ih =>
    intro P tail hi hl;rw[List.length_cons] at hl;have hn:=ih P (z :: tail) hi (by simp;omega)
    have hp:(((P.length+(z :: todo).length:Nat):Int))=((P.length+todo.length:Nat):Int)+1:=by simp;omega
    have hlen:((P ++ (z :: todo).reverse ++ y :: tail).length:Int)=P.length+todo.length+2+tail.length:=by simp;omega
    have w1:wrap64 (((P.length+todo.length:Nat):Int)+1 - 1)=((P.length+todo.length:Nat):Int):=by rw[wrap64_id (by omega) (by omega)];omega
    have c1:((P.length+todo.length:Nat):Int)+1 > (i:Int):=by omega
    have c2:0≤((P.length+todo.length:Nat):Int):=by omega
    have c3:((P.length+todo.length:Nat):Int) < ((P ++ (z :: todo).reverse ++ y :: tail).length:Int):=by rw[hlen];omega
    have c4:0≤((P.length+todo.length:Nat):Int)+1:=by omega
    have c5:((P.length+todo.length:Nat):Int)+1 < ((P ++ (z :: todo).reverse ++ y :: tail).length:Int):=by rw[hlen];omega
    have r1:rd (P ++ (z :: todo).reverse ++ y :: tail) (((P.length+todo.length:Nat):Int)+1)=y:=rd_mid' (A:=P ++ (z :: todo).reverse) (B:=tail) rfl (by simp;omega)
    have r2:rd (P ++ (z :: todo).reverse ++ y :: tail) ((P.length+todo.length:Nat):Int)=z:=rd_mid' (A:=P ++ todo.reverse) (B:=y :: tail) (by simp) (by simp)
    have s1:(P ++ (z :: todo).reverse ++ y :: tail).set (((P.length+todo.length:Nat):Int)+1).toNat z=P ++ (z :: todo).reverse ++ z :: tail:=set_mid' (A:=P ++ (z :: todo).reverse) (x:=y) rfl (by simp;omega)
    have s2:(P ++ (z :: todo).reverse ++ z :: tail).set ((P.length+todo.length:Nat):Int).toNat y=P ++ todo.reverse ++ y :: (z :: tail):=set_mid' (A:=P ++ todo.reverse) (x:=z) (by simp) (by simp)
    rw[hp];refine Tells.up (g:=fun k=>Azz.l3 k (P ++ todo.reverse ++ y :: (z :: tail)) (i:Int) ((P.length+todo.length:Nat):Int)) ?_ (fun k=>by
      rw[Azz.l3];rw[if_pos c1,w1,if_pos c2,if_pos c3,if_pos c4,if_pos c5,r1,r2,s1,s2])
    simpa using hn
theorem sym_l2 (R D:List Int) (m y:Int) (e:Nat) (lo hi:Nat) (out:List Int) (hR:∀ z ∈ R,0≤z∧z≤1125899906842624) (hy:0≤y∧y < (R.length:Int)) (hm:0≤m∧m < (D.length:Int)) (hmy:rd D m=y) (hD:D.length≤100000) (hhi:hi≤D.length)
    (hok:∀ q:Nat,lo≤q→q < hi→0≤rd D (q:Int)∧rd D (q:Int) < (R.length:Int)) (hlt:∀ q:Nat,lo≤q→q < e→rd R (rd D (q:Int))≥rd R y) (hge:∀ q:Nat,e≤q→q < hi→rd R (rd D (q:Int)) < rd R y)
    (hend:Tells (fun k=>Azz.l3 k D (e:Int) m) out):∀ (d i j:Nat),j - i≤d→lo≤i→i≤e→e≤j→j≤hi→Tells (fun k=>Azz.l2 k D m (i:Int) (j:Int) [R]) out:=by
  intro d;induction d with
  | zero =>
    intro i j h1 h2 h3 h4 h5;obtain rfl:i=e:=by omega
    obtain rfl:j=i:=by omega
    refine Tells.up hend (fun k=>?_)
    rw[Azz.l2];rw[if_neg (by omega)]
  | succ d ih =>
    intro i j h1 h2 h3 h4 h5;by_cases c:i < j
    · have hh:=half_val (i:Int) (j:Int) (by omega) (by omega)
      obtain⟨q,hq⟩:∃ q:Nat,((i:Int)+(j:Int)) / 2=(q:Int):=⟨(i+j) / 2,by omega⟩
      rw[hq] at hh;have hqi:i≤q∧q < j:=by omega
      have hokq:=hok q (by omega) (by omega)
      have hc:=cmp_val R y (rd D (q:Int)) hR hy hokq;by_cases c2:q < e
      · have hgt:=hlt q (by omega) c2
        refine Tells.up (ih (q+1) j (by omega) (by omega) (by omega) h4 h5) (fun k=>?_)
        rw[Azz.l2];rw[if_pos (by omega),hh,if_pos hm.1,if_pos hm.2,if_pos (by omega),if_pos (by omega),hmy,hc]
        simp only[Option.bind_some];rw[if_neg (by omega),wrap64_id (by omega) (by omega)]
        rfl
      · have hle:=hge q (by omega) (by omega)
        refine Tells.up (ih i q (by omega) h2 h3 (by omega) (by omega)) (fun k=>?_)
        rw[Azz.l2];rw[if_pos (by omega),hh,if_pos hm.1,if_pos hm.2,if_pos (by omega),if_pos (by omega),hmy,hc]
        simp only[Option.bind_some];rw[if_pos (by omega)]
    · obtain rfl:i=e:=by omega
      obtain rfl:j=i:=by omega
      refine Tells.up hend (fun k=>?_)
      rw[Azz.l2];rw[if_neg (by omega)]

theorem pw_idx {R L:List Int} (h:L.Pairwise (ltR R)) {u v:Nat} (huv:u≤v) (hv:v < L.length):rd R (rd L (v:Int))≤rd R (rd L (u:Int)):=by
  rcases Nat.lt_or_eq_of_le huv with h1|h1
  · have:=List.pairwise_iff_getElem.1 h u v (by omega) hv h1
    rw[rd_at L u (by omega),rd_at L v hv]
    exact ltR_ge this
  · subst h1;exact Int.le_refl _
theorem mem_take_idx {L:List Int} {j:Nat} {x:Int} (h:x ∈ L.take j):∃ u:Nat,u < j∧u < L.length∧x=rd L (u:Int):=by
  obtain⟨i,hi,rfl⟩:=List.getElem_of_mem h;rw[List.length_take] at hi;refine⟨i,by omega,by omega,?_⟩
  rw[rd_at L i (by omega),List.getElem_take]
theorem mem_drop_idx {L:List Int} {j:Nat} {x:Int} (h:x ∈ L.drop j):∃ u:Nat,j≤u∧u < L.length∧x=rd L (u:Int):=by
  obtain⟨i,hi,rfl⟩:=List.getElem_of_mem h;rw[List.length_drop] at hi;refine⟨j+i,by omega,by omega,?_⟩
  rw[rd_at L (j+i) (by omega),List.getElem_drop]
/-- Where a property begins that does not end. -/
theorem cut_nat (Q:Nat→Prop):∀ (d lo hi:Nat),hi - lo≤d→lo≤hi→(∀ c c',lo≤c→c≤c'→c' < hi→Q c→Q c')→∃ s,lo≤s∧s≤hi∧(∀ c,lo≤c→c < s→¬ Q c)∧(∀ c,s≤c→c < hi→Q c):=by
  intro d;induction d with
  | zero=>intro lo hi h1 h2 _;exact⟨lo,Nat.le_refl _,h2,fun c _ _=>by omega,fun c _ _=>by omega⟩
  | succ d ih =>
    intro lo hi h1 h2 hm;by_cases e:lo=hi
    · subst e;exact⟨lo,Nat.le_refl _,h2,fun c _ _=>by omega,fun c _ _=>by omega⟩
    · by_cases q:Q lo
      · exact⟨lo,Nat.le_refl _,h2,fun c _ _=>by omega,fun c hc hc2=>hm lo c (Nat.le_refl _) hc hc2 q⟩
      · obtain⟨s,a1,a2,a3,a4⟩:=ih (lo+1) hi (by omega) (by omega) (fun c c' h3 h4 h5=>hm c c' (by omega) h4 h5)
        refine⟨s,by omega,a2,fun c hc hc2=>?_,a4⟩
        by_cases e2:c=lo
        · rw[e2];exact q
        · exact a3 c (by omega) hc2
theorem l4_step (R D:List Int) (a m b mid n:Int) (p i j q:Nat) (hR:∀ z ∈ R,0≤z∧z≤1125899906842624) (hD:D.length≤100000) (c:i < j) (hq:((i:Int)+(j:Int)) / 2=(q:Int)) (hij:i+j < 1000000) (hpq:q≤p∧p - q < D.length∧q < D.length) (hp:p≤100000)
    (hok:(0≤rd D (q:Int)∧rd D (q:Int) < (R.length:Int))∧(0≤rd D ((p - q:Nat):Int)∧rd D ((p - q:Nat):Int) < (R.length:Int))) (k:Nat) :
    Azz.l4 (k+1) D a m b mid n (i:Int) (j:Int) (p:Int) [R]=if rd R (rd D ((p - q:Nat):Int)) > rd R (rd D (q:Int)) then Azz.l4 k D a m b mid n (i:Int) (q:Int) (p:Int) [R] else Azz.l4 k D a m b mid n ((q+1:Nat):Int) (j:Int) (p:Int) [R]:=by
  have c0:(i:Int) < (j:Int):=by omega
  have c1:0≤((p - q:Nat):Int):=Int.natCast_nonneg _;have c2:((p - q:Nat):Int) < (D.length:Int):=Int.ofNat_lt.2 hpq.2.1;have c3:0≤(q:Int):=Int.natCast_nonneg _;have c4:(q:Int) < (D.length:Int):=Int.ofNat_lt.2 hpq.2.2;have w1:wrap64 ((p:Int) - (q:Int))=((p - q:Nat):Int):=by rw[wrap64_id (by omega) (by omega)];omega
  have hq2:q < 1000000:=by omega
  have w2:wrap64 ((q:Int)+1)=((q+1:Nat):Int):=by rw[wrap64_id (by omega) (by omega)];rfl
  have hh:=half_val (i:Int) (j:Int) (by omega) (by omega)
  rw[hq] at hh;have hc:=cmp_val R (rd D ((p - q:Nat):Int)) (rd D (q:Int)) hR hok.2 hok.1;rw[Azz.l4];rw[if_pos c0,hh,w1,if_pos c1,if_pos c2,if_pos c3,if_pos c4,hc,w2];simp only[Option.bind_some];clear hc hok w1 w2 hh hq c0 c1 c2 c3 c4 hpq;by_cases e:rd R (rd D ((p - q:Nat):Int)) > rd R (rd D (q:Int))
  · rw[if_pos e,if_pos (by omega)]
  · rw[if_neg e,if_neg (by omega)]
theorem sym_l4 (R D:List Int) (a m b mid n:Int) (p s lo hi:Nat) (out:List Int) (hR:∀ z ∈ R,0≤z∧z≤1125899906842624) (hD:D.length≤100000) (hhi:hi≤50000) (hp:p≤100000) (hpc:∀ c:Nat,lo≤c→c < hi→c≤p∧p - c < D.length∧c < D.length)
    (hok:∀ q:Nat,lo≤q→q < hi→(0≤rd D (q:Int)∧rd D (q:Int) < (R.length:Int))∧(0≤rd D ((p - q:Nat):Int)∧rd D ((p - q:Nat):Int) < (R.length:Int)))
    (hlt:∀ q:Nat,lo≤q→q < s→¬ rd R (rd D ((p - q:Nat):Int)) > rd R (rd D (q:Int))) (hge:∀ q:Nat,s≤q→q < hi→rd R (rd D ((p - q:Nat):Int)) > rd R (rd D (q:Int)))
    (hend:Tells (fun k=>if(s:Int) < m then Azz.j6 k D a m b mid (s:Int) (wrap64 (n - (s:Int))) (decide (m < wrap64 (n - (s:Int)))) [R] else Azz.j6 k D a m b mid (s:Int) (wrap64 (n - (s:Int))) false [R]) out):∀ (d i j:Nat),j - i≤d→lo≤i→i≤s→s≤j→j≤hi→Tells (fun k=>Azz.l4 k D a m b mid n (i:Int) (j:Int) (p:Int) [R]) out:=by
  intro d;induction d with
  | zero =>
    intro i j h1 h2 h3 h4 h5;obtain rfl:i=s:=by omega
    obtain rfl:j=i:=by omega
    refine Tells.up hend (fun k=>?_)
    rw[Azz.l4];rw[if_neg (by omega)]
  | succ d ih =>
    intro i j h1 h2 h3 h4 h5;by_cases c:i < j
    · obtain⟨q,hq⟩:∃ q:Nat,((i:Int)+(j:Int)) / 2=(q:Int):=⟨(i+j) / 2,by omega⟩
      have hqi:i≤q∧q < j:=by omega
      have hlo:lo≤q:=by omega
      have hhq:q < hi:=by omega
      have hij:i+j < 1000000:=by omega
      have d1:j - (q+1)≤d:=by omega
      have d2:q - i≤d:=by omega
      have d3:lo≤q+1:=by omega
      have d4:q≤hi:=by omega
      have hpq:=hpc q hlo hhq;have st:=l4_step R D a m b mid n p i j q hR hD c hq hij hpq hp (hok q hlo hhq);by_cases c5:q < s
      · refine Tells.up (ih (q+1) j d1 d3 c5 h4 h5) (fun k=>?_)
        rw[st k,if_neg (hlt q hlo c5)]
      · have c6:s≤q:=Nat.le_of_not_lt c5
        refine Tells.up (ih i q d2 h2 h3 c6 d4) (fun k=>?_)
        rw[st k,if_pos (hge q c6 hhq)]
    · obtain rfl:i=s:=by omega
      obtain rfl:j=i:=by omega
      refine Tells.up hend (fun k=>?_)
      rw[Azz.l4];rw[if_neg (by omega)]
/-- Sorted blocks are merged. -/
def Merges (R:List Int) (L M pre post:List Int):Prop:=∃ S,S.Perm (L ++ M)∧S.Pairwise (ltR R)∧Tells (fun k=>Azz.f k (pre ++ L ++ M ++ post) (pre.length:Int) ((pre.length+L.length:Nat):Int) ((pre.length+L.length+M.length:Nat):Int) [R]) (pre ++ S ++ post)
theorem merge_left (R:List Int) (hR:∀ z ∈ R,0≤z∧z≤1125899906842624) (x:Int) (M pre post:List Int) (h:Blocks R [x] M) (hN:pre.length+1+M.length+post.length≤5000):Merges R [x] M pre post:=by
  obtain⟨A,B,e,hA,hB⟩:=cut_gt R (rd R x) M h.r;have hx:=h.okl x List.mem_cons_self;subst e;have hr:=List.pairwise_append.1 h.r;refine⟨A ++ x :: B,List.perm_middle,?_,?_⟩
  · rw[List.pairwise_append,List.pairwise_cons]
    refine⟨hr.1,⟨fun y hy=>?_,hr.2.1⟩,fun u hu y hy=>?_⟩
    · have h1:=hB y hy
      have h2:=h.lr x List.mem_cons_self y (List.mem_append_right _ hy);unfold ltR;omega
    · rcases List.mem_cons.1 hy with rfl|hy
      · exact Or.inl (hA u hu)
      · exact hr.2.2 u hu y hy
  · rw[List.length_append] at hN
    have hDe:pre ++ [x] ++ (A ++ B) ++ post=pre ++ x :: A ++ (B ++ post):=by simp
    have hend:=sym_l1 [] (B ++ post) x (pre.length+A.length+1) (by simp;omega) A pre rfl (by simp;omega) (by omega)
    have hl0:=sym_l0 R (pre ++ [x] ++ (A ++ B) ++ post) (pre.length:Int) x (pre.length+A.length+1) (pre.length+1) (pre.length+1+(A ++ B).length) (pre ++ A ++ x :: (B ++ post)) hR hx ⟨by omega,by simp;omega⟩ (rd_mid' (A:=pre) (B:=A ++ B ++ post) (by simp) rfl) (by simp;omega) (by simp;omega)
      (fun q h1 h2=>by
        have:=rd_pre (pre ++ [x]) (A ++ B) post q (by simp;omega) (by simp at h2 ⊢;omega)
        rw[← List.append_assoc] at this;exact h.okr _ this)
      (fun q h1 h2=>by
        have:=rd_pre (pre ++ [x]) A (B ++ post) q (by simp;omega) (by simp;omega)
        rw[show pre ++ [x] ++ (A ++ (B ++ post))=pre ++ [x] ++ (A ++ B) ++ post by simp] at this
        exact hA _ this)
      (fun q h1 h2=>by
        have:=rd_pre (pre ++ [x] ++ A) B post q (by simp;omega) (by simp at h2 ⊢;omega)
        rw[show pre ++ [x] ++ A ++ (B ++ post)=pre ++ [x] ++ (A ++ B) ++ post by simp] at this
        exact hB _ this)
      (by rw[hDe];exact hend) ((A ++ B).length) (pre.length+1) (pre.length+1+(A ++ B).length) (by omega) (by omega) (by omega) (by simp;omega) (by omega)
    have hfin:pre ++ A ++ x :: (B ++ post)=pre ++ (A ++ x :: B) ++ post:=by simp
    rw[hfin] at hl0;refine Tells.up hl0 (fun k=>?_)
    rw[Azz.f];rw[if_pos (by rw[wrap64_id (by simp;omega) (by simp;omega)];simp;omega)]
    rfl
theorem merge_right (R:List Int) (hR:∀ z ∈ R,0≤z∧z≤1125899906842624) (y:Int) (L pre post:List Int) (h:Blocks R L [y]) (hL:2≤L.length) (hN:pre.length+L.length+1+post.length≤5000):Merges R L [y] pre post:=by
  obtain⟨A,B,e,hA,hB⟩:=cut_gt R (rd R y - 1) L h.l;have hy:=h.okr y List.mem_cons_self;subst e;have hr:=List.pairwise_append.1 h.l;refine⟨A ++ y :: B,?_,?_,?_⟩
  · rw[List.append_assoc]
    exact List.Perm.append_left A (List.perm_append_comm (l₁:=[y]) (l₂:=B))
  · rw[List.pairwise_append,List.pairwise_cons]
    refine⟨hr.1,⟨fun z hz=>?_,hr.2.1⟩,fun u hu z hz=>?_⟩
    · have h1:=hB z hz
      unfold ltR;omega
    · rcases List.mem_cons.1 hz with rfl|hz
      · have h1:=hA u hu
        have h2:=h.lr u (List.mem_append_left _ hu) z List.mem_cons_self;unfold ltR;omega
      · exact hr.2.2 u hu z hz
  · rw[List.length_append] at hN hL
    have hDe:pre ++ (A ++ B) ++ [y] ++ post=pre ++ A ++ B.reverse.reverse ++ y :: post:=by simp
    have hend:=sym_l3 [] y (pre ++ A).length B.reverse (pre ++ A) post rfl (by simp <;> omega)
    have hpos:(((pre ++ A).length+B.reverse.length:Nat):Int)=((pre.length+(A ++ B).length:Nat):Int):=by simp <;> omega
    have hfin:pre ++ A ++ y :: B.reverse.reverse ++ post=pre ++ (A ++ y :: B) ++ post:=by simp
    rw[hpos,hfin,← hDe] at hend;have hl2:=sym_l2 R (pre ++ (A ++ B) ++ [y] ++ post) ((pre.length+(A ++ B).length:Nat):Int) y (pre ++ A).length pre.length (pre.length+(A ++ B).length) (pre ++ (A ++ y :: B) ++ post) hR hy ⟨by omega,by simp <;> omega⟩ (rd_mid' (A:=pre ++ (A ++ B)) (B:=post) (by simp) (by simp)) (by simp <;> omega) (by simp <;> omega)
      (fun q h1 h2=>by
        have:=rd_pre pre (A ++ B) ([y] ++ post) q (by omega) (by simp at h2 ⊢;omega)
        rw[show pre ++ ((A ++ B) ++ ([y] ++ post))=pre ++ (A ++ B) ++ [y] ++ post by simp] at this
        exact h.okl _ this)
      (fun q h1 h2=>by
        have:=rd_pre pre A (B ++ [y] ++ post) q (by omega) (by simp at h2;omega)
        rw[show pre ++ (A ++ (B ++ [y] ++ post))=pre ++ (A ++ B) ++ [y] ++ post by simp] at this
        have:=hA _ this;omega)
      (fun q h1 h2=>by
        have:=rd_pre (pre ++ A) B ([y] ++ post) q (by simpa using h1) (by simp at h2 ⊢;omega)
        rw[show pre ++ A ++ (B ++ ([y] ++ post))=pre ++ (A ++ B) ++ [y] ++ post by simp] at this
        have:=hB _ this;omega)
      hend ((A ++ B).length) pre.length (pre.length+(A ++ B).length) (by omega) (by omega) (by simp) (by simp <;> omega) (by omega)
    refine Tells.up hl2 (fun k=>?_)
    rw[Azz.f];rw[if_neg (by rw[wrap64_id (by simp <;> omega) (by simp <;> omega)];simp <;> omega),if_pos (by rw[wrap64_id (by simp <;> omega) (by simp <;> omega)];simp <;> omega)]

theorem len_pos {l:List Int} (h:l≠[]):0 < l.length:=by
  cases l with
  | nil=>exact absurd rfl h
  | cons x l=>simp
theorem sym_end (R D2 out:List Int) (a b mid s e:Int) (hT:Tells (fun k=>if mid < e then(if e < b then((Azz.f k D2 mid e b [R]).bind fun t=>some t) else some D2) else some D2) out) (D:List Int) (flag:Bool)
    (h1:flag=true→Tells (fun k=>Azz.f k D a s mid [R]) D2) (h0:flag=false→D2=D):Tells (fun k=>Azz.j8 k D a b mid s e flag [R]) out:=by
  cases flag with
  | true =>
    refine Tells.up (g:=fun k=>(Azz.f k D a s mid [R]).bind fun t=>(if mid < e then(if e < b then((Azz.f k t mid e b [R]).bind fun t=>some t) else some t) else some t)) ?_ (fun k=>?_)
    · exact Tells.bind (h1 rfl) hT
    · rw[Azz.j8];rw[if_pos rfl]
  | false =>
    have:=h0 rfl;subst this;refine Tells.up hT (fun k=>?_)
    rw[Azz.j8];rw[if_neg (by simp)]
theorem sym_last (R pre S1 L2 M2 post S2:List Int) (mid e b:Nat) (he:e=mid+L2.length) (hb:b=e+M2.length)
    (hS:L2≠[]→M2≠[]→Tells (fun k=>Azz.f k (pre ++ S1 ++ L2 ++ M2 ++ post) (mid:Int) (e:Int) (b:Int) [R]) (pre ++ S1 ++ S2 ++ post)) (hS0:L2=[]∨M2=[]→S2=L2 ++ M2) :
    Tells (fun k=>if(mid:Int) < (e:Int) then(if(e:Int) < (b:Int) then((Azz.f k (pre ++ S1 ++ L2 ++ M2 ++ post) (mid:Int) (e:Int) (b:Int) [R]).bind fun t=>some t) else some (pre ++ S1 ++ L2 ++ M2 ++ post)) else some (pre ++ S1 ++ L2 ++ M2 ++ post)) (pre ++ S1 ++ S2 ++ post):=by
  by_cases c1:L2=[]
  · have:=hS0 (Or.inl c1)
    subst this;subst c1;simp at he;refine Tells.congr (Tells.const _) (fun k=>?_)
    rw[if_neg (by omega)]
    simp
  · by_cases c2:M2=[]
    · have:=hS0 (Or.inr c2)
      subst this;subst c2;simp at hb;refine Tells.congr (Tells.const _) (fun k=>?_)
      rw[if_neg (c:=(e:Int) < (b:Int)) (by omega)]
      split <;> simp
    · have l1:=len_pos c1
      have l2:=len_pos c2;refine Tells.congr (Tells.bind (hS c1 c2) (Tells.const _)) (fun k=>?_)
      rw[if_pos (by omega),if_pos (by omega)]
theorem sym_tail (R pre post L1 L2 M1 M2 S1 S2:List Int) (a s m e b mid:Nat) (ha:a=pre.length) (hs:s=a+L1.length) (hm:m=s+L2.length) (he:e=m+M1.length) (hb:b=e+M2.length) (hmid:mid=s+M1.length) (hN:b+post.length≤5000)
    (h1:L1≠[]→M1≠[]→Tells (fun k=>Azz.f k (pre ++ L1 ++ M1 ++ (L2 ++ M2 ++ post)) (a:Int) (s:Int) (mid:Int) [R]) (pre ++ S1 ++ (L2 ++ M2 ++ post))) (h10:L1=[]∨M1=[]→S1=L1 ++ M1)
    (h2:L2≠[]→M2≠[]→Tells (fun k=>Azz.f k (pre ++ S1 ++ L2 ++ M2 ++ post) (mid:Int) (e:Int) (b:Int) [R]) (pre ++ S1 ++ S2 ++ post)) (h20:L2=[]∨M2=[]→S2=L2 ++ M2) :
    Tells (fun k=>if(s:Int) < (m:Int) then Azz.j6 k (pre ++ L1 ++ L2 ++ (M1 ++ M2) ++ post) (a:Int) (m:Int) (b:Int) (mid:Int) (s:Int) (e:Int) (decide ((m:Int) < (e:Int))) [R] else Azz.j6 k (pre ++ L1 ++ L2 ++ (M1 ++ M2) ++ post) (a:Int) (m:Int) (b:Int) (mid:Int) (s:Int) (e:Int) false [R]) (pre ++ S1 ++ S2 ++ post):=by
  have hlast:=sym_last R pre S1 L2 M2 post S2 mid e b (by omega) hb h2 h20
  have h7:Tells (fun k=>Azz.j7 k (pre ++ L1 ++ M1 ++ (L2 ++ M2 ++ post)) (a:Int) (b:Int) (mid:Int) (s:Int) (e:Int) [R]) (pre ++ S1 ++ S2 ++ post):=by
    by_cases c1:L1=[]
    · refine Tells.up (sym_end R _ _ (a:Int) _ _ (s:Int) _ hlast (pre ++ L1 ++ M1 ++ (L2 ++ M2 ++ post)) false (by simp) (fun _=>by rw[h10 (Or.inl c1)];simp)) (fun k=>?_)
      subst c1;simp at hs;rw[Azz.j7];rw[if_neg (by omega)]
    · have l1:=len_pos c1
      by_cases c2:M1=[]
      · refine Tells.up (sym_end R _ _ (a:Int) _ _ (s:Int) _ hlast (pre ++ L1 ++ M1 ++ (L2 ++ M2 ++ post)) false (by simp) (fun _=>by rw[h10 (Or.inr c2)];simp)) (fun k=>?_)
        subst c2;simp at hmid;rw[Azz.j7];rw[if_pos (by omega),show decide ((s:Int) < (mid:Int))=false from decide_eq_false (by omega)]
      · have l2:=len_pos c2
        refine Tells.up (sym_end R _ _ (a:Int) _ _ (s:Int) _ hlast (pre ++ L1 ++ M1 ++ (L2 ++ M2 ++ post)) true (fun _=>?_) (by simp)) (fun k=>?_)
        · have:=h1 c1 c2
          rw[show pre ++ S1 ++ (L2 ++ M2 ++ post)=pre ++ S1 ++ L2 ++ M2 ++ post by simp] at this
          exact this
        · rw[Azz.j7]
          rw[if_pos (by omega),show decide ((s:Int) < (mid:Int))=true from decide_eq_true (by omega)]
  by_cases c1:L2=[]
  · subst c1
    simp at hm;refine Tells.congr (g:=fun k=>Azz.j6 k (pre ++ L1 ++ M1 ++ ([] ++ M2 ++ post)) (a:Int) (m:Int) (b:Int) (mid:Int) (s:Int) (e:Int) false [R]) ?_ (fun k=>?_)
    · refine Tells.up h7 (fun k=>?_)
      rw[Azz.j6];rw[if_neg (by simp)]
    · rw[if_neg (by omega)]
      simp
  · have l1:=len_pos c1
    by_cases c2:M1=[]
    · subst c2
      simp at he;refine Tells.congr (g:=fun k=>Azz.j6 k (pre ++ L1 ++ [] ++ (L2 ++ M2 ++ post)) (a:Int) (m:Int) (b:Int) (mid:Int) (s:Int) (e:Int) false [R]) ?_ (fun k=>?_)
      · refine Tells.up h7 (fun k=>?_)
        rw[Azz.j6];rw[if_neg (by simp)]
      · rw[if_pos (by omega),show decide ((m:Int) < (e:Int))=false from decide_eq_false (by omega)]
        simp
    · have l2:=len_pos c2
      refine Tells.congr (g:=fun k=>Azz.j6 k (pre ++ L1 ++ L2 ++ M1 ++ (M2 ++ post)) (a:Int) (m:Int) (b:Int) (mid:Int) (s:Int) (e:Int) true [R]) ?_ (fun k=>?_)
      · have hr:=rotate_tells [R] (pre ++ L1) L2 M1 (M2 ++ post) (by omega) (by omega) (by simp;omega)
        have e1:(((pre ++ L1).length:Nat):Int)=(s:Int):=by simp;omega
        have e2:(((pre ++ L1).length+L2.length:Nat):Int)=(m:Int):=by simp;omega
        have e3:(((pre ++ L1).length+L2.length+M1.length:Nat):Int)=(e:Int):=by simp;omega
        rw[e1,e2,e3,show pre ++ L1 ++ M1 ++ L2 ++ (M2 ++ post)=pre ++ L1 ++ M1 ++ (L2 ++ M2 ++ post) by simp] at hr
        refine Tells.up (Tells.bind (g:=fun k t=>Azz.j7 k t (a:Int) (b:Int) (mid:Int) (s:Int) (e:Int) [R]) hr h7) (fun k=>?_)
        rw[Azz.j6];rw[if_pos rfl]
      · rw[if_pos (by omega),show decide ((m:Int) < (e:Int))=true from decide_eq_true (by omega)]
        simp
theorem sym_glue (R L1 L2 M1 M2 S1 S2:List Int) (hL:(L1 ++ L2).Pairwise (ltR R)) (hM:(M1 ++ M2).Pairwise (ltR R)) (h12:∀ x ∈ L1,∀ y ∈ M2,ltR R x y) (h21:∀ x ∈ M1,∀ y ∈ L2,ltR R x y) (p1:S1.Perm (L1 ++ M1)) (p2:S2.Perm (L2 ++ M2)) (s1:S1.Pairwise (ltR R)) (s2:S2.Pairwise (ltR R)):(S1 ++ S2).Perm (L1 ++ L2 ++ (M1 ++ M2))∧(S1 ++ S2).Pairwise (ltR R):=by
  have hL':=List.pairwise_append.1 hL;have hM':=List.pairwise_append.1 hM;constructor
  · refine(List.Perm.append p1 p2).trans ?_
    rw[List.append_assoc,List.append_assoc];refine List.Perm.append_left L1 ?_;rw[← List.append_assoc,← List.append_assoc];exact List.Perm.append_right M2 List.perm_append_comm
  · rw[List.pairwise_append]
    refine⟨s1,s2,fun x hx y hy=>?_⟩
    have hx':=p1.mem_iff.1 hx;have hy':=p2.mem_iff.1 hy;rcases List.mem_append.1 hx' with hx'|hx' <;> rcases List.mem_append.1 hy' with hy'|hy'
    · exact hL'.2.2 x hx' y hy'
    · exact h12 x hx' y hy'
    · exact h21 x hx' y hy'
    · exact hM'.2.2 x hx' y hy'

theorem split_at (l:List Int) (n:Nat) (hn:n≤l.length):∃ a b,l=a ++ b∧a.length=n∧(∀ x ∈ a,∃ u:Nat,u < n∧x=rd l (u:Int))∧(∀ x ∈ b,∃ u:Nat,n≤u∧u < l.length∧x=rd l (u:Int)) :=
  ⟨l.take n,l.drop n,(List.take_append_drop n l).symm,by rw[List.length_take];omega,fun x hx=>by
    obtain⟨u,h1,_,h3⟩:=mem_take_idx hx;exact⟨u,h1,h3⟩,fun x hx=>mem_drop_idx hx⟩
theorem Blocks.sub {R L1 L2 M1 M2:List Int} (h:Blocks R (L1 ++ L2) (M1 ++ M2)):Blocks R L1 M1∧Blocks R L2 M2:=by
  have h1:=List.pairwise_append.1 h.l;have h2:=List.pairwise_append.1 h.r;exact⟨⟨h1.1,h2.1,fun x hx y hy=>h.lr x (List.mem_append_left _ hx) y (List.mem_append_left _ hy),fun x hx=>h.okl x (List.mem_append_left _ hx),fun x hx=>h.okr x (List.mem_append_left _ hx)⟩,
    ⟨h1.2.1,h2.2.1,fun x hx y hy=>h.lr x (List.mem_append_right _ hx) y (List.mem_append_right _ hy),fun x hx=>h.okl x (List.mem_append_right _ hx),fun x hx=>h.okr x (List.mem_append_right _ hx)⟩⟩
theorem merges_or (R X Y pre post:List Int) (hB:Blocks R X Y) (ih:X≠[]→Y≠[]→Merges R X Y pre post):∃ S,S.Perm (X ++ Y)∧S.Pairwise (ltR R)∧(X≠[]→Y≠[]→Tells (fun k=>Azz.f k (pre ++ X ++ Y ++ post) (pre.length:Int) ((pre.length+X.length:Nat):Int) ((pre.length+X.length+Y.length:Nat):Int) [R]) (pre ++ S ++ post))∧(X=[]∨Y=[]→S=X ++ Y):=by
  by_cases c1:X=[]
  · subst c1
    exact⟨Y,List.Perm.refl _,hB.r,fun h=>absurd rfl h,fun _=>rfl⟩
  · by_cases c2:Y=[]
    · subst c2
      exact⟨X,by simp,hB.l,fun _ h=>absurd rfl h,fun _=>by simp⟩
    · obtain⟨S,p,s,t⟩:=ih c1 c2
      exact⟨S,p,s,fun _ _=>t,fun h=>absurd h (by simp [c1,c2])⟩
theorem sym_h12 {R L M:List Int} (hl:L.Pairwise (ltR R)) (hr:M.Pairwise (ltR R)) {i j:Nat} (hi:i < L.length) (hq:¬ rd R (rd M (j:Int)) > rd R (rd L (i:Int))) {u v:Nat} (hu:u≤i) (hv:j≤v) (hvm:v < M.length):rd R (rd M (v:Int))≤rd R (rd L (u:Int)) :=
  Int.le_trans (pw_idx hr hv hvm) (Int.le_trans (Int.not_lt.1 hq) (pw_idx hl hu hi))
theorem sym_h21 {R L M:List Int} (hl:L.Pairwise (ltR R)) (hr:M.Pairwise (ltR R)) {i j:Nat} (hi:i < M.length) (hq:rd R (rd M (i:Int)) > rd R (rd L (j:Int))) {u v:Nat} (hu:u≤i) (hv:j≤v) (hvm:v < L.length):rd R (rd L (v:Int)) < rd R (rd M (u:Int)) :=
  Int.lt_of_le_of_lt (pw_idx hl hv hvm) (Int.lt_of_lt_of_le hq (pw_idx hr hu hi))
theorem sym_start (R D:List Int) (A m b mid:Nat) (hAm:A+2≤m) (hmb:m+2≤b) (hb:b≤5000) (hmid:mid=(A+b) / 2):∃ lo hi:Nat,lo≤hi∧A≤lo∧hi≤m∧hi≤mid∧(hi=mid∨hi=m)∧(lo=A∨lo+b=mid+m)∧mid+m≤lo+b∧∀ out,Tells (fun k=>Azz.l4 k D (A:Int) (m:Int) (b:Int) (mid:Int) ((mid+m:Nat):Int) (lo:Int) (hi:Int) ((mid+m - 1:Nat):Int) [R]) out→Tells (fun k=>Azz.f k D (A:Int) (m:Int) (b:Int) [R]) out:=by
  have hh:=half_val (A:Int) (b:Int) (by omega) (by omega)
  rw[show((A:Int)+(b:Int)) / 2=(mid:Int) by omega] at hh
  have w1:wrap64 ((mid:Int)+(m:Int))=((mid+m:Nat):Int):=by rw[wrap64_id (by omega) (by omega)];omega
  have w3:wrap64 (((mid+m:Nat):Int) - 1)=((mid+m - 1:Nat):Int):=by rw[wrap64_id (by omega) (by omega)];omega
  have n1:¬ wrap64 ((m:Int) - (A:Int))=1:=by rw[wrap64_id (by omega) (by omega)];omega
  have n2:¬ wrap64 ((b:Int) - (m:Int))=1:=by rw[wrap64_id (by omega) (by omega)];omega
  by_cases c:mid < m
  · have w2:wrap64 (((mid+m:Nat):Int) - (b:Int))=((mid+m - b:Nat):Int):=by rw[wrap64_id (by omega) (by omega)];omega
    refine⟨mid+m - b,mid,by omega,by omega,by omega,by omega,Or.inl rfl,Or.inr (by omega),by omega,fun out h=>?_⟩
    refine Tells.up (g:=fun k=>Azz.j4 k D (A:Int) (m:Int) (b:Int) (mid:Int) ((mid+m:Nat):Int) ((mid+m - b:Nat):Int) (mid:Int) [R]) ?_ (fun k=>?_)
    · refine Tells.up h (fun k=>?_)
      rw[Azz.j4];rw[w3]
    · rw[Azz.f]
      rw[if_neg n1,if_neg n2,hh,if_pos (by omega),w1,w2]
  · refine⟨A,m,by omega,by omega,by omega,by omega,Or.inr rfl,Or.inl rfl,by omega,fun out h=>?_⟩
    refine Tells.up (g:=fun k=>Azz.j4 k D (A:Int) (m:Int) (b:Int) (mid:Int) ((mid+m:Nat):Int) (A:Int) (m:Int) [R]) ?_ (fun k=>?_)
    · refine Tells.up h (fun k=>?_)
      rw[Azz.j4];rw[w3]
    · rw[Azz.f]
      rw[if_neg n1,if_neg n2,hh,if_neg (by omega),w1]
theorem merge_gen (R:List Int) (hR:∀ z ∈ R,0≤z∧z≤1125899906842624) (L M pre post:List Int) (hB:Blocks R L M) (hN:pre.length+L.length+M.length+post.length≤5000) (hL:2≤L.length) (hM:2≤M.length)
    (ih:∀ X Y pre' post':List Int,X.length+Y.length < L.length+M.length→X≠[]→Y≠[]→Blocks R X Y→pre'.length+X.length+Y.length+post'.length≤5000→Merges R X Y pre' post'):Merges R L M pre post:=by
  obtain⟨A,hA⟩:∃ A:Nat,A=pre.length:=⟨_,rfl⟩;obtain⟨m,hm⟩:∃ m:Nat,m=A+L.length:=⟨_,rfl⟩;obtain⟨b,hb⟩:∃ b:Nat,b=m+M.length:=⟨_,rfl⟩;obtain⟨mid,hmid⟩:∃ q:Nat,q=(A+b) / 2:=⟨_,rfl⟩;have hmid2:2 * mid≤A+b∧A+b≤2 * mid+1:=by omega
  obtain⟨D,hD⟩:∃ D:List Int,D=pre ++ L ++ M ++ post:=⟨_,rfl⟩;have hb5:b+post.length≤5000:=by omega
  have hDl:D.length=b+post.length:=by rw[hD];simp;omega
  obtain⟨lo,hi,g1,g2,g3,g4,g5,g6,g7,hf⟩:=sym_start R D A m b mid (by omega) (by omega) (by omega) hmid
  obtain⟨p,hp⟩:∃ p:Nat,p=mid+m - 1:=⟨_,rfl⟩;have hp1:p+1=mid+m:=by omega
  clear hmid;have hdL:∀ c:Nat,A≤c→c < m→rd D (c:Int)=rd L ((c - A:Nat):Int):=fun c h1 h2=>by
    have:=rd_seg pre L (M ++ post) c (by omega) (by omega)
    rw[show pre ++ L ++ (M ++ post)=D by rw[hD];simp] at this
    rw[this,hA]
  have hdM:∀ c:Nat,m≤c→c < b→rd D (c:Int)=rd M ((c - m:Nat):Int):=fun c h1 h2=>by
    have:=rd_seg (pre ++ L) M post c (by simp;omega) (by simp;omega)
    rw[← hD] at this;rw[this,show(pre ++ L).length=m by simp;omega]
  have hpc:∀ c:Nat,lo≤c→c < hi→A≤c∧c < m∧m≤p - c∧p - c < b∧c≤p:=fun c h1 h2=>by omega
  have hokL:∀ u:Nat,u < L.length→0≤rd L (u:Int)∧rd L (u:Int) < (R.length:Int):=fun u hu=>hB.okl _ (rd_mem L _ (by omega) (by omega))
  have hokM:∀ u:Nat,u < M.length→0≤rd M (u:Int)∧rd M (u:Int) < (R.length:Int):=fun u hu=>hB.okr _ (rd_mem M _ (by omega) (by omega))
  obtain⟨s,s1,s2,hnq,hq⟩:=cut_nat (fun c=>rd R (rd D ((p - c:Nat):Int)) > rd R (rd D (c:Int))) (hi - lo) lo hi (Nat.le_refl _) g1 (fun c c' h1 h2 h3 h4=>by
    have q1:=hpc c h1 (by omega)
    have q2:=hpc c' (by omega) h3
    have a1:=pw_idx hB.l (u:=c - A) (v:=c' - A) (by omega) (by omega)
    have a2:=pw_idx hB.r (u:=p - c' - m) (v:=p - c - m) (by omega) (by omega)
    rw[hdL c q1.1 q1.2.1,hdM (p - c) q1.2.2.1 q1.2.2.2.1] at h4;rw[hdL c' q2.1 q2.2.1,hdM (p - c') q2.2.2.1 q2.2.2.2.1];exact Int.lt_of_le_of_lt a1 (Int.lt_of_lt_of_le h4 a2))
  obtain⟨e,he⟩:∃ e:Nat,e+s=mid+m:=⟨mid+m - s,by omega⟩
  obtain⟨L1,L2,eL,l1,iL1,iL2⟩:=split_at L (s - A) (by omega)
  obtain⟨M1,M2,eM,m1,iM1,iM2⟩:=split_at M (mid - s) (by omega)
  have h12:∀ x ∈ L1,∀ y ∈ M2,ltR R x y:=fun x hx y hy=>by
    have hxy:=hB.lr x (by rw[eL];exact List.mem_append_left _ hx) y (by rw[eM];exact List.mem_append_right _ hy)
    obtain⟨u,u1,rfl⟩:=iL1 x hx;obtain⟨v,v1,v2,rfl⟩:=iM2 y hy;have hs:lo≤s - 1∧s - 1 < s:=by omega
    have q1:=hpc (s - 1) hs.1 (by omega)
    have hn:=hnq (s - 1) hs.1 hs.2;rw[hdL _ q1.1 q1.2.1,hdM _ q1.2.2.1 q1.2.2.2.1] at hn;have:=sym_h12 hB.l hB.r (by omega) hn (u:=u) (v:=v) (by omega) (by omega) v2
    rcases Int.lt_or_eq_of_le this with h|h
    · exact Or.inl h
    · exact Or.inr ⟨h.symm,hxy⟩
  have h21:∀ x ∈ M1,∀ y ∈ L2,ltR R x y:=fun x hx y hy=>by
    obtain⟨u,u1,rfl⟩:=iM1 x hx;obtain⟨v,v1,v2,rfl⟩:=iL2 y hy;have hs:s < hi:=by omega
    have q1:=hpc s s1 hs;have hn:=hq s (Nat.le_refl _) hs;rw[hdL _ q1.1 q1.2.1,hdM _ q1.2.2.1 q1.2.2.2.1] at hn;exact Or.inl (sym_h21 hB.l hB.r (by omega) hn (u:=u) (v:=v) (by omega) (by omega) v2)
  have lenL:L.length=L1.length+L2.length:=by rw[eL,List.length_append]
  have lenM:M.length=M1.length+M2.length:=by rw[eM,List.length_append]
  have hsub:=Blocks.sub (R:=R) (L1:=L1) (L2:=L2) (M1:=M1) (M2:=M2) (by rw[← eL,← eM];exact hB)
  obtain⟨S1,p1,t1,f1,n1⟩:=merges_or R L1 M1 pre (L2 ++ M2 ++ post) hsub.1 (fun a1 a2=>ih L1 M1 pre (L2 ++ M2 ++ post) (by omega) a1 a2 hsub.1 (by simp;omega))
  obtain⟨S2,p2,t2,f2,n2⟩:=merges_or R L2 M2 (pre ++ S1) post hsub.2 (fun a1 a2=>ih L2 M2 (pre ++ S1) post (by omega) a1 a2 hsub.2 (by have:=p1.length_eq;simp at this ⊢;omega))
  have lenS:S1.length=L1.length+M1.length:=by have:=p1.length_eq;simpa using this
  have gl:=sym_glue R L1 L2 M1 M2 S1 S2 (by rw[← eL];exact hB.l) (by rw[← eM];exact hB.r) h12 h21 p1 p2 t1 t2
  refine⟨S1 ++ S2,by rw[eL,eM];exact gl.1,gl.2,?_⟩
  have x1:pre.length+L1.length=s:=by omega
  have x2:pre.length+L1.length+M1.length=mid:=by omega
  have x3:(pre ++ S1).length=mid:=by simp;omega
  have x4:(pre ++ S1).length+L2.length=e:=by omega
  have x5:(pre ++ S1).length+L2.length+M2.length=b:=by omega
  rw[x2,x1,← hA] at f1;rw[x5,x4,x3] at f2;have tail:=sym_tail R pre post L1 L2 M1 M2 S1 S2 A s m e b mid hA (by omega) (by omega) (by omega) (by omega) (by omega) hb5 f1 n1 f2 n2
  rw[show pre ++ L1 ++ L2 ++ (M1 ++ M2) ++ post=D by rw[hD,eL,eM];simp] at tail
  have w:wrap64 (((mid+m:Nat):Int) - (s:Int))=(e:Int):=by rw[wrap64_id (by omega) (by omega)];omega
  have h4:=sym_l4 R D (A:Int) (m:Int) (b:Int) (mid:Int) ((mid+m:Nat):Int) p s lo hi (pre ++ S1 ++ S2 ++ post) hR (by omega) (by omega) (by omega) (fun c h1 h2=>by have:=hpc c h1 h2;omega)
    (fun q h1 h2=>by
      have q1:=hpc q h1 h2;rw[hdL _ q1.1 q1.2.1,hdM _ q1.2.2.1 q1.2.2.2.1];exact⟨hokL _ (by omega),hokM _ (by omega)⟩) hnq hq (by rw[w];exact tail) (hi - lo) lo hi (Nat.le_refl _) (Nat.le_refl _) s1 s2 (Nat.le_refl _)
  have:=hf _ (by rw[← hp];exact h4)
  rw[show pre ++ (S1 ++ S2) ++ post=pre ++ S1 ++ S2 ++ post by simp,← hA,← hm,← hb,← hD]
  exact this
theorem merges (R:List Int) (hR:∀ z ∈ R,0≤z∧z≤1125899906842624):∀ (d:Nat) (L M pre post:List Int),L.length+M.length≤d→L≠[]→M≠[]→Blocks R L M→pre.length+L.length+M.length+post.length≤5000→Merges R L M pre post:=by
  intro d;induction d with
  | zero=>intro L M pre post h hL;have:=len_pos hL;omega
  | succ d ih =>
    intro L M pre post hd hL hM hB hN;have pL:=len_pos hL;have pM:=len_pos hM;by_cases c1:L.length=1
    · obtain⟨x,rfl⟩:=List.length_eq_one_iff.1 c1
      exact merge_left R hR x M pre post hB (by omega)
    · by_cases c2:M.length=1
      · obtain⟨y,rfl⟩:=List.length_eq_one_iff.1 c2
        exact merge_right R hR y L pre post hB (by omega) (by omega)
      · exact merge_gen R hR L M pre post hB hN (by omega) (by omega) (fun X Y pre' post' h1 h2 h3 h4 h5=>ih X Y pre' post' (by omega) h2 h3 h4 h5)

def seg (lo len:Nat):List Int:=(List.range len).map (fun i:Nat=>((lo+i:Nat):Int))
theorem seg_len (lo len:Nat):(seg lo len).length=len:=by simp [seg]
theorem seg_add (lo u v:Nat):seg lo (u+v)=seg lo u ++ seg (lo+u) v:=by
  unfold seg;rw[List.range_add,List.map_append,List.map_map];congr 1
  apply List.map_congr_left;intro x _;show((lo+(u+x):Nat):Int)=((lo+u+x:Nat):Int)
  omega
theorem seg_zero (n:Nat):seg 0 n=idx n:=by
  unfold seg idx;apply List.map_congr_left;intro x _;simp
theorem mem_seg {lo len:Nat} {x:Int}:x ∈ seg lo len ↔ (lo:Int)≤x∧x < ((lo+len:Nat):Int):=by
  unfold seg;rw[List.mem_map];constructor
  · rintro ⟨i,hi,rfl⟩
    rw[List.mem_range] at hi;omega
  · intro h
    exact⟨(x - lo).toNat,by rw[List.mem_range];omega,by omega⟩
theorem seg_lt (lo len:Nat):(seg lo len).Pairwise (· < ·):=by
  unfold seg;rw[List.pairwise_map];refine(List.pairwise_lt_range (n:=len)).imp ?_;intro a b h;omega
/-- A sorted run of the numbers lo,lo+1,.. -/
def SegRun (R:List Int) (lo:Nat) (S:List Int):Prop:=S.Perm (seg lo S.length)∧S.Pairwise (ltR R)
theorem SegRun.mem {R:List Int} {lo:Nat} {S:List Int} (h:SegRun R lo S) {x:Int} (hx:x ∈ S):(lo:Int)≤x∧x < ((lo+S.length:Nat):Int):=mem_seg.1 (h.1.mem_iff.1 hx)
theorem segRun_ins (R:List Int) (lo len:Nat):SegRun R lo (insAll R (seg lo len) []).reverse∧(insAll R (seg lo len) []).reverse.length=len:=by
  have hp:(insAll R (seg lo len) []).reverse.Perm (seg lo len):=by
    have:=(List.reverse_perm _).trans (insAll_perm R (seg lo len) []);rwa [List.append_nil] at this
  have hl:(insAll R (seg lo len) []).reverse.length=len:=by rw[hp.length_eq,seg_len]
  refine⟨⟨by rw[hl];exact hp,?_⟩,hl⟩
  rw[List.pairwise_reverse];exact insAll_sorted R (seg lo len) [] List.Pairwise.nil (seg_lt lo len) (by simp)
inductive Runs (R:List Int) (bs:Nat):Nat→List Int→Prop
  | last (lo:Nat) (S:List Int) (h:S.length≤bs) (hs:SegRun R lo S):Runs R bs lo S
  | cons (lo:Nat) (S T:List Int) (h:S.length=bs) (hs:SegRun R lo S) (ht:Runs R bs (lo+bs) T):Runs R bs lo (S ++ T)
theorem segRun_nil (R:List Int) (lo:Nat):SegRun R lo []:=⟨by simp [seg],List.Pairwise.nil⟩
theorem Runs.head {R:List Int} {bs lo:Nat} {T:List Int} (h:Runs R bs lo T) (hb:bs≤T.length):∃ S T',T=S ++ T'∧S.length=bs∧SegRun R lo S∧Runs R bs (lo+bs) T':=by
  cases h with
  | last _ _ h hs=>exact⟨T,[],by simp,by omega,hs,Runs.last _ [] (by simp) (segRun_nil R _)⟩
  | cons _ S T' h hs ht=>exact⟨S,T',rfl,h,hs,ht⟩
theorem Runs.single {R:List Int} {bs lo:Nat} {T:List Int} (h:Runs R bs lo T) (hb:T.length≤bs):SegRun R lo T:=by
  cases h with
  | last _ _ h hs=>exact hs
  | cons _ S T' h hs ht =>
    have:T'=[]:=by
      rw[List.length_append] at hb;exact List.eq_nil_of_length_eq_zero (by omega)
    subst this;simpa using hs
theorem segRun_blocks {R:List Int} {lo:Nat} {S T:List Int} (h1:SegRun R lo S) (h2:SegRun R (lo+S.length) T) (hn:lo+S.length+T.length≤R.length):Blocks R S T :=
  ⟨h1.2,h2.2,fun x hx y hy=>by have:=h1.mem hx;have:=h2.mem hy;omega,fun x hx=>by have:=h1.mem hx;omega,fun x hx=>by have:=h2.mem hx;omega⟩
theorem segRun_merged {R:List Int} {lo:Nat} {S T U:List Int} (h1:SegRun R lo S) (h2:SegRun R (lo+S.length) T) (hp:U.Perm (S ++ T)) (hs:U.Pairwise (ltR R)):SegRun R lo U:=by
  refine⟨?_,hs⟩;have hl:U.length=S.length+T.length:=by rw[hp.length_eq,List.length_append]
  rw[hl,seg_add];exact hp.trans (List.Perm.append h1.1 h2.1)
theorem segRun_all {R:List Int} {n:Nat} {S:List Int} (h:SegRun R 0 S) (hn:S.length=n):S=ordS R n:=by
  refine ordS_unique R n S ?_ h.2;have:=h.1;rwa [hn,seg_zero] at this
theorem stable_l2 (R:List Int) (hR:∀ z ∈ R,0≤z∧z≤1125899906842624) (n bs:Nat) (hn:n≤1000) (hRn:R.length=n) (hb1:1≤bs) (hb2:bs < n) (out:List Int):∀ (d a:Nat) (pre T:List Int),T.length≤d→pre.length=a→a+T.length=n→Runs R bs a T →
    (∀ T',Runs R (2 * bs) a T'→T'.length=T.length→Tells (fun k=>Azw.l1 k (pre ++ T') (n:Int) ((2 * bs:Nat):Int) [R]) out)→Tells (fun k=>Azw.l2 k (pre ++ T) (n:Int) (bs:Int) (a:Int) ((a+2 * bs:Nat):Int) [R]) out:=by
  intro d;induction d with
  | zero =>
    intro a pre T h1 h2 h3 h4 h5;have hT:SegRun R a T:=h4.single (by omega)
    refine Tells.up (h5 T (Runs.last _ _ (by omega) hT) rfl) (fun k=>?_)
    rw[Azw.l2];have w1:wrap64 ((a:Int)+(bs:Int))=(a:Int)+(bs:Int):=wrap64_id (by omega) (by omega)
    have w2:wrap64 ((bs:Int) * 2)=((2 * bs:Nat):Int):=by rw[wrap64_id (by omega) (by omega)];omega
    rw[if_neg (by omega),w1,if_neg (by omega),w2]
  | succ d ih =>
    intro a pre T h1 h2 h3 h4 h5;have w1:wrap64 ((a:Int)+(bs:Int))=((a+bs:Nat):Int):=by rw[wrap64_id (by omega) (by omega)];omega
    have w2:wrap64 ((bs:Int) * 2)=((2 * bs:Nat):Int):=by rw[wrap64_id (by omega) (by omega)];omega
    by_cases c1:a+2 * bs≤n
    · obtain⟨S1,T1,e1,l1,r1,h41⟩:=h4.head (by omega)
      subst e1;rw[List.length_append] at h1 h3 h5;obtain⟨S2,T2,e2,l2,r2,h42⟩:=h41.head (by omega)
      subst e2;rw[List.length_append] at h1 h3 h5;have r2':SegRun R (a+S1.length) S2:=by rw[l1];exact r2
      obtain⟨U,pU,sU,tU⟩:=merges R hR (S1.length+S2.length) S1 S2 pre T2 (Nat.le_refl _) (by intro h;subst h;simp at l1;omega) (by intro h;subst h;simp at l2;omega) (segRun_blocks r1 r2' (by omega)) (by omega)
      have hU:U.length=2 * bs:=by rw[pU.length_eq,List.length_append];omega
      have rU:=segRun_merged r1 r2' pU sU;rw[show pre.length+S1.length+S2.length=a+2 * bs by omega,show pre.length+S1.length=a+bs by omega,h2,show pre ++ S1 ++ S2 ++ T2=pre ++ (S1 ++ (S2 ++ T2)) by simp] at tU
      have nx:=ih (a+2 * bs) (pre ++ U) T2 (by omega) (by rw[List.length_append];omega) (by omega) (by rw[show a+2 * bs=a+bs+bs by omega];exact h42) (fun T' hT' hl=>by
        have:=h5 (U ++ T') (Runs.cons _ _ _ hU rU hT') (by rw[List.length_append];omega)
        rwa [← List.append_assoc] at this)
      have w3:wrap64 (2 * (bs:Int))=((2 * bs:Nat):Int):=by rw[wrap64_id (by omega) (by omega)];omega
      have w4:wrap64 (((a+2 * bs:Nat):Int)+((2 * bs:Nat):Int))=((a+2 * bs+2 * bs:Nat):Int):=by rw[wrap64_id (by omega) (by omega)];omega
      refine Tells.up (Tells.bind (g:=fun k t=>Azw.l2 k t (n:Int) (bs:Int) ((a+2 * bs:Nat):Int) ((a+2 * bs+2 * bs:Nat):Int) [R]) tU nx) (fun k=>?_)
      rw[Azw.l2];rw[if_pos (by omega),w1,w3,w4]
    · by_cases c2:a+bs < n
      · obtain⟨S1,T1,e1,l1,r1,h41⟩:=h4.head (by omega)
        subst e1;rw[List.length_append] at h1 h3 h5;have r2':SegRun R (a+S1.length) T1:=by rw[l1];exact h41.single (by omega)
        obtain⟨U,pU,sU,tU⟩:=merges R hR (S1.length+T1.length) S1 T1 pre [] (Nat.le_refl _) (by intro h;subst h;simp at l1;omega) (by intro h;subst h;simp at h3;omega) (segRun_blocks r1 r2' (by omega)) (by simp;omega)
        have hU:U.length=S1.length+T1.length:=by rw[pU.length_eq,List.length_append]
        have rU:=segRun_merged r1 r2' pU sU;rw[show pre.length+S1.length+T1.length=n by omega,show pre.length+S1.length=a+bs by omega,h2,show pre ++ S1 ++ T1 ++ []=pre ++ (S1 ++ T1) by simp,show pre ++ U ++ []=pre ++ U by simp] at tU
        refine Tells.up (Tells.bind (g:=fun k t=>Azw.l1 k t (n:Int) ((2 * bs:Nat):Int) [R]) tU (h5 U (Runs.last _ _ (by omega) rU) hU)) (fun k=>?_)
        rw[Azw.l2];rw[if_neg (by omega),w1,if_pos (by omega),w2]
      · have hT:SegRun R a T:=h4.single (by omega)
        refine Tells.up (h5 T (Runs.last _ _ (by omega) hT) rfl) (fun k=>?_)
        rw[Azw.l2];rw[if_neg (by omega),w1,if_neg (by omega),w2]
theorem stable_l1 (R:List Int) (hR:∀ z ∈ R,0≤z∧z≤1125899906842624) (n:Nat) (hn:n≤1000) (hRn:R.length=n):∀ (d bs:Nat),n≤bs+d→1≤bs→bs≤2000→∀ T,Runs R bs 0 T→T.length=n→Tells (fun k=>Azw.l1 k T (n:Int) (bs:Int) [R]) (ordS R n):=by
  intro d;induction d with
  | zero =>
    intro bs h1 h2 h3 T hT hl;have:=segRun_all (hT.single (by omega)) hl
    subst this;refine Tells.up (Tells.const _) (fun k=>?_)
    rw[Azw.l1];rw[if_neg (by omega)]
  | succ d ih =>
    intro bs h1 h2 h3 T hT hl;by_cases c:bs < n
    · have:=stable_l2 R hR n bs hn hRn h2 c (ordS R n) n 0 [] T (by omega) rfl (by omega) hT (fun T' hT' hl'=>by
        have:=ih (2 * bs) (by omega) (by omega) (by omega) T' hT' (by omega)
        simpa using this)
      have w:wrap64 (2 * (bs:Int))=((0+2 * bs:Nat):Int):=by rw[wrap64_id (by omega) (by omega)];omega
      refine Tells.up this (fun k=>?_)
      rw[Azw.l1];rw[if_pos (by omega),w]
      rfl
    · have:=segRun_all (hT.single (by omega)) hl
      subst this;refine Tells.up (Tells.const _) (fun k=>?_)
      rw[Azw.l1];rw[if_neg (by omega)]
theorem stable_l0 (R:List Int) (hR:∀ z ∈ R,0≤z∧z≤1125899906842624) (n:Nat) (hn:n≤1000) (hRn:R.length=n) (out:List Int):∀ (d a len:Nat) (pre:List Int),len≤d→pre.length=a→a+len=n →
    (∀ T,Runs R 20 a T→T.length=len→Tells (fun k=>Azw.l1 k (pre ++ T) (n:Int) 20 [R]) out)→Tells (fun k=>Azw.l0 k (pre ++ seg a len) (n:Int) 20 (a:Int) ((a+20:Nat):Int) [R]) out:=by
  intro d;induction d with
  | zero =>
    intro a len pre h1 h2 h3 h5;have hi:=ins_tells R pre (seg a len) [] (by omega) hR (by rw[seg_len];omega) (fun y hy=>by have:=mem_seg.1 hy;omega)
    rw[seg_len,show(pre.length:Int)+(len:Int)=(n:Int) by omega,h2,List.append_nil,List.append_nil] at hi
    have hr:=segRun_ins R a len;refine Tells.up (Tells.bind (g:=fun k t=>Azw.l1 k t (n:Int) 20 [R]) hi (h5 _ (Runs.last _ _ (by rw[hr.2];omega) hr.1) hr.2)) (fun k=>?_)
    rw[Azw.l0];rw[if_neg (by omega)]
  | succ d ih =>
    intro a len pre h1 h2 h3 h5;by_cases c:a+20≤n
    · obtain⟨l',rfl⟩:∃ l',len=20+l':=⟨len - 20,by omega⟩
      rw[seg_add];have hi:=ins_tells R pre (seg a 20) (seg (a+20) l') (by omega) hR (by rw[seg_len];omega) (fun y hy=>by have:=mem_seg.1 hy;omega)
      rw[seg_len,show(pre.length:Int)+((20:Nat):Int)=((a+20:Nat):Int) by omega,h2,List.append_assoc] at hi
      have hr:=segRun_ins R a 20;have nx:=ih (a+20) l' (pre ++ (insAll R (seg a 20) []).reverse) (by omega) (by rw[List.length_append,hr.2];omega) (by omega) (fun T hT hl=>by
        have:=h5 _ (Runs.cons _ _ _ hr.2 hr.1 hT) (by rw[List.length_append,hr.2,hl])
        rwa [← List.append_assoc] at this)
      have w:wrap64 (((a+20:Nat):Int)+20)=((a+20+20:Nat):Int):=by rw[wrap64_id (by omega) (by omega)];omega
      refine Tells.up (Tells.bind (g:=fun k t=>Azw.l0 k t (n:Int) 20 ((a+20:Nat):Int) ((a+20+20:Nat):Int) [R]) hi nx) (fun k=>?_)
      rw[Azw.l0];rw[if_pos (by omega),w]
    · have hi:=ins_tells R pre (seg a len) [] (by omega) hR (by rw[seg_len];omega) (fun y hy=>by have:=mem_seg.1 hy;omega)
      rw[seg_len,show(pre.length:Int)+(len:Int)=(n:Int) by omega,h2,List.append_nil,List.append_nil] at hi
      have hr:=segRun_ins R a len;refine Tells.up (Tells.bind (g:=fun k t=>Azw.l1 k t (n:Int) 20 [R]) hi (h5 _ (Runs.last _ _ (by rw[hr.2];omega) hr.1) hr.2)) (fun k=>?_)
      rw[Azw.l0];rw[if_neg (by omega)]
/-- The stable sort,up to 1000 of them. -/
theorem sortall_tells (R:List Int) (n:Nat) (hRn:R.length=n) (hn:n≤1000) (hR:∀ y ∈ R,0≤y∧y≤1125899906842624):Tells (fun k=>Czx.f k (idx n) [R]) (ordS R n):=by
  have h0:=stable_l0 R hR n hn hRn (ordS R n) n 0 n [] (Nat.le_refl _) rfl (by omega) (fun T hT hl=>by
    have:=stable_l1 R hR n hn hRn n 20 (by omega) (by omega) (by omega) T hT hl
    simpa using this)
  rw[seg_zero] at h0;refine Tells.congr (g:=fun k=>(Azw.l0 k (idx n) ((idx n).length:Int) 20 0 20 [R]).bind fun t=>some t) ?_ (fun k=>by
    unfold Czx.f Azw.f;rfl)
  rw[idx_len];exact Tells.bind h0 (Tells.const _)

theorem splitall_tells (t:Int) (l:List Int) (hl:l.length≤1000):Tells (fun k=>Bzp.f k t l) (splitS t l) :=
  split_tells_of (N:=1000) (fun R n hRn hn hR=>sortall_tells R n hRn hn hR) t l hl (by omega)

theorem and1 (x:Int) (h0:0≤x) (h1:x < 4611686018427387904):Go.bits .and .i64 x 1=x % 2:=by
  have h:=bits_mask .i64 62 (by decide) (fun n a b=>by rw[IntKind.wrap_i64];omega) 1 (by decide) x h0 (by simpa using h1)
  simpa using h
theorem divide_sub (a b c X:Int) (x10:Int) (hc1:1≤c) (hc:c≤1125899906842624) (R:Int × Int):∀ (n:Nat) (q r:Int),0≤r→r < (n+1) * c→0≤q→q≤9007199254740992 - n →
    Tells (fun k=>Azf.l0 k a b c (q+r / c) (r % c) (wrap64 (x10 - 1))) R→n≤3→Tells (fun k=>Azf.l1 k a b c q r x10) R:=by
  intro n;induction n with
  | zero =>
    intro q r h0 h1 hq0 hq1 hT hn;have hr:r < c:=by simpa using h1
    rw[Int.ediv_eq_zero_of_lt h0 hr,Int.emod_eq_of_lt h0 hr,Int.add_zero] at hT;refine Tells.up hT (fun k=>?_)
    rw[Azf.l1];rw[if_neg (by omega)]
  | succ n ih =>
    intro q r h0 h1 hq0 hq1 hT hn;by_cases hr:r≥c
    · refine Tells.up (g:=fun k=>Azf.l1 k a b c (q+1) (r - c) x10) ?_ (fun k=>by
        rw[Azf.l1];have hr2:r < 4 * c+c:=by
          have:((n:Int)+1+1) * c≤5 * c:=Int.mul_le_mul_of_nonneg_right (by omega) (by omega)
          have h1':r < ((n:Int)+1+1) * c:=by simpa using h1
          omega
        rw[if_pos hr,wrap64_id (by omega) (by omega),wrap64_id (by omega) (by omega)])
      refine ih (q+1) (r - c) (by omega) ?_ (by omega) (by omega) ?_ (by omega)
      · have h1':r < ((n:Int)+1+1) * c:=by simpa using h1
        rw[Int.add_mul ((n:Int)+1) 1 c,Int.one_mul] at h1';omega
      · have e1:(r - c) / c=r / c - 1:=by
          rw[show r - c=r+(-1) * c by omega,Int.add_mul_ediv_right _ _ (by omega)]
          omega
        have e2:(r - c) % c=r % c:=by
          rw[show r - c=r+(-1) * c by omega,Int.add_mul_emod_self_right]
        rw[e1,e2,show q+1+(r / c - 1)=q+r / c by omega]
        exact hT
    · have hr':r < c:=by omega
      rw[Int.ediv_eq_zero_of_lt h0 hr',Int.emod_eq_of_lt h0 hr',Int.add_zero] at hT;refine Tells.up hT (fun k=>?_)
      rw[Azf.l1];rw[if_neg hr]
theorem div12_tells (a b c:Int) (ha0:0≤a) (hac:a≤c) (hc1:1≤c) (hc:c≤1125899906842624) (hb0:0≤b) (hb:b≤1125899906842624):Tells (fun k=>Azf.f k a b c) (a * b / c,a * b % c):=by
  have lp:∀ (j:Nat),j≤51→Tells (fun k=>Azf.l0 k a b c (a * (b / 2 ^ j) / c) (a * (b / 2 ^ j) % c) ((j:Int) - 1)) (a * b / c,a * b % c):=by
    intro j;induction j with
    | zero =>
      intro _;refine Tells.up (g:=fun _=>some (a * b / c,a * b % c)) (Tells.const _) (fun k=>?_)
      rw[Azf.l0];rw[if_neg (by omega)]
      simp
    | succ j ih =>
      intro hj;have h2:(2:Int) ^ (j+1)=2 * 2 ^ j:=by rw[Int.pow_succ,Int.mul_comm]
      have hpos:(0:Int) < 2 ^ j:=Int.pow_pos (by decide)
      have hB:b / 2 ^ (j+1)=b / 2 ^ j / 2:=by
        rw[Int.pow_succ,Int.ediv_ediv_of_nonneg (by omega)]
      have hBj0:0≤b / 2 ^ j:=Int.ediv_nonneg hb0 (by omega)
      have hBj1:b / 2 ^ j≤b:=Int.ediv_le_self _ hb0;generalize hBB:b / 2 ^ j=B at *;have hX0:0≤a * (B / 2):=Int.mul_nonneg ha0 (by omega)
      have hXle:a * (B / 2)≤c * (B / 2):=Int.mul_le_mul_of_nonneg_right hac (by omega)
      have hr0:0≤a * (B / 2) % c:=Int.emod_nonneg _ (by omega)
      have hr1:a * (B / 2) % c < c:=Int.emod_lt_of_pos _ (by omega)
      have hq0:0≤a * (B / 2) / c:=Int.ediv_nonneg hX0 (by omega)
      have hq1:a * (B / 2) / c≤B / 2:=by
        have:=Int.ediv_le_ediv (c:=c) (by omega) hXle
        rwa [Int.mul_comm c,Int.mul_ediv_cancel _ (by omega)] at this
      have hdm:c * (a * (B / 2) / c)+a * (B / 2) % c=a * (B / 2):=Int.mul_ediv_add_emod _ _;rw[hB];generalize hq:a * (B / 2) / c=q at *;generalize hr:a * (B / 2) % c=r at *;have hs:shr .i64 b (((j+1:Nat):Int) - 1)=B:=by
        unfold shr;rw[show((((j+1:Nat):Int) - 1)).toNat=j by omega,show min j (IntKind.i64.bits)=j by
          have:IntKind.i64.bits=64:=rfl;omega]
        exact hBB
      have hstep:∀ (rr:Int),rr=2 * r+(B % 2) * a→Tells (fun k=>Azf.j1 k a b c (2 * q) rr (((j+1:Nat):Int) - 1)) (a * b / c,a * b % c):=by
        intro rr hrr;have hba:0≤(B % 2) * a∧(B % 2) * a≤a:=by
          rcases Int.emod_two_eq B with h|h
          · rw[h];simp [ha0]
          · rw[h];simp [ha0]
        refine Tells.up (g:=fun k=>Azf.l1 k a b c (2 * q) rr (((j+1:Nat):Int) - 1)) ?_ (fun k=>by rw[Azf.j1])
        refine divide_sub a b c 0 _ hc1 hc _ 2 (2 * q) rr (by omega) (by rw[show((2:Nat):Int)+1=3 from rfl];omega) (by omega) (by omega) ?_ (by omega)
        have hX:a * B=2 * (a * (B / 2))+(B % 2) * a:=by
          have:=Int.mul_ediv_add_emod B 2;calc a * B=a * (2 * (B / 2)+B % 2):=by rw[this]
            _=2 * (a * (B / 2))+(B % 2) * a:=by rw[Int.mul_add,← Int.mul_assoc,Int.mul_comm a 2,Int.mul_assoc,Int.mul_comm a (B % 2)]
        have hXX:a * B=rr+(2 * q) * c:=by
          rw[hX,hrr,← hdm,Int.mul_add,Int.mul_comm c q,← Int.mul_assoc];omega
        have e1:2 * q+rr / c=a * B / c:=by
          rw[hXX,Int.add_mul_ediv_right _ _ (by omega)];omega
        have e2:rr % c=a * B % c:=by rw[hXX,Int.add_mul_emod_self_right]
        rw[e1,e2,wrap64_id (by omega) (by omega),show((j+1:Nat):Int) - 1 - 1=(j:Int) - 1 by omega]
        have:=ih (by omega)
        exact this
      refine Tells.up (g:=fun k=>Azf.j1 k a b c (2 * q) (2 * r+(B % 2) * a) (((j+1:Nat):Int) - 1)) (hstep _ rfl) (fun k=>?_)
      rw[Azf.l0];rw[if_pos (by omega),if_pos (by omega),hs,and1 B hBj0 (by omega),wrap64_id (n:=2 * q) (by omega) (by omega),wrap64_id (n:=2 * r) (by omega) (by omega)]
      rcases Int.emod_two_eq B with h|h
      · rw[if_neg (by omega),h];simp
      · rw[if_pos h,h,wrap64_id (by omega) (by omega)];simp
  have h51:=lp 51 (by omega)
  have e:b / 2 ^ 51=0:=Int.ediv_eq_zero_of_lt hb0 (by omega)
  rw[e] at h51;simp at h51;refine Tells.congr h51 (fun k=>?_)
  unfold Azf.f;rfl
/-- The remainders,without those that are picked. -/

def pickS (R D:List Int) (n:Nat):List Int:=(idx n).map fun i=>if i ∈ D then -1 else rd R i
theorem pickS_len (R D:List Int) (n:Nat):(pickS R D n).length=n:=by simp [pickS,idx_len]
theorem rd_pickS (R D:List Int) (n i:Nat) (h:i < n):rd (pickS R D n) (i:Int)=if(i:Int) ∈ D then -1 else rd R i:=by
  unfold pickS;rw[rd_map _ _ i (by rw[idx_len];exact h),rd_idx _ _ h]
theorem pickS_nil (R:List Int):pickS R [] R.length=R:=by
  apply ext_rd (by rw[pickS_len])
  intro i hi;rw[pickS_len] at hi;rw[rd_pickS _ _ _ _ hi];simp
theorem pickS_step (R D:List Int) (n i:Nat) (h:i < n):(pickS R D n).set i (-1)=pickS R (D ++ [(i:Int)]) n:=by
  apply ext_rd (by simp [pickS_len])
  intro j hj;have hj':j < n:=by simpa [pickS_len] using hj
  rw[rd_set _ _ _ _ (by rw[pickS_len];exact hj'),rd_pickS _ _ _ _ hj',rd_pickS _ _ _ _ hj']
  by_cases e:i=j
  · subst e;simp
  · rw[if_neg e]
    have:((j:Int) ∈ D ++ [(i:Int)]) ↔ (j:Int) ∈ D:=by
      rw[List.mem_append,List.mem_singleton];constructor
      · rintro (h|h)
        · exact h
        · omega
      · exact Or.inl
    simp only[this]

theorem refCheck_tells (t:Int) (l:List Int) (hl:l.length≤1000000):Tells (fun k=>Azm.f k t l) (shCheckS t l):=by
  refine Tells.congr (g:=fun k=>Azm.j0 k t l (decide (t < 0∨t > 1125899906842624))) ?_ (fun k=>by
    unfold Azm.f;by_cases h:t < 0
    · rw[if_pos h,decide_eq_true (p:=t < 0∨t > 1125899906842624) (Or.inl h)]
    · rw[if_neg h];congr 1;simp [h])
  refine Tells.up (g:=fun k=>if decide (t < 0∨t > 1125899906842624)=true then some (0,1) else if(l.length:Int)=0 then some (0,10) else if(l.length:Int) > 512 then some (0,8) else Azm.l0 k t l ((0:Nat):Int)) ?_ (fun k=>by rw[Azm.j0];rfl)
  unfold shCheckS;by_cases h1:t < 0∨t > 1125899906842624
  · rw[if_pos h1];exact Tells.pos (decide_eq_true h1) (Tells.const _)
  rw[if_neg h1];refine Tells.neg (by simpa using h1) ?_
  refine Tells.ite (fun _=>Tells.const _) (fun h2=>?_)
  refine Tells.ite (fun _=>Tells.const _) (fun h3=>?_)
  have l1:inAll 1125899906842624 l=true→∀ n i s,i+n=l.length→0≤s→s≤(i:Int) * 1125899906842624→s+(l.drop i).sum=l.sum→Tells (fun k=>Azm.l1 k t l s (i:Int)) (if l.sum > 1125899906842624 then(0,2) else if l.sum=0 then(if t > 0 then(0,16) else(l.sum,0)) else(l.sum,0)):=by
    intro ha n;induction n with
    | zero =>
      intro i s hi h0 h1 hs;rw[List.drop_of_length_le (by omega),List.sum_nil,Int.add_zero] at hs
      subst hs;refine Tells.up (g:=fun k=>if l.sum > 1125899906842624 then some (0,2) else if l.sum=0 then(if t=0 then some (l.sum,0) else some (0,16)) else some (l.sum,0)) ?_ (fun k=>by
        rw[Azm.l1];rw[if_neg (by omega)])
      refine Tells.ite (fun _=>Tells.const _) (fun _=>?_)
      refine Tells.ite (fun _=>?_) (fun _=>Tells.const _)
      by_cases h:t=0
      · rw[if_neg (show ¬ t > 0 by omega)];exact Tells.pos h (Tells.const _)
      · rw[if_pos (show t > 0 by omega)];exact Tells.neg h (Tells.const _)
    | succ n ih =>
      intro i s hi h0 h1 hs;have hx:=inAll_iff.1 ha _ (rd_mem l (i:Int) (by omega) (by omega))
      rw[rd_drop l i (by omega),List.sum_cons] at hs
      refine Tells.up (ih (i+1) (s+rd l (i:Int)) (by omega) (by omega) (by omega) (by omega)) (fun k=>?_)
      rw[Azm.l1];rw[if_pos (by omega),if_pos (by omega),wrap64_id (n:=s+rd l (i:Int)) (by omega) (by omega),wrap64_id (by omega) (by omega)]
      rfl
  have l0:∀ n i,i+n=l.length→inAll 1125899906842624 (l.take i)=true→Tells (fun k=>Azm.l0 k t l (i:Int)) (if inAll 1125899906842624 l=true then(if l.sum > 1125899906842624 then(0,2) else if l.sum=0 then(if t > 0 then(0,16) else(l.sum,0)) else(l.sum,0)) else(0,1)):=by
    intro n;induction n with
    | zero =>
      intro i hi ha;rw[List.take_of_length_le (by omega)] at ha
      rw[if_pos ha];refine Tells.up (l1 ha l.length 0 0 (by omega) (by omega) (by omega) (by simp)) (fun k=>?_)
      rw[Azm.l0];rw[if_neg (by omega)]
      rfl
    | succ n ih =>
      intro i hi ha;have hr:=rd_drop l i (by omega)
      have hm:=rd_mem l (i:Int) (by omega) (by omega)
      refine Tells.up (g:=fun k=>if rd l (i:Int) < 0 then some (0,1) else if rd l (i:Int) > 1125899906842624 then some (0,1) else Azm.l0 k t l ((i+1:Nat):Int)) ?_ (fun k=>by
        rw[Azm.l0];rw[if_pos (by omega),if_pos (by omega),wrap64_id (n:=(i:Int)+1) (by omega) (by omega)]
        rfl)
      by_cases c1:rd l (i:Int) < 0
      · rw[if_neg (by intro h;have:=inAll_iff.1 h _ hm;omega)]
        exact Tells.pos c1 (Tells.const _)
      by_cases c2:rd l (i:Int) > 1125899906842624
      · rw[if_neg (by intro h;have:=inAll_iff.1 h _ hm;omega)]
        exact Tells.neg c1 (Tells.pos c2 (Tells.const _))
      refine Tells.neg c1 (Tells.neg c2 (ih (i+1) (by omega) ?_))
      rw[inAll_iff] at ha ⊢;intro x hx;rw[List.take_add_one,List.mem_append] at hx;rcases hx with hx|hx
      · exact ha x hx
      · rw[List.getElem?_eq_getElem (by omega)] at hx
        simp at hx;rw[hx,← rd_at l i (by omega)]
        omega
  exact l0 l.length 0 (by omega) (by simp [inAll])
/-- The search ends at the first greatest one. -/
theorem ref_l2 (P X:List Int) (left:Int) (o:Nat) (out:List Int × Int) (hX:X.length=P.length) (hl:X.length≤1000000) (ho:o < X.length) (h1:∀ j:Nat,j < X.length→rd X j≤rd X o) (h2:∀ j:Nat,j < o→rd X j < rd X o)
    (hend:Tells (fun k=>Bzz.l1 k (P.set o (wrap64 (rd P (o:Int)+1))) (wrap64 (left - 1)) (X.set o (-1))) out) :
    ∀ n i b:Nat,i+n=X.length→b < i→(∀ j:Nat,j < i→rd X j≤rd X b)→(∀ j:Nat,j < b→rd X j < rd X b)→Tells (fun k=>Bzz.l2 k P left X (b:Int) (i:Int)) out:=by
  intro n;induction n with
  | zero =>
    intro i b hi hb h3 h4;have e:b=o:=by
      rcases Nat.lt_trichotomy b o with h|h|h
      · have:=h2 b h;have:=h3 o (by omega);omega
      · exact h
      · have:=h4 o h;have:=h1 b (by omega);omega
    subst e;refine Tells.up hend (fun k=>?_)
    rw[Bzz.l2];rw[if_neg (by omega),if_pos (by omega),if_pos (by omega),if_pos (by omega)]
    rfl
  | succ n ih =>
    intro i b hi hb h3 h4;by_cases c:rd X (i:Int) > rd X (b:Int)
    · refine Tells.up (ih (i+1) i (by omega) (by omega) ?_ ?_) (fun k=>?_)
      · intro j hj
        by_cases e:j=i
        · subst e;omega
        · have:=h3 j (by omega);omega
      · intro j hj
        have:=h3 j (by omega);omega
      · rw[Bzz.l2]
        rw[if_pos (by omega),if_pos (by omega),if_pos (by omega),if_pos (by omega),if_pos c,wrap64_id (by omega) (by omega)]
        rfl
    · refine Tells.up (ih (i+1) b (by omega) (by omega) ?_ h4) (fun k=>?_)
      · intro j hj
        by_cases e:j=i
        · subst e;omega
        · exact h3 j (by omega)
      · rw[Bzz.l2]
        rw[if_pos (by omega),if_pos (by omega),if_pos (by omega),if_pos (by omega),if_neg c,wrap64_id (by omega) (by omega)]
        rfl
theorem ref_l1 (t s:Int) (l:List Int) (ht0:0≤t) (ht:t≤1125899906842624) (hw:∀ w ∈ l,0≤w∧w≤s) (hl0:0 < l.length) (hl:l.length≤1000000) (hR:∀ y ∈ remS t s l,0≤y) :
    ∀ (todo D post:List Int),D ++ todo ++ post=ordS (remS t s l) l.length→Tells (fun k=>Bzz.l1 k (bumpS t s l D) (todo.length:Int) (pickS (remS t s l) D l.length)) (bumpS t s l (D ++ todo),0):=by
  intro todo;induction todo with
  | nil =>
    intro D post _;rw[List.append_nil];refine Tells.up (Tells.const _) (fun k=>?_)
    rw[Bzz.l1];rw[if_neg (by simp)]
  | cons x todo ih =>
    intro D post hD;have hO:=ordS_sorted (remS t s l) l.length;have hN:=ordS_nodup (remS t s l) l.length;have hx:0≤x∧x < (l.length:Int):=mem_ordS.1 (by rw[← hD];simp:x ∈ ordS (remS t s l) l.length)
    have hall:∀ j:Nat,j < l.length→(j:Int) ∈ D∨(j:Int)=x∨(j:Int) ∈ todo ++ post:=by
      intro j hj;have:(j:Int) ∈ ordS (remS t s l) l.length:=mem_ordS.2 (by omega)
      rw[← hD] at this;simp at this ⊢;rcases this with h|h|h|h
      · exact Or.inl h
      · exact Or.inr (Or.inl h)
      · exact Or.inr (Or.inr (Or.inl h))
      · exact Or.inr (Or.inr (Or.inr h))
    rw[← hD,List.append_assoc,List.nodup_append] at hN;have hxD:x ∉ D:=fun h=>hN.2.2 x h x (by simp) rfl
    rw[← hD,List.append_assoc,List.pairwise_append] at hO;have hO2:=hO.2.1;rw[List.cons_append,List.pairwise_cons] at hO2;obtain⟨o,rfl⟩:∃ o:Nat,x=(o:Int):=⟨x.toNat,by omega⟩
    have ho:o < l.length:=by omega
    have hRo:0≤rd (remS t s l) (o:Int):=hR _ (rd_mem _ _ (by omega) (by simp [remS];omega))
    have hb:rd (bumpS t s l D) (o:Int)=t * rd l o / s:=by rw[rd_bumpS _ _ _ _ _ ho,if_neg hxD,Int.add_zero]
    have hq:=quo_le ht0 (hw _ (rd_mem l o (by omega) (by omega))).1 (hw _ (rd_mem l o (by omega) (by omega))).2
    have hto:(((o:Int) :: todo).length:Int)=(todo.length:Int)+1:=by simp
    have hpl:(pickS (remS t s l) D l.length).length=l.length:=pickS_len _ _ _;have hle:((ordS (remS t s l) l.length).length:Int)=l.length:=by rw[ordS_len]
    rw[← hD] at hle;have htl:(todo.length:Int)≤l.length:=by simp at hle;omega
    refine Tells.up (g:=fun k=>Bzz.l2 k (bumpS t s l D) (((o:Int) :: todo).length:Int) (pickS (remS t s l) D l.length) ((0:Nat):Int) ((1:Nat):Int)) ?_ (fun k=>by
      rw[Bzz.l1];rw[if_pos (by omega)]
      rfl)
    refine ref_l2 _ _ _ o _ (by rw[hpl,bumpS_len]) (by omega) (by omega) ?_ ?_ ?_ (l.length - 1) 1 0 (by omega) (by omega) (fun j hj=>by
      obtain rfl:j=0:=by omega
      exact Int.le_refl _) (fun j hj=>by omega)
    · intro j hj
      rw[hpl] at hj;rw[rd_pickS _ _ _ _ hj,rd_pickS _ _ _ _ ho,if_neg hxD];split
      · omega
      · rename_i hjD
        rcases hall j hj with h|h|h
        · exact absurd h hjD
        · rw[h];exact Int.le_refl _
        · have:=hO2.1 _ h
          unfold ltR at this;omega
    · intro j hj
      rw[rd_pickS _ _ _ _ (by omega:j < l.length),rd_pickS _ _ _ _ ho,if_neg hxD]
      split
      · omega
      · rename_i hjD
        rcases hall j (by omega) with h|h|h
        · exact absurd h hjD
        · omega
        · have:=hO2.1 _ h
          unfold ltR at this;omega
    · rw[hb,wrap64_id (by omega) (by omega),← hb,bumpS_step t s l D o ho hxD,pickS_step _ _ _ _ ho,wrap64_id (by omega) (by omega),hto]
      have:=ih (D ++ [(o:Int)]) post (by rw[← hD];simp)
      have e:(todo.length:Int)+1 - 1=(todo.length:Int):=by omega
      rw[e];simpa using this
theorem ref_l0 (t s:Int) (l:List Int) (out:List Int × Int) (ht0:0≤t) (ht:t≤1125899906842624) (hs1:1≤s) (hs:s≤1125899906842624) (hw:∀ w ∈ l,0≤w∧w≤s) (hl:l.length≤1000)
    (hend:Tells (fun k=>Bzz.l1 k (quoS t s l) (leftS t s l) (remS t s l)) out) :
    ∀ r pre,pre ++ r=l→Tells (fun k=>Bzz.l0 k t l s (quoS t s pre ++ List.replicate r.length 0) (t - (quoS t s pre).sum) (remS t s pre ++ List.replicate r.length 0) (pre.length:Int)) out:=by
  intro r;induction r with
  | nil =>
    intro pre h;rw[List.append_nil] at h;subst h;refine Tells.up hend (fun k=>?_)
    rw[Bzz.l0];rw[if_neg (by omega)]
    simp [leftS]
  | cons x r ih =>
    intro pre h;have hlen:l.length=pre.length+r.length+1:=by rw[← h];simp;omega
    have hx:=hw x (by rw[← h];simp)
    have e1:rd l (pre.length:Int)=x:=rd_mid' h.symm rfl;have hq:=quo_le ht0 hx.1 hx.2;have hqs:=sum_le_mul (m:=t) (l:=quoS t s pre) (fun y hy=>by
      unfold quoS at hy;obtain⟨w,hw',rfl⟩:=List.mem_map.1 hy;have:=hw w (by rw[← h];exact List.mem_append_left _ hw')
      exact quo_le ht0 this.1 this.2)
    have hql:(quoS t s pre).length=pre.length:=by simp [quoS]
    have hrl:(remS t s pre).length=pre.length:=by simp [remS]
    rw[hql] at hqs;have hmul:t * (pre.length:Int)≤1125899906842624 * 1000:=by
      have a:=Int.mul_le_mul_of_nonneg_right ht (show(0:Int)≤(pre.length:Int) by omega)
      omega
    have sA:(quoS t s pre ++ List.replicate (x :: r).length 0).set (pre.length:Int).toNat (t * x / s)=quoS t s (pre ++ [x]) ++ List.replicate r.length 0:=by
      rw[set_mid' (A:=quoS t s pre) (x:=0) (B:=List.replicate r.length 0) (by rw[List.length_cons,List.replicate_succ]) (by rw[hql])]
      simp [quoS]
    have sB:(remS t s pre ++ List.replicate (x :: r).length 0).set (pre.length:Int).toNat (t * x % s)=remS t s (pre ++ [x]) ++ List.replicate r.length 0:=by
      rw[set_mid' (A:=remS t s pre) (x:=0) (B:=List.replicate r.length 0) (by rw[List.length_cons,List.replicate_succ]) (by rw[hrl])]
      simp [remS]
    have eq:rd (quoS t s (pre ++ [x]) ++ List.replicate r.length 0) (pre.length:Int)=t * x / s :=
      rd_mid' (A:=quoS t s pre) (B:=List.replicate r.length 0) (by simp [quoS]) (by rw[hql])
    have e2:t - (quoS t s (pre ++ [x])).sum=t - (quoS t s pre).sum - t * x / s:=by
      simp [quoS];omega
    have hnext:=ih (pre ++ [x]) (by rw[← h];simp)
    rw[e2] at hnext;refine Tells.up (g:=fun k=>(Azf.f k x t s).bind fun b=>if(pre.length:Int) < ((quoS t s pre ++ List.replicate (x :: r).length 0).length:Int) then((some ((quoS t s pre ++ List.replicate (x :: r).length 0).set (pre.length:Int).toNat b.1:List Int)).bind fun y=>if(pre.length:Int) < ((remS t s pre ++ List.replicate (x :: r).length 0).length:Int) then Bzz.l0 k t l s y (wrap64 (t - (quoS t s pre).sum - rd y (pre.length:Int))) ((remS t s pre ++ List.replicate (x :: r).length 0).set (pre.length:Int).toNat b.2) (wrap64 ((pre.length:Int)+1)) else none) else none) ?_ (fun k=>by
      rw[Bzz.l0];rw[if_pos (by omega),if_pos (by omega),e1])
    refine Tells.bind (div12_tells x t s hx.1 hx.2 hs1 hs ht0 ht) ?_;rw[Int.mul_comm x t];refine Tells.pos (by simp [hql];omega) ?_
    refine Tells.bind (Tells.const _) ?_;refine Tells.pos (by simp [hrl];omega) ?_
    rw[sA,sB,eq,wrap64_id (by omega) (by omega),wrap64_id (by omega) (by omega)]
    rw[List.length_append,List.length_singleton] at hnext;exact hnext
theorem refSplit_tells (t:Int) (l:List Int) (hl:l.length≤1000):Tells (fun k=>Bzz.f k t l) (splitS t l):=by
  refine Tells.congr (g:=fun k=>(Azm.f k t l).bind fun b=>if b.2=0 then(if b.1=0 then some (List.replicate l.length 0,0) else Bzz.l0 k t l b.1 (List.replicate l.length 0) t (List.replicate l.length 0) 0) else some ([],b.2)) ?_ (fun k=>by
    unfold Bzz.f;congr 1;funext b
    rw[if_pos (show 0≤(l.length:Int) by omega),if_pos (show((l.length:Int):Int).toNat≤35184372088832 by omega)]
    rfl)
  refine Tells.bind (refCheck_tells t l (by omega)) ?_
  unfold splitS;refine Tells.ite (fun hc=>?_) (fun _=>Tells.const _)
  obtain⟨ht0,ht,hl0,hl1,hin,hs,hz,he⟩:=shCheck_ok hc;rw[he];have hw:∀ w ∈ l,0≤w∧w≤l.sum:=fun w hw=>⟨(inAll_iff.1 hin w hw).1,sum_mem_le hin w hw⟩
  have hs0:0≤l.sum:=sum_nonneg (fun w h=>(hw w h).1)
  have hlb:=left_bounds hl0 ht0 (fun w h=>(hw w h).1) hz
  by_cases h0:l.sum=0
  · have ht:=hz h0
    refine Tells.pos h0 ?_;have e:partsSp t l.sum l=List.replicate l.length 0:=by
      unfold partsSp leftS;rw[quoS_zero t l.sum l (fun w _=>by rw[ht];simp)]
      rw[ht];have e0:((0:Int) - (List.replicate l.length (0:Int)).sum).toNat=0:=by simp
      rw[e0,List.take_zero,bumpS_nil,quoS_zero 0 l.sum l (fun w _=>by simp)]
    rw[e];exact Tells.const _
  · refine Tells.neg h0 ?_
    have hR:∀ y ∈ remS t l.sum l,0≤y:=fun y hy=>(rem_bounds (show 0 < l.sum by omega) y hy).1
    have:=ref_l0 t l.sum l (partsSp t l.sum l,0) ht0 ht (by omega) hs hw hl ?_ l [] rfl
    · simpa [quoS,remS] using this
    have h1:=ref_l1 t l.sum l ht0 ht hw hl0 (by omega) hR ((ordS (remS t l.sum l) l.length).take (leftS t l.sum l).toNat) [] ((ordS (remS t l.sum l) l.length).drop (leftS t l.sum l).toNat) (by rw[List.nil_append,List.take_append_drop])
    rw[bumpS_nil,List.nil_append] at h1;have e1:(((ordS (remS t l.sum l) l.length).take (leftS t l.sum l).toNat).length:Int)=leftS t l.sum l:=by
      rw[List.length_take,ordS_len];omega
    have e2:pickS (remS t l.sum l) [] l.length=remS t l.sum l:=by
      have:=pickS_nil (remS t l.sum l);simpa [remS] using this
    rw[e1,e2] at h1;exact h1
/-- The value of a list of limbs. -/

def nv:List Int→Int
  | []=>0
  | x :: xs=>x+1000000000 * nv xs
/-- The base to a power. -/
def LB:Nat→Int
  | 0=>1
  | n+1=>1000000000 * LB n
theorem LB_zero:LB 0=1:=rfl
theorem LB_succ (n:Nat):LB (n+1)=1000000000 * LB n:=rfl
theorem LB_pos (n:Nat):0 < LB n:=by
  induction n with
  | zero=>decide
  | succ n ih=>rw[LB_succ];omega
theorem LB_add (m n:Nat):LB (m+n)=LB m * LB n:=by
  induction m with
  | zero=>rw[Nat.zero_add,LB_zero,Int.one_mul]
  | succ m ih=>rw[Nat.succ_add,LB_succ,LB_succ,ih,Int.mul_assoc]
theorem LB_le {m n:Nat} (h:m≤n):LB m≤LB n:=by
  induction h with
  | refl=>omega
  | step _ ih=>rw[LB_succ];have:=LB_pos m;omega
/-- Limbs in range. -/
def Lim (xs:List Int):Prop:=∀ x ∈ xs,0≤x∧x < 1000000000
theorem Lim.nil:Lim []:=fun _ h=>by simp at h
theorem Lim.cons {x:Int} {xs:List Int} (h:Lim (x :: xs)):(0≤x∧x < 1000000000)∧Lim xs:=⟨h x (by simp),fun y hy=>h y (by simp [hy])⟩
theorem Lim.mk {x:Int} {xs:List Int} (h:0≤x) (h1:x < 1000000000) (h2:Lim xs):Lim (x :: xs):=by
  intro y hy;rcases List.mem_cons.1 hy with rfl|hy
  · exact⟨h,h1⟩
  · exact h2 y hy
theorem Lim.append {xs ys:List Int} (h:Lim xs) (h':Lim ys):Lim (xs ++ ys):=by
  intro y hy;rcases List.mem_append.1 hy with hy|hy
  · exact h y hy
  · exact h' y hy
theorem Lim.left {xs ys:List Int} (h:Lim (xs ++ ys)):Lim xs:=fun y hy=>h y (by simp [hy])
theorem Lim.right {xs ys:List Int} (h:Lim (xs ++ ys)):Lim ys:=fun y hy=>h y (by simp [hy])
theorem Lim.take {xs:List Int} (h:Lim xs) (n:Nat):Lim (xs.take n):=fun y hy=>h y (List.mem_of_mem_take hy)
theorem Lim.drop {xs:List Int} (h:Lim xs) (n:Nat):Lim (xs.drop n):=fun y hy=>h y (List.mem_of_mem_drop hy)
theorem Lim.set {xs:List Int} (h:Lim xs) (i:Nat) {v:Int} (h0:0≤v) (h1:v < 1000000000):Lim (xs.set i v):=by
  intro y hy;rcases List.mem_or_eq_of_mem_set hy with hy|rfl
  · exact h y hy
  · exact⟨h0,h1⟩
theorem Lim.zeros (n:Nat):Lim (List.replicate n 0):=fun y hy=>by
  rw[List.eq_of_mem_replicate hy];omega
theorem Lim.rd {xs:List Int} (h:Lim xs) {i:Int} (h0:0≤i) (h1:i < (xs.length:Int)):0≤rd xs i∧rd xs i < 1000000000:=h _ (rd_mem xs i h0 h1)
theorem nv_append (xs ys:List Int):nv (xs ++ ys)=nv xs+LB xs.length * nv ys:=by
  induction xs with
  | nil=>simp [nv,LB_zero]
  | cons x xs ih =>
    show x+1000000000 * nv (xs ++ ys)=x+1000000000 * nv xs+LB (xs.length+1) * nv ys
    rw[ih,LB_succ,Int.mul_add,Int.mul_assoc];omega
theorem nv_single (x:Int):nv [x]=x:=by simp [nv]
theorem nv_snoc (xs:List Int) (x:Int):nv (xs ++ [x])=nv xs+LB xs.length * x:=by rw[nv_append,nv_single]
theorem nv_zeros (n:Nat):nv (List.replicate n 0)=0:=by
  induction n with
  | zero=>rfl
  | succ n ih=>rw[List.replicate_succ];show 0+1000000000 * nv _=0;rw[ih];rfl
theorem nv_nonneg {xs:List Int} (h:Lim xs):0≤nv xs:=by
  induction xs with
  | nil=>simp [nv]
  | cons x xs ih =>
    have:=ih h.cons.2;have:=h.cons.1;show 0≤x+1000000000 * nv xs
    omega
theorem nv_lt {xs:List Int} (h:Lim xs):nv xs < LB xs.length:=by
  induction xs with
  | nil=>simp [nv,LB_zero]
  | cons x xs ih =>
    have:=ih h.cons.2;have:=h.cons.1;show x+1000000000 * nv xs < LB (xs.length+1)
    rw[LB_succ];omega
/-- No zero stands at the end. -/
def Tight (xs:List Int):Prop:=xs=[]∨rd xs ((xs.length:Int) - 1)≠0
def Can (xs:List Int):Prop:=Lim xs∧Tight xs
theorem Can.lim {xs:List Int} (h:Can xs):Lim xs:=h.1
theorem Can.nil:Can []:=⟨Lim.nil,.inl rfl⟩
theorem rd_cons_succ (x:Int) (xs:List Int) (i:Int) (h:0≤i):rd (x :: xs) (i+1)=rd xs i:=by
  unfold rd;rw[show(i+1).toNat=i.toNat+1 by omega]
  simp
theorem Tight.tail {x:Int} {xs:List Int} (h:Tight (x :: xs)):Tight xs:=by
  cases xs with
  | nil=>exact .inl rfl
  | cons y ys =>
    right
    rcases h with h|h
    · cases h
    · intro e
      apply h;have e1:((x :: y :: ys).length:Int) - 1=(((y :: ys).length:Int) - 1)+1:=by simp only[List.length_cons];omega
      rw[e1,rd_cons_succ _ _ _ (by simp only[List.length_cons];omega)]
      exact e
theorem Can.tail {x:Int} {xs:List Int} (h:Can (x :: xs)):Can xs:=⟨h.1.cons.2,h.2.tail⟩
theorem Can.zero {xs:List Int} (h:Can xs) (h0:nv xs=0):xs=[]:=by
  induction xs with
  | nil=>rfl
  | cons x xs ih =>
    exfalso
    have h1:=h.1.cons.1;have h2:=nv_nonneg h.1.cons.2;have h3:x+1000000000 * nv xs=0:=h0;have e:=ih h.tail (by omega)
    subst e;rcases h.2 with h4|h4
    · cases h4
    · apply h4
      show rd [x] 0=0
      show x=0
      simp only[nv] at h3;omega
theorem Can.ext {xs ys:List Int} (h:Can xs) (h':Can ys) (e:nv xs=nv ys):xs=ys:=by
  induction xs generalizing ys with
  | nil=>exact(h'.zero (by rw[← e];rfl)).symm
  | cons x xs ih =>
    cases ys with
    | nil=>exact h.zero (by rw[e];rfl)
    | cons y ys =>
      have h1:=h.1.cons.1;have h2:=h'.1.cons.1;have e1:x+1000000000 * nv xs=y+1000000000 * nv ys:=e;have e2:x=y:=by omega
      subst e2;rw[ih h.tail h'.tail (by omega)]
/-- The limbs of a number. -/
def digs (n:Nat):List Int:=if h:n=0 then [] else((n % 1000000000:Nat):Int) :: digs (n / 1000000000)
termination_by n
decreasing_by omega
theorem digs_zero:digs 0=[]:=by unfold digs;simp
theorem digs_pos {n:Nat} (h:0 < n):digs n=((n % 1000000000:Nat):Int) :: digs (n / 1000000000):=by
  rw[digs];rw[dif_neg (by omega)]
theorem nv_digs (n:Nat):nv (digs n)=n:=by
  induction n using Nat.strongRecOn with
  | _ n ih =>
    rcases Nat.eq_zero_or_pos n with h|h
    · subst h;rw[digs_zero];rfl
    · rw[digs_pos h]
      show((n % 1000000000:Nat):Int)+1000000000 * nv (digs (n / 1000000000))=n
      rw[ih _ (by omega)]
      omega
theorem lim_digs (n:Nat):Lim (digs n):=by
  induction n using Nat.strongRecOn with
  | _ n ih =>
    rcases Nat.eq_zero_or_pos n with h|h
    · subst h;rw[digs_zero];exact Lim.nil
    · rw[digs_pos h]
      exact Lim.mk (by omega) (by omega) (ih _ (by omega))
theorem can_digs (n:Nat):Can (digs n):=by
  refine⟨lim_digs n,?_⟩;induction n using Nat.strongRecOn with
  | _ n ih =>
    rcases Nat.eq_zero_or_pos n with h|h
    · subst h;rw[digs_zero];exact .inl rfl
    · rw[digs_pos h]
      right
      rcases Nat.eq_zero_or_pos (n / 1000000000) with h1|h1
      · rw[h1,digs_zero]
        show((n % 1000000000:Nat):Int)≠0
        omega
      · rcases ih _ (show n / 1000000000 < n by omega) with h2|h2
        · rw[digs_pos h1] at h2;cases h2
        · rw[List.length_cons,show(((digs (n / 1000000000)).length+1:Nat):Int) - 1=(((digs (n / 1000000000)).length:Int) - 1)+1 by omega,rd_cons_succ _ _ _ (by
            have:0 < (digs (n / 1000000000)).length:=by rw[digs_pos h1];simp
            omega)]
          exact h2
/-- The limbs of an integer that is not negative. -/
def dg (n:Int):List Int:=digs n.toNat
theorem dg_nv {xs:List Int} (h:Can xs):dg (nv xs)=xs:=by
  refine(can_digs _).ext h ?_;show nv (digs (nv xs).toNat)=nv xs
  rw[nv_digs];have:=nv_nonneg h.1;omega
theorem can_dg (n:Int):Can (dg n):=can_digs _
theorem nv_dg {n:Int} (h:0≤n):nv (dg n)=n:=by
  show nv (digs n.toNat)=n
  rw[nv_digs];omega
theorem dg_eq {xs:List Int} {n:Int} (h:Can xs) (e:nv xs=n):xs=dg n:=by rw[← e,dg_nv h]
theorem dg_zero:dg 0=[]:=digs_zero
theorem nv_ge {xs:List Int} (h:Can xs) (hl:0 < xs.length):LB (xs.length - 1)≤nv xs:=by
  induction xs with
  | nil=>simp at hl
  | cons x xs ih =>
    rcases Nat.eq_zero_or_pos xs.length with h0|h0
    · have e:=List.eq_nil_of_length_eq_zero h0
      subst e;have h1:=h.1.cons.1;show LB 0≤x+1000000000 * nv []
      rw[LB_zero];rcases h.2 with h2|h2
      · cases h2
      · have h3:x≠0:=h2
        simp only[nv];omega
    · have h1:=ih h.tail h0
      have h2:=h.1.cons.1;show LB (xs.length+1 - 1)≤x+1000000000 * nv xs
      rw[show xs.length+1 - 1=(xs.length - 1)+1 by omega,LB_succ]
      omega
/-- The number of limbs by the value. -/
theorem len_le {xs:List Int} (h:Can xs) {n:Nat} (e:nv xs < LB n):xs.length≤n:=by
  rcases Nat.lt_or_ge n xs.length with h1|h1
  · exfalso
    have h2:=nv_ge h (by omega)
    have h3:=LB_le (show n≤xs.length - 1 by omega)
    omega
  · exact h1
theorem len_le_iff {xs:List Int} (h:Can xs) (n:Nat):xs.length≤n ↔ nv xs < LB n:=by
  constructor
  · intro h1
    have:=nv_lt h.1;have:=LB_le h1;omega
  · exact len_le h
theorem len_zero_iff {xs:List Int} (h:Can xs):xs.length=0 ↔ nv xs=0:=by
  constructor
  · intro h1;rw[List.eq_nil_of_length_eq_zero h1];rfl
  · intro h1;rw[h.zero h1];rfl
theorem nv_pos {xs:List Int} (h:Can xs) (hl:0 < xs.length):0 < nv xs:=by
  have:=nv_ge h hl;have:=LB_pos (xs.length - 1);omega
theorem len_lt_val {xs ys:List Int} (h:Can xs) (h':Can ys) (hl:xs.length < ys.length):nv xs < nv ys:=by
  have h1:=nv_lt h.1;have h2:=nv_ge h' (by omega)
  have h3:=LB_le (show xs.length≤ys.length - 1 by omega)
  omega
/-- The value of the first limbs. -/
def pv (xs:List Int) (i:Nat):Int:=nv (xs.take i)
theorem pv_zero (xs:List Int):pv xs 0=0:=by simp [pv,nv]
theorem take_succ_rd {xs:List Int} {i:Nat} (h:i < xs.length):xs.take (i+1)=xs.take i ++ [rd xs (i:Int)]:=by
  rw[rd_at xs i h,List.take_succ_eq_append_getElem h]
theorem pv_succ {xs:List Int} {i:Nat} (h:i < xs.length):pv xs (i+1)=pv xs i+LB i * rd xs (i:Int):=by
  unfold pv;rw[take_succ_rd h,nv_snoc,List.length_take,Nat.min_eq_left (by omega)]
theorem pv_all {xs:List Int} {i:Nat} (h:xs.length≤i):pv xs i=nv xs:=by unfold pv;rw[List.take_of_length_le h]
theorem pv_lt {xs:List Int} (h:Lim xs) {i:Nat} (hi:i≤xs.length):pv xs i < LB i:=by
  have:=nv_lt (h.take i);rwa [List.length_take,Nat.min_eq_left hi] at this
theorem pv_nonneg {xs:List Int} (h:Lim xs) (i:Nat):0≤pv xs i:=nv_nonneg (h.take i)
theorem nv_split (xs:List Int) (i:Nat) (h:i≤xs.length):nv xs=pv xs i+LB i * nv (xs.drop i):=by
  unfold pv;have e:nv xs=nv (xs.take i ++ xs.drop i):=by rw[List.take_append_drop]
  rw[e,nv_append,List.length_take,Nat.min_eq_left h]
/-- The list without the zeros at its end. -/
def trim (xs:List Int):List Int:=dg (nv xs)
theorem nv_trim {xs:List Int} (h:Lim xs):nv (trim xs)=nv xs:=nv_dg (nv_nonneg h)
theorem take_trim {xs:List Int} (h:Lim xs) (n:Nat) (hn:n≤xs.length) (hz:∀ i:Nat,n≤i→i < xs.length→rd xs (i:Int)=0) (hl:n=0∨rd xs ((n:Int) - 1)≠0):xs.take n=trim xs:=by
  have e0:∀ ys:List Int,(∀ i:Nat,i < ys.length→rd ys (i:Int)=0)→nv ys=0:=by
    intro ys;induction ys with
    | nil=>intro _;rfl
    | cons y ys ih =>
      intro hy;show y+1000000000 * nv ys=0
      have h1:y=0:=hy 0 (by simp)
      rw[ih (fun i hi=>by
        have h2:=hy (i+1) (by simpa using hi)
        rwa [show(((i+1:Nat)):Int)=(i:Int)+1 by omega,rd_cons_succ _ _ _ (by omega)] at h2),h1]
      rfl
  have e1:nv (xs.drop n)=0:=e0 _ (fun i hi=>by
    have h2:=hz (n+i) (by omega) (by simp at hi;omega)
    rw[rd_at _ _ (by simp at hi;omega)] at h2
    rw[rd_at _ _ hi,List.getElem_drop];exact h2)
  refine dg_eq ⟨h.take n,?_⟩ ?_
  · rcases hl with hl|hl
    · left;subst hl;simp
    · rcases Nat.eq_zero_or_pos n with h0|h0
      · left;subst h0;simp
      · right
        intro e;apply hl;rw[List.length_take,Nat.min_eq_left hn] at e;rw[show(n:Int) - 1=((n - 1:Nat):Int) by omega] at e ⊢
        rw[rd_at _ _ (by simp;omega)] at e
        rw[rd_at _ _ (by omega)]
        simpa using e
  · have:=nv_split xs n hn
    rw[e1] at this;unfold pv at this;omega

def limbOk (x:Int):Bool:=decide (0≤x) && decide (x < 1000000000)
def lastOk (l:List Int):Bool:=decide (l.length=0) || (rd l ((l.length:Int) - 1) != 0)
def natOk (l:List Int):Bool:=decide (l.length≤48) && (l.all limbOk && lastOk l)
theorem limbs_iff {l:List Int}:l.all limbOk=true ↔ Lim l:=by
  unfold limbOk Lim;simp [List.all_eq_true,Bool.and_eq_true,decide_eq_true_eq]
theorem lastOk_iff {l:List Int}:lastOk l=true ↔ Tight l:=by
  unfold lastOk Tight;simp only[Bool.or_eq_true,decide_eq_true_eq,bne_iff_ne,ne_eq,List.length_eq_zero_iff]
theorem natOk_iff {l:List Int}:natOk l=true ↔ Can l∧l.length≤48:=by
  unfold natOk Can;rw[Bool.and_eq_true,Bool.and_eq_true,limbs_iff,lastOk_iff,decide_eq_true_eq];exact⟨fun h=>⟨h.2,h.1⟩,fun h=>⟨h.2,h.1⟩⟩
theorem natOk_dg {n:Int} (h:n < LB 48):natOk (dg n)=true:=by
  rw[natOk_iff];refine⟨can_dg n,?_⟩;rcases Int.lt_or_le n 0 with h0|h0
  · have:dg n=[]:=by unfold dg;rw[show n.toNat=0 by omega];exact digs_zero
    rw[this];simp
  · exact len_le (can_dg n) (by rw[nv_dg h0];exact h)
theorem valid_loop (l:List Int) (h48:l.length≤48) (d:Nat):∀ i:Nat,i+d=l.length→Tells (fun k=>Bzv.l0 k l (l.length:Int) (i:Int)) ((l.drop i).all limbOk && lastOk l):=by
  induction d with
  | zero =>
    intro i hi;refine Tells.up (g:=fun _=>some (lastOk l)) ?_ (fun k=>?_)
    · rw[List.drop_eq_nil_of_le (by omega)]
      exact Tells.const _
    · simp only[Bzv.l0]
      rw[if_neg (by omega)]
      unfold lastOk;by_cases h0:l.length=0
      · rw[if_pos (by omega),decide_eq_true h0];rfl
      · rw[if_neg (by omega),decide_eq_false h0,wrap64_id (by omega) (by omega),if_pos (by omega),if_pos (by omega)];rfl
  | succ d ih =>
    intro i hi;rw[rd_drop l i (by omega),List.all_cons]
    unfold limbOk;by_cases h1:rd l (i:Int) < 0
    · refine Tells.up (g:=fun _=>some false) ?_ (fun k=>?_)
      · rw[decide_eq_false (by omega:¬ 0≤rd l (i:Int))];exact Tells.const _
      · simp only[Bzv.l0]
        rw[if_pos (by omega),if_pos (by omega),if_pos (by omega),if_pos h1]
    · by_cases h2:rd l (i:Int)≥1000000000
      · refine Tells.up (g:=fun _=>some false) ?_ (fun k=>?_)
        · rw[decide_eq_false (by omega:¬ rd l (i:Int) < 1000000000),Bool.and_false];exact Tells.const _
        · simp only[Bzv.l0]
          rw[if_pos (by omega),if_pos (by omega),if_pos (by omega),if_neg h1,if_pos h2]
      · refine Tells.up (g:=fun k=>Bzv.l0 k l (l.length:Int) ((i+1:Nat):Int)) ?_ (fun k=>?_)
        · rw[decide_eq_true (by omega:0≤rd l (i:Int)),decide_eq_true (by omega:rd l (i:Int) < 1000000000),Bool.and_true,Bool.true_and]
          exact ih (i+1) (by omega)
        · simp only[Bzv.l0]
          rw[if_pos (by omega),if_pos (by omega),if_pos (by omega),if_neg h1,if_neg h2,wrap64_id (by omega) (by omega)]
          rfl
theorem Valid_tells (l:List Int):Tells (fun k=>Bzv.f k l) (natOk l):=by
  unfold Bzv.f natOk;by_cases h:(l.length:Int) > 48
  · rw[decide_eq_false (by omega:¬ l.length≤48)]
    exact Tells.pos h (Tells.const _)
  · rw[decide_eq_true (by omega:l.length≤48),Bool.true_and]
    have:=valid_loop l (by omega) l.length 0 (by omega)
    exact Tells.neg h (by simpa using this)
theorem trimmed_loop (x:List Int) (hx:Lim x) (hb:x.length < 4611686018427387904) (d:Nat):d≤x.length→(∀ i:Nat,d≤i→i < x.length→rd x (i:Int)=0)→Tells (fun k=>Czj.l0 k x (d:Int)) (trim x):=by
  induction d with
  | zero =>
    intro hd hz;refine Tells.up (g:=fun _=>some (trim x)) (Tells.const _) (fun k=>?_)
    simp only[Czj.l0];rw[if_neg (by omega),if_pos (by omega),if_pos (by omega)]
    rw[show((0:Nat):Int).toNat=0 by omega,take_trim hx 0 (by omega) hz (.inl rfl)]
  | succ d ih =>
    intro hd hz;by_cases h0:rd x (d:Int)=0
    · refine Tells.up (g:=fun k=>Czj.l0 k x (d:Int)) (ih (by omega) (fun i h1 h2=>?_)) (fun k=>?_)
      · rcases Nat.eq_or_lt_of_le h1 with e|e
        · rw[← e];exact h0
        · exact hz i e h2
      · simp only[Czj.l0]
        rw[if_pos (by omega),wrap64_id (by omega) (by omega),show((d+1:Nat):Int) - 1=(d:Int) by omega,if_pos (by omega),if_pos (by omega),if_pos h0]
    · refine Tells.up (g:=fun _=>some (trim x)) (Tells.const _) (fun k=>?_)
      simp only[Czj.l0];rw[if_pos (by omega),wrap64_id (by omega) (by omega),show((d+1:Nat):Int) - 1=(d:Int) by omega,if_pos (by omega),if_pos (by omega),if_neg h0,if_pos (by omega),if_pos (by omega)]
      rw[show((d+1:Nat):Int).toNat=d+1 by omega,take_trim hx (d+1) hd hz (.inr (by rw[show((d+1:Nat):Int) - 1=(d:Int) by omega];exact h0))]
theorem trimmed_tells {x:List Int} (hx:Lim x) (hb:x.length < 4611686018427387904):Tells (fun k=>Czj.f k x) (trim x):=by
  unfold Czj.f;exact trimmed_loop x hx hb x.length (Nat.le_refl _) (fun i h1 h2=>absurd h2 (by omega))
theorem padded_eq (l:List Int) (n:Nat) (hn:n≤1000000) (hl:l.length≤1000000):Gzx.f l (n:Int)=some (l ++ List.replicate (n - l.length) 0):=by
  unfold Gzx.f Gzm.f;have hm:mx (n:Int) (l.length:Int)=((max n l.length:Nat):Int):=by
    unfold mx;split <;> omega
  rw[hm,if_pos (by omega),if_pos (by omega),show(((max n l.length:Nat):Int)).toNat=max n l.length by omega]
  simp only[Option.bind_some];rw[List.length_replicate,List.take_of_length_le (by omega),List.drop_replicate]
  rw[show max n l.length - l.length=n - l.length by omega]
theorem padded_self (l:List Int) (hl:l.length≤1000000):Gzx.f l (l.length:Int)=some l:=by
  rw[padded_eq l l.length hl hl];simp
/-- A value as limbs,or the error of overflow. -/
def fitv (v:Int):List Int × Int:=if v < LB 48 then(dg v,0) else([],2)
theorem fitted_tells {x:List Int} (hx:Lim x) (hb:x.length < 4611686018427387904):Tells (fun k=>Gzq.f k x) (fitv (nv x)):=by
  unfold Gzq.f;refine(trimmed_tells hx hb).bind ?_;have hc:Can (trim x):=can_dg _;have hn:nv (trim x)=nv x:=nv_trim hx;unfold fitv;have h1:=len_le_iff hc 48;rw[hn] at h1;by_cases h:nv x < LB 48
  · rw[if_pos h]
    exact Tells.neg (by have:=h1.2 h;omega) (Tells.const _)
  · rw[if_neg h]
    refine Tells.pos ?_ (Tells.const _);rcases Nat.lt_or_ge 48 (trim x).length with h2|h2
    · omega
    · exact absurd (h1.1 h2) h
theorem nv_set:∀ (x:List Int) (i:Nat) (v:Int),i < x.length→nv (x.set i v)=nv x+LB i * (v - rd x (i:Int))
  | [],i,v,h=>by simp at h
  | a :: x,0,v,h=>by
    show v+1000000000 * nv x=a+1000000000 * nv x+LB 0 * (v - a)
    rw[LB_zero];omega
  | a :: x,i+1,v,h=>by
    show a+1000000000 * nv (x.set i v)=a+1000000000 * nv x+LB (i+1) * (v - rd (a :: x) ((i+1:Nat):Int))
    rw[nv_set x i v (by simpa using h),show(((i+1:Nat)):Int)=(i:Int)+1 by omega,rd_cons_succ _ _ _ (by omega),LB_succ,Int.mul_add,Int.mul_assoc]
    omega
theorem nv_drop {l:List Int} {i:Nat} (h:i < l.length):nv (l.drop i)=rd l (i:Int)+1000000000 * nv (l.drop (i+1)):=by
  rw[rd_drop l i h];rfl
theorem nv_drop_all {l:List Int} {i:Nat} (h:l.length≤i):nv (l.drop i)=0:=by
  rw[List.drop_eq_nil_of_le h];rfl
/-- How two numbers compare. -/
def cmpI (x y:Int):Int:=if x < y then -1 else if x > y then 1 else 0
theorem compare_loop (a b:List Int) (ha:Lim a) (hb:Lim b) (hl:a.length=b.length) (hn:a.length≤1000000) (d:Nat):d≤a.length→Tells (fun k=>Ezj.l0 k a b ((d:Int) - 1)) (cmpI (pv a d) (pv b d)):=by
  induction d with
  | zero =>
    intro _;refine Tells.up (g:=fun _=>some 0) ?_ (fun k=>?_)
    · rw[pv_zero,pv_zero];exact Tells.const _
    · simp only[Ezj.l0];rw[if_neg (by omega)]
  | succ d ih =>
    intro hd;have h1:=pv_succ (xs:=a) (i:=d) (by omega)
    have h2:=pv_succ (xs:=b) (i:=d) (by omega)
    have h3:=pv_lt ha (i:=d) (by omega)
    have h4:=pv_lt hb (i:=d) (by omega)
    have h5:=pv_nonneg ha d;have h6:=pv_nonneg hb d;rw[show((d+1:Nat):Int) - 1=(d:Int) by omega]
    rcases Int.lt_trichotomy (rd a (d:Int)) (rd b (d:Int)) with h|h|h
    · have h7:LB d * (rd a (d:Int)+1)≤LB d * rd b (d:Int):=Int.mul_le_mul_of_nonneg_left (by omega) (by have:=LB_pos d;omega)
      rw[Int.mul_add] at h7;refine Tells.up (g:=fun _=>some (-1)) ?_ (fun k=>?_)
      · rw[show cmpI (pv a (d+1)) (pv b (d+1))=-1 by unfold cmpI;rw[if_pos (by omega)]];exact Tells.const _
      · simp only[Ezj.l0];rw[if_pos (by omega),if_pos (by omega),if_pos (by omega),if_pos (by omega),if_pos h]
    · refine Tells.up (g:=fun k=>Ezj.l0 k a b ((d:Int) - 1)) ?_ (fun k=>?_)
      · have e:cmpI (pv a (d+1)) (pv b (d+1))=cmpI (pv a d) (pv b d):=by
          rw[h1,h2,h];unfold cmpI;by_cases e1:pv a d < pv b d
          · rw[if_pos e1,if_pos (by omega)]
          · rw[if_neg e1,if_neg (by omega)]
            by_cases e2:pv a d > pv b d
            · rw[if_pos e2,if_pos (by omega)]
            · rw[if_neg e2,if_neg (by omega)]
        rw[e];exact ih (by omega)
      · simp only[Ezj.l0]
        rw[if_pos (by omega),if_pos (by omega),if_pos (by omega),if_pos (by omega),if_neg (by omega),if_neg (by omega),wrap64_id (by omega) (by omega)]
    · have h7:LB d * (rd b (d:Int)+1)≤LB d * rd a (d:Int):=Int.mul_le_mul_of_nonneg_left (by omega) (by have:=LB_pos d;omega)
      rw[Int.mul_add] at h7;refine Tells.up (g:=fun _=>some 1) ?_ (fun k=>?_)
      · rw[show cmpI (pv a (d+1)) (pv b (d+1))=1 by unfold cmpI;rw[if_neg (by omega),if_pos (by omega)]];exact Tells.const _
      · simp only[Ezj.l0];rw[if_pos (by omega),if_pos (by omega),if_pos (by omega),if_pos (by omega),if_neg (by omega),if_pos h]
theorem compare_tells {a b:List Int} (ha:Can a) (hb:Can b) (hn:a.length≤1000000) (hm:b.length≤1000000):Tells (fun k=>Ezj.f k a b) (cmpI (nv a) (nv b)):=by
  unfold Ezj.f;by_cases hl:(a.length:Int)=(b.length:Int)
  · refine Tells.pos hl ?_
    have h:=compare_loop a b ha.1 hb.1 (by omega) hn a.length (Nat.le_refl _)
    rw[pv_all (Nat.le_refl _),pv_all (by omega)] at h
    refine h.congr (fun k=>?_)
    rw[wrap64_id (by omega) (by omega)]
  · refine Tells.neg hl ?_
    by_cases h:(a.length:Int) < (b.length:Int)
    · have:=len_lt_val ha hb (by omega)
      rw[show cmpI (nv a) (nv b)=-1 by unfold cmpI;rw[if_pos (by omega)]]
      exact Tells.pos h (Tells.const _)
    · have:=len_lt_val hb ha (by omega)
      rw[show cmpI (nv a) (nv b)=1 by unfold cmpI;rw[if_neg (by omega),if_pos (by omega)]]
      exact Tells.neg h (Tells.const _)
theorem cmpI_neg {x y:Int}:cmpI x y < 0 ↔ x < y:=by
  unfold cmpI;by_cases h:x < y
  · rw[if_pos h];omega
  · rw[if_neg h]
    by_cases h':x > y
    · rw[if_pos h'];omega
    · rw[if_neg h'];omega
/-- Of: the limbs of an integer. -/
theorem Of_loop (m:Nat):∀ (n:Int) (acc:List Int),0≤n→n < LB m→m≤100→acc.length+m < 1000000→n < 9223372036854775808→Tells (fun k=>Fzw.l0 k n acc) (acc ++ dg n,0):=by
  induction m with
  | zero =>
    intro n acc h0 h1 _ _ _;rw[LB_zero] at h1;obtain rfl:n=0:=by omega
    refine Tells.up (g:=fun _=>some (acc,0)) ?_ (fun k=>?_)
    · rw[dg_zero,List.append_nil];exact Tells.const _
    · simp only[Fzw.l0];rw[if_neg (by omega)]
  | succ m ih =>
    intro n acc h0 h1 hm hl hn;rw[LB_succ] at h1;rcases Int.lt_or_eq_of_le h0 with hp|hp
    · have e1:Int.tdiv n 1000000000=n / 1000000000:=Int.tdiv_eq_ediv_of_nonneg h0
      have e2:Int.tmod n 1000000000=n % 1000000000:=Int.tmod_eq_emod_of_nonneg h0;refine Tells.up (g:=fun k=>Fzw.l0 k (n / 1000000000) (acc ++ [n % 1000000000])) ?_ (fun k=>?_)
      · have h:=ih (n / 1000000000) (acc ++ [n % 1000000000]) (by omega) (by have:=LB_pos m;omega) (by omega) (by simp;omega) (by omega)
        have e3:dg n=n % 1000000000 :: dg (n / 1000000000):=by
          unfold dg;rw[digs_pos (by omega),show n.toNat / 1000000000=(n / 1000000000).toNat by omega]
          congr 1;omega
        rw[e3];simpa using h
      · simp only[Fzw.l0]
        rw[if_pos (by omega),if_pos (by omega),e1,e2,wrap64_id (by omega) (by omega)]
    · subst hp
      refine Tells.up (g:=fun _=>some (acc,0)) ?_ (fun k=>?_)
      · rw[dg_zero,List.append_nil];exact Tells.const _
      · simp only[Fzw.l0];rw[if_neg (by omega)]
theorem LB3:LB 3=1000000000000000000000000000:=by decide
theorem LB2:LB 2=1000000000000000000:=by decide
theorem Of_tells {n:Int} (h0:0≤n) (h1:n < 9223372036854775808):Tells (fun k=>Fzw.f k n) (dg n,0):=by
  unfold Fzw.f;refine Tells.neg (by omega) ?_
  have:=Of_loop 3 n [] h0 (by rw[LB3];omega) (by omega) (by simp) h1
  simpa using this
theorem small_tells {l:List Int} (h:Lim l) (hl:l.length≤2):Tells (fun k=>Ezw.f k l) (nv l):=by
  unfold Ezw.f;match l,h,hl with
  | [],_,_ =>
    refine⟨1,fun k hk=>?_⟩
    obtain⟨m,rfl⟩:∃ m,k=m+1:=⟨k - 1,by omega⟩
    show Ezw.l0 (m+1) [] 0 (wrap64 (((0:Nat):Int) - 1))=some 0
    rw[show wrap64 (((0:Nat):Int) - 1)=-1 by unfold wrap64;omega]
    simp only[Ezw.l0];rw[if_neg (by omega)]
  | [a],h,_ =>
    have h1:=h.cons.1;refine⟨2,fun k hk=>?_⟩
    obtain⟨m,rfl⟩:∃ m,k=m+1+1:=⟨k - 2,by omega⟩
    show Ezw.l0 (m+1+1) [a] 0 (wrap64 (((1:Nat):Int) - 1))=some (a+1000000000 * 0)
    rw[show wrap64 (((1:Nat):Int) - 1)=0 by unfold wrap64;omega]
    simp only[Ezw.l0];rw[if_pos (by omega),if_pos (by omega),if_pos (by simp)]
    rw[if_neg (by rw[wrap64_id] <;> omega)]
    show some (wrap64 (wrap64 (0 * 1000000000)+a))=_
    rw[wrap64_id (n:=0 * 1000000000) (by omega) (by omega),wrap64_id (by omega) (by omega)]
    congr 1;omega
  | [a,b],h,_ =>
    have h1:=h.cons.1;have h2:=h.cons.2.cons.1;refine⟨3,fun k hk=>?_⟩
    obtain⟨m,rfl⟩:∃ m,k=m+1+1+1:=⟨k - 3,by omega⟩
    show Ezw.l0 (m+1+1+1) [a,b] 0 (wrap64 (((2:Nat):Int) - 1))=some (a+1000000000 * (b+1000000000 * 0))
    rw[show wrap64 (((2:Nat):Int) - 1)=1 by unfold wrap64;omega]
    simp only[Ezw.l0];have e1:wrap64 ((1:Int) - 1)=0:=by unfold wrap64;omega
    rw[if_pos (by omega),if_pos (by omega),if_pos (by simp),e1,if_pos (by omega),if_pos (by omega),if_pos (by simp)]
    rw[if_neg (by rw[wrap64_id] <;> omega)]
    show some (wrap64 (wrap64 (wrap64 (wrap64 (0 * 1000000000)+b) * 1000000000)+a))=_
    rw[wrap64_id (n:=0 * 1000000000) (by omega) (by omega),wrap64_id (n:=0 * 1000000000+b) (by omega) (by omega),wrap64_id (n:=(0 * 1000000000+b) * 1000000000) (by omega) (by omega),wrap64_id (by omega) (by omega)]
    congr 1;omega

theorem mul_alg (P xi ai bj c t m q:Int) (e:m+1000000000 * q=xi+ai * bj+c):P * (c+ai * (bj+1000000000 * t))=P * (m - xi)+1000000000 * P * (q+ai * t):=by grind
theorem mul_alg2 (P a t b:Int):P * ((a+1000000000 * t) * b)=P * (a * b)+1000000000 * P * (t * b):=by grind
/-- A product of limbs,with what is there and what is carried,fits. -/
theorem limb_prod {x y:Int} (hx:0≤x) (hx1:x < 1000000000) (hy:0≤y) (hy1:y < 1000000000):0≤x * y∧x * y≤999999998000000001:=by
  refine⟨Int.mul_nonneg hx hy,?_⟩;have:x * y≤999999999 * 999999999:=Int.mul_le_mul (by omega) (by omega) hy (by omega)
  omega
theorem limb_step {xi u c:Int} (h0:0≤xi) (h1:xi < 1000000000) (h2:0≤u) (h3:u≤999999998000000001) (h4:0≤c) (h5:c < 1000000000) :
    wrap64 (wrap64 (xi+wrap64 u)+c)=xi+u+c∧Int.tdiv (xi+u+c) 1000000000=(xi+u+c) / 1000000000∧Int.tmod (xi+u+c) 1000000000=(xi+u+c) % 1000000000∧0≤(xi+u+c) % 1000000000∧(xi+u+c) % 1000000000 < 1000000000∧0≤(xi+u+c) / 1000000000∧(xi+u+c) / 1000000000 < 1000000000∧wrap64 ((xi+u+c) / 1000000000)=(xi+u+c) / 1000000000:=by
  refine⟨?_,Int.tdiv_eq_ediv_of_nonneg (by omega),Int.tmod_eq_emod_of_nonneg (by omega),by omega,by omega,by omega,by omega,wrap64_id (by omega) (by omega)⟩
  rw[wrap64_id (n:=u) (by omega) (by omega),wrap64_id (n:=xi+u) (by omega) (by omega),wrap64_id (by omega) (by omega)]
theorem Mul_inner (a b:List Int) (ha:Lim a) (hb:Lim b) (N:Nat) (hN:N=a.length+b.length+1) (hn:N≤1000000) (R:List Int × Int) (i:Nat) (hi:i < a.length) (V:Int)
    (hout:∀ x:List Int,x.length=N→Lim x→(∀ m:Nat,i+1+b.length≤m→m < N→rd x (m:Int)=0)→V=nv x+LB (i+1) * (nv (a.drop (i+1)) * nv b)→Tells (fun k=>Dzv.l0 k a b x (a.length:Int) ((i+1:Nat):Int)) R) (d:Nat) :
    ∀ (j:Nat) (x:List Int) (c:Int),j+d=b.length→x.length=N→Lim x→(∀ m:Nat,i+b.length≤m→m < N→rd x (m:Int)=0)→0≤c→c < 1000000000 →
      V=nv x+LB (i+j) * (c+rd a (i:Int) * nv (b.drop j))+LB (i+1) * (nv (a.drop (i+1)) * nv b) →
      Tells (fun k=>Dzv.l1 k a b x (i:Int) c (a.length:Int) (i:Int) (b.length:Int) (j:Int)) R:=by
  induction d with
  | zero =>
    intro j x c hj hx hl hz h0 h1;have k1:i+b.length < N:=by omega
    have k2:i+b.length < x.length:=by omega
    have k3:i+j=i+b.length:=by omega
    have k4:b.length≤j:=by omega
    have k5:∀ m:Nat,i+1+b.length≤m→m < N→¬ (i+b.length=m)∧m < x.length∧i+b.length≤m:=fun m h2 h3=>by omega
    have k6:¬ ((j:Int) < (b.length:Int)):=by omega
    have k7:wrap64 ((i:Int)+(b.length:Int))=((i+b.length:Nat):Int):=by rw[wrap64_id (by omega) (by omega)];omega
    have k8:(0:Int)≤((i+b.length:Nat):Int)∧((i+b.length:Nat):Int) < (x.length:Int):=by omega
    have k9:wrap64 ((i:Int)+1)=((i+1:Nat):Int):=by rw[wrap64_id (by omega) (by omega)];omega
    have k10:((i+b.length:Nat):Int).toNat=i+b.length:=by omega
    intro hv;have hz0:=hz (i+b.length) (Nat.le_refl _) k1;rw[nv_drop_all k4,Int.mul_zero,Int.add_zero] at hv;refine Tells.up (g:=fun k=>Dzv.l0 k a b (x.set (i+b.length) c) (a.length:Int) ((i+1:Nat):Int)) ?_ (fun k=>?_)
    · refine hout _ (by simpa using hx) (hl.set _ h0 h1) (fun m h2 h3=>?_) ?_
      · rw[rd_set x _ m c (k5 m h2 h3).2.1,if_neg (k5 m h2 h3).1];exact hz m (k5 m h2 h3).2.2 h3
      · rw[nv_set x _ c k2,hz0,Int.sub_zero,hv,k3]
    · simp only[Dzv.l1]
      rw[if_neg k6,k7,if_pos k8.1,if_pos k8.2,k9,k10]
  | succ d ih =>
    intro j x c hj hx hl hz h0 h1;have i1:i+j < x.length:=by omega
    have i2:j < b.length:=by omega
    have i3:i+(j+1)=(i+j)+1:=by omega
    have i4:(j+1)+d=b.length:=by omega
    have j1:(j:Int) < (b.length:Int):=by omega
    have j2:(0:Int)≤((i+j:Nat):Int):=by omega
    have j3:((i+j:Nat):Int) < (x.length:Int):=by omega
    have j4:(0:Int)≤(i:Int):=by omega
    have j5:(i:Int) < (a.length:Int):=by omega
    have j6:(0:Int)≤(j:Int):=by omega
    have j7:wrap64 ((j:Int)+1)=((j+1:Nat):Int):=by rw[wrap64_id (by omega) (by omega)];omega
    have e0:wrap64 ((i:Int)+(j:Int))=((i+j:Nat):Int):=by rw[wrap64_id (by omega) (by omega)];omega
    have j8:((i+j:Nat):Int).toNat=i+j:=by omega
    have i5:∀ m:Nat,i+b.length≤m→m < N→¬ (i+j=m)∧m < x.length:=fun m h2 h3=>by omega
    intro hv;have hr:=hl.rd j2 j3;have hs:=hb.rd j6 j1;have ht:=ha.rd j4 j5;have hp:=limb_prod ht.1 ht.2 hs.1 hs.2;obtain⟨e1,e2,e3,b1,b2,b3,b4,b5⟩:=limb_step hr.1 hr.2 hp.1 hp.2 h0 h1;refine Tells.up (g:=fun k=>Dzv.l1 k a b (x.set (i+j) ((rd x ((i+j:Nat):Int)+rd a (i:Int) * rd b (j:Int)+c) % 1000000000)) (i:Int) ((rd x ((i+j:Nat):Int)+rd a (i:Int) * rd b (j:Int)+c) / 1000000000) (a.length:Int) (i:Int) (b.length:Int) ((j+1:Nat):Int)) ?_ (fun k=>?_)
    · refine ih (j+1) _ _ i4 (by simpa using hx) (hl.set _ b1 b2) (fun m h2 h3=>?_) b3 b4 ?_
      · rw[rd_set x _ m _ (i5 m h2 h3).2,if_neg (i5 m h2 h3).1];exact hz m h2 h3
      · rw[nv_set x (i+j) _ i1,i3,LB_succ (i+j),hv,nv_drop (l:=b) (i:=j) i2]
        rw[mul_alg (LB (i+j)) (rd x ((i+j:Nat):Int)) (rd a (i:Int)) (rd b (j:Int)) c (nv (b.drop (j+1))) _ _ (Int.emod_add_mul_ediv _ _)];ac_rfl
    · simp only[Dzv.l1]
      rw[if_pos j1,e0,if_pos j2,if_pos j3,if_pos j4,if_pos j5,if_pos j6,if_pos j1,e1,e2,e3,b5,j7,j8]
theorem Mul_outer (a b:List Int) (ha:Lim a) (hb:Lim b) (N:Nat) (hN:N=a.length+b.length+1) (hn:N≤1000000) (V:Int) (d:Nat) :
    ∀ (i:Nat) (x:List Int),i+d=a.length→x.length=N→Lim x→(∀ m:Nat,i+b.length≤m→m < N→rd x (m:Int)=0)→V=nv x+LB i * (nv (a.drop i) * nv b) →
      Tells (fun k=>Dzv.l0 k a b x (a.length:Int) (i:Int)) (fitv V):=by
  induction d with
  | zero =>
    intro i x hi hx hl hz hv;rw[nv_drop_all (by omega),Int.zero_mul,Int.mul_zero,Int.add_zero] at hv
    refine Tells.up (g:=fun k=>(Gzq.f k x).bind fun bt=>(some (bt.1,bt.2))) ?_ (fun k=>?_)
    · rw[hv];exact(fitted_tells hl (by omega)).bind (Tells.const _)
    · simp only[Dzv.l0];rw[if_neg (by omega)]
  | succ d ih =>
    intro i x hi hx hl hz hv;refine Tells.up (g:=fun k=>Dzv.l1 k a b x (i:Int) 0 (a.length:Int) (i:Int) (b.length:Int) ((0:Nat):Int)) ?_ (fun k=>?_)
    · refine Mul_inner a b ha hb N hN hn _ i (by omega) V (fun y h1 h2 h3 h4=>ih (i+1) y (by omega) h1 h2 h3 h4) b.length 0 x 0 (by omega) hx hl hz (by omega) (by omega) ?_
      rw[hv,nv_drop (l:=a) (i:=i) (by omega),List.drop_zero,Nat.add_zero,Int.zero_add,LB_succ,mul_alg2]
      ac_rfl
    · simp only[Dzv.l0];rw[if_pos (by omega)];rfl
theorem Mul_tells (a b:List Int):Tells (fun k=>Dzv.f k a b) (if natOk a && natOk b then fitv (nv a * nv b) else([],3)):=by
  unfold Dzv.f;refine(Valid_tells a).bind ?_;by_cases ha:natOk a=true
  · refine Tells.pos ha ((Valid_tells b).bind ?_)
    by_cases hb:natOk b=true
    · rw[ha,hb,if_pos (show(true && true)=true from rfl)]
      obtain⟨ca,la⟩:=natOk_iff.1 ha;obtain⟨cb,lb⟩:=natOk_iff.1 hb;have hw:wrap64 (wrap64 ((a.length:Int)+(b.length:Int))+1)=((a.length+b.length+1:Nat):Int):=by rw[wrap64_id (n:=(a.length:Int)+(b.length:Int)) (by omega) (by omega),wrap64_id (by omega) (by omega)];omega
      refine Tells.up (g:=fun k=>Dzv.l0 k a b (List.replicate (a.length+b.length+1) 0) (a.length:Int) ((0:Nat):Int)) ?_ (fun k=>?_)
      · refine Mul_outer a b ca.1 cb.1 (a.length+b.length+1) rfl (by omega) _ a.length 0 _ (by omega) (by simp) (Lim.zeros _) (fun m _ h2=>rd_replicate _ m 0 h2) ?_
        rw[nv_zeros,LB_zero,List.drop_zero];omega
      · simp only[Dzv.j0]
        rw[if_neg (by decide),hw,if_pos (by omega),if_pos (by omega)]
        rfl
    · rw[show natOk b=false by simpa using hb,Bool.and_false,if_neg (by decide)]
      exact Tells.up (g:=fun _=>some ([],3)) (Tells.const _) (fun k=>by simp [Dzv.j0])
  · rw[show natOk a=false by simpa using ha,Bool.false_and,if_neg (by decide)]
    refine Tells.neg (by decide) ?_
    exact Tells.up (g:=fun _=>some ([],3)) (Tells.const _) (fun k=>by simp [Dzv.j0])

theorem idiv_of {V Q m r:Int} (h:V=Q * m+r) (h0:0≤r) (h1:r < m):V / m=Q∧V % m=r:=by
  have hm:0 < m:=by omega
  have e:V=r+m * Q:=by rw[h,Int.mul_comm m Q,Int.add_comm]
  constructor
  · rw[e,Int.add_mul_ediv_left _ _ (by omega),Int.ediv_eq_zero_of_lt h0 h1,Int.zero_add]
  · rw[e,Int.add_mul_emod_self_left,Int.emod_eq_of_lt h0 h1]
theorem short_step {r x m:Int} (h0:0≤r) (h1:r < m) (hx:0≤x) (hx1:x < 1000000000) (hm:m < 1000000000) :
    wrap64 (wrap64 (r * 1000000000)+x)=r * 1000000000+x∧Int.tdiv (r * 1000000000+x) m=(r * 1000000000+x) / m∧Int.tmod (r * 1000000000+x) m=(r * 1000000000+x) % m∧0≤(r * 1000000000+x) % m∧(r * 1000000000+x) % m < m∧0≤(r * 1000000000+x) / m∧(r * 1000000000+x) / m < 1000000000∧wrap64 ((r * 1000000000+x) / m)=(r * 1000000000+x) / m:=by
  have hs:0≤r * 1000000000+x:=by omega
  have a1:=Int.emod_nonneg (r * 1000000000+x) (show m≠0 by omega)
  have a2:=Int.emod_lt_of_pos (r * 1000000000+x) (show 0 < m by omega)
  have a3:=Int.ediv_nonneg hs (show 0≤m by omega)
  have a4:(r * 1000000000+x) / m < 1000000000:=Int.ediv_lt_of_lt_mul (by omega) (by omega)
  exact⟨by rw[wrap64_id (n:=r * 1000000000) (by omega) (by omega),wrap64_id (by omega) (by omega)],Int.tdiv_eq_ediv_of_nonneg hs,Int.tmod_eq_emod_of_nonneg hs,a1,a2,a3,a4,wrap64_id (by omega) (by omega)⟩
theorem short_loop (a:List Int) (ha:Lim a) (hn:a.length≤1000000) (m:Int) (hm0:0 < m) (hm:m < 1000000000) (i:Nat):∀ (x:List Int) (r:Int),i≤a.length→x.length=a.length→Lim x→(∀ j:Nat,j < i→rd x (j:Int)=0)→0≤r→r < m→nv a=nv x * m+(r * LB i+pv a i) →
    Tells (fun k=>Dzk.l0 k a m x r ((i:Int) - 1)) (dg (nv a / m),dg (nv a % m)):=by
  induction i with
  | zero =>
    intro x r hi hx hl hz h0 h1 hv;rw[LB_zero,Int.mul_one,pv_zero,Int.add_zero] at hv;obtain⟨e1,e2⟩:=idiv_of hv h0 h1;have hr:Lim [r]:=Lim.mk h0 (Int.lt_trans h1 hm) Lim.nil;refine Tells.up (g:=fun k=>(Czj.f k x).bind fun t=>((Czj.f k [r]).bind fun t2=>(some (t,t2)))) ?_ (fun k=>?_)
    · rw[e1,e2]
      have h2:x.length < 4611686018427387904:=by rw[hx];clear hv e1 e2;omega
      have h3:=trimmed_tells hr (by simp)
      unfold trim at h3;rw[nv_single] at h3;exact(trimmed_tells hl h2).bind (h3.bind (Tells.const _))
    · simp only[Dzk.l0];rw[if_neg (by decide)]
  | succ i ih =>
    intro x r hi hx hl hz h0 h1;have i1:i < a.length:=by omega
    have i2:i < x.length:=by omega
    have i3:(0:Int)≤(i:Int):=by omega
    have i4:(i:Int) < (a.length:Int):=by omega
    have i5:(i:Int) < (x.length:Int):=by omega
    have i6:((i+1:Nat):Int) - 1=(i:Int):=by omega
    have i7:wrap64 ((i:Int) - 1)=(i:Int) - 1:=wrap64_id (by omega) (by omega)
    have i8:∀ j:Nat,j < i→¬ (i=j)∧j < x.length∧j < i+1:=fun j hj=>by omega
    have i9:m≠0:=by omega
    have i10:((i:Int)).toNat=i:=by omega
    have i11:i≤a.length:=by omega
    have i12:i < i+1:=by omega
    intro hv;have hr:=ha.rd i3 i4;obtain⟨e1,e2,e3,b1,b2,b3,b4,b5⟩:=short_step h0 h1 hr.1 hr.2 hm;have hz0:=hz i i12;rw[i6];refine Tells.up (g:=fun k=>Dzk.l0 k a m (x.set i ((r * 1000000000+rd a (i:Int)) / m)) ((r * 1000000000+rd a (i:Int)) % m) ((i:Int) - 1)) ?_ (fun k=>?_)
    · refine ih _ _ i11 (by simpa using hx) (hl.set _ b3 b4) (fun j hj=>?_) b1 b2 ?_
      · rw[rd_set x _ j _ (i8 j hj).2.1,if_neg (i8 j hj).1];exact hz j (i8 j hj).2.2
      · rw[nv_set x i _ i2,hz0,Int.sub_zero,hv,pv_succ i1,LB_succ]
        have h:=Int.emod_add_mul_ediv (r * 1000000000+rd a (i:Int)) m;grind
    · simp only[Dzk.l0]
      rw[if_pos i3,if_pos i3,if_pos i4,if_neg i9,if_pos i5,e1,e2,e3,b5,i7,i10]
theorem short_tells {a:List Int} (ha:Lim a) (hn:a.length≤1000000) {m:Int} (hm0:0 < m) (hm:m < 1000000000):Tells (fun k=>Dzk.f k a m) (dg (nv a / m),dg (nv a % m)):=by
  unfold Dzk.f;have h:=short_loop a ha hn m hm0 hm a.length (List.replicate a.length 0) 0 (Nat.le_refl _) (by simp) (Lim.zeros _) (fun j hj=>rd_replicate _ j 0 hj) (by omega) hm0 (by rw[nv_zeros,pv_all (Nat.le_refl _)];omega)
  refine Tells.pos (by omega) (Tells.pos (by omega) ?_)
  refine h.congr (fun k=>?_)
  rw[wrap64_id (by omega) (by omega),show((a.length:Int)).toNat=a.length by omega]
theorem scaled_step {xi m c:Int} (h0:0≤xi) (h1:xi < 1000000000) (h2:0≤m) (h3:m < 1000000000) (h4:0≤c) (h5:c < 1000000000) :
    wrap64 (wrap64 (xi * m)+c)=xi * m+c∧Int.tdiv (xi * m+c) 1000000000=(xi * m+c) / 1000000000∧Int.tmod (xi * m+c) 1000000000=(xi * m+c) % 1000000000∧0≤(xi * m+c) % 1000000000∧(xi * m+c) % 1000000000 < 1000000000∧0≤(xi * m+c) / 1000000000∧(xi * m+c) / 1000000000 < 1000000000∧wrap64 ((xi * m+c) / 1000000000)=(xi * m+c) / 1000000000:=by
  obtain⟨h6,h7⟩:=limb_prod h0 h1 h2 h3;generalize xi * m=u at *;refine⟨?_,Int.tdiv_eq_ediv_of_nonneg (by omega),Int.tmod_eq_emod_of_nonneg (by omega),by omega,by omega,by omega,by omega,wrap64_id (by omega) (by omega)⟩
  rw[wrap64_id (n:=u) (by omega) (by omega),wrap64_id (by omega) (by omega)]
theorem scaled_loop (a:List Int) (ha:Lim a) (hn:a.length≤1000000) (m:Int) (hm0:0≤m) (hm:m < 1000000000) (d:Nat):∀ (i:Nat) (x:List Int) (c:Int),i+d=a.length→x.length=a.length+1→Lim x→(∀ j:Nat,i≤j→j < x.length→rd x (j:Int)=0)→0≤c→c < 1000000000→nv x+LB i * (c+nv (a.drop i) * m)=nv a * m →
    ∃ y,Tells (fun k=>Dzf.l0 k a m x c (a.length:Int) (i:Int)) y∧Lim y∧y.length=a.length+1∧nv y=nv a * m:=by
  induction d with
  | zero =>
    intro i x c hi hx hl hz h0 h1;have i1:i=a.length:=by omega
    have i2:¬ ((i:Int) < (a.length:Int)):=by omega
    have i3:(a.length:Int) < (x.length:Int):=by omega
    have i4:a.length < x.length:=by omega
    have i5:(0:Int)≤(a.length:Int):=by omega
    have i6:((a.length:Int)).toNat=a.length:=by omega
    have i7:i≤a.length:=by omega
    intro hv;rw[nv_drop_all (by rw[i1];exact Nat.le_refl _),Int.zero_mul,Int.add_zero,i1] at hv
    refine⟨x.set a.length c,Tells.up (g:=fun _=>some (x.set a.length c)) (Tells.const _) (fun k=>?_),hl.set _ h0 h1,by simpa using hx,?_⟩
    · simp only[Dzf.l0];rw[if_neg i2,if_pos i5,if_pos i3,i6]
    · rw[nv_set x _ c i4,hz a.length i7 i4,Int.sub_zero,hv]
  | succ d ih =>
    intro i x c hi hx hl hz h0 h1;have i1:i < a.length:=by omega
    have i2:i < x.length:=by omega
    have i3:(0:Int)≤(i:Int):=by omega
    have i4:(i:Int) < (a.length:Int):=by omega
    have i5:(i:Int) < (x.length:Int):=by omega
    have i7:wrap64 ((i:Int)+1)=((i+1:Nat):Int):=by rw[wrap64_id (by omega) (by omega)];omega
    have i8:∀ j:Nat,i+1≤j→j < x.length→¬ (i=j)∧i≤j:=fun j hj _=>by omega
    have i9:(i+1)+d=a.length:=by omega
    have i10:((i:Int)).toNat=i:=by omega
    intro hv;have hr:=ha.rd i3 i4;obtain⟨e1,e2,e3,b1,b2,b3,b4,b5⟩:=scaled_step hr.1 hr.2 hm0 hm h0 h1;have hz0:=hz i (Nat.le_refl _) i2;obtain⟨y,hy,h2,h3,h4⟩:=ih (i+1) (x.set i ((rd a (i:Int) * m+c) % 1000000000)) ((rd a (i:Int) * m+c) / 1000000000) i9 (by simpa using hx) (hl.set _ b1 b2) (fun j h2 h3=>by
        rw[List.length_set] at h3;rw[rd_set x _ j _ h3,if_neg (i8 j h2 h3).1];exact hz j (i8 j h2 h3).2 h3) b3 b4 (by
        rw[← hv,nv_set x i _ i2,hz0,nv_drop i1,LB_succ];have e:=Int.emod_add_mul_ediv (rd a (i:Int) * m+c) 1000000000;grind)
    refine⟨y,Tells.up hy (fun k=>?_),h2,h3,h4⟩
    simp only[Dzf.l0];rw[if_pos i4,if_pos i3,if_pos i4,if_pos i5,e1,e2,e3,b5,i7,i10]
theorem scaled_tells {a:List Int} (ha:Lim a) (hn:a.length≤100000) {m:Int} (hm0:0≤m) (hm:m < 1000000000):∃ y,Tells (fun k=>Dzf.f k a m) y∧Lim y∧y.length=a.length+1∧nv y=nv a * m:=by
  obtain⟨y,hy,h⟩:=scaled_loop a ha (by omega) m hm0 hm a.length 0 (List.replicate (a.length+1) 0) 0 (by omega) (by simp) (Lim.zeros _) (fun j _ h2=>rd_replicate _ j 0 (by simpa using h2)) (by omega) (by omega) (by rw[nv_zeros,LB_zero,List.drop_zero];omega)
  refine⟨y,?_,h⟩;unfold Dzf.f;have hw:wrap64 ((a.length:Int)+1)=((a.length+1:Nat):Int):=by rw[wrap64_id (by omega) (by omega)];omega
  rw[hw];refine Tells.pos (by omega) (Tells.pos (by omega) ?_)
  exact hy
/-- One limb of a difference. -/

theorem reduce_step {u c w:Int} (h0:0≤u) (h1:u < 1000000000) (h2:0≤c) (h3:c≤2000000000) (h4:0≤w) (h5:w≤1000000000000000000) :
    wrap64 (wrap64 (u - c) - wrap64 w)=u - c - w:=by
  rw[wrap64_id (n:=w) (by omega) (by omega),wrap64_id (n:=u - c) (by omega) (by omega),wrap64_id (by omega) (by omega)]
theorem reduce_borrow {s:Int} (h0:s < 0) (h1:-1000000002000000000≤s) :
    wrap64 (Int.tdiv (wrap64 (wrap64 (wrap64 (-s)+1000000000) - 1)) 1000000000)=(-s+999999999) / 1000000000∧wrap64 (s+wrap64 ((-s+999999999) / 1000000000 * 1000000000))=s+(-s+999999999) / 1000000000 * 1000000000∧0≤s+(-s+999999999) / 1000000000 * 1000000000∧s+(-s+999999999) / 1000000000 * 1000000000 < 1000000000∧0≤(-s+999999999) / 1000000000∧(-s+999999999) / 1000000000≤2000000000:=by
  have e1:wrap64 (wrap64 (wrap64 (-s)+1000000000) - 1)=-s+999999999:=by
    rw[wrap64_id (n:=-s) (by omega) (by omega),wrap64_id (n:=-s+1000000000) (by omega) (by omega),wrap64_id (by omega) (by omega)];omega
  have e2:Int.tdiv (-s+999999999) 1000000000=(-s+999999999) / 1000000000:=Int.tdiv_eq_ediv_of_nonneg (by omega)
  rw[e1,e2];refine⟨wrap64_id (by omega) (by omega),?_,by omega,by omega,by omega,by omega⟩
  rw[wrap64_id (n:=(-s+999999999) / 1000000000 * 1000000000) (by omega) (by omega),wrap64_id (by omega) (by omega)]
theorem reduce_loop (v:List Int) (hv:Lim v) (q:Int) (hq0:0≤q) (hq:q≤1000000000) (N:Nat) (hN:N≤1000000) (hvN:v.length≤N) (D:Int) (d:Nat):∀ (i:Nat) (u:List Int) (c:Int),i+d=N→u.length=N→Lim u→0≤c→c≤2000000000→D=nv u - LB i * (c+q * nv (v.drop i)) →
    ∃ (b:Int) (y:List Int),Tells (fun k=>Dzw.l0 k u v q c (N:Int) (i:Int)) (decide (b > 0),y)∧0≤b∧Lim y∧y.length=N∧D=nv y - LB N * b:=by
  induction d with
  | zero =>
    intro i u c hi hu hl h0 h1;have i1:i=N:=by omega
    have i2:¬ ((i:Int) < (N:Int)):=by omega
    have i3:v.length≤i:=by omega
    intro hD;rw[nv_drop_all i3,Int.mul_zero,Int.add_zero,i1] at hD;exact⟨c,u,Tells.up (g:=fun _=>some (decide (c > 0),u)) (Tells.const _) (fun k=>by simp only[Dzw.l0];rw[if_neg i2]),h0,hl,hu,hD⟩
  | succ d ih =>
    intro i u c hi hu hl h0 h1;have i1:(i:Int) < (N:Int):=by omega
    have i2:i < u.length:=by omega
    have i3:(0:Int)≤(i:Int):=by omega
    have i5:(i:Int) < (u.length:Int):=by omega
    have i7:wrap64 ((i:Int)+1)=((i+1:Nat):Int):=by rw[wrap64_id (by omega) (by omega)];omega
    have i9:(i+1)+d=N:=by omega
    have i10:((i:Int)).toNat=i:=by omega
    have i11:i < v.length∨v.length≤i:=by omega
    intro hD;have hr:=hl.rd i3 i5;have key:∀ (w t s c':Int),s=rd u (i:Int) - c - w→q * nv (v.drop i)=w+1000000000 * t→t=q * nv (v.drop (i+1))→D=nv (u.set i (s+c' * 1000000000)) - LB (i+1) * (c'+q * nv (v.drop (i+1))):=by
      intro w t s c' es et ew;rw[nv_set u i _ i2,LB_succ,hD,et,← ew,es];grind
    rcases i11 with i12|i12
    · have i13:(i:Int) < (v.length:Int):=Int.ofNat_lt.2 i12
      have hs:=hv.rd i3 i13;have hw0:0≤q * rd v (i:Int):=Int.mul_nonneg hq0 hs.1;have hw1:q * rd v (i:Int)≤1000000000 * 1000000000:=Int.mul_le_mul hq (Int.le_of_lt hs.2) hs.1 (by decide)
      have hk:=fun s c'=>key (q * rd v (i:Int)) (q * nv (v.drop (i+1))) s c'
      have et:q * nv (v.drop i)=q * rd v (i:Int)+1000000000 * (q * nv (v.drop (i+1))):=by rw[nv_drop i12];grind
      generalize hwd:q * rd v (i:Int)=w at *;have e1:=reduce_step hr.1 hr.2 h0 h1 hw0 (by clear hk et key hD ih;omega)
      by_cases hneg:rd u (i:Int) - c - w < 0
      · have hlow:-1000000002000000000≤rd u (i:Int) - c - w:=by clear hk et key hD ih;omega
        obtain⟨f1,f2,f3,f4,f5,f6⟩:=reduce_borrow hneg hlow;obtain⟨b,y,hy,g1,g2,g3,g4⟩:=ih (i+1) (u.set i (rd u (i:Int) - c - w+(-(rd u (i:Int) - c - w)+999999999) / 1000000000 * 1000000000)) ((-(rd u (i:Int) - c - w)+999999999) / 1000000000) i9 (by simpa using hu) (hl.set _ f3 f4) f5 f6 (hk _ _ rfl et rfl)
        refine⟨b,y,Tells.up hy (fun k=>?_),g1,g2,g3,g4⟩
        simp only[Dzw.l0];rw[if_pos i1,if_pos i3,if_pos i5,if_pos i13,hwd,e1,if_pos hneg,f1,f2,i7,i10]
      · have f3:0≤rd u (i:Int) - c - w:=Int.not_lt.1 hneg
        have f4:rd u (i:Int) - c - w < 1000000000:=by clear hk et key hD ih;omega
        obtain⟨b,y,hy,g1,g2,g3,g4⟩:=ih (i+1) (u.set i (rd u (i:Int) - c - w)) 0 i9 (by simpa using hu) (hl.set _ f3 f4) (Int.le_refl _) (by decide) (by have:=hk _ 0 rfl et rfl;rwa [Int.zero_mul,Int.add_zero] at this)
        refine⟨b,y,Tells.up hy (fun k=>?_),g1,g2,g3,g4⟩
        simp only[Dzw.l0];rw[if_pos i1,if_pos i3,if_pos i5,if_pos i13,hwd,e1,if_neg hneg,i7,i10]
    · have i13:¬ (i:Int) < (v.length:Int):=by have:=i12;clear hD key ih;omega
      have i14:v.length≤i+1:=Nat.le_succ_of_le i12;have et:q * nv (v.drop i)=0+1000000000 * (q * nv (v.drop (i+1))):=by rw[nv_drop_all i12,nv_drop_all i14];simp
      have hk:=fun s c'=>key 0 (q * nv (v.drop (i+1))) s c'
      have e1:wrap64 (rd u (i:Int) - c)=rd u (i:Int) - c:=by clear hk et key hD ih;exact wrap64_id (by omega) (by omega)
      have es:rd u (i:Int) - c - 0=rd u (i:Int) - c:=Int.sub_zero _;by_cases hneg:rd u (i:Int) - c < 0
      · have hlow:-1000000002000000000≤rd u (i:Int) - c:=by clear hk et key hD ih;omega
        obtain⟨f1,f2,f3,f4,f5,f6⟩:=reduce_borrow hneg hlow;obtain⟨b,y,hy,g1,g2,g3,g4⟩:=ih (i+1) (u.set i (rd u (i:Int) - c+(-(rd u (i:Int) - c)+999999999) / 1000000000 * 1000000000)) ((-(rd u (i:Int) - c)+999999999) / 1000000000) i9 (by simpa using hu) (hl.set _ f3 f4) f5 f6 (hk _ _ es.symm et rfl)
        refine⟨b,y,Tells.up hy (fun k=>?_),g1,g2,g3,g4⟩
        simp only[Dzw.l0];rw[if_pos i1,if_pos i3,if_pos i5,if_neg i13,e1,if_pos hneg,f1,f2,i7,i10]
      · have f3:0≤rd u (i:Int) - c:=Int.not_lt.1 hneg
        have f4:rd u (i:Int) - c < 1000000000:=by clear hk et key hD ih;omega
        obtain⟨b,y,hy,g1,g2,g3,g4⟩:=ih (i+1) (u.set i (rd u (i:Int) - c)) 0 i9 (by simpa using hu) (hl.set _ f3 f4) (Int.le_refl _) (by decide) (by have:=hk _ 0 es.symm et rfl;rwa [Int.zero_mul,Int.add_zero] at this)
        refine⟨b,y,Tells.up hy (fun k=>?_),g1,g2,g3,g4⟩
        simp only[Dzw.l0];rw[if_pos i1,if_pos i3,if_pos i5,if_neg i13,e1,if_neg hneg,i7,i10]
/-- The difference,and whether it is negative. -/
theorem reduce_tells {u v:List Int} (hu:Lim u) (hv:Lim v) (hN:u.length≤1000000) (hvN:v.length≤u.length) {q:Int} (hq0:0≤q) (hq:q≤1000000000) (hlow:-LB u.length < nv u - q * nv v) :
    ∃ (b:Bool) (y:List Int),Tells (fun k=>Dzw.f k u v q) (b,y)∧Lim y∧y.length=u.length∧(b=true ↔ nv u - q * nv v < 0)∧nv y=nv u - q * nv v+(if b=true then LB u.length else 0):=by
  obtain⟨b,y,hy,h1,h2,h3,h4⟩:=reduce_loop v hv q hq0 hq u.length hN hvN (nv u - q * nv v) u.length 0 u 0 (by omega) rfl hu (by omega) (by omega) (by rw[LB_zero,List.drop_zero];omega)
  have h5:=nv_nonneg h2;have h6:=nv_lt h2;rw[h3] at h6;have hp:=LB_pos u.length;have hb:b=0∨b=1:=by
    rcases (by omega:b=0∨b=1∨2≤b) with h|h|h
    · exact .inl h
    · exact .inr h
    · exfalso
      have:LB u.length * 2≤LB u.length * b:=Int.mul_le_mul_of_nonneg_left h (by omega)
      omega
  refine⟨decide (b > 0),y,hy,h2,h3,?_,?_⟩
  · rcases hb with rfl|rfl
    · simp only[Int.mul_zero] at h4
      constructor
      · intro h;simp at h
      · intro h;omega
    · rw[Int.mul_one] at h4
      constructor
      · intro _;omega
      · intro _;rfl
  · rcases hb with rfl|rfl
    · simp only[Int.mul_zero] at h4
      rw[if_neg (by decide)];omega
    · rw[Int.mul_one] at h4
      rw[if_pos (by decide)];omega
theorem restore_loop (v:List Int) (hv:Lim v) (N:Nat) (hN:N≤1000000) (hvN:v.length≤N) (D:Int) (d:Nat):∀ (i:Nat) (u:List Int) (c:Int),i+d=N→u.length=N→Lim u→0≤c→c≤1→D=nv u+LB i * (c+nv (v.drop i)) →
    ∃ (c':Int) (y:List Int),Tells (fun k=>Dzx.l0 k u v c (N:Int) (i:Int)) y∧0≤c'∧Lim y∧y.length=N∧D=nv y+LB N * c':=by
  induction d with
  | zero =>
    intro i u c hi hu hl h0 h1;have i1:i=N:=by omega
    have i2:¬ ((i:Int) < (N:Int)):=by omega
    have i3:v.length≤i:=by omega
    intro hD;rw[nv_drop_all i3,Int.add_zero,i1] at hD;exact⟨c,u,Tells.up (g:=fun _=>some u) (Tells.const _) (fun k=>by simp only[Dzx.l0];rw[if_neg i2]),h0,hl,hu,hD⟩
  | succ d ih =>
    intro i u c hi hu hl h0 h1;have i1:(i:Int) < (N:Int):=by omega
    have i2:i < u.length:=by omega
    have i3:(0:Int)≤(i:Int):=by omega
    have i5:(i:Int) < (u.length:Int):=by omega
    have i7:wrap64 ((i:Int)+1)=((i+1:Nat):Int):=by rw[wrap64_id (by omega) (by omega)];omega
    have i9:(i+1)+d=N:=by omega
    have i10:((i:Int)).toNat=i:=by omega
    have i11:i < v.length∨v.length≤i:=by omega
    intro hD;have hr:=hl.rd i3 i5;have key:∀ (w t:Int),0≤w→w < 1000000000→nv (v.drop i)=w+1000000000 * t→t=nv (v.drop (i+1)) →
        0≤(rd u (i:Int)+c+w) % 1000000000∧(rd u (i:Int)+c+w) % 1000000000 < 1000000000∧0≤(rd u (i:Int)+c+w) / 1000000000∧(rd u (i:Int)+c+w) / 1000000000≤1∧D=nv (u.set i ((rd u (i:Int)+c+w) % 1000000000))+LB (i+1) * ((rd u (i:Int)+c+w) / 1000000000+nv (v.drop (i+1))) ∧
        Int.tdiv (rd u (i:Int)+c+w) 1000000000=(rd u (i:Int)+c+w) / 1000000000∧Int.tmod (rd u (i:Int)+c+w) 1000000000=(rd u (i:Int)+c+w) % 1000000000∧wrap64 ((rd u (i:Int)+c+w) / 1000000000)=(rd u (i:Int)+c+w) / 1000000000:=by
      intro w t hw0 hw1 et ew;rw[nv_set u i _ i2,LB_succ,hD,et,← ew];have e:=Int.emod_add_mul_ediv (rd u (i:Int)+c+w) 1000000000;clear hD ih et;refine⟨by omega,by omega,by omega,by omega,by grind,Int.tdiv_eq_ediv_of_nonneg (by omega),Int.tmod_eq_emod_of_nonneg (by omega),wrap64_id (by omega) (by omega)⟩
    rcases i11 with i12|i12
    · have i13:(i:Int) < (v.length:Int):=Int.ofNat_lt.2 i12
      have hs:=hv.rd i3 i13;obtain⟨f1,f2,f3,f4,f5,f6,f7,f8⟩:=key _ _ hs.1 hs.2 (nv_drop i12) rfl;have e1:wrap64 (wrap64 (rd u (i:Int)+c)+rd v (i:Int))=rd u (i:Int)+c+rd v (i:Int):=by
        clear hD key ih f5;rw[wrap64_id (n:=rd u (i:Int)+c) (by omega) (by omega),wrap64_id (by omega) (by omega)]
      obtain⟨c',y,hy,g⟩:=ih (i+1) _ _ i9 (by simpa using hu) (hl.set _ f1 f2) f3 f4 f5
      refine⟨c',y,Tells.up hy (fun k=>?_),g⟩
      simp only[Dzx.l0];rw[if_pos i1,if_pos i3,if_pos i5,if_pos i13,e1,f6,f7,f8,i7,i10]
    · have i13:¬ (i:Int) < (v.length:Int):=by have:=i12;clear hD key ih;omega
      have i14:v.length≤i+1:=Nat.le_succ_of_le i12;obtain⟨f1,f2,f3,f4,f5,f6,f7,f8⟩:=key 0 (nv (v.drop (i+1))) (Int.le_refl _) (by decide) (by rw[nv_drop_all i12,nv_drop_all i14];rfl) rfl
      have e1:wrap64 (rd u (i:Int)+c)=rd u (i:Int)+c+0:=by
        clear hD key ih f5;rw[wrap64_id (by omega) (by omega)];omega
      obtain⟨c',y,hy,g⟩:=ih (i+1) _ _ i9 (by simpa using hu) (hl.set _ f1 f2) f3 f4 f5
      refine⟨c',y,Tells.up hy (fun k=>?_),g⟩
      simp only[Dzx.l0];rw[if_pos i1,if_pos i3,if_pos i5,if_neg i13,e1,f6,f7,f8,i7,i10]
theorem restore_tells {u v:List Int} (hu:Lim u) (hv:Lim v) (hN:u.length≤1000000) (hvN:v.length≤u.length) {D:Int} (hD:nv u+nv v=D+LB u.length) (h0:0≤D) (h1:D < LB u.length) :
    ∃ y:List Int,Tells (fun k=>Dzx.f k u v) y∧Lim y∧y.length=u.length∧nv y=D:=by
  obtain⟨c,y,hy,g0,g1,g2,g3⟩:=restore_loop v hv u.length hN hvN (nv u+nv v) u.length 0 u 0 (by omega) rfl hu (by omega) (by omega) (by rw[LB_zero,List.drop_zero];omega)
  refine⟨y,hy,g1,g2,?_⟩;have h2:=nv_nonneg g1;have h3:=nv_lt g1;rw[g2] at h3;have hp:=LB_pos u.length;rcases (by omega:c=0∨c=1∨2≤c) with h|h|h
  · subst h;rw[Int.mul_zero] at g3;omega
  · subst h;rw[Int.mul_one] at g3;omega
  · have:LB u.length * 2≤LB u.length * c:=Int.mul_le_mul_of_nonneg_left h (by omega)
    omega

theorem dig_lt {Q V R lu P U3 lv V2:Int} (h:Q * V≤R) (hR:R=lu+P * U3) (hV:V=lv+P * V2) (hlv:0≤lv) (hlu:lu < P) (hQ:0≤Q) (hP:0 < P):Q * V2≤U3:=by
  rcases Int.lt_or_le U3 (Q * V2) with h1|h1
  · exfalso
    have h2:P * (U3+1)≤P * (Q * V2):=Int.mul_le_mul_of_nonneg_left h1 (Int.le_of_lt hP);have h3:0≤Q * lv:=Int.mul_nonneg hQ hlv;have h4:Q * V=Q * lv+P * (Q * V2):=by rw[hV];grind
    have h5:P * (U3+1)=P * U3+P:=by grind
    generalize P * (Q * V2)=A at *;generalize P * U3=C at *;generalize Q * lv=D at *;generalize Q * V=F at *;omega
  · exact h1
theorem dig_le {q Q V R lu P U3 lv V2:Int} (h:q * V2≤U3) (hR:R=lu+P * U3) (hV:V=lv+P * V2) (hlv:0≤lv) (hlv1:lv < P) (hlu:0≤lu) (hq:0≤q) (hqB:q≤V2) (hP:0 < P) (hQ:R < (Q+1) * V):q≤Q+1:=by
  rcases Int.lt_or_le (Q+1) q with h1|h1
  · exfalso
    have hV0:0≤V2:=Int.le_trans hq hqB;have hVp:0≤V:=by rw[hV];exact Int.add_nonneg hlv (Int.mul_nonneg (Int.le_of_lt hP) hV0)
    have h2:(Q+2) * V≤q * V:=Int.mul_le_mul_of_nonneg_right (by clear hQ;omega:Q+2≤q) hVp
    have h3:P * (q * V2)≤P * U3:=Int.mul_le_mul_of_nonneg_left h (Int.le_of_lt hP);have h4:q * V=q * lv+P * (q * V2):=by rw[hV];grind
    have h5:q * lv≤V2 * P:=Int.mul_le_mul hqB (Int.le_of_lt hlv1) hlv hV0;have h6:(Q+2) * V=(Q+1) * V+V:=by grind
    have h7:V2 * P=P * V2:=Int.mul_comm _ _;generalize P * (q * V2)=A at *;generalize P * U3=C at *;generalize q * lv=D at *;generalize q * V=F at *;generalize (Q+1) * V=G at *;generalize P * V2=H at *;omega
  · exact h1
/-- What the digit's rounds keep: the head is q v1+r. -/
theorem dig_round {q v1 v2 r u0:Int}:q * (v2+1000000000 * v1)≤u0+1000000000 * (q * v1+r) ↔ q * v2≤r * 1000000000+u0:=by
  have e:q * (v2+1000000000 * v1)=q * v2+1000000000 * (q * v1):=by grind
  rw[e];generalize q * v2=A;generalize q * v1=C;omega
theorem digit_loop (u v:List Int) (p:Nat) (hp:p≤1000) (hu:Lim u) (hv:Lim v) (hul:u.length=p+3) (hvl:v.length=p+2) (Q:Int) (hQ0:0≤Q) (hQB:Q < 1000000000) (hQ1:Q * nv v≤nv u) (hQ2:nv u < (Q+1) * nv v) (hv1:500000000≤rd v ((p+1:Nat):Int)) (m:Nat) :
    ∀ (q r:Int),0≤r→r < 1000000000→(1000000000 - r).toNat≤m→rd u ((p+2:Nat):Int) * 1000000000+rd u ((p+1:Nat):Int)=q * rd v ((p+1:Nat):Int)+r→Q≤q→q≤1000000001 →
      ∃ q',Tells (fun k=>Dzy.l0 k u v ((p+2:Nat):Int) ((p+1:Nat):Int) q r) q'∧Q≤q'∧q'≤Q+1∧q'≤1000000000:=by
  have a1:=hu.rd (i:=((p:Nat):Int)) (by omega) (by omega)
  have a4:=hv.rd (i:=((p:Nat):Int)) (by omega) (by omega)
  have a5:=hv.rd (i:=((p+1:Nat):Int)) (by omega) (by omega)
  have hR:nv u=pv u p+LB p * (rd u ((p:Nat):Int)+1000000000 * (rd u ((p+2:Nat):Int) * 1000000000+rd u ((p+1:Nat):Int))):=by
    rw[nv_split u p (by omega),nv_drop (by omega),nv_drop (by omega),nv_drop (by omega),nv_drop_all (by omega),show((p+1+1:Nat):Int)=((p+2:Nat):Int) from rfl]
    congr 2
    omega
  have hV:nv v=pv v p+LB p * (rd v ((p:Nat):Int)+1000000000 * rd v ((p+1:Nat):Int)):=by
    rw[nv_split v p (by omega),nv_drop (by omega),nv_drop (by omega),nv_drop_all (by omega)]
    congr 2
    omega
  have hP:=LB_pos p;have h1:=pv_lt hu (i:=p) (by omega)
  have h2:=pv_nonneg hu p;have h3:=pv_lt hv (i:=p) (by omega)
  have h4:=pv_nonneg hv p;have hlow:=dig_lt hQ1 hR hV h4 h1 hQ0 hP;have hup:∀ q:Int,q * (rd v ((p:Nat):Int)+1000000000 * rd v ((p+1:Nat):Int))≤rd u ((p:Nat):Int)+1000000000 * (rd u ((p+2:Nat):Int) * 1000000000+rd u ((p+1:Nat):Int))→0≤q→q≤1000000000→q≤Q+1 :=
    fun q h5 h6 h7=>dig_le h5 hR hV h4 h3 h2 h6 (by clear hR hV hQ1 hQ2 hlow h5;omega) hP hQ2
  have hgt:∀ q:Int,rd u ((p:Nat):Int)+1000000000 * (rd u ((p+2:Nat):Int) * 1000000000+rd u ((p+1:Nat):Int)) < q * (rd v ((p:Nat):Int)+1000000000 * rd v ((p+1:Nat):Int))→Q < q:=by
    intro q h5;rcases Int.lt_or_le Q q with h6|h6
    · exact h6
    · have h7:q * (rd v ((p:Nat):Int)+1000000000 * rd v ((p+1:Nat):Int))≤Q * (rd v ((p:Nat):Int)+1000000000 * rd v ((p+1:Nat):Int)):=Int.mul_le_mul_of_nonneg_right h6 (by clear hR hV hQ1 hQ2 hlow h5 hup;omega)
      exact absurd (Int.lt_of_lt_of_le h5 (Int.le_trans h7 hlow)) (Int.lt_irrefl _)
  clear hR hV h1 h2 h3 h4 hP hQ1 hQ2 hlow;have e1:wrap64 (((p+1:Nat):Int) - 1)=(p:Int):=by rw[wrap64_id (by omega) (by omega)];omega
  have e2:wrap64 (((p+2:Nat):Int) - 2)=(p:Int):=by rw[wrap64_id (by omega) (by omega)];omega
  have c1:(0:Int)≤(p:Int):=by omega
  have c2:(p:Int) < (v.length:Int):=by omega
  have c3:(p:Int) < (u.length:Int):=by omega
  have c4:(0:Int)≤((p+1:Nat):Int):=by omega
  have c5:((p+1:Nat):Int) < (v.length:Int):=by omega
  generalize hu0:rd u ((p:Nat):Int)=u0 at *;generalize hv0:rd v ((p:Nat):Int)=v2 at *;generalize hv1':rd v ((p+1:Nat):Int)=v1 at *;generalize hhd:rd u ((p+2:Nat):Int) * 1000000000+rd u ((p+1:Nat):Int)=hd at *;induction m with
  | zero=>intro q r h5 h6 h7;omega
  | succ m ih =>
    intro q r h5 h6 h7 he h8 h9;have hq0:0≤q:=Int.le_trans hQ0 h8;have hw1:wrap64 (q * v2)=q * v2:=by
      have:0≤q * v2:=Int.mul_nonneg hq0 a4.1;have:q * v2≤1000000001 * 1000000000:=Int.mul_le_mul h9 (Int.le_of_lt a4.2) a4.1 (by decide)
      clear he ih hup hgt;exact wrap64_id (by omega) (by omega)
    have hw2:wrap64 (wrap64 (r * 1000000000)+u0)=r * 1000000000+u0:=by
      clear he ih hup hgt;rw[wrap64_id (n:=r * 1000000000) (by omega) (by omega),wrap64_id (by omega) (by omega)]
    have hw3:wrap64 (q - 1)=q - 1:=wrap64_id (by clear he ih hup hgt;omega) (by clear he ih hup hgt;omega)
    have hw4:wrap64 (r+v1)=r+v1:=wrap64_id (by clear he ih hup hgt;omega) (by clear he ih hup hgt;omega)
    have hiff:=dig_round (q:=q) (v1:=v1) (v2:=v2) (r:=r) (u0:=u0);rw[← he] at hiff;have hdown:Q < q→∃ q',Tells (fun k=>Dzy.j1 k u v ((p+2:Nat):Int) ((p+1:Nat):Int) q r true) q'∧Q≤q'∧q'≤Q+1∧q'≤1000000000:=by
      intro hlt;by_cases hbr:r+v1≥1000000000
      · refine⟨q - 1,Tells.up (g:=fun _=>some (q - 1)) (Tells.const _) (fun k=>?_),by clear he ih hup hgt hiff;omega,hup (q - 1) ?_ (by clear he ih hup hgt hiff;omega) (by clear he ih hup hgt hiff;omega),by clear he ih hup hgt hiff;omega⟩
        · simp only[Dzy.j1]
          rw[if_pos trivial,if_pos c4,if_pos c5,hv1',hw4,if_pos hbr,hw3]
        · have he':hd=(q - 1) * v1+(r+v1):=by rw[he];grind
          rw[he'];refine dig_round.2 ?_;have g1:(q - 1) * v2≤1000000000 * 999999999:=Int.mul_le_mul (by clear he ih hup hgt hiff he';omega) (by clear he ih hup hgt hiff he';omega) a4.1 (by decide)
          clear he ih hup hgt hiff he';generalize (q - 1) * v2=A at *;omega
      · have hnb:r+v1 < 1000000000:=Int.not_le.1 hbr
        obtain⟨q',hq',g⟩:=ih (q - 1) (r+v1) (by clear he ih hup hgt hiff;omega) hnb (by clear he ih hup hgt hiff;omega) (by rw[he];grind) (by clear he ih hup hgt hiff;omega) (by clear he ih hup hgt hiff;omega)
        refine⟨q',Tells.up hq' (fun k=>?_),g⟩
        simp only[Dzy.j1];rw[if_pos trivial,if_pos c4,if_pos c5,hv1',hw4,if_neg hbr,hw3]
    by_cases hB:q≥1000000000
    · obtain⟨q',hq',g⟩:=hdown (by clear he ih hup hgt hiff;omega)
      refine⟨q',Tells.up hq' (fun k=>?_),g⟩
      simp only[Dzy.l0];rw[if_pos hB]
    · by_cases ht:q * v2 > r * 1000000000+u0
      · obtain⟨q',hq',g⟩:=hdown (hgt q (by
          rcases Int.lt_or_le (u0+1000000000 * hd) (q * (v2+1000000000 * v1)) with h|h
          · exact h
          · exact absurd (hiff.1 h) (Int.not_le.2 ht)))
        refine⟨q',Tells.up hq' (fun k=>?_),g⟩
        simp only[Dzy.l0];rw[if_neg hB,e1,e2,if_pos c1,if_pos c2,if_pos c1,if_pos c3,hu0,hv0,hw1,hw2,decide_eq_true ht]
      · refine⟨q,Tells.up (g:=fun k=>Dzy.j1 k u v ((p+2:Nat):Int) ((p+1:Nat):Int) q r false) (Tells.up (g:=fun _=>some q) (Tells.const _) (fun k=>by simp [Dzy.j1])) (fun k=>?_),h8,hup q (hiff.2 (Int.not_lt.1 ht)) hq0 (by clear he ih hup hgt hiff ht;omega),by clear he ih hup hgt hiff ht;omega⟩
        simp only[Dzy.l0];rw[if_neg hB,e1,e2,if_pos c1,if_pos c2,if_pos c1,if_pos c3,hu0,hv0,hw1,hw2,decide_eq_false ht]
theorem digit_tells {u v:List Int} {p:Nat} (hp:p≤1000) (hu:Lim u) (hv:Lim v) (hul:u.length=p+3) (hvl:v.length=p+2) {Q:Int} (hQ0:0≤Q) (hQB:Q < 1000000000) (hQ1:Q * nv v≤nv u) (hQ2:nv u < (Q+1) * nv v) (hv1:500000000≤rd v ((p+1:Nat):Int)) :
    ∃ q',Tells (fun k=>Dzy.f k u v) q'∧Q≤q'∧q'≤Q+1∧q'≤1000000000:=by
  have a2:=hu.rd (i:=((p+1:Nat):Int)) (by omega) (by omega)
  have a3:=hu.rd (i:=((p+2:Nat):Int)) (by omega) (by omega)
  have a4:=hv.rd (i:=((p:Nat):Int)) (by omega) (by omega)
  have a5:=hv.rd (i:=((p+1:Nat):Int)) (by omega) (by omega)
  have htop:rd u ((p+2:Nat):Int)≤rd v ((p+1:Nat):Int):=by
    have h1:nv u=pv u (p+2)+LB (p+2) * rd u ((p+2:Nat):Int):=by rw[← pv_succ (by omega),pv_all (by omega)]
    have h2:nv v=pv v (p+1)+LB (p+1) * rd v ((p+1:Nat):Int):=by rw[← pv_succ (by omega),pv_all (by omega)]
    have h3:=pv_lt hv (i:=p+1) (by omega)
    have h4:=pv_nonneg hu (p+2);have h5:(Q+1) * nv v≤1000000000 * nv v:=Int.mul_le_mul_of_nonneg_right hQB (nv_nonneg hv);rcases Int.lt_or_le (rd v ((p+1:Nat):Int)) (rd u ((p+2:Nat):Int)) with h|h
    · exfalso
      have h6:LB (p+2) * (rd v ((p+1:Nat):Int)+1)≤LB (p+2) * rd u ((p+2:Nat):Int):=Int.mul_le_mul_of_nonneg_left h (Int.le_of_lt (LB_pos _));rw[LB_succ (p+1)] at h6 h1;have h7:1000000000 * LB (p+1) * (rd v ((p+1:Nat):Int)+1)=1000000000 * (LB (p+1) * rd v ((p+1:Nat):Int))+1000000000 * LB (p+1):=by grind
      rw[h7] at h6;generalize 1000000000 * LB (p+1) * rd u ((p+2:Nat):Int)=A at *;generalize LB (p+1) * rd v ((p+1:Nat):Int)=C at *;generalize (Q+1) * nv v=D at *;clear hQ1;omega
    · exact h
  generalize hx:rd u ((p+2:Nat):Int) * 1000000000+rd u ((p+1:Nat):Int)=hd;have hhd0:0≤hd∧hd≤999999999 * 1000000000+999999999:=by clear hQ1 hQ2;omega
  have hv1p:(0:Int) < rd v ((p+1:Nat):Int):=by clear hQ1 hQ2;omega
  have hq:hd / rd v ((p+1:Nat):Int)≤1000000001:=by
    have h1:hd < 1000000002 * rd v ((p+1:Nat):Int):=by clear hQ1 hQ2;omega
    have:=Int.ediv_lt_of_lt_mul hv1p h1;clear hQ1 hQ2;omega
  have hr0:=Int.emod_nonneg hd (show rd v ((p+1:Nat):Int)≠0 by clear hQ1 hQ2;omega)
  have hr1:=Int.emod_lt_of_pos hd hv1p;have hdm:=Int.emod_add_mul_ediv hd (rd v ((p+1:Nat):Int));have hq1:Q≤hd / rd v ((p+1:Nat):Int):=by
    rw[Int.le_ediv_iff_mul_le hv1p];have hR:nv u=pv u (p+1)+LB (p+1) * hd:=by
      rw[nv_split u (p+1) (by omega),nv_drop (by omega),nv_drop (by omega),nv_drop_all (by omega),← hx,show((p+1+1:Nat):Int)=((p+2:Nat):Int) from rfl]
      congr 2
      clear hQ1 hQ2 hdm;omega
    have hV:nv v=pv v (p+1)+LB (p+1) * rd v ((p+1:Nat):Int):=by rw[← pv_succ (by omega),pv_all (by omega)]
    exact dig_lt hQ1 hR hV (pv_nonneg hv _) (pv_lt hu (by omega)) hQ0 (LB_pos _)
  obtain⟨q',hq',g⟩:=digit_loop u v p hp hu hv hul hvl Q hQ0 hQB hQ1 hQ2 hv1 1000000000 (hd / rd v ((p+1:Nat):Int)) (hd % rd v ((p+1:Nat):Int)) hr0 (by clear hQ1 hQ2 hdm;omega) (by clear hQ1 hQ2 hdm;omega) (by rw[hx,Int.mul_comm];exact(Int.add_comm _ _ ▸ hdm).symm) hq1 hq
  refine⟨q',?_,g⟩;unfold Dzy.f;have w1:wrap64 ((u.length:Int) - 1)=((p+2:Nat):Int):=by rw[wrap64_id (by omega) (by omega)];omega
  have w2:wrap64 (((p+2:Nat):Int) - 1)=((p+1:Nat):Int):=by rw[wrap64_id (by omega) (by omega)];omega
  have w3:wrap64 ((v.length:Int) - 1)=((p+1:Nat):Int):=by rw[wrap64_id (by omega) (by omega)];omega
  have w4:wrap64 (wrap64 (rd u ((p+2:Nat):Int) * 1000000000)+rd u ((p+1:Nat):Int))=hd:=by
    clear hQ1 hQ2 hdm;rw[wrap64_id (n:=rd u ((p+2:Nat):Int) * 1000000000) (by omega) (by omega),hx]
    exact wrap64_id (by omega) (by omega)
  have w5:Int.tdiv hd (rd v ((p+1:Nat):Int))=hd / rd v ((p+1:Nat):Int):=Int.tdiv_eq_ediv_of_nonneg hhd0.1;have w6:Int.tmod hd (rd v ((p+1:Nat):Int))=hd % rd v ((p+1:Nat):Int):=Int.tmod_eq_emod_of_nonneg hhd0.1;have w7:wrap64 (hd / rd v ((p+1:Nat):Int))=hd / rd v ((p+1:Nat):Int):=by
    have:=Int.le_trans hQ0 hq1;clear hQ1 hQ2 hdm;exact wrap64_id (by omega) (by omega)
  refine hq'.congr (fun k=>?_)
  rw[w1,w2,w3,w4,w5,w6,w7];rw[if_pos (by omega),if_pos (by omega),if_pos (by omega),if_pos (by omega),if_pos (by omega),if_pos (by omega),if_neg (by clear hQ1 hQ2 hdm;omega)]

theorem win_parts (U y:List Int) (i n:Nat) (hn:y.length=n) (hi:i+n≤U.length) :
    (U.take i ++ y ++ U.drop (i+n)).length=U.length∧((U.take i ++ y ++ U.drop (i+n)).take (i+n)).drop i=y∧(U.take i ++ y ++ U.drop (i+n)).take i=U.take i∧(U.take i ++ y ++ U.drop (i+n)).drop (i+n)=U.drop (i+n)∧∀ m,m≤n→(U.take i ++ y ++ U.drop (i+n)).take (i+m)=U.take i ++ y.take m:=by
  have h1:(U.take i).length=i:=by rw[List.length_take];omega
  have h2:(U.take i ++ y).length=i+n:=by rw[List.length_append,h1,hn]
  refine⟨by rw[List.length_append,h2,List.length_drop];omega,?_,?_,?_,fun m hm=>?_⟩
  · rw[List.take_append_of_le_length (by omega),List.take_of_length_le (by omega),List.drop_append_of_le_length (by omega),List.drop_of_length_le (by omega),List.nil_append]
  · rw[List.append_assoc,List.take_append_of_le_length (by omega),List.take_of_length_le (by omega)]
  · rw[List.drop_append,h2,Nat.sub_self,List.drop_zero,List.drop_of_length_le (by omega),List.nil_append]
  · rw[List.append_assoc,List.take_append,h1,List.take_of_length_le (by omega),show i+m - i=m by omega,List.take_append_of_le_length (by omega)]
/-- What one round of the division leaves. -/
structure Rnd (U V:List Int) (p i:Nat) (U':List Int) (Q:Int):Prop where
  lim:Lim U'
  len:U'.length=U.length
  q0:0≤Q
  q1:Q < 1000000000
  val:pv U (i+(p+3))=pv U' (i+(p+2))+LB i * (Q * nv V)
  lt:pv U' (i+(p+2)) < nv V * LB i
theorem div_round {U V:List Int} {p i:Nat} (hp:p≤1000) (hU:Lim U) (hV:Lim V) (hVl:V.length=p+2) (hi:i+(p+3)≤U.length) (hUn:U.length≤100000) (hv1:500000000≤rd V ((p+1:Nat):Int)) (hlt:pv U (i+(p+3)) < nv V * LB (i+1)) :
    ∃ (b:Bool) (q:Int) (U1:List Int),Tells (fun k=>Dzy.f k ((U.take (i+(p+3))).drop i) V) q∧0≤q∧q≤1000000000∧Tells (fun k=>Fzb.f k U (i:Int) ((i+(p+3):Nat):Int) V q) (b,U1) ∧
      (b=false→Rnd U V p i U1 q)∧(b=true→∃ U2,Tells (fun k=>Fzp.f k U1 (i:Int) ((i+(p+3):Nat):Int) V) U2∧Rnd U V p i U2 (q - 1)):=by
  have hWl:((U.take (i+(p+3))).drop i).length=p+3:=by rw[List.length_drop,List.length_take];omega
  have hWL:Lim ((U.take (i+(p+3))).drop i):=(hU.take _).drop _;have hsp:pv U (i+(p+3))=pv U i+LB i * nv ((U.take (i+(p+3))).drop i):=by
    have h:=nv_split (U.take (i+(p+3))) i (by rw[List.length_take];omega)
    unfold pv at h ⊢;rw[h,List.take_take,Nat.min_eq_left (by omega)]
  generalize hW:(U.take (i+(p+3))).drop i=W at *;have c1:(0:Int)≤(i:Int)∧(i:Int) < ((i+(p+3):Nat):Int)∧((i+(p+3):Nat):Int)≤(U.length:Int):=by omega
  have c2:((i+(p+3):Nat):Int).toNat=i+(p+3):=by omega
  have c3:((i:Int)).toNat=i:=by omega
  have hPi:=LB_pos i;have hVp:0 < nv V:=by
    have h1:nv V=pv V (p+1)+LB (p+1) * rd V ((p+1:Nat):Int):=by rw[← pv_succ (by omega),pv_all (by omega)]
    have h2:=pv_nonneg hV (p+1);have h3:LB (p+1) * 500000000≤LB (p+1) * rd V ((p+1:Nat):Int):=Int.mul_le_mul_of_nonneg_left hv1 (Int.le_of_lt (LB_pos _));have h4:=LB_pos (p+1);clear hsp hlt;generalize LB (p+1) * rd V ((p+1:Nat):Int)=A at *;omega
  have hVlt:nv V < LB (p+2):=by have:=nv_lt hV;rwa [hVl] at this
  have hRlt:nv W < 1000000000 * nv V:=by
    rcases Int.lt_or_le (nv W) (1000000000 * nv V) with h|h
    · exact h
    · exfalso
      have h1:LB i * (1000000000 * nv V)≤LB i * nv W:=Int.mul_le_mul_of_nonneg_left h (Int.le_of_lt hPi);have h2:nv V * LB (i+1)=LB i * (1000000000 * nv V):=by rw[LB_succ];grind
      have h3:=pv_nonneg hU i;rw[hsp,h2] at hlt;generalize LB i * (1000000000 * nv V)=A at *;generalize LB i * nv W=C at *;omega
  have hR0:=nv_nonneg hWL;have hrho0:=Int.emod_nonneg (nv W) (Int.ne_of_gt hVp);have hrho1:=Int.emod_lt_of_pos (nv W) hVp;have hdm:=Int.emod_add_mul_ediv (nv W) (nv V);have hQ0:0≤nv W / nv V:=Int.ediv_nonneg hR0 (Int.le_of_lt hVp);have hQ1:nv W / nv V < 1000000000:=Int.ediv_lt_of_lt_mul hVp hRlt;generalize nv W / nv V=Q at *;generalize nv W % nv V=rho at *;have hQV:nv V * Q=Q * nv V:=Int.mul_comm _ _;have e1:(Q+1) * nv V=Q * nv V+nv V:=by rw[Int.add_mul,Int.one_mul]
  obtain⟨q,hq,g1,g2,g3⟩:=digit_tells (u:=W) (v:=V) hp hWL hV hWl hVl hQ0 hQ1 (by rw[hQV] at hdm;clear hsp hlt e1;omega) (by rw[hQV] at hdm;clear hsp hlt;omega) hv1
  have hLB3:LB (p+3)=1000000000 * LB (p+2):=LB_succ (p+2);have good:∀ y:List Int,Lim y→y.length=p+3→nv y=rho→Rnd U V p i (U.take i ++ y ++ U.drop (i+(p+3))) Q:=by
    intro y hy hyl hyv;obtain⟨w1,_,_,_,w5⟩:=win_parts U y i (p+3) hyl hi;have hyt:nv (y.take (p+2))=rho:=by
      have h1:nv y=pv y (p+2)+LB (p+2) * rd y ((p+2:Nat):Int):=by rw[← pv_succ (by omega),pv_all (by omega)]
      have h2:=hy.rd (i:=((p+2:Nat):Int)) (by omega) (by omega)
      have h3:=pv_nonneg hy (p+2);have h4:rd y ((p+2:Nat):Int)=0:=by
        rcases Int.lt_or_le 0 (rd y ((p+2:Nat):Int)) with h|h
        · exfalso
          have h5:LB (p+2) * 1≤LB (p+2) * rd y ((p+2:Nat):Int):=Int.mul_le_mul_of_nonneg_left h (Int.le_of_lt (LB_pos _));rw[Int.mul_one] at h5;clear hsp hlt hdm;generalize LB (p+2) * rd y ((p+2:Nat):Int)=A at *;omega
        · clear hsp hlt hdm h1;omega
      rw[h4,Int.mul_zero,Int.add_zero] at h1;rw[← hyv,h1];rfl
    have hpv:pv (U.take i ++ y ++ U.drop (i+(p+3))) (i+(p+2))=pv U i+LB i * rho:=by
      have hl:(U.take i).length=i:=by rw[List.length_take];omega
      unfold pv;rw[w5 (p+2) (by omega),nv_append,hyt,hl]
    refine⟨((hU.take i).append hy).append (hU.drop _),w1,hQ0,hQ1,?_,?_⟩
    · rw[hpv,hsp,← hdm];grind
    · rw[hpv]
      have h1:=pv_lt hU (i:=i) (by omega)
      have h2:LB i * (rho+1)≤LB i * nv V:=Int.mul_le_mul_of_nonneg_left hrho1 (Int.le_of_lt hPi);rw[Int.mul_add,Int.mul_one] at h2;rw[Int.mul_comm (nv V)];clear hsp hlt hdm;generalize LB i * rho=A at *;generalize LB i * nv V=C at *;omega
  have hqc:q=Q∨q=Q+1:=by clear hsp hlt hdm e1;omega
  have hdiff:nv W - q * nv V=rho∧q=Q∨nv W - q * nv V=rho - nv V∧q=Q+1:=by
    rcases hqc with h|h
    · left;refine⟨?_,h⟩;rw[h,← hdm,hQV];exact Int.add_sub_cancel _ _
    · right;refine⟨?_,h⟩;rw[h,← hdm,hQV,e1];clear hsp hlt hdm;omega
  obtain⟨b,y,hy,k1,k2,k3,k4⟩:=reduce_tells (u:=W) (v:=V) hWL hV (by omega) (by omega) (q:=q) (by clear hsp hlt hdm e1;omega) g3 (by
    rw[hWl,hLB3];have:=LB_pos (p+2);clear hsp hlt hdm e1 hq;rcases hdiff with h|h <;> omega)
  rw[hWl] at k2 k4;refine⟨b,q,U.take i ++ y ++ U.drop (i+(p+3)),hq,by clear hsp hlt hdm e1;omega,g3,?_,fun hb=>?_,fun hb=>?_⟩
  · unfold Fzb.f
    refine Tells.pos c1 ?_;rw[c2,c3,hW];exact hy.bind (Tells.const _)
  · subst hb
    rw[if_neg (by decide),Int.add_zero] at k4
    rcases hdiff with h|h
    · rw[h.2];exact good y k1 k2 (by rw[k4,h.1])
    · exfalso
      have h5:=k3.2 (by clear hsp hlt hdm e1;omega)
      cases h5
  · subst hb
    rw[if_pos rfl] at k4;have hneg:=k3.1 rfl;rcases hdiff with h|h
    · exfalso;clear hsp hlt hdm e1;omega
    · obtain⟨y2,hy2,m1,m2,m3⟩:=restore_tells (u:=y) (v:=V) k1 hV (by omega) (by omega) (D:=rho) (by rw[k4,h.1,k2];clear hsp hlt hdm e1;omega) hrho0 (by rw[k2,hLB3];clear hsp hlt hdm e1;omega)
      obtain⟨w1,w2,w3,w4,_⟩:=win_parts U y i (p+3) k2 hi;rw[k2] at m2;refine⟨U.take i ++ y2 ++ U.drop (i+(p+3)),?_,?_⟩
      · unfold Fzp.f
        refine Tells.pos (by rw[w1];exact c1) ?_
        rw[c2,c3,w2,w3,w4];exact hy2.bind (Tells.const _)
      · rw[show q - 1=Q by rw[h.2];clear hsp hlt hdm e1;omega]
        exact good y2 m1 m2 m3
theorem divide_loop {V:List Int} {p:Nat} (hp:p≤1000) (hV:Lim V) (hVl:V.length=p+2) (hv1:500000000≤rd V ((p+1:Nat):Int)) (m:Int) (hm0:0 < m) (hm:m < 1000000000) (A X r:Int) (N:Nat) (hN:N≤100000) (hrest:∀ (o w:Int),A=o * nv V+w→0≤w→w < nv V→w / m=r∧o=X) (j:Nat) :
    ∀ (U out:List Int),j+(p+2)≤N→U.length=N→Lim U→Lim out→j≤out.length→out.length≤N→(∀ i:Nat,i < j→rd out (i:Int)=0)→A=nv out * nv V+pv U (j+(p+2))→pv U (j+(p+2)) < nv V * LB j →
      Tells (fun k=>Dzj.l0 k m U V ((p+2:Nat):Int) out ((j:Int) - 1)) (dg X,dg r):=by
  induction j with
  | zero =>
    intro U out h1 hUl hU hout _ hol _;have c1:((p+2:Nat):Int).toNat=p+2:=by omega
    have c2:(0:Int)≤((p+2:Nat):Int):=by omega
    have c3:((p+2:Nat):Int)≤(U.length:Int):=by omega
    have c4:(U.take (p+2)).length < 4611686018427387904:=by rw[List.length_take];omega
    have c5:out.length < 4611686018427387904:=by omega
    have c6:(trim (U.take (p+2))).length≤1000000:=by
      have h:=len_le (can_dg (nv (U.take (p+2)))) (n:=p+2) (by rw[nv_dg (nv_nonneg (hU.take _))];exact pv_lt hU (by omega))
      have:(trim (U.take (p+2))).length≤p+2:=h;omega
    intro hA hlt;rw[Nat.zero_add] at hA hlt;rw[LB_zero,Int.mul_one] at hlt;obtain⟨e1,e2⟩:=hrest _ _ hA (pv_nonneg hU _) hlt;refine Tells.up (g:=fun k=>(Czj.f k (U.take (p+2))).bind fun t=>((Dzk.f k t m).bind fun bt=>((Czj.f k out).bind fun t'=>(some (t',bt.1))))) ?_ (fun k=>?_)
    · refine(trimmed_tells (hU.take _) c4).bind ?_
      refine(short_tells (can_dg _).1 c6 hm0 hm).bind ?_;refine(trimmed_tells hout c5).bind ?_;have h1:nv (trim (U.take (p+2))) / m=r:=by rw[nv_trim (hU.take _)];exact e1
      rw[← e2,← h1];exact Tells.const _
    · simp only[Dzj.l0]
      rw[if_neg (by decide),if_pos c2,if_pos c3,c1]
  | succ j ih =>
    intro U out h1 hUl hU hout hjo hol hz;have c0:((j+1:Nat):Int) - 1=(j:Int):=by omega
    have c1:(0:Int)≤(j:Int):=by omega
    have c2:wrap64 (wrap64 ((j:Int)+((p+2:Nat):Int))+1)=((j+(p+3):Nat):Int):=by rw[wrap64_id (n:=(j:Int)+((p+2:Nat):Int)) (by omega) (by omega),wrap64_id (by omega) (by omega)];omega
    have c3:(j:Int)≤((j+(p+3):Nat):Int):=by omega
    have c4:((j+(p+3):Nat):Int)≤(U.length:Int):=by omega
    have c5:((j+(p+3):Nat):Int).toNat=j+(p+3):=by omega
    have c6:((j:Int)).toNat=j:=by omega
    have c7:(j:Int) < (out.length:Int):=by omega
    have c8:j < out.length:=by omega
    have c9:wrap64 ((j:Int) - 1)=(j:Int) - 1:=wrap64_id (by omega) (by omega)
    have c10:j+(p+3)≤U.length:=by omega
    have c11:j+1+(p+2)=j+(p+3):=by omega
    have c12:j+(p+2)≤N:=by omega
    have c13:∀ i:Nat,i < j→¬ (j=i)∧i < out.length∧i < j+1:=fun i hi=>by omega
    have c14:U.length≤100000:=by omega
    intro hA hlt;rw[c11] at hA hlt;obtain⟨b,q,U1,hd,hq0,hq1,hr,hf,ht⟩:=div_round hp hU hV hVl c10 c14 hv1 hlt;have next:∀ (U':List Int) (Q:Int),Rnd U V p j U' Q→Tells (fun k=>Dzj.l0 k m U' V ((p+2:Nat):Int) (out.set j Q) ((j:Int) - 1)) (dg X,dg r):=by
      intro U' Q R;refine ih U' (out.set j Q) c12 (R.len.trans hUl) R.lim (hout.set j R.q0 R.q1) (by rw[List.length_set];exact Nat.le_of_lt c8) (by rw[List.length_set];exact hol) (fun i hi=>?_) ?_ R.lt
      · rw[rd_set out _ i _ (c13 i hi).2.1,if_neg (c13 i hi).1];exact hz i (c13 i hi).2.2
      · rw[nv_set out j Q c8,hz j (Nat.lt_succ_self j),Int.sub_zero,hA,R.val];grind
    rw[c0];cases b with
    | false =>
      refine Tells.up (g:=fun k=>(Dzy.f k ((U.take (j+(p+3))).drop j) V).bind fun t=>((Fzb.f k U (j:Int) ((j+(p+3):Nat):Int) V t).bind fun bt=>(if bt.1=true then((Fzp.f k bt.2 (j:Int) ((j+(p+3):Nat):Int) V).bind fun t2=>(if(j:Int) < (out.length:Int) then(Dzj.l0 k m t2 V ((p+2:Nat):Int) (out.set j (wrap64 (t - 1))) ((j:Int) - 1)) else(none))) else(if(j:Int) < (out.length:Int) then(Dzj.l0 k m bt.2 V ((p+2:Nat):Int) (out.set j t) ((j:Int) - 1)) else(none))))) ?_ (fun k=>?_)
      · refine hd.bind (hr.bind ?_)
        refine Tells.neg (by simp) (Tells.pos c7 ?_)
        exact next U1 q (hf rfl)
      · simp only[Dzj.l0]
        rw[if_pos c1,if_pos c1,c2,if_pos c3,if_pos c4,c5,c6,c9]
    | true =>
      obtain⟨U2,hr2,R2⟩:=ht rfl;refine Tells.up (g:=fun k=>(Dzy.f k ((U.take (j+(p+3))).drop j) V).bind fun t=>((Fzb.f k U (j:Int) ((j+(p+3):Nat):Int) V t).bind fun bt=>(if bt.1=true then((Fzp.f k bt.2 (j:Int) ((j+(p+3):Nat):Int) V).bind fun t2=>(if(j:Int) < (out.length:Int) then(Dzj.l0 k m t2 V ((p+2:Nat):Int) (out.set j (wrap64 (t - 1))) ((j:Int) - 1)) else(none))) else(if(j:Int) < (out.length:Int) then(Dzj.l0 k m bt.2 V ((p+2:Nat):Int) (out.set j t) ((j:Int) - 1)) else(none))))) ?_ (fun k=>?_)
      · refine hd.bind (hr.bind ?_)
        refine Tells.pos rfl (hr2.bind (Tells.pos c7 ?_));have hw:wrap64 (q - 1)=q - 1:=by clear hA hlt;exact wrap64_id (by omega) (by omega)
        rw[hw];exact next U2 (q - 1) R2
      · simp only[Dzj.l0]
        rw[if_pos c1,if_pos c1,c2,if_pos c3,if_pos c4,c5,c6,c9]

theorem norm_top {t m:Int} (ht:1≤t) (ht1:t < 1000000000) (hm:m=1000000000 / (t+1)):1≤m∧m < 1000000000∧(t+1) * m≤1000000000∧500000000≤t * m:=by
  have h1:=Int.emod_add_mul_ediv 1000000000 (t+1);have h2:=Int.emod_nonneg 1000000000 (show t+1≠0 by omega)
  have h3:=Int.emod_lt_of_pos 1000000000 (show 0 < t+1 by omega)
  rw[← hm] at h1;have hm1:1≤m:=by rw[hm,Int.le_ediv_iff_mul_le (by omega)];omega
  have hm2:m < 1000000000:=by rw[hm];exact Int.ediv_lt_of_lt_mul (by omega) (by omega)
  have e:(t+1) * m=t * m+m:=by rw[Int.add_mul,Int.one_mul]
  refine⟨hm1,hm2,by omega,?_⟩
  by_cases c1:500000000≤t
  · have:t * 1≤t * m:=Int.mul_le_mul_of_nonneg_left hm1 (by omega)
    omega
  · by_cases c2:t=1
    · subst c2;rw[Int.one_mul] at *;omega
    · by_cases c3:m≤2
      · have h4:m=1∨m=2:=by omega
        rcases h4 with h|h
        · subst h;omega
        · subst h;omega
      · have h5:0≤(t+1 - 3) * (m - 3):=Int.mul_nonneg (by omega) (by omega)
        have h6:(t+1 - 3) * (m - 3)=(t+1) * m - 3 * (t+1) - 3 * m+9:=by grind
        rw[h6] at h5;omega
theorem divide_tells {a b:List Int} (ha:Can a) (hb:Can b) (hal:a.length≤1000) (hbl:2≤b.length) (hle:nv b≤nv a):Tells (fun k=>Dzj.f k a b) (dg (nv a / nv b),dg (nv a % nv b)):=by
  obtain⟨p,hp⟩:∃ p,b.length=p+2:=⟨b.length - 2,by omega⟩
  have hlen:b.length≤a.length:=by
    rcases Nat.lt_or_ge a.length b.length with h|h
    · exact absurd (len_lt_val ha hb h) (Int.not_lt.2 hle)
    · exact h
  have ht0:=hb.1.rd (i:=((p+1:Nat):Int)) (by omega) (by omega)
  have ht1:rd b ((p+1:Nat):Int)≠0:=by
    rcases hb.2 with h|h
    · rw[h] at hp;simp at hp
    · rwa [hp,show((p+2:Nat):Int) - 1=((p+1:Nat):Int) by omega] at h
  have w1:wrap64 ((b.length:Int) - 1)=((p+1:Nat):Int):=by rw[wrap64_id (by omega) (by omega)];omega
  have w2:wrap64 (rd b ((p+1:Nat):Int)+1)=rd b ((p+1:Nat):Int)+1:=wrap64_id (by omega) (by omega)
  have w3:Int.tdiv (1000000000:Int) (rd b ((p+1:Nat):Int)+1)=1000000000 / (rd b ((p+1:Nat):Int)+1):=Int.tdiv_eq_ediv_of_nonneg (by omega)
  have w5:wrap64 (wrap64 ((a.length:Int) - (b.length:Int))+1)=((a.length - b.length+1:Nat):Int):=by rw[wrap64_id (n:=(a.length:Int) - (b.length:Int)) (by omega) (by omega),wrap64_id (by omega) (by omega)];omega
  have w6:((a.length - b.length+1:Nat):Int).toNat=a.length - b.length+1:=by omega
  have w7:wrap64 ((((List.replicate (a.length - b.length+1) (0:Int)).length:Nat):Int) - 1)=((a.length - b.length+1:Nat):Int) - 1:=by rw[List.length_replicate];exact wrap64_id (by omega) (by omega)
  have w8:(b.length:Int)=((p+2:Nat):Int):=by omega
  have w9:((b.length:Int)).toNat=p+2:=by omega
  have c1:rd b ((p+1:Nat):Int)+1≠0:=by omega
  have c2:(0:Int)≤((p+1:Nat):Int)∧((p+1:Nat):Int) < (b.length:Int):=by omega
  have c3:(0:Int)≤(b.length:Int):=by omega
  have c4:(0:Int)≤((a.length - b.length+1:Nat):Int):=by omega
  have c5:a.length - b.length+1≤35184372088832:=by omega
  have c6:a.length - b.length+1+(p+2)=a.length+1:=by omega
  have c7:p≤1000:=by omega
  have c8:a.length - b.length+1+(b.length - 1)=a.length:=by omega
  have c9:b.length - 1=p+1:=by omega
  obtain⟨hm1,hm2,hm3,hm4⟩:=norm_top (t:=rd b ((p+1:Nat):Int)) (by omega) ht0.2 rfl
  generalize hmd:(1000000000:Int) / (rd b ((p+1:Nat):Int)+1)=m at *;obtain⟨U,hU,u1,u2,u3⟩:=scaled_tells ha.1 (by omega) (m:=m) (by omega) hm2
  obtain⟨y,hy,y1,y2,y3⟩:=scaled_tells hb.1 (by omega) (m:=m) (by omega) hm2
  have c10:(b.length:Int)≤(y.length:Int):=by omega
  have c11:(y.take (p+2)).length=p+2:=by rw[List.length_take];omega
  have c12:p+2 < y.length:=by omega
  have c13:p+1 < (y.take (p+2)).length:=by omega
  have hP1:=LB_pos (p+1);have hbv:nv b=pv b (p+1)+LB (p+1) * rd b ((p+1:Nat):Int):=by rw[← pv_succ (by omega),pv_all (by omega)]
  have hb1:=pv_lt hb.1 (i:=p+1) (by omega)
  have hb2:=pv_nonneg hb.1 (p+1);have hbge:=nv_ge hb (by omega)
  have halt:=nv_lt ha.1;have hyall:nv y=pv y (p+2)+LB (p+2) * rd y ((p+2:Nat):Int):=by rw[← pv_succ c12,pv_all (by omega)]
  have hytop:=y1.rd (i:=((p+2:Nat):Int)) (by omega) (by omega)
  have hylow:=pv_nonneg y1 (p+2);have hd0:(LB (p+1) * (rd b ((p+1:Nat):Int)+1)) * m≤LB (p+1) * 1000000000:=by
    rw[Int.mul_assoc];exact Int.mul_le_mul_of_nonneg_left hm3 (Int.le_of_lt hP1)
  have hd1:nv b * m < (LB (p+1) * (rd b ((p+1:Nat):Int)+1)) * m:=by
    refine Int.mul_lt_mul_of_pos_right ?_ (by omega)
    rw[hbv,Int.mul_add,Int.mul_one];clear hyall hd0;generalize LB (p+1) * rd b ((p+1:Nat):Int)=A;omega
  have hLB:LB (p+2)=1000000000 * LB (p+1):=LB_succ (p+1);have hV:nv (y.take (p+2))=nv b * m:=by
    have h4:rd y ((p+2:Nat):Int)=0:=by
      rcases Int.lt_or_le 0 (rd y ((p+2:Nat):Int)) with h|h
      · exfalso
        have h5:LB (p+2) * 1≤LB (p+2) * rd y ((p+2:Nat):Int):=Int.mul_le_mul_of_nonneg_left h (Int.le_of_lt (LB_pos _));rw[Int.mul_one] at h5;rw[y3] at hyall;clear hbv;generalize LB (p+2) * rd y ((p+2:Nat):Int)=A at *;generalize (LB (p+1) * (rd b ((p+1:Nat):Int)+1)) * m=C at *;generalize nv b * m=D at *;omega
      · exact Int.le_antisymm h hytop.1
    rw[h4,Int.mul_zero,Int.add_zero,y3] at hyall;exact hyall.symm
  have hVL:Lim (y.take (p+2)):=y1.take _;have hv1:500000000≤rd (y.take (p+2)) ((p+1:Nat):Int):=by
    have h1:nv (y.take (p+2))=pv (y.take (p+2)) (p+1)+LB (p+1) * rd (y.take (p+2)) ((p+1:Nat):Int):=by rw[← pv_succ c13,pv_all (by omega)]
    have h2:=pv_lt hVL (i:=p+1) (by omega)
    rcases Int.lt_or_le (rd (y.take (p+2)) ((p+1:Nat):Int)) 500000000 with h|h
    · exfalso
      have h3:LB (p+1) * (rd (y.take (p+2)) ((p+1:Nat):Int)+1)≤LB (p+1) * (rd b ((p+1:Nat):Int) * m):=Int.mul_le_mul_of_nonneg_left (by omega) (Int.le_of_lt hP1)
      have h4:LB (p+1) * rd b ((p+1:Nat):Int) * m≤nv b * m:=Int.mul_le_mul_of_nonneg_right (by rw[hbv];omega) (by omega)
      rw[Int.mul_add,Int.mul_one] at h3;rw[Int.mul_assoc] at h4;rw[hV] at h1;clear hbv hyall hd0 hd1;generalize LB (p+1) * (rd b ((p+1:Nat):Int) * m)=A at *;generalize LB (p+1) * rd (y.take (p+2)) ((p+1:Nat):Int)=C at *;omega
    · exact h
  have hbp:0 < nv b:=nv_pos hb (by omega)
  have hlt:nv a * m < nv b * m * LB (a.length - b.length+1):=by
    have h1:LB a.length=LB (a.length - b.length+1) * LB (b.length - 1):=by rw[← LB_add,c8]
    have h2:LB (a.length - b.length+1) * LB (b.length - 1)≤LB (a.length - b.length+1) * nv b:=Int.mul_le_mul_of_nonneg_left hbge (Int.le_of_lt (LB_pos _));have h3:nv a < LB (a.length - b.length+1) * nv b:=by rw[h1] at halt;exact Int.lt_of_lt_of_le halt h2
    have h4:nv a * m < LB (a.length - b.length+1) * nv b * m:=Int.mul_lt_mul_of_pos_right h3 (by omega)
    have h5:LB (a.length - b.length+1) * nv b * m=nv b * m * LB (a.length - b.length+1):=by grind
    rwa [h5] at h4
  have hloop:=divide_loop c7 hVL c11 hv1 m (by omega) hm2 (nv a * m) (nv a / nv b) (nv a % nv b) (a.length+1) (by omega) (fun o w h1 h2 h3=>by
      rw[hV] at h1 h3;have e1:w=(nv a - o * nv b) * m:=by grind
      have e2:w / m=nv a - o * nv b:=by rw[e1];exact Int.mul_ediv_cancel _ (by omega)
      have e3:0≤nv a - o * nv b:=by rw[← e2];exact Int.ediv_nonneg h2 (by omega)
      have e4:nv a - o * nv b < nv b:=by rw[← e2];exact Int.ediv_lt_of_lt_mul (by omega) h3
      obtain⟨e5,e6⟩:=idiv_of (V:=nv a) (Q:=o) (m:=nv b) (r:=nv a - o * nv b) (by grind) e3 e4
      exact⟨e2.trans e6.symm,e5.symm⟩) (a.length - b.length+1) U (List.replicate (a.length - b.length+1) 0) (by omega) u2 u1 (Lim.zeros _) (by simp) (by rw[List.length_replicate];clear hlt hd0 hd1 hbv hyall;omega) (fun i hi=>rd_replicate _ i 0 hi) (by rw[nv_zeros,c6,pv_all (by omega),u3,Int.zero_mul,Int.zero_add]) (by rw[c6,pv_all (by omega),u3,hV];exact hlt)
  unfold Dzj.f;rw[w1];refine Tells.pos c2.1 (Tells.pos c2.2 ?_);rw[w2];refine Tells.neg c1 ?_;have w4:wrap64 m=m:=wrap64_id (by omega) (by omega)
  rw[w3,w4];refine hU.bind (hy.bind (Tells.pos c3 (Tells.pos c10 ?_)));rw[w5];refine Tells.pos c4 ?_;rw[w6];refine Tells.pos c5 ?_;refine hloop.congr (fun k=>?_)
  show Dzj.l0 k m U (y.take ((b.length:Int)).toNat) (b.length:Int) (List.replicate (a.length - b.length+1) 0) (wrap64 ((((List.replicate (a.length - b.length+1) (0:Int)).length:Nat):Int) - 1))=_
  rw[w7,w9,w8]
theorem divided_tells {a b:List Int} (ha:Can a) (hb:Can b) (hal:a.length≤1000) (hbl:b.length≤1000) (h0:0 < b.length):Tells (fun k=>Fzz.f k a b) (dg (nv a / nv b),dg (nv a % nv b)):=by
  unfold Fzz.f;refine(compare_tells ha hb (by omega) (by omega)).bind ?_
  have hb0:=nv_pos hb h0;have ha0:=nv_nonneg ha.1;by_cases hlt:nv a < nv b
  · refine Tells.pos (cmpI_neg.2 hlt) ?_
    rw[Int.ediv_eq_zero_of_lt ha0 hlt,Int.emod_eq_of_lt ha0 hlt,dg_zero,padded_self a (by omega)]
    show Tells (fun k=>(Czj.f k a).bind fun t=>some (([]:List Int),t)) _
    have h:=trimmed_tells ha.1 (by omega)
    unfold trim at h;exact h.bind (Tells.const _)
  · refine Tells.neg (fun h=>hlt (cmpI_neg.1 h)) ?_
    by_cases h1:(b.length:Int)=1
    · refine Tells.pos h1 (Tells.pos (by omega) ?_)
      have hr:=hb.1.rd (i:=0) (by omega) (by omega)
      have hbv:nv b=rd b 0:=by
        match b,h1 with
        | [x],_=>show x+1000000000 * 0=x;omega
      have h2:=short_tells ha.1 (by omega) (m:=rd b 0) (by omega) hr.2
      rw[hbv];exact h2.bind (Tells.const _)
    · refine Tells.neg h1 ?_
      exact(divide_tells ha hb hal (by omega) (Int.not_lt.1 hlt)).bind (Tells.const _)
/-- DivMod,by value. -/
def divModR (a b:List Int):List Int × List Int × Int:=if natOk a && natOk b then(if b.length=0 then([],[],16) else(dg (nv a / nv b),dg (nv a % nv b),0)) else([],[],3)
theorem DivMod_tells (a b:List Int):Tells (fun k=>Dzm.f k a b) (divModR a b):=by
  unfold Dzm.f divModR;refine(Valid_tells a).bind ?_;by_cases ha:natOk a=true
  · refine Tells.pos ha ((Valid_tells b).bind ?_)
    by_cases hb:natOk b=true
    · rw[ha,hb,if_pos (show(true && true)=true from rfl)]
      obtain⟨ca,la⟩:=natOk_iff.1 ha;obtain⟨cb,lb⟩:=natOk_iff.1 hb;by_cases h0:b.length=0
      · rw[if_pos h0]
        exact Tells.up (g:=fun _=>some ([],[],16)) (Tells.const _) (fun k=>by simp only[Dzm.j0];rw[if_neg (by decide),if_pos (by omega)])
      · rw[if_neg h0]
        refine Tells.up (g:=fun k=>(Fzz.f k a b).bind fun bt=>(some (bt.1,bt.2,0))) ?_ (fun k=>by simp only[Dzm.j0];rw[if_neg (by decide),if_neg (by omega)])
        exact(divided_tells ca cb (by omega) (by omega) (by omega)).bind (Tells.const _)
    · rw[show natOk b=false by simpa using hb,Bool.and_false,if_neg (by decide)]
      exact Tells.up (g:=fun _=>some ([],[],3)) (Tells.const _) (fun k=>by simp [Dzm.j0])
  · rw[show natOk a=false by simpa using ha,Bool.false_and,if_neg (by decide)]
    refine Tells.neg (by decide) ?_
    exact Tells.up (g:=fun _=>some ([],[],3)) (Tells.const _) (fun k=>by simp [Dzm.j0])
/-- The greatest common divisor of numbers that are not negative. -/
def gI (x y:Int):Int:=((Nat.gcd x.toNat y.toNat:Nat):Int)
theorem gI_zero {x:Int} (h:0≤x):gI x 0=x:=by unfold gI;simp;omega
theorem gI_step {x y:Int} (hx:0≤x) (hy:0 < y):gI x y=gI y (x % y):=by
  unfold gI;have e:(x % y).toNat=x.toNat % y.toNat:=by
    obtain⟨n,rfl⟩:=Int.eq_ofNat_of_zero_le hx;obtain⟨m,rfl⟩:=Int.eq_ofNat_of_zero_le (Int.le_of_lt hy);show(((n:Int) % (m:Int))).toNat=((n:Int)).toNat % ((m:Int)).toNat
    rw[← Int.natCast_emod];rfl
  rw[e,Nat.gcd_comm,Nat.gcd_rec,Nat.gcd_comm]
theorem gI_nonneg (x y:Int):0≤gI x y:=by unfold gI;omega
theorem Gcd_small (n:Nat):∀ (x y:Int),y.toNat≤n→0≤x→0≤y→x < 9223372036854775808→y < 9223372036854775808→Tells (fun k=>Czf.l1 k x y) (dg (gI x y),0):=by
  induction n with
  | zero =>
    intro x y h1 h2 h3 h4 _;obtain rfl:y=0:=by omega
    refine Tells.up (g:=fun k=>(Fzw.f k x).bind fun bt=>(some (bt.1,bt.2))) ?_ (fun k=>by simp only[Czf.l1];rw[if_neg (by omega)])
    rw[gI_zero h2];exact(Of_tells h2 h4).bind (Tells.const _)
  | succ n ih =>
    intro x y h1 h2 h3 h4 h5;rcases Int.lt_or_eq_of_le h3 with h|h
    · have e1:Int.tmod x y=x % y:=Int.tmod_eq_emod_of_nonneg h2
      have b1:=Int.emod_nonneg x (show y≠0 by omega)
      have b2:=Int.emod_lt_of_pos x h;refine Tells.up (g:=fun k=>Czf.l1 k y (x % y)) ?_ (fun k=>by simp only[Czf.l1];rw[if_pos (by omega),if_neg (by omega),e1])
      rw[gI_step h2 h];exact ih y (x % y) (by omega) h3 b1 h5 (by omega)
    · subst h
      refine Tells.up (g:=fun k=>(Fzw.f k x).bind fun bt=>(some (bt.1,bt.2))) ?_ (fun k=>by simp only[Czf.l1];rw[if_neg (by omega)])
      rw[gI_zero h2];exact(Of_tells h2 h4).bind (Tells.const _)
theorem Gcd_j2 {x y:List Int} (hx:Can x) (hy:Can y) (hxl:x.length≤1000) (h:y.length=0∨x.length≤2∧y.length≤2):Tells (fun k=>Czf.j2 k x y) (dg (gI (nv x) (nv y)),0):=by
  by_cases h0:y.length=0
  · have e:nv y=0:=(len_zero_iff hy).1 h0
    rw[e,gI_zero (nv_nonneg hx.1)];refine Tells.up (g:=fun k=>(Gzx.f x (x.length:Int)).bind fun t=>((Czj.f k t).bind fun t2=>(some (t2,0)))) ?_ (fun k=>by simp only[Czf.j2];rw[if_pos (by omega)])
    rw[padded_self x (by omega)]
    have h:=trimmed_tells hx.1 (by omega)
    unfold trim at h;exact h.bind (Tells.const _)
  · obtain⟨l1,l2⟩:=h.resolve_left h0
    refine Tells.up (g:=fun k=>(Ezw.f k x).bind fun t=>((Ezw.f k y).bind fun t2=>(Czf.l1 k t t2))) ?_ (fun k=>by simp only[Czf.j2];rw[if_neg (by omega)])
    have b1:=nv_lt hx.1;have b2:=nv_lt hy.1;have b3:=LB_le l1;have b4:=LB_le l2;rw[LB2] at b3 b4;exact(small_tells hx.1 l1).bind ((small_tells hy.1 l2).bind (Gcd_small (nv y).toNat _ _ (Nat.le_refl _) (nv_nonneg hx.1) (nv_nonneg hy.1) (by omega) (by omega)))
theorem Gcd_loop (n:Nat):∀ (x y:List Int),(nv y).toNat≤n→Can x→Can y→x.length≤1000→y.length≤1000→Tells (fun k=>Czf.l0 k x y) (dg (gI (nv x) (nv y)),0):=by
  induction n with
  | zero =>
    intro x y h1 hx hy lx ly;have h0:y.length=0:=(len_zero_iff hy).2 (by have:=nv_nonneg hy.1;omega)
    exact Tells.up (Gcd_j2 hx hy lx (.inl h0)) (fun k=>by simp only[Czf.l0];rw[if_neg (by omega)])
  | succ n ih =>
    intro x y h1 hx hy lx ly;by_cases h0:y.length=0
    · exact Tells.up (Gcd_j2 hx hy lx (.inl h0)) (fun k=>by simp only[Czf.l0];rw[if_neg (by omega)])
    · have hyp:=nv_pos hy (by omega)
      have hx0:=nv_nonneg hx.1;have b1:=Int.emod_nonneg (nv x) (show nv y≠0 by omega)
      have b2:=Int.emod_lt_of_pos (nv x) hyp;have step:Tells (fun k=>(Fzz.f k x y).bind fun bt=>(Czf.l0 k y bt.2)) (dg (gI (nv x) (nv y)),0):=by
        refine(divided_tells hx hy lx ly (by omega)).bind ?_
        rw[gI_step hx0 hyp];have hr:nv (dg (nv x % nv y))=nv x % nv y:=nv_dg b1;have h:=ih y (dg (nv x % nv y)) (by rw[hr];omega) hy (can_dg _) ly (by
          have:=len_le (can_dg (nv x % nv y)) (n:=y.length) (by rw[hr];exact Int.lt_trans b2 (nv_lt hy.1))
          omega)
        rwa [hr] at h
      by_cases hl:(x.length:Int) > 2
      · exact Tells.up step (fun k=>by simp only[Czf.l0];rw[if_pos (by omega),if_pos hl])
      · by_cases hl2:(y.length:Int) > 2
        · exact Tells.up step (fun k=>by simp only[Czf.l0];rw[if_pos (by omega),if_neg hl,if_pos hl2])
        · exact Tells.up (Gcd_j2 hx hy lx (.inr (by omega))) (fun k=>by simp only[Czf.l0];rw[if_pos (by omega),if_neg hl,if_neg hl2])
def gcdR (a b:List Int):List Int × Int:=if natOk a && natOk b then(dg (gI (nv a) (nv b)),0) else([],3)
theorem Gcd_tells (a b:List Int):Tells (fun k=>Czf.f k a b) (gcdR a b):=by
  unfold Czf.f gcdR;refine(Valid_tells a).bind ?_;by_cases ha:natOk a=true
  · refine Tells.pos ha ((Valid_tells b).bind ?_)
    by_cases hb:natOk b=true
    · rw[ha,hb,if_pos (show(true && true)=true from rfl)]
      obtain⟨ca,la⟩:=natOk_iff.1 ha;obtain⟨cb,lb⟩:=natOk_iff.1 hb;refine Tells.up (g:=fun k=>Czf.l0 k a b) ?_ (fun k=>by simp [Czf.j0])
      exact Gcd_loop (nv b).toNat a b (Nat.le_refl _) ca cb (by omega) (by omega)
    · rw[show natOk b=false by simpa using hb,Bool.and_false,if_neg (by decide)]
      exact Tells.up (g:=fun _=>some ([],3)) (Tells.const _) (fun k=>by simp [Czf.j0])
  · rw[show natOk a=false by simpa using ha,Bool.false_and,if_neg (by decide)]
    refine Tells.neg (by decide) ?_
    exact Tells.up (g:=fun _=>some ([],3)) (Tells.const _) (fun k=>by simp [Czf.j0])

def ratOk (n:Bool) (p q:List Int):Bool:=natOk p && natOk q && decide (q.length≠0) && !(n && decide (p.length=0)) && decide (gI (nv p) (nv q)=1)
theorem dg_one:dg 1=[1]:=by
  refine(dg_eq (xs:=[1]) ⟨Lim.mk (by omega) (by omega) Lim.nil,.inr ?_⟩ (nv_single 1)).symm
  show rd [1] 0≠0
  decide
theorem one_iff {g:Int} (h:0≤g):((dg g).length=1∧rd (dg g) 0=1) ↔ g=1:=by
  constructor
  · intro ⟨h1,h2⟩
    have h3:=nv_dg h;match dg g,h1,h2,h3 with
    | [x],_,h2,h3 =>
      have h4:x=1:=h2;rw[nv_single] at h3;omega
  · rintro rfl
    rw[dg_one];exact⟨rfl,rfl⟩
theorem RValid_tells (n:Bool) (p q:List Int):Tells (fun k=>Gzk.f k n p q) (ratOk n p q):=by
  unfold Gzk.f ratOk;refine(Valid_tells p).bind ?_;by_cases hp:natOk p=true
  · rw[hp,Bool.true_and]
    refine Tells.pos rfl ((Valid_tells q).bind ?_);by_cases hq:natOk q=true
    · rw[hq,Bool.true_and]
      refine Tells.pos rfl ?_;by_cases hl:q.length=0
      · rw[decide_eq_false (by omega:¬ q.length≠0)]
        exact Tells.pos (by omega) (Tells.const _)
      · rw[decide_eq_true (show q.length≠0 from hl),Bool.true_and]
        refine Tells.neg (by omega) ?_
        have hg:Tells (fun k=>(Czf.f k p q).bind fun bt=>(if bt.2=0 then(if(bt.1.length:Int)=1 then(if 0 < (bt.1.length:Int) then(some ((rd bt.1 0) == 1)) else(none)) else(some false)) else(some false))) (decide (gI (nv p) (nv q)=1)):=by
          refine(Gcd_tells p q).bind ?_;unfold gcdR;rw[hp,hq,if_pos (show(true && true)=true from rfl)]
          refine Tells.pos rfl ?_;have h1:=one_iff (gI_nonneg (nv p) (nv q));by_cases h2:(dg (gI (nv p) (nv q))).length=1
          · refine Tells.pos (by show((dg (gI (nv p) (nv q))).length:Int)=1;omega) (Tells.pos (by show(0:Int) < ((dg (gI (nv p) (nv q))).length:Int);omega) ?_)
            by_cases h3:rd (dg (gI (nv p) (nv q))) 0=1
            · rw[decide_eq_true (h1.1 ⟨h2,h3⟩)]
              exact(Tells.const true).congr (fun k=>by show some (rd (dg (gI (nv p) (nv q))) 0 == 1)=some true;rw[h3];rfl)
            · rw[decide_eq_false (fun h=>h3 (h1.2 h).2)]
              exact(Tells.const false).congr (fun k=>by show some (rd (dg (gI (nv p) (nv q))) 0 == 1)=some false;rw[beq_eq_false_iff_ne.2 h3])
          · rw[decide_eq_false (fun h=>h2 (h1.2 h).1)]
            exact Tells.neg (by show ¬ ((dg (gI (nv p) (nv q))).length:Int)=1;omega) (Tells.const _)
        cases n with
        | true =>
          refine Tells.pos rfl ?_;by_cases h0:p.length=0
          · rw[decide_eq_true h0]
            exact Tells.pos (by omega) (Tells.const _)
          · rw[decide_eq_false h0]
            exact Tells.neg (by omega) hg
        | false=>exact Tells.neg (by decide) hg
    · rw[show natOk q=false by simpa using hq,Bool.false_and]
      exact Tells.neg (by decide) (Tells.const _)
  · rw[show natOk p=false by simpa using hp]
    exact Tells.neg (by decide) (Tells.const _)
/-- A rational in lowest terms: its sign,its numerator and its denominator. -/
def redR (n:Bool) (P Q:Int):Bool × List Int × List Int × Int:=(n && decide (P≠0),dg (P / gI P Q),dg (Q / gI P Q),0)
theorem gI_pos {P Q:Int} (hQ:0 < Q):0 < gI P Q:=by
  unfold gI;have:=Nat.gcd_pos_of_pos_right P.toNat (show 0 < Q.toNat by omega)
  omega
theorem gI_dvd {P Q:Int} (hP:0≤P) (hQ:0≤Q):gI P Q ∣ P∧gI P Q ∣ Q:=by
  unfold gI;obtain⟨n,rfl⟩:=Int.eq_ofNat_of_zero_le hP;obtain⟨m,rfl⟩:=Int.eq_ofNat_of_zero_le hQ;exact⟨Int.natCast_dvd_natCast.2 (Nat.gcd_dvd_left _ _),Int.natCast_dvd_natCast.2 (Nat.gcd_dvd_right _ _)⟩
theorem gI_le_right {P Q:Int} (hQ:0 < Q):gI P Q≤Q:=by
  unfold gI;have:=Nat.gcd_le_right P.toNat (show 0 < Q.toNat by omega)
  omega
/-- What is divided by its greatest common divisor. -/
theorem red_parts {P Q:Int} (hP:0≤P) (hQ:0 < Q):∃ a b g:Int,0 < g∧g=gI P Q∧P / g=a∧Q / g=b∧P=g * a∧Q=g * b∧0≤a∧0 < b:=by
  have hg:=gI_pos (P:=P) hQ;obtain⟨⟨a,ha⟩,⟨b,hb⟩⟩:=gI_dvd hP (Int.le_of_lt hQ);refine⟨a,b,gI P Q,hg,rfl,?_,?_,ha,hb,?_,?_⟩
  · have h:=Int.mul_ediv_cancel_left a (Int.ne_of_gt hg)
    rwa [← ha] at h
  · have h:=Int.mul_ediv_cancel_left b (Int.ne_of_gt hg)
    rwa [← hb] at h
  · rcases Int.lt_or_le a 0 with h|h
    · exfalso
      have:gI P Q * a < 0:=Int.mul_neg_of_pos_of_neg hg h;omega
    · exact h
  · rcases Int.lt_or_le 0 b with h|h
    · exact h
    · exfalso
      have:gI P Q * b≤0:=Int.mul_nonpos_of_nonneg_of_nonpos (Int.le_of_lt hg) h;omega
theorem reduced_tells {n:Bool} {p q:List Int} (hp:natOk p=true) (hq:natOk q=true) (h0:0 < q.length):Tells (fun k=>Fzk.f k n p q) (redR n (nv p) (nv q)):=by
  unfold Fzk.f redR;obtain⟨cp,lp⟩:=natOk_iff.1 hp;obtain⟨cq,lq⟩:=natOk_iff.1 hq;have hq0:=nv_pos cq h0;have hp0:=nv_nonneg cp.1;have hg0:=gI_pos (P:=nv p) hq0;have hgl:=gI_le_right (P:=nv p) hq0;have hgo:natOk (dg (gI (nv p) (nv q)))=true:=natOk_dg (Int.lt_of_le_of_lt hgl (Int.lt_of_lt_of_le (nv_lt cq.1) (LB_le lq)));have hgn:nv (dg (gI (nv p) (nv q)))=gI (nv p) (nv q):=nv_dg (Int.le_of_lt hg0);have hgz:¬ (dg (gI (nv p) (nv q))).length=0:=fun h=>by
    have:=(len_zero_iff (can_dg _)).1 h;rw[hgn] at this;omega
  obtain⟨a,b,g,g0,ge,ea,eb,e1,e2,a0,b0⟩:=red_parts hp0 hq0;rw[← ge] at hgo hgn hgz hg0 hgl ⊢;refine(Gcd_tells p q).bind ?_;unfold gcdR;rw[hp,hq,if_pos (show(true && true)=true from rfl),← ge]
  refine Tells.pos rfl ((DivMod_tells p (dg g)).bind ?_);unfold divModR;rw[hp,hgo,if_pos (show(true && true)=true from rfl),if_neg hgz,hgn]
  refine Tells.pos rfl ((DivMod_tells q (dg g)).bind ?_);unfold divModR;rw[hq,hgo,if_pos (show(true && true)=true from rfl),if_neg hgz,hgn]
  refine Tells.pos rfl ?_;cases n with
  | true =>
    refine Tells.pos rfl ?_;have hl:(0 < (dg (nv p / g)).length) ↔ nv p≠0:=by
      have h1:=len_zero_iff (can_dg (nv p / g));rw[nv_dg (by rw[ea];exact a0),ea] at h1
      constructor
      · intro h e
        have:a=0:=by
          rw[e1] at e;rcases Int.mul_eq_zero.1 e with h|h
          · omega
          · exact h
        rw[ea] at h;omega
      · intro h
        rcases Nat.eq_zero_or_pos (dg (nv p / g)).length with h2|h2
        · exfalso
          rw[ea] at h2;have:=h1.1 h2;rw[this,Int.mul_zero] at e1;exact h e1
        · exact h2
    by_cases h:nv p≠0
    · rw[decide_eq_true h]
      exact(Tells.const _).congr (fun k=>by rw[decide_eq_true (hl.2 h)];rfl)
    · rw[decide_eq_false h]
      exact(Tells.const _).congr (fun k=>by rw[decide_eq_false (fun h'=>h (hl.1 h'))];rfl)
  | false=>exact Tells.neg (by decide) (Tells.const _)
def inR (n:Int):Bool:=decide (-1125899906842624≤n) && decide (n≤1125899906842624)
theorem in_eq (n:Int):Hzz.f n=some (inR n):=by
  unfold Hzz.f inR;by_cases h:n≥-1125899906842624
  · rw[if_pos h,decide_eq_true (show -1125899906842624≤n from h)];rfl
  · rw[if_neg h,decide_eq_false (show ¬ -1125899906842624≤n from h)];rfl
theorem inR_iff {n:Int}:inR n=true ↔ -1125899906842624≤n∧n≤1125899906842624:=by
  unfold inR;rw[Bool.and_eq_true,decide_eq_true_eq,decide_eq_true_eq]
/-- The absolute value. -/
def absI (n:Int):Int:=if n < 0 then -n else n
theorem absI_nonneg (n:Int):0≤absI n:=by unfold absI;split <;> omega
theorem absI_le {n:Int} (h:inR n=true):absI n≤1125899906842624:=by
  have:=inR_iff.1 h;unfold absI;split <;> omega
theorem natural_tells {n:Int} (h:inR n=true):Tells (fun k=>Gzz.f k n) (dg (absI n)):=by
  unfold Gzz.f;have hr:=inR_iff.1 h;have e:mx n (wrap64 (-n))=absI n:=by
    rw[wrap64_id (by omega) (by omega)]
    unfold mx absI;by_cases h1:n < 0
    · rw[if_pos (by omega),if_pos h1]
    · rw[if_neg (by omega),if_neg h1]
  rw[e];exact(Of_tells (absI_nonneg n) (by have:=absI_le h;omega)).bind (Tells.const _)
theorem LB48:1000000000000000000000000000≤LB 48:=by
  have:=LB_le (show 3≤48 by omega)
  rwa [LB3] at this
def makeR (p q:Int):Bool × List Int × List Int × Int:=if inR p && inR q then(if q=0 then(false,[],[],16) else redR ((decide (p < 0)) != (decide (q < 0))) (absI p) (absI q)) else(false,[],[],1)
theorem Make_tells (p q:Int):Tells (fun k=>Ezm.f k p q) (makeR p q):=by
  unfold Ezm.f makeR;rw[in_eq p];simp only[Option.bind_some];by_cases hp:inR p=true
  · rw[hp,Bool.true_and]
    refine Tells.pos rfl ?_;rw[in_eq q];simp only[Option.bind_some];by_cases hq:inR q=true
    · rw[hq,if_pos rfl]
      by_cases h0:q=0
      · rw[if_pos h0]
        exact Tells.up (g:=fun _=>some (false,[],[],16)) (Tells.const _) (fun k=>by simp only[Ezm.j0];rw[if_neg (by decide),if_pos h0])
      · rw[if_neg h0]
        refine Tells.up (g:=fun k=>(Gzz.f k p).bind fun t=>((Gzz.f k q).bind fun t2=>((Fzk.f k ((decide (p < 0)) != (decide (q < 0))) t t2).bind fun bt=>(some (bt.1,bt.2.1,bt.2.2.1,bt.2.2.2))))) ?_ (fun k=>by simp only[Ezm.j0];rw[if_neg (by decide),if_neg h0])
        refine(natural_tells hp).bind ((natural_tells hq).bind ?_);have b1:=absI_nonneg p;have b2:=absI_nonneg q;have b3:=absI_le hp;have b4:=absI_le hq;have b5:0 < absI q:=by unfold absI;split <;> omega
        have b6:=LB48;have h:=reduced_tells (n:=(decide (p < 0)) != (decide (q < 0))) (natOk_dg (n:=absI p) (by omega)) (natOk_dg (n:=absI q) (by omega)) (by
          rcases Nat.eq_zero_or_pos (dg (absI q)).length with h1|h1
          · have:=(len_zero_iff (can_dg _)).1 h1
            rw[nv_dg b2] at this;omega
          · exact h1)
        rw[nv_dg b1,nv_dg b2] at h;exact h.bind (Tells.const _)
    · rw[show inR q=false by simpa using hq,if_neg (by decide)]
      exact Tells.up (g:=fun _=>some (false,[],[],1)) (Tells.const _) (fun k=>by simp [Ezm.j0])
  · rw[show inR p=false by simpa using hp,Bool.false_and,if_neg (by decide)]
    refine Tells.neg (by decide) ?_
    exact Tells.up (g:=fun _=>some (false,[],[],1)) (Tells.const _) (fun k=>by simp [Ezm.j0])
theorem ROf_tells (p:Int):Tells (fun k=>Gzb.f k p) (makeR p 1):=by
  unfold Gzb.f;exact(Make_tells p 1).bind (Tells.const _)
theorem rdR_at (l:List S39) (i:Nat) (h:i < l.length):rd_T39 l (i:Int)=l[i]:=by
  show l.getD (i:Int).toNat _=_
  simp [h]
def ratOkS (x:S39):Bool:=ratOk x.f0 x.f1 x.f2
theorem rvalid_loop (l:List S39) (hl:l.length≤1000000) (d:Nat):∀ i:Nat,i+d=l.length→Tells (fun k=>Ezf.l0 k l (l.length:Int) (i:Int)) ((l.drop i).all ratOkS):=by
  induction d with
  | zero =>
    intro i hi;refine Tells.up (g:=fun _=>some true) ?_ (fun k=>?_)
    · rw[List.drop_eq_nil_of_le (by omega)];exact Tells.const _
    · simp only[Ezf.l0];rw[if_neg (by omega)]
  | succ d ih =>
    intro i hi;refine Tells.up (g:=fun k=>(Gzk.f k (l[i]).f0 (l[i]).f1 (l[i]).f2).bind fun t=>(if t=true then(Ezf.l0 k l (l.length:Int) ((i+1:Nat):Int)) else(some false))) ?_ (fun k=>?_)
    · rw[List.drop_eq_getElem_cons (show i < l.length by omega),List.all_cons]
      refine(RValid_tells _ _ _).bind ?_;by_cases h:ratOk (l[i]).f0 (l[i]).f1 (l[i]).f2=true
      · have h':ratOkS l[i]=true:=h
        rw[h',Bool.true_and];exact Tells.pos h (ih (i+1) (by omega))
      · have h':ratOkS l[i]=false:=by unfold ratOkS;simpa using h
        rw[h',Bool.false_and];exact Tells.neg h (Tells.const _)
    · simp only[Ezf.l0]
      rw[if_pos (by omega),if_pos (by omega),if_pos (by omega),rdR_at l i (by omega),wrap64_id (by omega) (by omega)]
      rfl
theorem rvalid_tells (l:List S39) (hl:l.length≤1000000):Tells (fun k=>Ezf.f k l) (l.all ratOkS):=by
  unfold Ezf.f;have h:=rvalid_loop l hl l.length 0 (by omega)
  simpa using h
theorem products2_tells {a b c d:List Int} (ha:natOk a=true) (hb:natOk b=true) (hc:natOk c=true) (hd:natOk d=true):Tells (fun k=>Ezx.f k a b c d) (if nv a * nv b < LB 48 then(if nv c * nv d < LB 48 then(0,dg (nv a * nv b),dg (nv c * nv d)) else(2,dg (nv a * nv b),[])) else(2,[],[])):=by
  unfold Ezx.f;have h1:=Mul_tells a b;have h2:=Mul_tells c d;rw[ha,hb,if_pos (show(true && true)=true from rfl)] at h1
  rw[hc,hd,if_pos (show(true && true)=true from rfl)] at h2
  refine h1.bind ?_;unfold fitv at *;by_cases c1:nv a * nv b < LB 48
  · rw[if_pos c1,if_pos c1]
    refine Tells.pos rfl (h2.bind ?_);by_cases c2:nv c * nv d < LB 48
    · rw[if_pos c2,if_pos c2];exact Tells.const _
    · rw[if_neg c2,if_neg c2];exact Tells.const _
  · rw[if_neg c1,if_neg c1]
    exact Tells.neg (by decide) (Tells.const _)
theorem ratOk_parts {n:Bool} {p q:List Int} (h:ratOk n p q=true):natOk p=true∧natOk q=true∧0 < q.length∧(n=true→p.length≠0)∧gI (nv p) (nv q)=1∧Can p∧Can q∧0≤nv p∧0 < nv q:=by
  unfold ratOk at h;simp only[Bool.and_eq_true,decide_eq_true_eq,Bool.not_eq_true',Bool.and_eq_false_iff,decide_eq_false_iff_not] at h;obtain⟨⟨⟨⟨h1,h2⟩,h3⟩,h4⟩,h5⟩:=h;obtain⟨c1,_⟩:=natOk_iff.1 h1;obtain⟨c2,_⟩:=natOk_iff.1 h2;refine⟨h1,h2,by omega,fun e=>?_,h5,c1,c2,nv_nonneg c1.1,nv_pos c2 (by omega)⟩
  rcases h4 with h|h
  · rw[e] at h;cases h
  · exact h
/-- The product,by value. -/
def mulR (n1:Bool) (p1 q1:List Int) (n2:Bool) (p2 q2:List Int):Bool × List Int × List Int × Int :=
  if ratOk n1 p1 q1 && ratOk n2 p2 q2 then(if nv p1 * nv p2 < LB 48∧nv q1 * nv q2 < LB 48 then redR (n1 != n2) (nv p1 * nv p2) (nv q1 * nv q2) else(false,[],[],2)) else(false,[],[],3)
theorem natOk_pos {n:Int} (h0:0 < n) (h:n < LB 48):natOk (dg n)=true∧nv (dg n)=n∧0 < (dg n).length:=by
  refine⟨natOk_dg h,nv_dg (Int.le_of_lt h0),?_⟩;rcases Nat.eq_zero_or_pos (dg n).length with h1|h1
  · have:=(len_zero_iff (can_dg _)).1 h1
    rw[nv_dg (Int.le_of_lt h0)] at this;omega
  · exact h1
theorem RMul_tells (n1:Bool) (p1 q1:List Int) (n2:Bool) (p2 q2:List Int):Tells (fun k=>Fzm.f k n1 p1 q1 n2 p2 q2) (mulR n1 p1 q1 n2 p2 q2):=by
  unfold Fzm.f mulR;refine(rvalid_tells _ (by simp)).bind ?_
  have hv:([(⟨n1,p1,q1⟩:S39),(⟨n2,p2,q2⟩:S39)]:List S39).all ratOkS=(ratOk n1 p1 q1 && ratOk n2 p2 q2):=by
    simp [ratOkS]
  rw[hv];by_cases h:(ratOk n1 p1 q1 && ratOk n2 p2 q2)=true
  · rw[if_pos h]
    refine Tells.pos h ?_;unfold Gzw.f;simp only[Option.bind_some];rw[Bool.and_eq_true] at h;obtain⟨a1,a2,a3,a4,a5,a6,a7,a8,a9⟩:=ratOk_parts h.1;obtain⟨b1,b2,b3,b4,b5,b6,b7,b8,b9⟩:=ratOk_parts h.2;refine(products2_tells a1 b1 a2 b2).bind ?_;by_cases c1:nv p1 * nv p2 < LB 48
    · rw[if_pos c1]
      by_cases c2:nv q1 * nv q2 < LB 48
      · rw[if_pos c2,if_pos ⟨c1,c2⟩]
        refine Tells.pos rfl ?_;have e1:0≤nv p1 * nv p2:=Int.mul_nonneg a8 b8;have e2:0 < nv q1 * nv q2:=Int.mul_pos a9 b9;obtain⟨f1,f2,f3⟩:=natOk_pos e2 c2;have hr:=reduced_tells (n:=n1 != n2) (natOk_dg c1) f1 f3;rw[nv_dg e1,f2] at hr;exact hr.bind (Tells.const _)
      · rw[if_neg c2,if_neg (fun hh=>c2 hh.2)]
        exact Tells.neg (show ¬ ((2:Int)=0) by decide) (Tells.const _)
    · rw[if_neg c1,if_neg (fun hh=>c1 hh.1)]
      exact Tells.neg (show ¬ ((2:Int)=0) by decide) (Tells.const _)
  · rw[if_neg h]
    exact Tells.neg h (Tells.const _)
/-- The integer part,by value. -/

theorem gI_red {P Q a b g:Int} (hg:0 < g) (ge:g=gI P Q) (e1:P=g * a) (e2:Q=g * b) (ha:0≤a) (hb:0 < b):gI a b=1:=by
  have h1:gI P Q=g * gI a b:=by
    rw[e1,e2];obtain⟨x,rfl⟩:=Int.eq_ofNat_of_zero_le ha;obtain⟨y,rfl⟩:=Int.eq_ofNat_of_zero_le (Int.le_of_lt hb);obtain⟨z,rfl⟩:=Int.eq_ofNat_of_zero_le (Int.le_of_lt hg);unfold gI;rw[← Int.natCast_mul,← Int.natCast_mul,← Int.natCast_mul];show((Nat.gcd (z * x) (z * y):Nat):Int)=((z * Nat.gcd x y:Nat):Int)
    rw[Nat.gcd_mul_left]
  rw[← ge] at h1;have h2:g * 1=g * gI a b:=by rw[Int.mul_one];exact h1
  exact(Int.eq_of_mul_eq_mul_left (Int.ne_of_gt hg) h2).symm
/-- A reduced number is a rational,and stands for the same. -/
structure RedIs (P Q:Int) (p q:List Int):Prop where
  ok:∀ n,(n=true→P≠0)→ratOk n p q=true
  can:Can p∧Can q
  nat:natOk p=true∧natOk q=true
  ex:∃ c,0 < c∧P=c * nv p∧Q=c * nv q
  pos:0≤nv p∧0 < nv q
  len:0 < q.length
theorem redIs {P Q:Int} (hP:0≤P) (hQ:0 < Q) (hP1:P < LB 48) (hQ1:Q < LB 48):RedIs P Q (dg (P / gI P Q)) (dg (Q / gI P Q)):=by
  obtain⟨a,b,g,g0,ge,ea,eb,e1,e2,a0,b0⟩:=red_parts hP hQ;rw[← ge,ea,eb];have ga:a≤P:=by rw[e1];have:1 * a≤g * a:=Int.mul_le_mul_of_nonneg_right g0 a0;omega
  have gb:b≤Q:=by rw[e2];have:1 * b≤g * b:=Int.mul_le_mul_of_nonneg_right g0 (Int.le_of_lt b0);omega
  have h1:natOk (dg a)=true:=natOk_dg (Int.lt_of_le_of_lt ga hP1);obtain⟨h2,h3,h4⟩:=natOk_pos b0 (Int.lt_of_le_of_lt gb hQ1);have h5:nv (dg a)=a:=nv_dg a0;refine⟨fun n hn=>?_,⟨can_dg _,can_dg _⟩,⟨h1,h2⟩,⟨g,g0,by rw[h5];exact e1,by rw[h3];exact e2⟩,⟨by rw[h5];exact a0,by rw[h3];exact b0⟩,h4⟩
  unfold ratOk;rw[h1,h2,decide_eq_true (show(dg b).length≠0 by omega),h5,h3,decide_eq_true (gI_red g0 ge e1 e2 a0 b0)]
  cases n with
  | false=>rfl
  | true =>
    have h6:¬ (dg a).length=0:=fun h=>by
      have:=(len_zero_iff (can_dg a)).1 h;rw[h5] at this;rw[this,Int.mul_zero] at e1;exact hn rfl e1
    rw[decide_eq_false h6];rfl
theorem absI_of {n:Int} (h:0≤n):absI n=n:=by unfold absI;rw[if_neg (by omega)]
theorem makeR_nonneg {p q:Int} (hp:0≤p) (hp1:p≤1125899906842624) (hq:0 < q) (hq1:q≤1125899906842624):makeR p q=redR false p q:=by
  unfold makeR;rw[inR_iff.2 ⟨by omega,hp1⟩,inR_iff.2 ⟨by omega,hq1⟩,if_pos (show(true && true)=true from rfl),if_neg (by omega),absI_of hp,absI_of (by omega),decide_eq_false (by omega:¬ p < 0),decide_eq_false (by omega:¬ q < 0)]
  rfl

theorem r2valid_loop (l:List Int) (h48:l.length≤48) (d:Nat):∀ i:Nat,i+d=l.length→Tells (fun k=>Azy.l0 k l (i:Int)) ((l.drop i).all limbOk):=by
  induction d with
  | zero =>
    intro i hi;rw[List.drop_eq_nil_of_le (by omega)]
    refine Tells.up (Tells.const true) (fun k=>?_)
    simp only[Azy.l0];rw[if_neg (by omega)]
  | succ d ih =>
    intro i hi;rw[rd_drop l i (by omega),List.all_cons]
    unfold limbOk;by_cases h1:rd l (i:Int) < 0
    · refine Tells.up (g:=fun _=>some false) ?_ (fun k=>?_)
      · rw[decide_eq_false (by omega:¬ 0≤rd l (i:Int))];exact Tells.const _
      · simp only[Azy.l0]
        rw[if_pos (by omega),if_pos (by omega),if_pos h1]
    · by_cases h2:rd l (i:Int)≥1000000000
      · refine Tells.up (g:=fun _=>some false) ?_ (fun k=>?_)
        · rw[decide_eq_false (by omega:¬ rd l (i:Int) < 1000000000),Bool.and_false];exact Tells.const _
        · simp only[Azy.l0]
          rw[if_pos (by omega),if_pos (by omega),if_neg h1,if_pos h2]
      · refine Tells.up (g:=fun k=>Azy.l0 k l ((i+1:Nat):Int)) ?_ (fun k=>?_)
        · rw[decide_eq_true (by omega:0≤rd l (i:Int)),decide_eq_true (by omega:rd l (i:Int) < 1000000000),Bool.and_true,Bool.true_and]
          exact ih (i+1) (by omega)
        · simp only[Azy.l0]
          rw[if_pos (by omega),if_pos (by omega),if_neg h1,if_neg h2,wrap64_id (by omega) (by omega)]
          rfl
theorem R2Valid_tells (l:List Int):Tells (fun k=>Azy.f k l) (natOk l):=by
  unfold Azy.f natOk;by_cases h:(l.length:Int) > 48
  · rw[decide_eq_false (by omega:¬ l.length≤48),Bool.false_and]
    exact Tells.pos h (Tells.up (Tells.const false) (fun k=>by simp [Azy.j0]))
  · rw[decide_eq_true (by omega:l.length≤48),Bool.true_and]
    refine Tells.neg h ?_;have hv:=r2valid_loop l (by omega) l.length 0 (by omega)
    rw[List.drop_zero] at hv;have hf:Tells (fun k=>Azy.j0 k l false) (l.all limbOk):=Tells.up hv (fun k=>by simp [Azy.j0])
    unfold lastOk;by_cases h0:(l.length:Int) > 0
    · have w:wrap64 ((l.length:Int) - 1)=(l.length:Int) - 1:=wrap64_id (by omega) (by omega)
      rw[w,decide_eq_false (by omega:¬ l.length=0),Bool.false_or]
      refine Tells.pos h0 (Tells.pos (by omega) (Tells.pos (by omega) ?_))
      by_cases hz:rd l ((l.length:Int) - 1)=0
      · rw[hz]
        exact(Tells.up (Tells.const false) (fun k=>by simp [Azy.j0]):Tells (fun k=>Azy.j0 k l true) false).congr (fun k=>rfl)|> fun h=>by simpa using h
      · have e1:(rd l ((l.length:Int) - 1) == 0)=false:=by simpa using hz
        have e2:(rd l ((l.length:Int) - 1) != 0)=true:=by simpa using hz
        rw[e1,e2,Bool.and_true];exact hf
    · rw[decide_eq_true (by omega:l.length=0),Bool.true_or,Bool.and_true]
      exact Tells.neg h0 hf
theorem R2Of_loop (m:Nat):∀ (n:Int) (acc:List Int),0≤n→n < LB m→m≤100→acc.length+m < 1000000→n < 9223372036854775808→Tells (fun k=>Czp.l0 k n acc) (acc ++ dg n,0):=by
  induction m with
  | zero =>
    intro n acc h0 h1 _ _ _;rw[LB_zero] at h1;obtain rfl:n=0:=by omega
    refine Tells.up (g:=fun _=>some (acc,0)) ?_ (fun k=>?_)
    · rw[dg_zero,List.append_nil];exact Tells.const _
    · simp only[Czp.l0];rw[if_neg (by omega)]
  | succ m ih =>
    intro n acc h0 h1 hm hl hn;rw[LB_succ] at h1;rcases Int.lt_or_eq_of_le h0 with hp|hp
    · have e1:Int.tdiv n 1000000000=n / 1000000000:=Int.tdiv_eq_ediv_of_nonneg h0
      have e2:Int.tmod n 1000000000=n % 1000000000:=Int.tmod_eq_emod_of_nonneg h0;refine Tells.up (g:=fun k=>Czp.l0 k (n / 1000000000) (acc ++ [n % 1000000000])) ?_ (fun k=>?_)
      · have h:=ih (n / 1000000000) (acc ++ [n % 1000000000]) (by omega) (by have:=LB_pos m;omega) (by omega) (by simp;omega) (by omega)
        have e3:dg n=n % 1000000000 :: dg (n / 1000000000):=by
          unfold dg;rw[digs_pos (by omega),show n.toNat / 1000000000=(n / 1000000000).toNat by omega]
          congr 1;omega
        rw[e3];simpa using h
      · simp only[Czp.l0]
        rw[if_pos (by omega),if_pos (by omega),e1,e2,wrap64_id (by omega) (by omega)]
    · subst hp
      refine Tells.up (g:=fun _=>some (acc,0)) ?_ (fun k=>?_)
      · rw[dg_zero,List.append_nil];exact Tells.const _
      · simp only[Czp.l0];rw[if_neg (by omega)]
theorem R2Of_tells {n:Int} (h0:0≤n) (h1:n < 9223372036854775808):Tells (fun k=>Czp.f k n) (dg n,0):=by
  unfold Czp.f;refine Tells.neg (by omega) ?_
  have:=R2Of_loop 3 n [] h0 (by rw[LB3];omega) (by omega) (by simp) h1
  simpa using this
theorem r2compare_loop (a b:List Int) (ha:Lim a) (hb:Lim b) (hl:a.length=b.length) (hn:a.length≤1000000) (d:Nat):d≤a.length→Tells (fun k=>Czq.l0 k a b ((d:Int) - 1)) (cmpI (pv a d) (pv b d)):=by
  induction d with
  | zero =>
    intro _;refine Tells.up (g:=fun _=>some 0) ?_ (fun k=>?_)
    · rw[pv_zero,pv_zero];exact Tells.const _
    · simp only[Czq.l0];rw[if_neg (by omega)]
  | succ d ih =>
    intro hd;have h1:=pv_succ (xs:=a) (i:=d) (by omega)
    have h2:=pv_succ (xs:=b) (i:=d) (by omega)
    have h3:=pv_lt ha (i:=d) (by omega)
    have h4:=pv_lt hb (i:=d) (by omega)
    have h5:=pv_nonneg ha d;have h6:=pv_nonneg hb d;rw[show((d+1:Nat):Int) - 1=(d:Int) by omega]
    rcases Int.lt_trichotomy (rd a (d:Int)) (rd b (d:Int)) with h|h|h
    · have h7:LB d * (rd a (d:Int)+1)≤LB d * rd b (d:Int):=Int.mul_le_mul_of_nonneg_left (by omega) (by have:=LB_pos d;omega)
      rw[Int.mul_add] at h7;refine Tells.up (g:=fun _=>some (-1)) ?_ (fun k=>?_)
      · rw[show cmpI (pv a (d+1)) (pv b (d+1))=-1 by unfold cmpI;rw[if_pos (by omega)]];exact Tells.const _
      · simp only[Czq.l0];rw[if_pos (by omega),if_pos (by omega),if_pos (by omega),if_pos (by omega),if_pos h]
    · refine Tells.up (g:=fun k=>Czq.l0 k a b ((d:Int) - 1)) ?_ (fun k=>?_)
      · have e:cmpI (pv a (d+1)) (pv b (d+1))=cmpI (pv a d) (pv b d):=by
          rw[h1,h2,h];unfold cmpI;by_cases e1:pv a d < pv b d
          · rw[if_pos e1,if_pos (by omega)]
          · rw[if_neg e1,if_neg (by omega)]
            by_cases e2:pv a d > pv b d
            · rw[if_pos e2,if_pos (by omega)]
            · rw[if_neg e2,if_neg (by omega)]
        rw[e];exact ih (by omega)
      · simp only[Czq.l0]
        rw[if_pos (by omega),if_pos (by omega),if_pos (by omega),if_pos (by omega),if_neg (by omega),if_neg (by omega),wrap64_id (by omega) (by omega)]
    · have h7:LB d * (rd b (d:Int)+1)≤LB d * rd a (d:Int):=Int.mul_le_mul_of_nonneg_left (by omega) (by have:=LB_pos d;omega)
      rw[Int.mul_add] at h7;refine Tells.up (g:=fun _=>some 1) ?_ (fun k=>?_)
      · rw[show cmpI (pv a (d+1)) (pv b (d+1))=1 by unfold cmpI;rw[if_neg (by omega),if_pos (by omega)]];exact Tells.const _
      · simp only[Czq.l0];rw[if_pos (by omega),if_pos (by omega),if_pos (by omega),if_pos (by omega),if_neg (by omega),if_pos h]
theorem r2compare_tells {a b:List Int} (ha:Can a) (hb:Can b) (hn:a.length≤1000000) (hm:b.length≤1000000):Tells (fun k=>Czq.f k a b) (cmpI (nv a) (nv b)):=by
  unfold Czq.f;by_cases hl:(a.length:Int)=(b.length:Int)
  · refine Tells.pos hl ?_
    have h:=r2compare_loop a b ha.1 hb.1 (by omega) hn a.length (Nat.le_refl _)
    rw[pv_all (Nat.le_refl _),pv_all (by omega)] at h
    refine h.congr (fun k=>?_)
    rw[wrap64_id (by omega) (by omega)]
  · refine Tells.neg hl ?_
    by_cases h:(a.length:Int) < (b.length:Int)
    · have:=len_lt_val ha hb (by omega)
      rw[show cmpI (nv a) (nv b)=-1 by unfold cmpI;rw[if_pos (by omega)]]
      exact Tells.pos h (Tells.const _)
    · have:=len_lt_val hb ha (by omega)
      rw[show cmpI (nv a) (nv b)=1 by unfold cmpI;rw[if_neg (by omega),if_pos (by omega)]]
      exact Tells.neg h (Tells.const _)
theorem fitv_take {x:List Int} (hx:Lim x) {n:Nat} (hn:n≤x.length) (hb:x.length≤1000000) (e:x.take n=trim x):(if(n:Int) > 48 then some (([]:List Int),(2:Int)) else(some (([]:List Int):List Int)).bind fun y457=>(if 0≤(n:Int) then(if(n:Int)≤(x.length:Int) then(if y457.length+(x.take (n:Int).toNat).length < 17592186044416 then(some ((y457 ++ (x.take (n:Int).toNat)),0)) else(none)) else(none)) else(none)))=some (fitv (nv x)):=by
  have hl:(trim x).length=n:=by rw[← e,List.length_take];omega
  have hc:=len_le_iff (can_dg (nv x)) 48;rw[nv_dg (nv_nonneg hx)] at hc;unfold trim at hl;rw[hl] at hc;unfold fitv;by_cases h:(n:Int) > 48
  · rw[if_pos h,if_neg (fun h'=>by have:=hc.2 h';omega)]
  · rw[if_neg h,if_pos (hc.1 (by omega)),Option.bind_some,if_pos (by omega),if_pos (by omega),Int.toNat_natCast,e,if_pos (by unfold trim;rw[hl];simp;omega)]
    rfl
theorem fit_loop (x:List Int) (hx:Lim x) (hb:x.length≤1000000) (d:Nat):d≤x.length→(∀ i:Nat,d≤i→i < x.length→rd x (i:Int)=0)→Tells (fun k=>Bzb.l0 k x (d:Int)) (fitv (nv x)):=by
  induction d with
  | zero =>
    intro hd hz;refine Tells.up (Tells.const _) (fun k=>?_)
    simp only[Bzb.l0];rw[if_neg (by omega)]
    exact fitv_take hx (n:=0) hd hb (take_trim hx 0 (by omega) hz (.inl rfl))
  | succ d ih =>
    intro hd hz;have w:wrap64 (((d+1:Nat):Int) - 1)=(d:Int):=by rw[wrap64_id (by omega) (by omega)];omega
    by_cases h0:rd x (d:Int)=0
    · refine Tells.up (ih (by omega) (fun i h1 h2=>?_)) (fun k=>?_)
      · rcases Nat.eq_or_lt_of_le h1 with e|e
        · rw[← e];exact h0
        · exact hz i e h2
      · simp only[Bzb.l0]
        rw[if_pos (by omega),w,if_pos (by omega),if_pos (by omega),if_pos h0]
    · refine Tells.up (Tells.const _) (fun k=>?_)
      simp only[Bzb.l0];rw[if_pos (by omega),w,if_pos (by omega),if_pos (by omega),if_neg h0]
      exact fitv_take hx (n:=d+1) hd hb (take_trim hx (d+1) hd hz (.inr (by rw[show((d+1:Nat):Int) - 1=(d:Int) by omega];exact h0)))
theorem fit_tells {x:List Int} (hx:Lim x) (hb:x.length≤1000000):Tells (fun k=>Bzb.f k x) (fitv (nv x)):=by
  unfold Bzb.f;exact fit_loop x hx hb x.length (Nat.le_refl _) (fun i h1 h2=>absurd h2 (by omega))
theorem rd_beyond (l:List Int) (i:Nat) (h:l.length≤i):rd l (i:Int)=0:=by
  show l.getD (i:Int).toNat 0=0
  rw[Int.toNat_natCast];simp [List.getD,List.getElem?_eq_none h]
theorem at_eq (l:List Int) (i:Nat):Ezp.f l (i:Int)=some (rd l (i:Int)):=by
  unfold Ezp.f;by_cases h:(i:Int) < (l.length:Int)
  · rw[if_pos h,if_pos (by omega)]
  · rw[if_neg h,rd_beyond l i (by omega)]
/-- A limb that may lie beyond the end. -/
theorem lim_rd_any {xs:List Int} (h:Lim xs) (i:Nat):0≤rd xs (i:Int)∧rd xs (i:Int) < 1000000000:=by
  rcases Nat.lt_or_ge i xs.length with h1|h1
  · exact h.rd (by omega) (by omega)
  · rw[rd_beyond xs i h1];omega
theorem nv_drop_any (l:List Int) (i:Nat):nv (l.drop i)=rd l (i:Int)+1000000000 * nv (l.drop (i+1)):=by
  rcases Nat.lt_or_ge i l.length with h|h
  · exact nv_drop h
  · rw[nv_drop_all h,nv_drop_all (by omega),rd_beyond l i h];rfl
theorem times_l2 (x:List Int) (hx:Lim x) (hb:x.length≤1000000) (d:Nat):d≤x.length→(∀ i:Nat,d≤i→i < x.length→rd x (i:Int)=0)→Tells (fun k=>Azp.l2 k x (d:Int)) (dg (nv x)):=by
  induction d with
  | zero =>
    intro hd hz;refine Tells.up (Tells.const _) (fun k=>?_)
    simp only[Azp.l2];rw[if_neg (by omega),if_pos (by omega),if_pos (by omega),Int.toNat_natCast,take_trim hx 0 (by omega) hz (.inl rfl)];rfl
  | succ d ih =>
    intro hd hz;have w:wrap64 (((d+1:Nat):Int) - 1)=(d:Int):=by rw[wrap64_id (by omega) (by omega)];omega
    by_cases h0:rd x (d:Int)=0
    · refine Tells.up (ih (by omega) (fun i h1 h2=>?_)) (fun k=>?_)
      · rcases Nat.eq_or_lt_of_le h1 with e|e
        · rw[← e];exact h0
        · exact hz i e h2
      · simp only[Azp.l2]
        rw[if_pos (by omega),w,if_pos (by omega),if_pos (by omega),if_pos h0]
    · refine Tells.up (Tells.const _) (fun k=>?_)
      simp only[Azp.l2];rw[if_pos (by omega),w,if_pos (by omega),if_pos (by omega),if_neg h0,if_pos (by omega),if_pos (by omega),Int.toNat_natCast,take_trim hx (d+1) hd hz (.inr (by rw[show((d+1:Nat):Int) - 1=(d:Int) by omega];exact h0))];rfl

theorem times_inner (a b:List Int) (ha:Lim a) (hb:Lim b) (N:Nat) (hN:N=a.length+b.length) (hn:N≤1000000) (R:List Int) (i:Nat) (hi:i < a.length) (V:Int)
    (hout:∀ x:List Int,x.length=N→Lim x→(∀ m:Nat,i+1+b.length≤m→m < N→rd x (m:Int)=0)→V=nv x+LB (i+1) * (nv (a.drop (i+1)) * nv b)→Tells (fun k=>Azp.l0 k a b x ((i+1:Nat):Int)) R) (d:Nat) :
    ∀ (j:Nat) (x:List Int) (c:Int),j+d=b.length+1→x.length=N→Lim x→(∀ m:Nat,i+max j b.length≤m→m < N→rd x (m:Int)=0)→0≤c→c < 1000000000→(j=b.length+1→c=0) →
      V=nv x+LB (i+j) * (c+rd a (i:Int) * nv (b.drop j))+LB (i+1) * (nv (a.drop (i+1)) * nv b) →
      Tells (fun k=>Azp.l1 k a b x (i:Int) c (j:Int)) R:=by
  have stop:∀ (j:Nat) (x:List Int),b.length≤j→j≤b.length+1→x.length=N→Lim x→(∀ m:Nat,i+max j b.length≤m→m < N→rd x (m:Int)=0)→V=nv x+LB (i+j) * (0+rd a (i:Int) * nv (b.drop j))+LB (i+1) * (nv (a.drop (i+1)) * nv b)→Tells (fun k=>Azp.l1 k a b x (i:Int) 0 (j:Int)) R:=by
    intro j x hj hj1 hx hl hz;have k6:¬ ((j:Int) < (b.length:Int)):=by omega
    have k9:wrap64 ((i:Int)+1)=((i+1:Nat):Int):=by rw[wrap64_id (by omega) (by omega)];omega
    have k5:∀ m:Nat,i+1+b.length≤m→i+max j b.length≤m:=fun m h=>by omega
    intro hv;rw[nv_drop_all hj,Int.mul_zero,Int.zero_add,Int.mul_zero,Int.add_zero] at hv;refine Tells.up (hout x hx hl (fun m h2 h3=>hz m (k5 m h2) h3) hv) (fun k=>?_)
    simp only[Azp.l1];rw[if_neg k6,if_neg (by decide),k9]
  induction d with
  | zero =>
    intro j x c hj hx hl hz h0 h1 hc hv;obtain rfl:=hc (by omega)
    exact stop j x (by omega) (by omega) hx hl hz hv
  | succ d ih =>
    intro j x c hj hx hl hz h0 h1 hc;by_cases hs:b.length≤j∧c=0
    · obtain⟨h2,rfl⟩:=hs
      exact fun hv=>stop j x h2 (by omega) hx hl hz hv
    have i1:i+j < x.length:=by omega
    have i3:i+(j+1)=(i+j)+1:=by omega
    have i4:(j+1)+d=b.length+1:=by omega
    have j2:(0:Int)≤((i+j:Nat):Int):=by omega
    have j3:((i+j:Nat):Int) < (x.length:Int):=by omega
    have j4:(0:Int)≤(i:Int):=by omega
    have j5:(i:Int) < (a.length:Int):=by omega
    have j7:wrap64 ((j:Int)+1)=((j+1:Nat):Int):=by rw[wrap64_id (by omega) (by omega)];omega
    have e0:wrap64 ((i:Int)+(j:Int))=((i+j:Nat):Int):=by rw[wrap64_id (by omega) (by omega)];omega
    have j8:((i+j:Nat):Int).toNat=i+j:=by omega
    have i5:∀ m:Nat,i+max (j+1) b.length≤m→m < N→¬ (i+j=m)∧m < x.length∧i+max j b.length≤m:=fun m h2 h3=>by omega
    have jc:¬ (j:Int) < (b.length:Int)→j=b.length∧c > 0:=fun h=>by
      have:j=b.length:=by omega
      refine⟨this,?_⟩;have:¬ c=0:=fun h3=>hs ⟨by omega,h3⟩
      omega
    have hz0:j=b.length→rd x ((i+j:Nat):Int)=0∧rd b (j:Int)=0:=fun h=>⟨hz (i+j) (by omega) (by omega),rd_beyond b j (by omega)⟩
    have hj1:j+1=b.length+1→j=b.length:=fun h=>by omega
    intro hv;have hr:=hl.rd j2 j3;have hsb:=lim_rd_any hb j;have ht:=ha.rd j4 j5;have hp:=limb_prod ht.1 ht.2 hsb.1 hsb.2;obtain⟨e1,e2,e3,b1,b2,b3,b4,b5⟩:=limb_step hr.1 hr.2 hp.1 hp.2 h0 h1;refine Tells.up (g:=fun k=>Azp.l1 k a b (x.set (i+j) ((rd x ((i+j:Nat):Int)+rd a (i:Int) * rd b (j:Int)+c) % 1000000000)) (i:Int) ((rd x ((i+j:Nat):Int)+rd a (i:Int) * rd b (j:Int)+c) / 1000000000) ((j+1:Nat):Int)) ?_ (fun k=>?_)
    · refine ih (j+1) _ _ i4 (by simpa using hx) (hl.set _ b1 b2) (fun m h2 h3=>?_) b3 b4 (fun h=>?_) ?_
      · rw[rd_set x _ m _ (i5 m h2 h3).2.1,if_neg (i5 m h2 h3).1];exact hz m (i5 m h2 h3).2.2 h3
      · obtain⟨z1,z2⟩:=hz0 (hj1 h)
        rw[z1,z2,Int.mul_zero,Int.zero_add,Int.zero_add];exact Int.ediv_eq_zero_of_lt h0 h1
      · rw[nv_set x (i+j) _ i1,i3,LB_succ (i+j),hv,nv_drop_any b j]
        rw[mul_alg (LB (i+j)) (rd x ((i+j:Nat):Int)) (rd a (i:Int)) (rd b (j:Int)) c (nv (b.drop (j+1))) _ _ (Int.emod_add_mul_ediv _ _)];ac_rfl
    · simp only[Azp.l1]
      by_cases hj':(j:Int) < (b.length:Int)
      · rw[if_pos hj',e0,if_pos j2,if_pos j3,if_pos j4,if_pos j5,at_eq,Option.bind_some,e1,e2,e3,b5,j7,j8]
      · rw[if_neg hj',if_pos (jc hj').2,e0,if_pos j2,if_pos j3,if_pos j4,if_pos j5,at_eq,Option.bind_some,e1,e2,e3,b5,j7,j8]
theorem times_outer (a b:List Int) (ha:Lim a) (hb:Lim b) (N:Nat) (hN:N=a.length+b.length) (hn:N≤1000000) (V:Int) (d:Nat) :
    ∀ (i:Nat) (x:List Int),i+d=a.length→x.length=N→Lim x→(∀ m:Nat,i+b.length≤m→m < N→rd x (m:Int)=0)→V=nv x+LB i * (nv (a.drop i) * nv b) →
      Tells (fun k=>Azp.l0 k a b x (i:Int)) (dg V):=by
  induction d with
  | zero =>
    intro i x hi hx hl hz hv;rw[nv_drop_all (by omega),Int.zero_mul,Int.mul_zero,Int.add_zero] at hv
    refine Tells.up (g:=fun k=>Azp.l2 k x (x.length:Int)) ?_ (fun k=>?_)
    · rw[hv];exact times_l2 x hl (by omega) x.length (Nat.le_refl _) (fun m h2 h3=>absurd h3 (by omega))
    · simp only[Azp.l0];rw[if_neg (by omega)]
  | succ d ih =>
    intro i x hi hx hl hz hv;have hi':i < a.length:=by omega
    have hm:∀ m:Nat,i+max 0 b.length≤m→i+b.length≤m:=fun m h=>by omega
    refine Tells.up (g:=fun k=>Azp.l1 k a b x (i:Int) 0 ((0:Nat):Int)) ?_ (fun k=>?_)
    · refine times_inner a b ha hb N hN hn _ i hi' V (fun y h1 h2 h3 h4=>ih (i+1) y (by omega) h1 h2 h3 h4) (b.length+1) 0 x 0 (by omega) hx hl (fun m h1 h2=>hz m (hm m h1) h2) (by omega) (by omega) (fun _=>rfl) ?_
      rw[hv,nv_drop (l:=a) (i:=i) hi',List.drop_zero,Nat.add_zero,Int.zero_add,LB_succ,mul_alg2];ac_rfl
    · simp only[Azp.l0];rw[if_pos (by omega)];rfl
theorem times_tells {a b:List Int} (ha:Lim a) (hb:Lim b) (hla:a.length≤1000) (hlb:b.length≤1000):Tells (fun k=>Azp.f k a b) (dg (nv a * nv b)):=by
  unfold Azp.f;have hw:wrap64 ((a.length:Int)+(b.length:Int))=((a.length+b.length:Nat):Int):=by rw[wrap64_id (by omega) (by omega)];omega
  rw[hw];refine Tells.pos (by omega) (Tells.pos (by omega) ?_)
  rw[Int.toNat_natCast];refine times_outer a b ha hb (a.length+b.length) rfl (by omega) _ a.length 0 _ (by omega) (by simp) (Lim.zeros _) (fun m _ h2=>rd_replicate _ m 0 h2) ?_
  rw[nv_zeros,LB_zero,List.drop_zero];omega
theorem dg_len (n:Int) (m:Nat) (h:n < LB m):(dg n).length≤m:=by
  rcases Int.lt_or_le n 0 with h0|h0
  · have:dg n=[]:=by unfold dg;rw[show n.toNat=0 by omega];exact digs_zero
    rw[this];simp
  · exact len_le (can_dg n) (by rw[nv_dg h0];exact h)
theorem cmpI_le {x y:Int}:cmpI x y≤0 ↔ x≤y:=by
  unfold cmpI;split
  · omega
  · split <;> omega
theorem r2digit_loop {r b:List Int} (hr:Can r) (hb:Can b) (hrl:r.length≤100) (hbl:b.length≤100) (n:Nat):∀ lo hi:Int,(hi - lo).toNat≤n→0≤lo→lo≤hi→hi≤999999999→lo * nv b≤nv r→nv r < (hi+1) * nv b→Tells (fun k=>Czz.l0 k r b lo hi) (nv r / nv b):=by
  induction n with
  | zero =>
    intro lo hi hn h0 h1 h2 h3 h4;obtain rfl:hi=lo:=by omega
    have hb0:0 < nv b:=by
      rcases Int.lt_or_le 0 (nv b) with h|h
      · exact h
      · exfalso
        have:=nv_nonneg hb.1;have e:nv b=0:=by omega
        rw[e,Int.mul_zero] at h3 h4;omega
    have h5:hi≤nv r / nv b:=Int.le_ediv_of_mul_le hb0 h3;have h6:nv r / nv b < hi+1:=Int.ediv_lt_of_lt_mul hb0 h4;have e:nv r / nv b=hi:=by omega
    rw[e];refine Tells.up (Tells.const _) (fun k=>?_)
    simp only[Czz.l0];rw[if_neg (by omega)]
  | succ n ih =>
    intro lo hi hn h0 h1 h2 h3 h4;rcases Int.lt_or_eq_of_le h1 with h|h
    · have e1:wrap64 (wrap64 (lo+hi)+1)=lo+hi+1:=by rw[wrap64_id (n:=lo+hi) (by omega) (by omega),wrap64_id (by omega) (by omega)]
      have e2:Int.tdiv (lo+hi+1) 2=(lo+hi+1) / 2:=Int.tdiv_eq_ediv_of_nonneg (by omega)
      obtain⟨m,hm⟩:∃ m,(lo+hi+1) / 2=m:=⟨_,rfl⟩;have b1:lo < m:=by omega
      have b2:m≤hi:=by omega
      have e3:wrap64 m=m:=wrap64_id (by omega) (by omega)
      have e4:wrap64 (m - 1)=m - 1:=wrap64_id (by omega) (by omega)
      have hl1:Lim [m]:=Lim.mk (by omega) (by omega) Lim.nil
      have ht:=times_tells hb.1 hl1 (by omega) (by simp)
      rw[nv_single] at ht;have hlen:(dg (nv b * m)).length≤1000:=by
        refine Nat.le_trans (dg_len _ (b.length+1) ?_) (by omega)
        have h5:=nv_lt hb.1;have h6:=nv_nonneg hb.1;rw[LB_succ];have h7:nv b * m≤nv b * 1000000000:=Int.mul_le_mul_of_nonneg_left (by omega) h6
        omega
      have hc:=r2compare_tells (can_dg (nv b * m)) hr (by omega) (by omega)
      have hnb:=nv_nonneg hb.1;rw[nv_dg (Int.mul_nonneg hnb (by omega))] at hc
      refine Tells.up (ht.bind (g:=fun k t490=>(Czq.f k t490 r).bind fun t493=>(if t493≤0 then(Czz.l0 k r b m hi) else(Czz.l0 k r b lo (m - 1)))) (hc.bind ?_)) (fun k=>?_)
      · by_cases hcmp:cmpI (nv b * m) (nv r)≤0
        · simp only[if_pos hcmp]
          have:=cmpI_le.1 hcmp;exact ih m hi (by omega) (by omega) b2 h2 (by rw[Int.mul_comm];exact this) h4
        · simp only[if_neg hcmp]
          have h9:¬ nv b * m≤nv r:=fun h=>hcmp (cmpI_le.2 h)
          refine ih lo (m - 1) (by omega) h0 (by omega) (by omega) h3 ?_
          rw[show m - 1+1=m by omega,Int.mul_comm]
          omega
      · simp only[Czz.l0]
        rw[if_pos h,e1,e2,hm,e3,e4]
    · exact ih lo hi (by omega) h0 h1 h2 h3 h4
theorem r2digit_tells {r b:List Int} (hr:Can r) (hb:Can b) (hrl:r.length≤100) (hbl:b.length≤100) (h:nv r < 1000000000 * nv b):Tells (fun k=>Czz.f k r b) (nv r / nv b):=by
  unfold Czz.f;have h0:=nv_nonneg hr.1;exact r2digit_loop hr hb hrl hbl 999999999 0 999999999 (by omega) (by omega) (by omega) (by omega) (by rw[Int.zero_mul];exact h0) (by rw[show(999999999:Int)+1=1000000000 by omega];exact h)
theorem sub_limb {x y w:Int} (hx:0≤x) (hx1:x < 1000000000) (hy:0≤y) (hy1:y < 1000000000) (hw:0≤w) (hw1:w≤1):wrap64 (wrap64 (x - y) - w)=x - y - w∧wrap64 (x - y - w+1000000000)=x - y - w+1000000000:=by
  rw[wrap64_id (n:=x - y) (by omega) (by omega)]
  exact⟨wrap64_id (by omega) (by omega),wrap64_id (by omega) (by omega)⟩
theorem minus_loop (a b:List Int) (ha:Lim a) (hb:Lim b) (hn:a.length≤1000) (hle:b.length≤a.length) (D:Int) (hD:0≤D) (hD1:D < LB 48) (d:Nat):∀ (i:Nat) (x:List Int) (w:Int),i+d=a.length→x.length=i→Lim x→0≤w→w≤1→D=nv x+LB i * (nv (a.drop i) - nv (b.drop i) - w)→Tells (fun k=>Bzm.l0 k a b x w (i:Int)) (dg D):=by
  induction d with
  | zero =>
    intro i x w hi hx hl hw hw1 hv;rw[nv_drop_all (by omega),nv_drop_all (l:=b) (by omega)] at hv
    have h1:=nv_lt hl;rw[hx] at h1;have h2:=nv_nonneg hl;have h3:=LB_pos i;have hw0:w=0:=by
      rcases Int.lt_or_le 0 w with h|h
      · obtain rfl:w=1:=by omega
        omega
      · omega
    subst hw0;have e:D=nv x:=by rw[hv];omega
    have hf:=fit_tells hl (by omega)
    rw[← e] at hf;unfold fitv at hf;rw[if_pos hD1] at hf;refine Tells.up (hf.bind (g:=fun k bt502=>(some bt502.1)) (Tells.const _)) (fun k=>?_)
    simp only[Bzm.l0];rw[if_neg (by omega)]
  | succ d ih =>
    intro i x w hi hx hl hw hw1;have c1:(i:Int) < (a.length:Int):=by omega
    have c2:(0:Int)≤(i:Int):=by omega
    have c3:x.length < 17592186044416:=by omega
    have c4:i < a.length:=by omega
    have ei:wrap64 ((i:Int)+1)=((i+1:Nat):Int):=by rw[wrap64_id (by omega) (by omega)];omega
    have i1:(i+1)+d=a.length:=by omega
    intro hv;have ra:=ha.rd c2 c1;have rb:=lim_rd_any hb i;obtain⟨e1,e2⟩:=sub_limb ra.1 ra.2 rb.1 rb.2 hw hw1;rw[nv_drop c4,nv_drop_any b i] at hv;by_cases hs:rd a (i:Int) - rd b (i:Int) - w < 0
    · refine Tells.up (ih (i+1) (x ++ [rd a (i:Int) - rd b (i:Int) - w+1000000000]) 1 i1 (by simp [hx]) (hl.append (Lim.mk (by omega) (by omega) Lim.nil)) (by omega) (by omega) ?_) (fun k=>?_)
      · rw[nv_snoc,hx,LB_succ,hv];grind
      · simp only[Bzm.l0]
        rw[if_pos c1,if_pos c2,at_eq,Option.bind_some,e1,if_pos hs,if_pos c3,e2,ei]
    · refine Tells.up (ih (i+1) (x ++ [rd a (i:Int) - rd b (i:Int) - w]) 0 i1 (by simp [hx]) (hl.append (Lim.mk (by omega) (by omega) Lim.nil)) (by omega) (by omega) ?_) (fun k=>?_)
      · rw[nv_snoc,hx,LB_succ,hv];grind
      · simp only[Bzm.l0]
        rw[if_pos c1,if_pos c2,at_eq,Option.bind_some,e1,if_neg hs,if_pos c3,ei]
theorem minus_tells {a b:List Int} (ha:Can a) (hb:Can b) (hn:a.length≤1000) (hle:nv b≤nv a) (hD1:nv a - nv b < LB 48):Tells (fun k=>Bzm.f k a b) (dg (nv a - nv b)):=by
  unfold Bzm.f;have hl:b.length≤a.length:=by
    rcases Nat.lt_or_ge a.length b.length with h|h
    · have:=len_lt_val ha hb h;omega
    · exact h
  refine minus_loop a b ha.1 hb.1 hn hl _ (by omega) hD1 a.length 0 [] 0 (by omega) rfl Lim.nil (by omega) (by omega) ?_
  rw[LB_zero,List.drop_zero,List.drop_zero];simp [nv]
theorem r2div_end {A B Q r:Int} (e:A=Q * B+r) (h0:0≤r) (h1:r < B):A / B=Q∧A % B=r:=by
  have hB:0 < B:=by omega
  have h2:=Int.add_mul_ediv_left r Q (show B≠0 by omega)
  have h3:=Int.ediv_eq_zero_of_lt h0 h1;have e1:A=r+B * Q:=by rw[e,Int.mul_comm];omega
  refine⟨by rw[e1,h2,h3];omega,?_⟩
  rw[e1,Int.add_mul_emod_self_left];exact Int.emod_eq_of_lt h0 h1
theorem divmod_loop (a b:List Int) (ha:Lim a) (hb:Can b) (hal:a.length≤48) (hbl:b.length≤48) (hb0:0 < nv b) (d:Nat):∀ (q r:List Int),d≤a.length→q.length=a.length→Lim q→Can r→nv r < nv b→(∀ j:Nat,j < d→rd q (j:Int)=0)→nv a=nv q * nv b+LB d * nv r+pv a d→Tells (fun k=>Azx.l0 k a b q r ((d:Int) - 1)) (dg (nv a / nv b),dg (nv a % nv b),0):=by
  induction d with
  | zero =>
    intro q r hd hq hql hr hrb hz hv;rw[pv_zero,LB_zero,Int.one_mul,Int.add_zero] at hv;obtain⟨e1,e2⟩:=r2div_end hv (nv_nonneg hr.1) hrb;have hf:=fit_tells hql (by omega)
    have hq48:nv q < LB 48:=Int.lt_of_lt_of_le (nv_lt hql) (LB_le (by omega))
    unfold fitv at hf;rw[if_pos hq48] at hf;rw[e1,e2,dg_nv hr];refine Tells.up (hf.bind (g:=fun k bt511=>(some (bt511.1,r,0))) (Tells.const _)) (fun k=>?_)
    simp only[Azx.l0];rw[if_neg (by omega)]
  | succ d ih =>
    intro q r hd hq hql hr hrb hz;have c1:((d+1:Nat):Int) - 1=(d:Int):=by omega
    have c2:(0:Int)≤(d:Int):=by omega
    have c3:(d:Int) < (a.length:Int):=by omega
    have c4:(d:Int) < (q.length:Int):=by omega
    have c5:wrap64 ((d:Int) - 1)=(d:Int) - 1:=wrap64_id (by omega) (by omega)
    have c6:d < a.length:=by omega
    have c7:d < q.length:=by omega
    have c8:d≤a.length:=by omega
    have hrl:r.length≤48:=Nat.le_trans (len_le hr (n:=b.length) (Int.lt_trans hrb (nv_lt hb.1))) hbl;have c9:wrap64 (((rd a (d:Int) :: r).length:Int) - 1)=(r.length:Int):=by rw[List.length_cons,wrap64_id (by omega) (by omega)];omega
    have c10:(0:Int)≤(r.length:Int)∧(r.length:Int) < ((rd a (d:Int) :: r).length:Int):=by rw[List.length_cons];omega
    have c11:1+r.length < 17592186044416:=by omega
    have hq0:=hz d (by omega)
    have zlt:∀ j:Nat,j < d→j < q.length∧¬ d=j∧j < d+1:=fun j hj=>by omega
    intro hv;have hra:=ha.rd c2 c3;have hr0:=nv_nonneg hr.1;obtain⟨s,hs⟩:∃ s:List Int,s=if rd (rd a (d:Int) :: r) (r.length:Int)=0 then [] else rd a (d:Int) :: r:=⟨_,rfl⟩
    have hnv:nv (rd a (d:Int) :: r)=rd a (d:Int)+1000000000 * nv r:=rfl;have hsc:Can s∧nv s=rd a (d:Int)+1000000000 * nv r∧s.length≤49:=by
      by_cases hz0:rd (rd a (d:Int) :: r) (r.length:Int)=0
      · rw[if_pos hz0] at hs
        subst hs;have hre:r=[]:=by
          rcases hr.2 with h|h
          · exact h
          · exfalso
            rcases Nat.eq_zero_or_pos r.length with h0|h0
            · have:=List.eq_nil_of_length_eq_zero h0
              subst this;exact h rfl
            · apply h
              have:=rd_cons_succ (rd a (d:Int)) r ((r.length:Int) - 1) (by omega)
              rw[show(r.length:Int) - 1+1=(r.length:Int) by omega] at this
              rw[← this];exact hz0
        subst hre;have:rd a (d:Int)=0:=hz0;refine⟨Can.nil,?_,by simp⟩
        rw[this];rfl
      · rw[if_neg hz0] at hs
        subst hs;refine⟨⟨Lim.mk hra.1 hra.2 hr.1,.inr ?_⟩,rfl,by rw[List.length_cons];omega⟩
        rw[List.length_cons,show((r.length+1:Nat):Int) - 1=(r.length:Int) by omega]
        exact hz0
    obtain⟨hsC,hsv,hsl⟩:=hsc;have hsb:nv s < 1000000000 * nv b:=by omega
    have hdig:=r2digit_tells hsC hb (by omega) (by omega) hsb
    obtain⟨x,hx⟩:∃ x,nv s / nv b=x:=⟨_,rfl⟩;rw[hx] at hdig;have x0:0≤x:=by rw[← hx];exact Int.ediv_nonneg (by omega) (by omega)
    have x1:x < 1000000000:=by rw[← hx];exact Int.ediv_lt_of_lt_mul hb0 hsb
    have hm0:=Int.emod_nonneg (nv s) (show nv b≠0 by omega)
    have hm1:=Int.emod_lt_of_pos (nv s) hb0;have hme:=Int.emod_add_mul_ediv (nv s) (nv b);rw[hx] at hme;obtain⟨y,hy⟩:∃ y,nv s % nv b=y:=⟨_,rfl⟩;rw[hy] at hm0 hm1 hme;have key:Tells (fun k=>Azx.l0 k a b (q.set d x) (dg y) ((d:Int) - 1)) (dg (nv a / nv b),dg (nv a % nv b),0):=by
      refine ih (q.set d x) (dg y) c8 (by simpa using hq) (hql.set _ x0 x1) (can_dg y) (by rw[nv_dg hm0];exact hm1) (fun j hj=>?_) ?_
      · rw[rd_set q d j x (zlt j hj).1,if_neg (zlt j hj).2.1];exact hz j (zlt j hj).2.2
      · rw[nv_set q d x c7,hq0,Int.sub_zero,nv_dg hm0,hv,pv_succ c6,LB_succ]
        grind
    have hb48:nv b < LB 48:=Int.lt_of_lt_of_le (nv_lt hb.1) (LB_le hbl);have j2:Tells (fun k=>Azx.j2 k a b q s (d:Int)) (dg (nv a / nv b),dg (nv a % nv b),0):=by
      refine Tells.up (g:=fun k=>(Czz.f k s b).bind fun t523=>(if t523 > 0 then((Azp.f k b (([t523]:List Int))).bind fun t528=>((Bzm.f k s t528).bind fun t531=>(Azx.l0 k a b (q.set d t523) t531 ((d:Int) - 1)))) else(Azx.l0 k a b (q.set d t523) s ((d:Int) - 1)))) (hdig.bind ?_) (fun k=>?_)
      · by_cases hx0:x > 0
        · simp only[if_pos hx0]
          have ht:=times_tells hb.1 (b:=[x]) (Lim.mk x0 x1 Lim.nil) (by omega) (by simp)
          rw[nv_single] at ht;refine ht.bind ?_;have hbx:=Int.mul_nonneg (Int.le_of_lt hb0) x0;have hmi:=minus_tells hsC (can_dg (nv b * x)) (by omega) (by rw[nv_dg hbx];omega) (by rw[nv_dg hbx];omega)
          rw[nv_dg hbx,show nv s - nv b * x=y by omega] at hmi
          exact hmi.bind key
        · simp only[if_neg hx0]
          obtain rfl:x=0:=by omega
          have e:dg y=s:=by
            rw[Int.mul_zero,Int.add_zero] at hme;rw[hme];exact dg_nv hsC
          rw[e] at key;exact key
      · simp only[Azx.j2]
        simp only[if_pos c2,if_pos c4,Option.bind_some,Int.toNat_natCast,c5]
    refine Tells.up j2 (fun k=>?_)
    rw[c1];simp only[Azx.l0];rw[if_pos c2,if_pos c2,if_pos c3];simp only[Option.bind_some];rw[if_pos (show([rd a (d:Int)]:List Int).length+r.length < 17592186044416 from c11)]
    rw[show([rd a (d:Int)]:List Int) ++ r=rd a (d:Int) :: r from rfl,c9,if_pos c10.1,if_pos c10.2]
    by_cases hz0:rd (rd a (d:Int) :: r) (r.length:Int)=0
    · rw[if_pos hz0] at hs
      rw[if_pos hz0,hs]
    · rw[if_neg hz0] at hs
      rw[if_neg hz0,hs]
theorem R2DivMod_tells {a b:List Int} (ha:natOk a=true) (hb:natOk b=true) (h0:0 < b.length):Tells (fun k=>Azx.f k a b) (dg (nv a / nv b),dg (nv a % nv b),0):=by
  unfold Azx.f;obtain⟨ca,la⟩:=natOk_iff.1 ha;obtain⟨cb,lb⟩:=natOk_iff.1 hb;refine(R2Valid_tells a).bind ?_;refine Tells.pos ha ((R2Valid_tells b).bind ?_);rw[hb];have hw:wrap64 ((a.length:Int) - 1)=(a.length:Int) - 1:=wrap64_id (by omega) (by omega)
  refine Tells.up (divmod_loop a b ca.1 cb la lb (nv_pos cb h0) a.length (List.replicate a.length 0) [] (Nat.le_refl _) (by simp) (Lim.zeros _) Can.nil (nv_pos cb h0) (fun j hj=>rd_replicate _ j 0 hj) ?_) (fun k=>?_)
  · rw[nv_zeros,pv_all (Nat.le_refl _)]
    show nv a=0 * nv b+LB a.length * 0+nv a
    rw[Int.zero_mul,Int.mul_zero];omega
  · simp only[Azx.j0]
    rw[if_neg (by decide),if_neg (by omega),if_pos (by omega),Int.toNat_natCast,if_pos (by omega),hw]
theorem r2gcd_loop (n:Nat):∀ (a b:List Int),(nv b).toNat≤n→natOk a=true→natOk b=true→Tells (fun k=>Bzj.l0 k a b) (dg (gI (nv a) (nv b)),0):=by
  induction n with
  | zero =>
    intro a b h ha hb;obtain⟨ca,la⟩:=natOk_iff.1 ha;obtain⟨cb,lb⟩:=natOk_iff.1 hb;have hb0:=nv_nonneg cb.1;have e:nv b=0:=by omega
    have el:=(len_zero_iff cb).2 e;rw[e,gI_zero (nv_nonneg ca.1),dg_nv ca];exact Tells.up (Tells.const _) (fun k=>by simp only[Bzj.l0];rw[if_neg (by omega)])
  | succ n ih =>
    intro a b h ha hb;obtain⟨ca,la⟩:=natOk_iff.1 ha;obtain⟨cb,lb⟩:=natOk_iff.1 hb;rcases Nat.eq_zero_or_pos b.length with el|el
    · have e:=(len_zero_iff cb).1 el
      rw[e,gI_zero (nv_nonneg ca.1),dg_nv ca];exact Tells.up (Tells.const _) (fun k=>by simp only[Bzj.l0];rw[if_neg (by omega)])
    · have hb0:=nv_pos cb el
      have hm0:=Int.emod_nonneg (nv a) (show nv b≠0 by omega)
      have hm1:=Int.emod_lt_of_pos (nv a) hb0;have hb48:nv b < LB 48:=Int.lt_of_lt_of_le (nv_lt cb.1) (LB_le lb);have k:=ih b (dg (nv a % nv b)) (by rw[nv_dg hm0];omega) hb (natOk_dg (by omega))
      rw[nv_dg hm0,← gI_step (nv_nonneg ca.1) hb0] at k;refine Tells.up ((R2DivMod_tells ha hb el).bind (g:=fun k bt542=>Bzj.l0 k b bt542.2.1) k) (fun k=>?_)
      simp only[Bzj.l0];rw[if_pos (by omega)]
      simp only[Option.bind_some,List.nil_append,List.length_nil,if_pos (show 0+b.length < 17592186044416 by omega)]
theorem R2Gcd_tells {a b:List Int} (ha:natOk a=true) (hb:natOk b=true):Tells (fun k=>Bzj.f k a b) (dg (gI (nv a) (nv b)),0):=by
  unfold Bzj.f;obtain⟨ca,la⟩:=natOk_iff.1 ha;refine(R2Valid_tells a).bind ?_;refine Tells.pos ha ((R2Valid_tells b).bind ?_);rw[hb];refine Tells.up (r2gcd_loop (nv b).toNat a b (Nat.le_refl _) ha hb) (fun k=>?_)
  simp only[Bzj.j0];rw[if_neg (by decide),Option.bind_some,if_pos (by rw[List.length_nil];omega),List.nil_append]

theorem Reduce_tells {n:Bool} {p q:List Int} (hp:natOk p=true) (hq:natOk q=true) (h0:0 < q.length):Tells (fun k=>Dzp.f k n p q) ((redR n (nv p) (nv q)).1,(redR n (nv p) (nv q)).2.1,(redR n (nv p) (nv q)).2.2.1):=by
  unfold Dzp.f redR;obtain⟨cp,lp⟩:=natOk_iff.1 hp;obtain⟨cq,lq⟩:=natOk_iff.1 hq;have hq0:=nv_pos cq h0;have hp0:=nv_nonneg cp.1;have hg0:=gI_pos (P:=nv p) hq0;have hgl:=gI_le_right (P:=nv p) hq0;have hgo:natOk (dg (gI (nv p) (nv q)))=true:=natOk_dg (Int.lt_of_le_of_lt hgl (Int.lt_of_lt_of_le (nv_lt cq.1) (LB_le lq)));have hgn:nv (dg (gI (nv p) (nv q)))=gI (nv p) (nv q):=nv_dg (Int.le_of_lt hg0);have hgz:0 < (dg (gI (nv p) (nv q))).length:=by
    rcases Nat.eq_zero_or_pos (dg (gI (nv p) (nv q))).length with h|h
    · have:=(len_zero_iff (can_dg _)).1 h
      rw[hgn] at this;omega
    · exact h
  obtain⟨a,b,g,g0,ge,ea,eb,e1,e2,a0,b0⟩:=red_parts hp0 hq0;rw[← ge] at hgo hgn hgz hg0 hgl ⊢;refine(R2Gcd_tells hp hq).bind ?_;rw[← ge];have dp:=R2DivMod_tells hp hgo hgz;have dq:=R2DivMod_tells hq hgo hgz;rw[hgn] at dp dq;refine dp.bind (dq.bind ?_);cases n with
  | true =>
    refine Tells.pos rfl ?_;have hl:(0 < (dg (nv p / g)).length) ↔ nv p≠0:=by
      have h1:=len_zero_iff (can_dg (nv p / g));rw[nv_dg (by rw[ea];exact a0),ea] at h1
      constructor
      · intro h e
        have:a=0:=by
          rw[e1] at e;rcases Int.mul_eq_zero.1 e with h|h
          · omega
          · exact h
        rw[ea] at h;omega
      · intro h
        rcases Nat.eq_zero_or_pos (dg (nv p / g)).length with h2|h2
        · exfalso
          rw[ea] at h2;have:=h1.1 h2;rw[this,Int.mul_zero] at e1;exact h e1
        · exact h2
    by_cases h:nv p≠0
    · rw[decide_eq_true h]
      exact(Tells.const _).congr (fun k=>by rw[decide_eq_true (hl.2 h)];rfl)
    · rw[decide_eq_false h]
      exact(Tells.const _).congr (fun k=>by rw[decide_eq_false (fun h'=>h (hl.1 h'))];rfl)
  | false=>exact Tells.neg (by decide) (Tells.const _)
theorem mx_abs {n:Int} (h:inR n=true):mx n (wrap64 (-n))=absI n:=by
  have hr:=inR_iff.1 h;rw[wrap64_id (by omega) (by omega)]
  unfold mx absI;by_cases h1:n < 0
  · rw[if_pos (by omega),if_pos h1]
  · rw[if_neg (by omega),if_neg h1]
theorem R3Make_tells (p q:Int):Tells (fun k=>Bzy.f k p q) (makeR p q):=by
  have bad:Tells (fun k=>Bzy.j0 k p q true) (false,[],[],1):=Tells.up (Tells.const _) (fun k=>by rw[Bzy.j0,if_pos rfl])
  unfold Bzy.f makeR;by_cases h1:p < -1125899906842624
  · rw[show inR p=false by unfold inR;rw[decide_eq_false (by omega)];rfl];exact Tells.pos h1 bad
  refine Tells.neg h1 ?_;by_cases h2:p > 1125899906842624
  · rw[show inR p=false by unfold inR;rw[decide_eq_false (by omega:¬ p≤1125899906842624),Bool.and_false]];exact Tells.pos h2 bad
  refine Tells.neg h2 ?_;have hp:inR p=true:=inR_iff.2 ⟨by omega,by omega⟩
  rw[hp,Bool.true_and];by_cases h3:q < -1125899906842624
  · rw[show inR q=false by unfold inR;rw[decide_eq_false (by omega)];rfl];exact Tells.pos h3 bad
  refine Tells.neg h3 ?_;by_cases h4:q > 1125899906842624
  · rw[show inR q=false by unfold inR;rw[decide_eq_false (by omega:¬ q≤1125899906842624),Bool.and_false],decide_eq_true h4];exact bad
  rw[decide_eq_false h4];have hq:inR q=true:=inR_iff.2 ⟨by omega,by omega⟩
  rw[hq,if_pos rfl];by_cases h5:q=0
  · rw[if_pos h5]
    exact Tells.up (Tells.const _) (fun k=>by rw[Bzy.j0,if_neg (by decide),if_pos h5])
  rw[if_neg h5];have h48:=LB48;have ap:=absI_le hp;have aq:=absI_le hq;have ap0:=absI_nonneg p;have aq0:0 < absI q:=by unfold absI;split <;> omega
  have hl:0 < (dg (absI q)).length:=by
    rcases Nat.eq_zero_or_pos (dg (absI q)).length with h|h
    · have:=(len_zero_iff (can_dg _)).1 h
      rw[nv_dg (by omega)] at this
      omega
    · exact h
  have hr:=Reduce_tells (n:=(decide (p < 0)) != (decide (q < 0))) (natOk_dg (n:=absI p) (by omega)) (natOk_dg (n:=absI q) (by omega)) hl
  rw[nv_dg ap0,nv_dg (Int.le_of_lt aq0)] at hr;refine Tells.up (g:=fun k=>(Czp.f k (absI p)).bind fun bt575=>((Czp.f k (absI q)).bind fun bt579=>((Dzp.f k ((decide (p < 0)) != (decide (q < 0))) bt575.1 bt579.1).bind fun bt583=>(some (bt583.1,bt583.2.1,bt583.2.2,0))))) ?_ (fun k=>by rw[Bzy.j0,if_neg (by decide),if_neg h5,mx_abs hp,mx_abs hq])
  exact(R2Of_tells ap0 (by omega)).bind ((R2Of_tells (by omega) (by omega)).bind (hr.bind (Tells.const _)))

theorem R2Mul_tells {a b:List Int} (ha:natOk a=true) (hb:natOk b=true):Tells (fun k=>Czy.f k a b) (fitv (nv a * nv b)):=by
  unfold Czy.f;obtain⟨ca,la⟩:=natOk_iff.1 ha;obtain⟨cb,lb⟩:=natOk_iff.1 hb;refine(R2Valid_tells a).bind ?_;refine Tells.pos ha ((R2Valid_tells b).bind ?_);rw[hb];have hlt:=nv_lt ca.1;have hlt2:=nv_lt cb.1;have h0:=nv_nonneg ca.1;have h1:=nv_nonneg cb.1;have hl:(dg (nv a * nv b)).length≤1000:=by
    refine Nat.le_trans (dg_len _ (a.length+b.length) ?_) (by omega)
    rw[LB_add];rcases Int.lt_or_eq_of_le h1 with h|h
    · exact Int.lt_of_lt_of_le (Int.mul_lt_mul_of_pos_right hlt h) (Int.mul_le_mul_of_nonneg_left (Int.le_of_lt hlt2) (Int.le_of_lt (LB_pos _)))
    · rw[← h,Int.mul_zero];exact Int.mul_pos (LB_pos _) (LB_pos _)
  have hf:=fit_tells (can_dg (nv a * nv b)).1 (by omega)
  rw[nv_dg (Int.mul_nonneg h0 h1)] at hf;refine Tells.up (g:=fun k=>(Azp.f k a b).bind fun t652=>((Bzb.f k t652).bind fun bt655=>(some (bt655.1,bt655.2)))) ?_ (fun k=>by simp only[Czy.j0];rw[if_neg (by decide)])
  exact(times_tells ca.1 cb.1 (by omega) (by omega)).bind (hf.bind (Tells.const _))
theorem limbs_one (g:List Int):Tells (fun k=>Czb.f k g [1]) (decide (g.length=1∧rd g 0=1)):=by
  unfold Czb.f;by_cases h:g.length=1
  · refine Tells.pos (by rw[h];rfl) ?_
    by_cases h1:rd g 0=1
    · rw[decide_eq_true ⟨h,h1⟩]
      refine Tells.up (g:=fun k=>Czb.l0 k g [1] 1) (Tells.up (Tells.const true) (fun k=>by rw[Czb.l0,if_neg (by omega)])) (fun k=>?_)
      rw[Czb.l0,if_pos (by omega),if_pos (by omega),if_pos (by simp),if_pos (by rw[h1];rfl),wrap64_id (by omega) (by omega)]
      rfl
    · rw[decide_eq_false (fun h'=>h1 h'.2)]
      refine Tells.up (Tells.const false) (fun k=>?_)
      rw[Czb.l0,if_pos (by omega),if_pos (by omega),if_pos (by simp),if_neg (fun e=>h1 (by rw[e];rfl))]
  · rw[decide_eq_false (fun h'=>h h'.1)]
    exact Tells.neg (fun e=>h (by have:(g.length:Int)=1:=e;omega)) (Tells.const _)
theorem R3Valid_tells (n:Bool) (p q:List Int):Tells (fun k=>Bzk.f k n p q) (ratOk n p q):=by
  have bad:Tells (fun k=>Bzk.j0 k true n p q) false:=Tells.up (Tells.const _) (fun k=>by rw[Bzk.j0,if_pos rfl])
  unfold Bzk.f ratOk;refine(R2Valid_tells p).bind ?_;by_cases hp:natOk p=true
  · rw[hp,Bool.true_and]
    refine Tells.pos rfl ((R2Valid_tells q).bind ?_);by_cases hq:natOk q=true
    · rw[hq,Bool.true_and]
      refine Tells.pos rfl ?_;by_cases hl:q.length=0
      · rw[decide_eq_false (by omega:¬ q.length≠0)]
        exact Tells.pos (by omega) bad
      · rw[decide_eq_true (show q.length≠0 from hl),Bool.true_and]
        refine Tells.neg (by omega) ?_
        have hg:Tells (fun k=>Bzk.j0 k false n p q) (decide (gI (nv p) (nv q)=1)):=by
          have h1:=one_iff (gI_nonneg (nv p) (nv q));have hlim:=limbs_one (dg (gI (nv p) (nv q)));rw[show decide ((dg (gI (nv p) (nv q))).length=1∧rd (dg (gI (nv p) (nv q))) 0=1)=decide (gI (nv p) (nv q)=1) from decide_eq_decide.2 h1] at hlim
          refine Tells.up (g:=fun k=>(Bzj.f k p q).bind fun bt642=>(if bt642.2=0 then((Czb.f k bt642.1 (([1]:List Int))).bind fun t649=>(some t649)) else(some false))) ?_ (fun k=>by rw[Bzk.j0,if_neg (by decide)])
          refine(R2Gcd_tells hp hq).bind ?_;exact Tells.pos rfl (hlim.bind (Tells.const _))
        by_cases h0:p.length=0
        · rw[decide_eq_true h0,Bool.and_true]
          refine Tells.pos (by omega) ?_
          cases n with
          | true=>exact bad
          | false=>exact hg
        · rw[decide_eq_false h0,Bool.and_false]
          exact Tells.neg (by omega) hg
    · rw[show natOk q=false by simpa using hq,Bool.false_and]
      exact Tells.neg (by decide) bad
  · rw[show natOk p=false by simpa using hp]
    exact Tells.neg (by decide) bad
theorem R3Mul_tells (n1:Bool) (p1 q1:List Int) (n2:Bool) (p2 q2:List Int):Tells (fun k=>Dzz.f k n1 p1 q1 n2 p2 q2) (mulR n1 p1 q1 n2 p2 q2):=by
  have bad:Tells (fun k=>Dzz.j0 k true n1 p1 q1 n2 p2 q2) (false,[],[],3):=Tells.up (Tells.const _) (fun k=>by rw[Dzz.j0,if_pos rfl])
  unfold Dzz.f mulR;refine(R3Valid_tells n1 p1 q1).bind ?_;by_cases h1:ratOk n1 p1 q1=true
  · refine Tells.pos h1 ((R3Valid_tells n2 p2 q2).bind ?_)
    by_cases h2:ratOk n2 p2 q2=true
    · rw[h1,h2,if_pos (show(true && true)=true from rfl)]
      obtain⟨a1,a2,a3,a4,a5,a6,a7,a8,a9⟩:=ratOk_parts h1;obtain⟨b1,b2,b3,b4,b5,b6,b7,b8,b9⟩:=ratOk_parts h2;refine Tells.up (g:=fun k=>(Czy.f k p1 p2).bind fun bt664=>((Czy.f k q1 q2).bind fun bt668=>(if bt664.2=0 then(if bt668.2=0 then((Dzp.f k (n1 != n2) bt664.1 bt668.1).bind fun bt672=>(some (bt672.1,bt672.2.1,bt672.2.2,0))) else(some (false,([]:List Int),([]:List Int),2))) else(some (false,([]:List Int),([]:List Int),2))))) ?_ (fun k=>by rw[Dzz.j0,if_neg (by decide)])
      refine(R2Mul_tells a1 b1).bind ((R2Mul_tells a2 b2).bind ?_);unfold fitv;by_cases c1:nv p1 * nv p2 < LB 48
      · by_cases c2:nv q1 * nv q2 < LB 48
        · rw[if_pos c1,if_pos c2,if_pos ⟨c1,c2⟩]
          refine Tells.pos rfl (Tells.pos rfl ?_);have e1:0≤nv p1 * nv p2:=Int.mul_nonneg a8 b8;have e2:0 < nv q1 * nv q2:=Int.mul_pos a9 b9;obtain⟨f1,f2,f3⟩:=natOk_pos e2 c2;have hr:=Reduce_tells (n:=n1 != n2) (natOk_dg c1) f1 f3;rw[nv_dg e1,f2] at hr;exact hr.bind (Tells.const _)
        · rw[if_pos c1,if_neg c2,if_neg (show ¬ (nv p1 * nv p2 < LB 48∧nv q1 * nv q2 < LB 48) from fun hh=>c2 hh.2)]
          exact Tells.pos rfl (Tells.neg (show ¬ ((2:Int)=0) by decide) (Tells.const _))
      · rw[if_neg c1,if_neg (show ¬ (nv p1 * nv p2 < LB 48∧nv q1 * nv q2 < LB 48) from fun hh=>c1 hh.1)]
        exact Tells.neg (show ¬ ((2:Int)=0) by decide) (Tells.const _)
    · rw[show ratOk n2 p2 q2=false by simpa using h2,Bool.and_false,if_neg (by decide)]
      exact bad
  · rw[show ratOk n1 p1 q1=false by simpa using h1,Bool.false_and,if_neg (by decide)]
    exact Tells.neg (by decide) bad
theorem R3Of_tells (p:Int):Tells (fun k=>Fzx.f k p) (makeR p 1):=by
  unfold Fzx.f;exact(R3Make_tells p 1).bind (Tells.const _)

theorem rates_prod {u m P1 Q1 P2 Q2:Int} (hm:0 < m) (h1:P1 * m=u * 1000000 * Q1) (h2:P2 * 1000000=m * Q2):P1 * P2=u * (Q1 * Q2):=by
  have e:(P1 * P2) * (m * 1000000)=(u * (Q1 * Q2)) * (m * 1000000):=by
    have e1:(P1 * P2) * (m * 1000000)=(P1 * m) * (P2 * 1000000):=by grind
    rw[e1,h1,h2];grind
  exact Int.eq_of_mul_eq_mul_right (by omega) e
theorem gI_mul_self {u D:Int} (hu:0≤u) (hD:0 < D):gI (u * D) D=D:=by
  unfold gI;obtain⟨a,rfl⟩:=Int.eq_ofNat_of_zero_le hu;obtain⟨d,rfl⟩:=Int.eq_ofNat_of_zero_le (Int.le_of_lt hD);rw[← Int.natCast_mul,Int.toNat_natCast,Int.toNat_natCast,Nat.gcd_mul_left_left]

theorem ints08 (l:List Int) (hl:l.length≤1000):Tells (fun k=>Czw.f k l l) true:=by
  have lp:∀ n i k,n < k→i+n=l.length→Czw.l0 k l l (i:Int)=some true:=by
    intro n;induction n with
    | zero =>
      intro i k hk hi;obtain⟨m,rfl⟩:∃ m,k=m+1:=⟨k - 1,by omega⟩
      unfold Czw.l0;rw[if_neg (by omega)]
    | succ n ih =>
      intro i k hk hi;obtain⟨m,rfl⟩:∃ m,k=m+1:=⟨k - 1,by omega⟩
      unfold Czw.l0;rw[if_pos (by omega),if_pos (by omega),if_pos (by omega),if_pos rfl,wrap64_id (by omega) (by omega)]
      exact ih (i+1) m (by omega) (by omega)
  refine⟨l.length+1,fun k hk=>?_⟩
  show Czw.f k l l=some true
  unfold Czw.f;rw[if_pos rfl];exact lp l.length 0 k (by omega) (by omega)

theorem awake_tells:Tells (fun k=>Ezy.f k) true:=Tells.of (fun k=>Ezy.mono k) ⟨300,by decide +kernel⟩
/-- What PerTonne tells: both programs. -/

def perT (u m:Int):Bool × List Int × List Int × Int:=if 0≤u∧u≤1125899906842624∧0≤m∧m≤1099511627776 then(if m=0 then(false,[],[],16) else mulR (makeR u m).1 (makeR u m).2.1 (makeR u m).2.2.1 (makeR 1000000 1).1 (makeR 1000000 1).2.1 (makeR 1000000 1).2.2.1) else(false,[],[],1)
theorem makeR_ok {p q:Int} (hp:0≤p) (hp1:p≤1125899906842624) (hq:0 < q) (hq1:q≤1125899906842624):makeR p q=redR false p q∧(makeR p q).2.2.2=0:=by
  rw[makeR_nonneg hp hp1 hq hq1];exact⟨rfl,rfl⟩
theorem perT_tells (u m:Int):Tells (fun k=>Czm.f k u m) (perT u m):=by
  have bad:Tells (fun k=>Czm.j0 k u m true) (false,[],[],1):=Tells.up (Tells.const _) (fun k=>by rw[Czm.j0,if_pos rfl])
  unfold Czm.f perT;by_cases h1:u < 0
  · rw[if_neg (by omega)];exact Tells.pos h1 bad
  refine Tells.neg h1 ?_;by_cases h2:u > 1125899906842624
  · rw[if_neg (by omega)];exact Tells.pos h2 bad
  refine Tells.neg h2 ?_;by_cases h3:m < 0
  · rw[if_neg (by omega)];exact Tells.pos h3 bad
  refine Tells.neg h3 ?_;by_cases h4:m > 1099511627776
  · rw[if_neg (by omega),decide_eq_true h4];exact bad
  rw[decide_eq_false h4,if_pos ⟨by omega,by omega,by omega,by omega⟩]
  by_cases h5:m=0
  · rw[if_pos h5]
    exact Tells.up (Tells.const _) (fun k=>by rw[Czm.j0,if_neg (by decide),if_pos h5])
  rw[if_neg h5];obtain⟨_,e1⟩:=makeR_ok (p:=u) (q:=m) (by omega) (by omega) (by omega) (by omega)
  obtain⟨_,e2⟩:=makeR_ok (p:=1000000) (q:=1) (by omega) (by omega) (by omega) (by omega)
  refine Tells.up (g:=fun k=>(Ezm.f k u m).bind fun bt409=>(if bt409.2.2.2=0 then((Gzb.f k 1000000).bind fun bt418=>(if bt418.2.2.2=0 then((Fzm.f k bt409.1 bt409.2.1 bt409.2.2.1 bt418.1 bt418.2.1 bt418.2.2.1).bind fun bt427=>(some (bt427.1,bt427.2.1,bt427.2.2.1,bt427.2.2.2))) else(some (false,([]:List Int),([]:List Int),bt418.2.2.2)))) else(some (false,([]:List Int),([]:List Int),bt409.2.2.2)))) ?_ (fun k=>by rw[Czm.j0,if_neg (by decide),if_neg h5])
  refine(Make_tells u m).bind (Tells.pos e1 ((ROf_tells 1000000).bind (Tells.pos e2 ?_)));exact(RMul_tells _ _ _ _ _ _).bind (Tells.const _)
theorem r2same (l:List Int) (hl:l.length≤1000):Tells (fun k=>Czk.f k l l) true:=by
  have lp:∀ d:Nat,∀ i:Nat,i+d=l.length→Tells (fun k=>Czk.l0 k l l (i:Int)) true:=by
    intro d;induction d with
    | zero =>
      intro i hi;exact Tells.up (Tells.const _) (fun k=>by rw[Czk.l0,if_neg (by omega)])
    | succ d ih =>
      intro i hi;have e:wrap64 ((i:Int)+1)=((i+1:Nat):Int):=by rw[wrap64_id (by omega) (by omega)];omega
      exact Tells.up (ih (i+1) (by omega)) (fun k=>by rw[Czk.l0,if_pos (by omega),if_pos (by omega),if_pos (by omega),if_pos rfl,e])
  unfold Czk.f;simp only[if_true];exact lp l.length 0 (by omega)
theorem r17same (a:Bool) (p q:List Int) (hp:p.length≤1000) (hq:q.length≤1000):Tells (fun k=>Ezq.f k a p q a p q) true:=by
  unfold Ezq.f;simp only[beq_self_eq_true,if_true];refine(r2same p hp).bind ?_;simp only[if_true];exact(r2same q hq).bind (Tells.const _)
theorem rates_errors {u m:Int} (h:¬ (0≤u∧u≤1125899906842624∧0 < m∧m≤1099511627776)):(perT u m).2.1=[]∧(perT u m).2.2.1=[]∧¬ (perT u m).2.2.2=0:=by
  unfold perT;by_cases hg:0≤u∧u≤1125899906842624∧0≤m∧m≤1099511627776
  · rw[if_pos hg,if_pos (by omega)];exact⟨rfl,rfl,by decide⟩
  · rw[if_neg hg];exact⟨rfl,rfl,by decide⟩
/-- The main case in numbers: PerTonne tells a number in lowest terms,and its product with the mass is what is used. -/
theorem LB48b:1000000000000000000000000000000000000≤LB 48:=by
  have:=LB_le (show 4≤48 by omega)
  have e:LB 4=1000000000000000000000000000000000000:=by decide
  omega
theorem rates_main {u m:Int} (h0:0≤u) (h1:u≤1125899906842624) (h2:0 < m) (h3:m≤1099511627776):∃ p q:List Int,perT u m=(false,p,q,0)∧ratOk false p q=true∧mulR false p q (makeR m 1000000).1 (makeR m 1000000).2.1 (makeR m 1000000).2.2.1=(false,dg u,dg 1,0):=by
  have L:=LB48;have L4:=LB48b;have b1:=redIs (P:=u) (Q:=m) h0 h2 (by omega) (by omega)
  have b2:=redIs (P:=1000000) (Q:=1) (by omega) (by omega) (by omega) (by omega)
  have b3:=redIs (P:=m) (Q:=1000000) (by omega) (by omega) (by omega) (by omega)
  unfold perT;rw[if_pos ⟨h0,h1,by omega,h3⟩,if_neg (by omega),makeR_nonneg h0 h1 h2 (by omega),makeR_nonneg (by omega) (by omega) (by omega) (by omega),makeR_nonneg (p:=m) (q:=1000000) (by omega) (by omega) (by omega) (by omega)]
  unfold redR;simp only[Bool.false_and];generalize dg (u / gI u m)=p1 at *;generalize dg (m / gI u m)=q1 at *;generalize dg (1000000 / gI 1000000 1)=p2 at *;generalize dg (1 / gI 1000000 1)=q2 at *;generalize dg (m / gI m 1000000)=p3 at *;generalize dg (1000000 / gI m 1000000)=q3 at *;obtain⟨c1,c1p,f1,f2⟩:=b1.ex;obtain⟨c2,c2p,f3,f4⟩:=b2.ex;obtain⟨c3,c3p,f5,f6⟩:=b3.ex;have d1:=b1.pos;have d2:=b2.pos;have d3:=b3.pos;have up:∀ {c x:Int},0 < c→0≤x→x≤c * x:=fun {c x} hc hx=>by have:1 * x≤c * x:=Int.mul_le_mul_of_nonneg_right hc hx;omega
  have le1:nv p1≤u:=f1 ▸ up c1p d1.1;have le2:nv q1≤m:=f2 ▸ up c1p (Int.le_of_lt d1.2);have le3:nv p2≤1000000:=f3 ▸ up c2p d2.1;have le4:nv q2≤1:=f4 ▸ up c2p (Int.le_of_lt d2.2);have le5:nv p3≤m:=f5 ▸ up c3p d3.1;have le6:nv q3≤1000000:=f6 ▸ up c3p (Int.le_of_lt d3.2);have a0:0≤nv p1 * nv p2:=Int.mul_nonneg d1.1 d2.1;have a1:nv p1 * nv p2≤1125899906842624 * 1000000:=Int.mul_le_mul (by omega) le3 d2.1 (by omega)
  have a2:0 < nv q1 * nv q2:=Int.mul_pos d1.2 d2.2;have a3:nv q1 * nv q2≤1099511627776 * 1:=Int.mul_le_mul (by omega) le4 (by omega) (by omega)
  have r4:=redIs (P:=nv p1 * nv p2) (Q:=nv q1 * nv q2) a0 a2 (by omega) (by omega)
  have E1:mulR false p1 q1 false p2 q2=(false,dg (nv p1 * nv p2 / gI (nv p1 * nv p2) (nv q1 * nv q2)),dg (nv q1 * nv q2 / gI (nv p1 * nv p2) (nv q1 * nv q2)),0):=by
    unfold mulR redR;rw[b1.ok false (fun h=>by cases h),b2.ok false (fun h=>by cases h),if_pos (show(true && true)=true from rfl),if_pos ⟨by omega,by omega⟩]
    rfl
  refine⟨_,_,E1,r4.ok false (fun h=>by cases h),?_⟩
  generalize dg (nv p1 * nv p2 / gI (nv p1 * nv p2) (nv q1 * nv q2))=p at *;generalize dg (nv q1 * nv q2 / gI (nv p1 * nv p2) (nv q1 * nv q2))=q at *;obtain⟨c4,c4p,f7,f8⟩:=r4.ex;have d4:=r4.pos;have le7:nv q≤nv q1 * nv q2:=by have:=up c4p (Int.le_of_lt d4.2);rw[← f8] at this;exact this
  have g1:nv p * m=u * 1000000 * nv q:=by
    have e:c4 * (nv p * m)=c4 * (u * 1000000 * nv q):=by
      have e1:c4 * (nv p * m)=(nv p1 * nv p2) * (c1 * nv q1):=by rw[f7];grind
      have e2:c4 * (u * 1000000 * nv q)=(c1 * nv p1) * (c2 * nv p2) * (nv q1 * nv q2):=by rw[f8,← f1,← f3];grind
      have e3:(c1 * nv p1) * (c2 * nv p2) * (nv q1 * nv q2)=(nv p1 * nv p2) * (c1 * nv q1) * (c2 * nv q2):=by grind
      rw[e1,e2,e3,← f4,Int.mul_one]
    exact Int.eq_of_mul_eq_mul_left (by omega) e
  have g2:nv p3 * 1000000=m * nv q3:=by
    have e:c3 * (nv p3 * 1000000)=c3 * (m * nv q3):=by
      have e1:c3 * (nv p3 * 1000000)=(c3 * nv p3) * 1000000:=by grind
      have e2:c3 * (m * nv q3)=m * (c3 * nv q3):=by grind
      rw[e1,e2,← f5,← f6]
    exact Int.eq_of_mul_eq_mul_left (by omega) e
  have g3:=rates_prod h2 g1 g2;have hD:0 < nv q * nv q3:=Int.mul_pos d4.2 d3.2;have hD1:nv q * nv q3≤1099511627776 * 1000000:=Int.mul_le_mul (by omega) le6 (by omega) (by omega)
  have hN:u * (nv q * nv q3)≤1125899906842624 * (1099511627776 * 1000000):=Int.mul_le_mul h1 hD1 (by omega) (by omega)
  unfold mulR redR;rw[r4.ok false (fun h=>by cases h),b3.ok false (fun h=>by cases h),if_pos (show(true && true)=true from rfl),g3]
  generalize nv q * nv q3=D at *;rw[gI_mul_self h0 hD,Int.mul_ediv_cancel _ (by omega),Int.ediv_self (by omega),if_pos ⟨by omega,by omega⟩]
  rfl

theorem r59perT_tells (u m:Int):Tells (fun k=>Bzx.f k u m) (perT u m):=by
  have bad:Tells (fun k=>Bzx.j0 k u m true) (false,[],[],1):=Tells.up (Tells.const _) (fun k=>by rw[Bzx.j0,if_pos rfl])
  unfold Bzx.f perT;by_cases h1:u < 0
  · rw[if_neg (by omega)];exact Tells.pos h1 bad
  refine Tells.neg h1 ?_;by_cases h2:u > 1125899906842624
  · rw[if_neg (by omega)];exact Tells.pos h2 bad
  refine Tells.neg h2 ?_;by_cases h3:m < 0
  · rw[if_neg (by omega)];exact Tells.pos h3 bad
  refine Tells.neg h3 ?_;by_cases h4:m > 1099511627776
  · rw[if_neg (by omega),decide_eq_true h4];exact bad
  rw[decide_eq_false h4,if_pos ⟨by omega,by omega,by omega,by omega⟩]
  by_cases h5:m=0
  · rw[if_pos h5]
    exact Tells.up (Tells.const _) (fun k=>by rw[Bzx.j0,if_neg (by decide),if_pos h5])
  rw[if_neg h5];refine Tells.up (g:=fun k=>(Bzy.f k u m).bind fun bt760=>((Fzx.f k 1000000).bind fun bt769=>((Dzz.f k bt760.1 bt760.2.1 bt760.2.2.1 bt769.1 bt769.2.1 bt769.2.2.1).bind fun bt778=>(some (bt778.1,bt778.2.1,bt778.2.2.1,bt778.2.2.2))))) ?_ (fun k=>by rw[Bzx.j0,if_neg (by decide),if_neg h5])
  exact(R3Make_tells u m).bind ((R3Of_tells 1000000).bind ((R3Mul_tells _ _ _ _ _ _).bind (Tells.const _)))
theorem perT_len (u m:Int):(perT u m).2.1.length≤1000∧(perT u m).2.2.1.length≤1000:=by
  by_cases h:0≤u∧u≤1125899906842624∧0 < m∧m≤1099511627776
  · obtain⟨p,q,e,ok,_⟩:=rates_main h.1 h.2.1 h.2.2.1 h.2.2.2
    rw[e];obtain⟨a1,a2,_⟩:=ratOk_parts ok;exact⟨Nat.le_trans (natOk_iff.1 a1).2 (by omega),Nat.le_trans (natOk_iff.1 a2).2 (by omega)⟩
  · obtain⟨e1,e2,_⟩:=rates_errors h
    rw[e1,e2];exact⟨by decide,by decide⟩
theorem splitS_le (t:Int) (l:List Int):(splitS t l).1.length≤l.length:=by
  unfold splitS;split
  · exact Nat.le_of_eq (bumpS_len _ _ _ _)
  · exact Nat.zero_le _
theorem EnergyShares:papermilllaw59_EnergyShares.Pure:=by
  intro u m l _ _ _ _ _;have hend:Tells (fun k=>(Ezy.f k).bind fun t=>(some t)) true:=awake_tells.bind (Tells.const _)
  refine Tells.get ?_;unfold papermilllaw59_EnergyShares.f;by_cases h6:(l.length:Int) > 600
  · exact Tells.pos h6 hend
  refine Tells.neg h6 ?_;have hl:l.length≤1000:=by omega
  have s1:Tells (fun k=>Fzy.f k u l) (splitS u l):=by
    unfold Fzy.f;exact(splitall_tells u l hl).bind (Tells.const _)
  have s2:Tells (fun k=>Fzj.f k u l) (splitS u l):=by
    unfold Fzj.f;exact(refSplit_tells u l hl).bind (Tells.const _)
  have hp:=perT_len u m;have h8:=ints08 (splitS u l).1 (Nat.le_trans (splitS_le u l) hl);exact s1.bind (s2.bind ((perT_tells u m).bind ((r59perT_tells u m).bind (h8.bind (Tells.pos rfl (Tells.pos rfl ((r17same _ _ _ hp.1 hp.2).bind (Tells.pos rfl (Tells.pos rfl hend)))))))))

end Go.Proofs.Ytnklckihalhlmaa.Pure
