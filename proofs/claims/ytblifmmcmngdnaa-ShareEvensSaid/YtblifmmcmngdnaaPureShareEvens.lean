import Derived.Test.YtblifmmcmngdnaaPrint17
namespace Go.Proofs.Ytblifmmcmngdnaa.Pure
open Go.RowKit Go.Proofs.Ytblifmmcmngdnaa.Print Go.Proofs.YtblifmmcmngdnaaW.PrintWords Go.Proofs.YtblifmmcmngdnaaW.PrintLast
set_option linter.unusedVariables false
set_option linter.unusedSimpArgs false

/-- From some number of rounds on f tells r. -/
def Tells {α:Type} (f:Nat→Option α) (r:α):Prop:=∃ K,∀ k,K≤k→f k=some r
namespace Tells
theorem leO {α:Type} {f:Nat→Option α} (hm:∀ k,LeO (f k) (f (k+1))) {K:Nat} {r:α} (h:f K=some r):∀ k,K≤k→f k=some r:=by
  intro k hk;induction hk with
  | refl=>exact h
  | step _ ih=>exact hm _ _ ih
theorem of {α:Type} {f:Nat→Option α} (hm:∀ k,LeO (f k) (f (k+1))) {r:α} (h:∃ K,f K=some r):Tells f r:=by
  obtain⟨K,h⟩:=h;exact⟨K,leO hm h⟩
theorem get {α:Type} {f:Nat→Option α} {r:α} (h:Tells f r):∃ k,f k=some r:=by
  obtain⟨K,h⟩:=h;exact⟨K,h K (Nat.le_refl K)⟩
theorem const {α:Type} (r:α):Tells (fun _=>some r) r:=⟨0,fun _ _=>rfl⟩
theorem bind {α β:Type} {f:Nat→Option α} {g:Nat→α→Option β} {r:α} {s:β} (h:Tells f r) (h':Tells (fun k=>g k r) s):Tells (fun k=>(f k).bind (g k)) s:=by
  obtain⟨K,h⟩:=h;obtain⟨K',h'⟩:=h';refine⟨max K K',fun k hk=>?_⟩
  show(f k).bind (g k)=some s
  rw[h k (by omega)]
  exact h' k (by omega)
theorem congr {α:Type} {f g:Nat→Option α} {r:α} (h:Tells g r) (e:∀ k,f k=g k):Tells f r:=by
  obtain⟨K,h⟩:=h;exact⟨K,fun k hk=>(e k).trans (h k hk)⟩
theorem up {α:Type} {f g:Nat→Option α} {r:α} (h:Tells g r) (e:∀ k,f (k+1)=g k):Tells f r:=by
  obtain⟨K,h⟩:=h;refine⟨K+1,fun k hk=>?_⟩
  obtain⟨m,rfl⟩:∃ m,k=m+1:=⟨k - 1,by omega⟩
  exact(e m).trans (h m (by omega))
theorem ite {α:Type} {c:Prop} [Decidable c] {f g:Nat→Option α} {r s:α} (h:c→Tells f r) (h':¬ c→Tells g s):Tells (fun k=>if c then f k else g k) (if c then r else s):=by
  by_cases hc:c
  · simp only[if_pos hc];exact h hc
  · simp only[if_neg hc];exact h' hc
theorem pos {α:Type} {c:Prop} [Decidable c] {f g:Nat→Option α} {r:α} (hc:c) (h:Tells f r):Tells (fun k=>if c then f k else g k) r:=by
  simp only[if_pos hc];exact h
theorem neg {α:Type} {c:Prop} [Decidable c] {f g:Nat→Option α} {r:α} (hc:¬ c) (h:Tells g r):Tells (fun k=>if c then f k else g k) r:=by
  simp only[if_neg hc];exact h
end Tells
theorem wrap64_id {n:Int} (h0:-9223372036854775808≤n) (h1:n < 9223372036854775808):wrap64 n=n:=by
  unfold wrap64;omega

theorem rd_drop (l:List Int) (i:Nat) (h:i < l.length):l.drop i=rd l (i:Int) :: l.drop (i+1):=by
  rw[List.drop_eq_getElem_cons h];congr 1
  show l[i]=l.getD (i:Int).toNat 0
  simp [h]
theorem rd_at (l:List Int) (i:Nat) (h:i < l.length):rd l (i:Int)=l[i]:=by
  show l.getD (i:Int).toNat 0=_
  simp [h]
theorem rd_mid (A:List Int) (x:Int) (B:List Int):rd (A ++ x :: B) (A.length:Int)=x:=by
  show(A ++ x :: B).getD (A.length:Int).toNat 0=x
  simp
theorem rd_mid' {l A:List Int} {x:Int} {B:List Int} {i:Int} (h:l=A ++ x :: B) (hi:i=(A.length:Int)):rd l i=x:=by
  subst h hi;exact rd_mid A x B
theorem set_mid (A:List Int) (x v:Int) (B:List Int):(A ++ x :: B).set ((A.length:Int)).toNat v=A ++ v :: B:=by simp
theorem set_mid' {l A:List Int} {x v:Int} {B:List Int} {i:Int} (h:l=A ++ x :: B) (hi:i=(A.length:Int)):l.set i.toNat v=A ++ v :: B:=by
  subst h hi;exact set_mid A x v B
theorem rd_mem (l:List Int) (i:Int) (h0:0≤i) (h:i < (l.length:Int)):rd l i ∈ l:=by
  obtain⟨j,rfl⟩:∃ j:Nat,i=(j:Int):=⟨i.toNat,by omega⟩
  rw[rd_at l j (by omega)]
  exact List.getElem_mem _
theorem ext_rd {a b:List Int} (hl:a.length=b.length) (h:∀ i:Nat,i < a.length→rd a (i:Int)=rd b (i:Int)):a=b:=by
  apply List.ext_getElem hl;intro i h1 h2;have:=h i h1;rwa [rd_at a i h1,rd_at b i h2] at this
theorem rd_map (f:Int→Int) (l:List Int) (i:Nat) (h:i < l.length):rd (l.map f) (i:Int)=f (rd l (i:Int)):=by
  rw[rd_at _ i (by simpa using h),rd_at l i h]
  simp
theorem rd_set (l:List Int) (i j:Nat) (v:Int) (h:j < l.length):rd (l.set i v) (j:Int)=if i=j then v else rd l (j:Int):=by
  rw[rd_at _ j (by simpa using h),rd_at l j h,List.getElem_set]
def inAll (most:Int) (l:List Int):Bool:=l.all fun x=>decide (0≤x) && decide (x≤most)
theorem inAll_iff {m:Int} {l:List Int}:inAll m l=true ↔ ∀ x ∈ l,0≤x∧x≤m:=by
  unfold inAll;simp [List.all_eq_true,Bool.and_eq_true,decide_eq_true_eq]
theorem inAll_cons {m x:Int} {l:List Int}:inAll m (x :: l)=((decide (0≤x) && decide (x≤m)) && inAll m l):=rfl
theorem sum_bounds {m:Int} {l:List Int} (h:inAll m l=true):0≤l.sum∧l.sum≤m * l.length:=by
  induction l with
  | nil=>simp
  | cons x l ih =>
    rw[inAll_cons,Bool.and_eq_true,Bool.and_eq_true,decide_eq_true_eq,decide_eq_true_eq] at h;have:=ih h.2;rw[List.sum_cons,List.length_cons];have e:m * ((l.length+1:Nat):Int)=m * l.length+m:=by rw[Int.natCast_add,Int.mul_add];simp
    omega
theorem sum_mem_le {m:Int} {l:List Int} (h:inAll m l=true):∀ x ∈ l,x≤l.sum:=by
  induction l with
  | nil=>simp
  | cons y l ih =>
    have h':=h;rw[inAll_cons,Bool.and_eq_true,Bool.and_eq_true,decide_eq_true_eq,decide_eq_true_eq] at h';have hb:=sum_bounds h'.2;intro x hx;rw[List.sum_cons];rcases List.mem_cons.1 hx with rfl|hx
    · omega
    · have:=ih h'.2 x hx;omega
def idx (n:Nat):List Int:=(List.range n).map (fun i:Nat=>(i:Int))
theorem idx_len (n:Nat):(idx n).length=n:=by simp [idx]
theorem idx_succ (n:Nat):idx (n+1)=idx n ++ [(n:Int)]:=by simp [idx,List.range_succ]
theorem mem_idx {n:Nat} {i:Int}:i ∈ idx n ↔ 0≤i∧i < (n:Int):=by
  unfold idx;rw[List.mem_map];constructor
  · rintro ⟨j,hj,rfl⟩
    have:=List.mem_range.1 hj;omega
  · rintro ⟨h0,h1⟩
    exact⟨i.toNat,List.mem_range.2 (by omega),by omega⟩
theorem rd_idx (n i:Nat) (h:i < n):rd (idx n) (i:Int)=i:=by
  rw[rd_at _ i (by rw[idx_len];exact h)]
  simp [idx]
theorem idx_nodup (n:Nat):(idx n).Nodup:=by
  induction n with
  | zero=>simp [idx]
  | succ n ih =>
    rw[idx_succ,List.nodup_append];refine⟨ih,by simp,?_⟩
    intro a ha b hb;rw[List.mem_singleton] at hb;have:=mem_idx.1 ha;omega

theorem index_tells (l:List Int) (hl:l.length≤1000000):Tells (fun k=>Bzy.f k l) (!(inAll 1125899906842624 l)):=by
  have lp:∀ n i k,n < k→i+n=l.length→∃ r,Bzz.l0 k l (l.length:Int) (i:Int)=some r∧decide (r≥0)=!(inAll 1125899906842624 (l.drop i)):=by
    intro n;induction n with
    | zero =>
      intro i k hk hi;obtain⟨m,rfl⟩:∃ m,k=m+1:=⟨k - 1,by omega⟩
      refine⟨-1,?_,?_⟩
      · unfold Bzz.l0
        rw[if_neg (by omega)]
      · rw[List.drop_of_length_le (by omega)];rfl
    | succ n ih =>
      intro i k hk hi;obtain⟨m,rfl⟩:∃ m,k=m+1:=⟨k - 1,by omega⟩
      have e:Czx.f (rd l (i:Int))=some (!(decide (0≤rd l (i:Int)) && decide (rd l (i:Int)≤1125899906842624))):=by
        unfold Czx.f;by_cases h:rd l (i:Int) < 0
        · rw[if_pos h,decide_eq_false (p:=0≤rd l (i:Int)) (by omega)];rfl
        · rw[if_neg h,decide_eq_true (p:=0≤rd l (i:Int)) (by omega)]
          by_cases h2:rd l (i:Int)≤1125899906842624
          · rw[decide_eq_true h2,decide_eq_false (by omega)];rfl
          · rw[decide_eq_false h2,decide_eq_true (by omega)];rfl
      rw[rd_drop l i (by omega),inAll_cons]
      by_cases h:(decide (0≤rd l (i:Int)) && decide (rd l (i:Int)≤1125899906842624))=true
      · obtain⟨r,hr,hd⟩:=ih (i+1) m (by omega) (by omega)
        refine⟨r,?_,?_⟩
        · unfold Bzz.l0
          rw[if_pos (by omega),if_pos (by omega),if_pos (by omega),e,h,wrap64_id (n:=(i:Int)+1) (by omega) (by omega)]
          exact hr
        · rw[h,Bool.true_and];exact hd
      · refine⟨i,?_,?_⟩
        · unfold Bzz.l0
          rw[if_pos (by omega),if_pos (by omega),if_pos (by omega),e,eq_false_of_ne_true h]
          rfl
        · rw[eq_false_of_ne_true h,decide_eq_true (by omega)];rfl
  obtain⟨r,hr,hd⟩:=lp l.length 0 (l.length+1) (by omega) (by omega)
  have hf:Tells (fun k=>Bzz.f k l) r:=Tells.of (fun k=>by apply Bzz.mono) ⟨l.length+1,hr⟩
  refine Tells.congr (g:=fun k=>(Bzz.f k l).bind fun t=>some (decide (t≥0))) ?_ (fun k=>by unfold Bzy.f;rfl)
  refine Tells.bind hf ?_;rw[hd,List.drop_zero];exact Tells.const _
theorem in_tells (l:List Int) (hl:l.length≤1000000):Tells (fun k=>Bzb.f k l) (l.all Azj.inB) :=
  Tells.of (fun k=>by apply Bzb.mono) ⟨l.length+1,Azj.in_f l (by omega)⟩
theorem inB_of {x:Int} (h0:-1125899906842624≤x) (h1:x≤1125899906842624):Azj.inB x=true:=by
  unfold Azj.inB;rw[decide_eq_true h0,decide_eq_true h1];rfl
theorem result_tells (x:Int):Tells (fun k=>Czy.f k x) (if Azj.inB x=true then(x,0) else(0,2)):=by
  refine Tells.congr (g:=fun k=>(Bzb.f k [x]).bind fun t=>if t=true then some (x,0) else some (0,2)) ?_ (fun k=>by unfold Czy.f;rfl)
  refine Tells.bind (in_tells [x] (by simp)) ?_
  have e:[x].all Azj.inB=Azj.inB x:=by simp
  rw[e];exact Tells.ite (fun _=>Tells.const _) (fun _=>Tells.const _)
theorem Sum_tells (l:List Int) (h:inAll 1125899906842624 l=true) (hl:l.length≤65536):Tells (fun k=>Czw.f k l) (if l.sum > 1125899906842624 then(0,2) else(l.sum,0)):=by
  have hm:=inAll_iff.1 h;have lp:∀ n i x4 x5,i+n=l.length→0≤x4→x4≤(i:Int) * 33554432→0≤x5→x5≤(i:Int) * 33554432→x4 * 33554432+x5+(l.drop i).sum=l.sum→Tells (fun k=>Czw.l0 k x4 x5 l (l.length:Int) (i:Int)) (if l.sum > 1125899906842624 then(0,2) else(l.sum,0)):=by
    intro n;induction n with
    | zero =>
      intro i x4 x5 hi h40 h41 h50 h51 hs;rw[List.drop_of_length_le (by omega),List.sum_nil,Int.add_zero] at hs
      have d1:Int.tdiv x5 33554432=x5 / 33554432:=Int.tdiv_eq_ediv_of_nonneg h50;have d2:Int.tmod x5 33554432=x5 % 33554432:=Int.tmod_eq_emod_of_nonneg h50;refine Tells.up (g:=fun k=>if x4+x5 / 33554432 > 33554433 then some (0,2) else if x4+x5 / 33554432 < -33554433 then some (0,2) else(Czy.f k (wrap64 (wrap64 ((x4+x5 / 33554432) * 33554432)+x5 % 33554432))).bind fun b=>some (b.1,b.2)) ?_ (fun k=>by
        rw[Czw.l0];rw[if_neg (by omega),d1,d2,wrap64_id (n:=x5 / 33554432) (by omega) (by omega),wrap64_id (n:=x4+x5 / 33554432) (by omega) (by omega)])
      by_cases c1:x4+x5 / 33554432 > 33554433
      · rw[if_pos (by omega)]
        exact Tells.pos c1 (Tells.const _)
      · refine Tells.neg c1 (Tells.neg (by omega) ?_)
        rw[wrap64_id (n:=(x4+x5 / 33554432) * 33554432) (by omega) (by omega),wrap64_id (by omega) (by omega)]
        have e:(x4+x5 / 33554432) * 33554432+x5 % 33554432=l.sum:=by omega
        rw[e];refine Tells.bind (result_tells _) ?_;have e2:(if Azj.inB l.sum=true then(l.sum,(0:Int)) else(0,2))=if l.sum > 1125899906842624 then(0,2) else(l.sum,0):=by
          by_cases c2:l.sum > 1125899906842624
          · rw[if_pos c2,if_neg]
            unfold Azj.inB;rw[decide_eq_false (p:=l.sum≤1125899906842624) (by omega),Bool.and_false]
            simp
          · rw[if_neg c2,if_pos (inB_of (by omega) (by omega))]
        rw[e2];exact Tells.const _
    | succ n ih =>
      intro i x4 x5 hi h40 h41 h50 h51 hs;have hx:=hm _ (rd_mem l (i:Int) (by omega) (by omega))
      rw[rd_drop l i (by omega),List.sum_cons] at hs
      generalize hx':rd l (i:Int)=x at hx hs;have d1:Int.tdiv x 33554432=x / 33554432:=Int.tdiv_eq_ediv_of_nonneg hx.1;have d2:Int.tmod x 33554432=x % 33554432:=Int.tmod_eq_emod_of_nonneg hx.1;refine Tells.up (g:=fun k=>Czw.l0 k (x4+x / 33554432) (x5+x % 33554432) l (l.length:Int) ((i+1:Nat):Int)) ?_ (fun k=>by
        rw[Czw.l0];rw[if_pos (by omega),if_pos (by omega),if_pos (by omega),hx',d1,d2,wrap64_id (n:=x / 33554432) (by omega) (by omega),wrap64_id (n:=x4+x / 33554432) (by omega) (by omega),wrap64_id (n:=x5+x % 33554432) (by omega) (by omega),wrap64_id (n:=(i:Int)+1) (by omega) (by omega)]
        rfl)
      exact ih (i+1) _ _ (by omega) (by omega) (by omega) (by omega) (by omega) (by omega)
  refine Tells.congr (g:=fun k=>(Bzb.f k l).bind fun t=>if t=true then Czw.l0 k 0 0 l (l.length:Int) ((0:Nat):Int) else some (0,1)) ?_ (fun k=>by
    unfold Czw.f;rw[if_neg (by omega)];rfl)
  refine Tells.bind (in_tells l (by omega)) ?_
  have ha:l.all Azj.inB=true:=by
    rw[List.all_eq_true];intro x hx;have:=hm x hx;exact inB_of (by omega) (by omega)
  refine Tells.pos ha ?_;exact lp l.length 0 0 0 (by omega) (by omega) (by omega) (by omega) (by omega) (by simp)
/-- The sum of the weights,or the error. -/
def shCheckS (t:Int) (l:List Int):Int × Int :=
  if t < 0∨t > 1125899906842624 then(0,1) else if(l.length:Int)=0 then(0,10) else if(l.length:Int) > 512 then(0,8) else if inAll 1125899906842624 l=true then(if l.sum > 1125899906842624 then(0,2) else if l.sum=0 then(if t > 0 then(0,16) else(l.sum,0)) else(l.sum,0)) else(0,1)
theorem shCheck_tells (t:Int) (l:List Int) (hl:l.length≤1000000):Tells (fun k=>Bzf.f k t l) (shCheckS t l):=by
  refine Tells.congr (g:=fun k=>Bzf.j0 k t l (decide (t < 0∨t > 1125899906842624))) ?_ (fun k=>by
    unfold Bzf.f;by_cases h:t < 0
    · rw[if_pos h,decide_eq_true (p:=t < 0∨t > 1125899906842624) (Or.inl h)]
    · rw[if_neg h];congr 1;simp [h])
  refine Tells.up (g:=fun k=>if decide (t < 0∨t > 1125899906842624)=true then some (0,1) else if(l.length:Int)=0 then some (0,10) else if(l.length:Int) > 512 then some (0,8) else(Bzy.f k l).bind fun b=>if b=true then some (0,1) else(Czw.f k l).bind fun s=>if s.2=0 then(if s.1=0 then(if t > 0 then some (0,16) else some (s.1,0)) else some (s.1,0)) else some (0,2)) ?_ (fun k=>by rw[Bzf.j0])
  unfold shCheckS;by_cases h1:t < 0∨t > 1125899906842624
  · rw[if_pos h1];exact Tells.pos (decide_eq_true h1) (Tells.const _)
  rw[if_neg h1];refine Tells.neg (by simpa using h1) ?_
  refine Tells.ite (fun _=>Tells.const _) (fun h2=>?_)
  refine Tells.ite (fun _=>Tells.const _) (fun h3=>?_)
  refine Tells.bind (index_tells l hl) ?_;by_cases h4:inAll 1125899906842624 l=true
  · rw[if_pos h4]
    refine Tells.neg (by rw[h4];simp) ?_
    refine Tells.bind (Sum_tells l h4 (by omega)) ?_
    by_cases h5:l.sum > 1125899906842624
    · rw[if_pos h5,if_pos h5]
      exact Tells.neg (by decide) (Tells.const _)
    · rw[if_neg h5,if_neg h5]
      refine Tells.pos rfl ?_;refine Tells.ite (fun _=>?_) (fun _=>Tells.const _)
      exact Tells.ite (fun _=>Tells.const _) (fun _=>Tells.const _)
  · rw[if_neg h4]
    exact Tells.pos (by rw[eq_false_of_ne_true h4];rfl) (Tells.const _)
theorem shCheck_ok {t:Int} {l:List Int} (h:(shCheckS t l).2=0):0≤t∧t≤1125899906842624∧0 < l.length∧l.length≤512∧inAll 1125899906842624 l=true∧l.sum≤1125899906842624∧(l.sum=0→t=0)∧(shCheckS t l).1=l.sum:=by
  unfold shCheckS at h ⊢;split at h
  · simp at h
  split at h
  · simp at h
  split at h
  · simp at h
  split at h
  · rename_i h1 h2 h3 h4
    split at h
    · simp at h
    split at h
    · split at h
      · simp at h
      · rename_i h5 h6 h7
        refine⟨by omega,by omega,by omega,by omega,h4,by omega,fun _=>by omega,?_⟩
        rw[if_neg h1,if_neg h2,if_neg h3,if_pos h4,if_neg h5,if_pos h6,if_neg h7]
    · rename_i h5 h6
      refine⟨by omega,by omega,by omega,by omega,h4,by omega,fun h0=>absurd h0 h6,?_⟩
      rw[if_neg h1,if_neg h2,if_neg h3,if_pos h4,if_neg h5,if_neg h6]
  · simp at h
theorem wrap64_mod (n:Int):∃ q,wrap64 n=n+q * 18446744073709551616:=by
  refine⟨-((n+9223372036854775808) / 18446744073709551616),?_⟩;unfold wrap64;omega
theorem quotient_val (t w s:Int) (ht0:0≤t) (ht:t≤1125899906842624) (hw0:0≤w) (hws:w≤s) (hs:s≤1125899906842624):Czk.f t w s=some (t * w / s,t * w % s):=by
  unfold Czk.f;by_cases h:s=0
  · have hw:w=0:=by omega
    rw[if_pos h,h,hw];simp
  rw[if_neg h];have hs1:0 < s:=by omega
  have hX0:0≤t * w:=Int.mul_nonneg ht0 hw0;have hq0:0≤t * w / s:=Int.ediv_nonneg hX0 (by omega)
  have hq1:t * w / s≤t:=by
    have h1:t * w≤t * s:=Int.mul_le_mul_of_nonneg_left hws ht0;have h2:=Int.ediv_le_ediv hs1 h1;rwa [Int.mul_ediv_cancel _ h] at h2
  have hr0:0≤t * w % s:=Int.emod_nonneg _ h;have hr1:t * w % s < s:=Int.emod_lt_of_pos _ hs1;have hv:Azj.f t w s 0=some (t * w / s,0):=by
    unfold Azj.f;rw[inB_of (x:=t) (by omega) (by omega),inB_of (x:=w) (by omega) (by omega),inB_of (x:=s) (by omega) (by omega)]
    rw[if_pos (by rfl),if_neg h,if_neg (by omega),if_neg (by omega)]
    unfold Azj.val Azj.ab;rw[if_neg (show ¬ t < 0 by omega),if_neg (show ¬ w < 0 by omega),if_neg (show ¬ s < 0 by omega),decide_eq_false (show ¬ t < 0 by omega),decide_eq_false (show ¬ w < 0 by omega),decide_eq_false (show ¬ s < 0 by omega)]
    unfold Azj.grows Azj.fin;simp;omega
  rw[hv];simp only[Option.bind_some];congr 2
  obtain⟨a,ha⟩:=wrap64_mod (t * w);obtain⟨b,hb⟩:=wrap64_mod (t * w / s * s);have hd:t * w / s * s+t * w % s=t * w:=by rw[Int.mul_comm];exact Int.mul_ediv_add_emod _ _
  unfold wrap64 at ha hb ⊢;omega
/-- x goes from the right past the smaller ones (the list is turned round). -/

def insR (R:List Int) (x:Int):List Int→List Int
  | []=>[x]
  | y :: l=>if rd R x > rd R y then y :: insR R x l else x :: y :: l
def ltR (R:List Int) (u v:Int):Prop:=rd R u > rd R v∨(rd R u=rd R v∧u < v)
theorem insR_perm (R:List Int) (x:Int) (l:List Int):(insR R x l).Perm (x :: l):=by
  induction l with
  | nil=>exact List.Perm.refl _
  | cons y l ih =>
    unfold insR;split
    · exact(List.Perm.cons y ih).trans (List.Perm.swap x y l)
    · exact List.Perm.refl _
theorem insR_sorted (R:List Int) (x:Int) (l:List Int) (h:l.Pairwise fun u v=>ltR R v u) (hx:∀ y ∈ l,y < x):(insR R x l).Pairwise fun u v=>ltR R v u:=by
  induction l with
  | nil=>simp [insR]
  | cons y l ih =>
    rw[List.pairwise_cons] at h;unfold insR;split
    · rename_i hc
      rw[List.pairwise_cons];refine⟨?_,ih h.2 (fun z hz=>hx z (List.mem_cons_of_mem _ hz))⟩
      intro z hz;rcases List.mem_cons.1 ((insR_perm R x l).mem_iff.1 hz) with rfl|hz
      · exact Or.inl hc
      · exact h.1 z hz
    · rename_i hc
      rw[List.pairwise_cons,List.pairwise_cons];refine⟨?_,h⟩;intro z hz;rcases List.mem_cons.1 hz with rfl|hz
      · have:=hx z List.mem_cons_self
        unfold ltR;omega
      · have h1:=h.1 z hz
        have h2:=hx z (List.mem_cons_of_mem _ hz);unfold ltR at h1 ⊢;omega
/-- The insertion sort of some elements,turned round. -/
def insAll (R:List Int):List Int→List Int→List Int
  | [],r=>r
  | x :: l,r=>insAll R l (insR R x r)
theorem insAll_perm (R:List Int) (l:List Int):∀ r,(insAll R l r).Perm (l ++ r):=by
  induction l with
  | nil=>intro r;exact List.Perm.refl _
  | cons x l ih =>
    intro r;show(insAll R l (insR R x r)).Perm _
    refine(ih _).trans ?_;refine(List.Perm.append_left l (insR_perm R x r)).trans ?_;exact List.perm_middle
theorem insAll_sorted (R:List Int) (l:List Int):∀ r,r.Pairwise (fun u v=>ltR R v u)→l.Pairwise (· < ·)→(∀ y ∈ r,∀ x ∈ l,y < x)→(insAll R l r).Pairwise fun u v=>ltR R v u:=by
  induction l with
  | nil=>intro r h _ _;exact h
  | cons x l ih =>
    intro r h hl hx;rw[List.pairwise_cons] at hl;show(insAll R l (insR R x r)).Pairwise _
    refine ih _ (insR_sorted R x r h (fun y hy=>hx y hy x List.mem_cons_self)) hl.2 ?_
    intro y hy z hz;rcases List.mem_cons.1 ((insR_perm R x r).mem_iff.1 hy) with rfl|hy
    · exact hl.1 z hz
    · exact hx y hy z (List.mem_cons_of_mem _ hz)
theorem idx_lt (n:Nat):(idx n).Pairwise (· < ·):=by
  induction n with
  | zero=>simp [idx]
  | succ n ih =>
    rw[idx_succ,List.pairwise_append];refine⟨ih,by simp,?_⟩
    intro a ha b hb;rw[List.mem_singleton] at hb;have:=mem_idx.1 ha;omega
/-- The indices by their remainders,the greatest first,of the same the first one first. -/
def ordS (R:List Int) (n:Nat):List Int:=(insAll R (idx n) []).reverse
theorem ordS_perm (R:List Int) (n:Nat):(ordS R n).Perm (idx n):=by
  unfold ordS;refine(List.reverse_perm _).trans ((insAll_perm R (idx n) []).trans ?_);rw[List.append_nil]
theorem ordS_sorted (R:List Int) (n:Nat):(ordS R n).Pairwise (ltR R):=by
  unfold ordS;rw[List.pairwise_reverse];exact insAll_sorted R (idx n) [] List.Pairwise.nil (idx_lt n) (by simp)
theorem ordS_len (R:List Int) (n:Nat):(ordS R n).length=n:=by rw[(ordS_perm R n).length_eq,idx_len]
theorem ordS_nodup (R:List Int) (n:Nat):(ordS R n).Nodup:=(ordS_perm R n).nodup_iff.2 (idx_nodup n)
theorem mem_ordS {R:List Int} {n:Nat} {i:Int}:i ∈ ordS R n ↔ 0≤i∧i < (n:Int):=by rw[(ordS_perm R n).mem_iff,mem_idx]
theorem ordS_unique (R:List Int) (n:Nat) (l:List Int) (hp:l.Perm (idx n)) (hs:l.Pairwise (ltR R)):l=ordS R n:=by
  refine List.Perm.eq_of_pairwise (le:=ltR R) ?_ hs (ordS_sorted R n) (hp.trans (ordS_perm R n).symm);intro a b _ _ h1 h2;unfold ltR at h1 h2;omega

theorem ins_l1 (R:List Int) (pre post:List Int) (b x8:Int) (out:List Int) (x:Int) (hx:0≤x∧x < (R.length:Int)) (hb:(pre.length:Int)+1000000 < 9223372036854775808) (hR:∀ y ∈ R,0≤y∧y≤1125899906842624):∀ (r:List Int) (done:List Int),r.length≤1000→(∀ y ∈ r,0≤y∧y < (R.length:Int)) →
    Tells (fun k=>Azq.l0 k (pre ++ (insR R x r).reverse ++ done ++ post) (pre.length:Int) b (wrap64 (x8+1)) [R]) out →
    Tells (fun k=>Azq.l1 k (pre ++ r.reverse ++ x :: done ++ post) (pre.length:Int) b x8 ((pre.length:Int)+(r.length:Int)) [R]) out:=by
  intro r;induction r with
  | nil =>
    intro done _ _ h;refine Tells.up h (fun k=>?_)
    rw[Azq.l1];rw[if_neg (by simp)]
    simp [insR]
  | cons y r ih =>
    intro done hr hm h;have hy:=hm y List.mem_cons_self;have hx9:wrap64 ((pre.length:Int)+((y :: r).length:Int) - 1)=(pre.length:Int)+(r.length:Int):=by
      rw[List.length_cons];rw[wrap64_id (by omega) (by simp at hr;omega)]
      omega
    have e1:rd (pre ++ (y :: r).reverse ++ x :: done ++ post) ((pre.length:Int)+((y :: r).length:Int))=x :=
      rd_mid' (A:=pre ++ (y :: r).reverse) (B:=done ++ post) (by simp) (by simp)
    have e2:rd (pre ++ (y :: r).reverse ++ x :: done ++ post) ((pre.length:Int)+(r.length:Int))=y :=
      rd_mid' (A:=pre ++ r.reverse) (B:=x :: done ++ post) (by simp) (by simp)
    have s1:(pre ++ (y :: r).reverse ++ x :: done ++ post).set ((pre.length:Int)+((y :: r).length:Int)).toNat y=pre ++ (y :: r).reverse ++ y :: (done ++ post) :=
      set_mid' (A:=pre ++ (y :: r).reverse) (x:=x) (B:=done ++ post) (by simp) (by simp)
    have s2:(pre ++ (y :: r).reverse ++ y :: (done ++ post)).set ((pre.length:Int)+(r.length:Int)).toNat x=pre ++ r.reverse ++ x :: (y :: (done ++ post)) :=
      set_mid' (A:=pre ++ r.reverse) (x:=y) (B:=y :: (done ++ post)) (by simp) (by simp)
    have hlen:((pre ++ (y :: r).reverse ++ x :: done ++ post).length:Int)=(pre.length:Int)+((y :: r).length:Int)+1+(done.length:Int)+(post.length:Int):=by
      simp;omega
    have hl1:(((y :: r).length:Nat):Int)=(r.length:Int)+1:=by simp
    have hc:Czj.f x y [R]=some (wrap64 (rd R y - rd R x)):=by
      show(if 0 < (([R]:List (List Int)).length:Int) then(if 0≤y then(if y < (R.length:Int) then(if 0≤x then(if x < (R.length:Int) then some (wrap64 (rd R y - rd R x)) else none) else none) else none) else none) else none)=_
      rw[if_pos (by simp),if_pos (by omega),if_pos (by omega),if_pos (by omega),if_pos (by omega)]
    have hry:=hR _ (rd_mem R y hy.1 hy.2);have hrx:=hR _ (rd_mem R x hx.1 hx.2);rw[wrap64_id (by omega) (by omega)] at hc
    by_cases c:rd R x > rd R y
    · have e3:insR R x (y :: r)=y :: insR R x r:=by rw[insR];rw[if_pos c]
      rw[e3] at h;have:=ih (y :: done) (by simp at hr;omega) (fun z hz=>hm z (List.mem_cons_of_mem _ hz)) (by simpa using h)
      refine Tells.up this (fun k=>?_)
      rw[Azq.l1];rw[if_pos (by omega),if_pos (by omega),if_pos (by omega),hx9,if_pos (by omega),if_pos (by omega),e1,e2,hc]
      simp only[Option.bind_some];rw[if_pos (by omega),s1,s2]
      simp
    · have e3:insR R x (y :: r)=x :: y :: r:=by rw[insR];rw[if_neg c]
      rw[e3] at h;refine Tells.up h (fun k=>?_)
      rw[Azq.l1];rw[if_pos (by omega),if_pos (by omega),if_pos (by omega),hx9,if_pos (by omega),if_pos (by omega),e1,e2,hc]
      simp only[Option.bind_some];rw[if_neg (by omega)]
      simp
theorem ins_l0 (R:List Int) (pre post:List Int) (hb:(pre.length:Int)+1000000 < 9223372036854775808) (hR:∀ y ∈ R,0≤y∧y≤1125899906842624):∀ (todo r:List Int),r.length+todo.length≤1000→(∀ y ∈ r,0≤y∧y < (R.length:Int))→(∀ y ∈ todo,0≤y∧y < (R.length:Int)) →
    Tells (fun k=>Azq.l0 k (pre ++ r.reverse ++ todo ++ post) (pre.length:Int) ((pre.length:Int)+(r.length:Int)+(todo.length:Int)) ((pre.length:Int)+(r.length:Int)) [R]) (pre ++ (insAll R todo r).reverse ++ post):=by
  intro todo;induction todo with
  | nil =>
    intro r _ _ _;refine Tells.up (Tells.const _) (fun k=>?_)
    rw[Azq.l0];rw[if_neg (by simp)]
    simp [insAll]
  | cons x todo ih =>
    intro r hl hr ht;have hx:=ht x List.mem_cons_self;have hl1:(((x :: todo).length:Nat):Int)=(todo.length:Int)+1:=by simp
    have hll:(x :: todo).length=todo.length+1:=by simp
    have hp:=insR_perm R x r;have hpl:(insR R x r).length=r.length+1:=by rw[hp.length_eq];simp
    refine Tells.up (g:=fun k=>Azq.l1 k (pre ++ r.reverse ++ x :: todo ++ post) (pre.length:Int) ((pre.length:Int)+(r.length:Int)+((x :: todo).length:Int)) ((pre.length:Int)+(r.length:Int)) ((pre.length:Int)+(r.length:Int)) [R]) ?_ (fun k=>by
      rw[Azq.l0];rw[if_pos (by omega)])
    refine ins_l1 R pre post _ _ _ x hx hb hR r todo (by omega) hr ?_
    have:=ih (insR R x r) (by omega) (fun y hy=>by
      rcases List.mem_cons.1 (hp.mem_iff.1 hy) with rfl|hy
      · exact hx
      · exact hr y hy) (fun y hy=>ht y (List.mem_cons_of_mem _ hy))
    rw[wrap64_id (by omega) (by omega)]
    have e1:(pre.length:Int)+((insR R x r).length:Int)+(todo.length:Int)=(pre.length:Int)+(r.length:Int)+((x :: todo).length:Int):=by omega
    have e2:(pre.length:Int)+((insR R x r).length:Int)=(pre.length:Int)+(r.length:Int)+1:=by omega
    rw[e1,e2] at this;exact this
theorem ins_tells (R:List Int) (pre mid post:List Int) (hb:(pre.length:Int)+1000000 < 9223372036854775808) (hR:∀ y ∈ R,0≤y∧y≤1125899906842624) (hl:mid.length≤1000) (hm:∀ y ∈ mid,0≤y∧y < (R.length:Int)) :
    Tells (fun k=>Azq.f k (pre ++ mid ++ post) (pre.length:Int) ((pre.length:Int)+(mid.length:Int)) [R]) (pre ++ (insAll R mid []).reverse ++ post):=by
  refine Tells.congr (g:=fun k=>Azq.l0 k (pre ++ mid ++ post) (pre.length:Int) ((pre.length:Int)+(mid.length:Int)) ((pre.length:Int)+1) [R]) ?_ (fun k=>by
    unfold Azq.f;rw[wrap64_id (by omega) (by omega)])
  cases mid with
  | nil =>
    refine Tells.up (Tells.const _) (fun k=>?_)
    rw[Azq.l0];rw[if_neg (by simp;omega)]
    simp [insAll]
  | cons x mid =>
    have hx:=hm x List.mem_cons_self;have:=ins_l0 R pre post hb hR mid [x] (by simp at hl ⊢;omega) (by simpa using hx) (fun y hy=>hm y (List.mem_cons_of_mem _ hy))
    have e:(pre.length:Int)+(([x]:List Int).length:Int)+(mid.length:Int)=(pre.length:Int)+((x :: mid).length:Int):=by simp;omega
    rw[e] at this;have e2:pre ++ ([x]:List Int).reverse ++ mid ++ post=pre ++ x :: mid ++ post:=by simp
    rw[e2] at this;exact this
/-- At most 20: one insertion sort. -/


def remS (t s:Int) (l:List Int):List Int:=l.map fun w=>t * w % s
def quoS (t s:Int) (l:List Int):List Int:=l.map fun w=>t * w / s
/-- What the quotients leave. -/
def leftS (t s:Int) (l:List Int):Int:=t - (quoS t s l).sum
/-- The parts: rounded down,and one more for those of D. -/
def bumpS (t s:Int) (l D:List Int):List Int:=(idx l.length).map fun i=>t * rd l i / s+if i ∈ D then 1 else 0
def partsSp (t s:Int) (l:List Int):List Int:=bumpS t s l ((ordS (remS t s l) l.length).take (leftS t s l).toNat)
def splitS (t:Int) (l:List Int):List Int × Int:=if(shCheckS t l).2=0 then(partsSp t l.sum l,0) else([],(shCheckS t l).2)
theorem bumpS_len (t s:Int) (l D:List Int):(bumpS t s l D).length=l.length:=by simp [bumpS,idx_len]
theorem rd_bumpS (t s:Int) (l D:List Int) (i:Nat) (h:i < l.length):rd (bumpS t s l D) (i:Int)=t * rd l i / s+if(i:Int) ∈ D then 1 else 0:=by
  unfold bumpS;rw[rd_map _ _ i (by rw[idx_len];exact h),rd_idx _ _ h]
theorem bumpS_nil (t s:Int) (l:List Int):bumpS t s l []=quoS t s l:=by
  apply ext_rd (by simp [bumpS_len,quoS])
  intro i hi;rw[bumpS_len] at hi;rw[rd_bumpS _ _ _ _ _ hi];unfold quoS;rw[rd_map _ _ i hi];simp
theorem bumpS_step (t s:Int) (l D:List Int) (i:Nat) (h:i < l.length) (hD:(i:Int) ∉ D):(bumpS t s l D).set i (rd (bumpS t s l D) (i:Int)+1)=bumpS t s l (D ++ [(i:Int)]):=by
  apply ext_rd (by simp [bumpS_len])
  intro j hj;have hj':j < l.length:=by simpa [bumpS_len] using hj
  rw[rd_set _ _ _ _ (by rw[bumpS_len];exact hj'),rd_bumpS _ _ _ _ _ hj',rd_bumpS _ _ _ _ _ hj',rd_bumpS _ _ _ _ _ h]
  by_cases e:i=j
  · subst e
    simp [hD]
  · rw[if_neg e]
    have:((j:Int) ∈ D ++ [(i:Int)]) ↔ (j:Int) ∈ D:=by
      rw[List.mem_append,List.mem_singleton];constructor
      · rintro (h|h)
        · exact h
        · omega
      · exact Or.inl
    simp only[this]
theorem quo_le {t w s:Int} (ht0:0≤t) (hw0:0≤w) (hws:w≤s):0≤t * w / s∧t * w / s≤t:=by
  by_cases h:s=0
  · rw[h,Int.ediv_zero];omega
  have hX0:0≤t * w:=Int.mul_nonneg ht0 hw0;refine⟨Int.ediv_nonneg hX0 (by omega),?_⟩
  have h1:t * w≤t * s:=Int.mul_le_mul_of_nonneg_left hws ht0;have h2:=Int.ediv_le_ediv (show 0 < s by omega) h1
  rwa [Int.mul_ediv_cancel _ h] at h2
theorem sum_quo_rem (t s:Int) (l:List Int):s * (quoS t s l).sum+(remS t s l).sum=t * l.sum:=by
  induction l with
  | nil=>simp [quoS,remS]
  | cons x l ih =>
    unfold quoS remS at ih ⊢;rw[List.map_cons,List.map_cons,List.sum_cons,List.sum_cons,List.sum_cons,Int.mul_add,Int.mul_add,← ih];have:=Int.mul_ediv_add_emod (t * x) s;omega
theorem rem_bounds {t s:Int} {l:List Int} (hs:0 < s):∀ y ∈ remS t s l,0≤y∧y < s:=by
  intro y hy;unfold remS at hy;obtain⟨w,_,rfl⟩:=List.mem_map.1 hy;exact⟨Int.emod_nonneg _ (by omega),Int.emod_lt_of_pos _ hs⟩
theorem sum_le_mul {m:Int} {l:List Int} (h:∀ y ∈ l,0≤y∧y≤m):0≤l.sum∧l.sum≤m * l.length:=sum_bounds (inAll_iff.2 h)
theorem sum_nonneg {l:List Int} (h:∀ w ∈ l,0≤w):0≤l.sum:=by
  induction l with
  | nil=>simp
  | cons x l ih =>
    have h1:=h x List.mem_cons_self;have h2:=ih (fun w hw=>h w (List.mem_cons_of_mem _ hw))
    rw[List.sum_cons];omega
theorem quoS_zero (t s:Int) (l:List Int) (h:∀ w ∈ l,t * w / s=0):quoS t s l=List.replicate l.length 0:=by
  unfold quoS;rw[List.eq_replicate_iff];refine⟨by simp,?_⟩
  intro b hb;obtain⟨w,hw,rfl⟩:=List.mem_map.1 hb;exact h w hw
theorem left_bounds {t:Int} {l:List Int} (hl0:0 < l.length) (ht0:0≤t) (hl:∀ w ∈ l,0≤w) (hz:l.sum=0→t=0):0≤leftS t l.sum l∧leftS t l.sum l≤l.length∧(0 < l.sum→leftS t l.sum l < l.length):=by
  unfold leftS;by_cases h0:l.sum=0
  · have ht:=hz h0
    have:(quoS t l.sum l).sum=0:=by
      rw[ht];unfold quoS;have e:l.map (fun w=>0 * w / l.sum)=List.replicate l.length 0:=by
        rw[List.eq_replicate_iff];refine⟨by simp,?_⟩
        intro b hb;obtain⟨w,_,rfl⟩:=List.mem_map.1 hb;simp
      rw[e];simp
    rw[this,ht,h0];refine⟨by omega,by omega,by omega⟩
  · have hs:0≤l.sum:=sum_nonneg hl
    have hs:0 < l.sum:=by omega
    have hq:=sum_quo_rem t l.sum l;have hr:=sum_le_mul (m:=l.sum - 1) (l:=remS t l.sum l) (fun y hy=>by have:=rem_bounds hs y hy;omega)
    have hrl:((remS t l.sum l).length:Int)=l.length:=by simp [remS]
    rw[hrl] at hr;generalize hS:l.sum=s at *;generalize (quoS t s l).sum=q at *;generalize (remS t s l).sum=r at *;generalize hn:(l.length:Int)=n at *;have hn0:0 < n:=by omega
    have e:s * (t - q)=r:=by
      rw[Int.mul_sub,Int.mul_comm s t];omega
    have h1:0≤t - q:=by
      by_cases h:0≤t - q
      · exact h
      · have:=Int.mul_le_mul_of_nonneg_left (show t - q≤-1 by omega) (show 0≤s by omega)
        omega
    have h2:t - q < n:=by
      by_cases h:t - q < n
      · exact h
      · have:=Int.mul_le_mul_of_nonneg_left (show n≤t - q by omega) (show 0≤s by omega)
        rw[e] at this;have e2:(s - 1) * n=s * n - n:=by rw[Int.sub_mul];omega
        omega
    exact⟨h1,by omega,fun _=>h2⟩
theorem split_l1 (t s:Int) (l L:List Int) (ht0:0≤t) (ht:t≤1125899906842624) (hw:∀ w ∈ l,0≤w∧w≤s) (hn:L.Nodup) (hm:∀ i ∈ L,0≤i∧i < (l.length:Int)) (hl:l.length≤1000000) (hLl:L.length≤1000000) :
    ∀ todo D,D ++ todo=L→Tells (fun k=>Azp.l1 k (bumpS t s l D) L (L.length:Int) (D.length:Int)) (bumpS t s l L,0):=by
  intro todo;induction todo with
  | nil =>
    intro D hD;rw[List.append_nil] at hD;subst hD;refine Tells.up (Tells.const _) (fun k=>?_)
    rw[Azp.l1];rw[if_neg (by omega)]
  | cons x todo ih =>
    intro D hD;have hlen:L.length=D.length+todo.length+1:=by rw[← hD];simp;omega
    have hx:=hm x (by rw[← hD];simp)
    have hxD:x ∉ D:=by
      rw[← hD,List.nodup_append] at hn;intro h;exact hn.2.2 x h x List.mem_cons_self rfl
    obtain⟨i,rfl⟩:∃ i:Nat,x=(i:Int):=⟨x.toNat,by omega⟩
    have hi:i < l.length:=by omega
    have e1:rd L (D.length:Int)=(i:Int):=rd_mid' hD.symm rfl;have hb:rd (bumpS t s l D) (i:Int)=t * rd l i / s:=by rw[rd_bumpS _ _ _ _ _ hi,if_neg hxD,Int.add_zero]
    have hq:=quo_le ht0 (hw _ (rd_mem l i (by omega) (by omega))).1 (hw _ (rd_mem l i (by omega) (by omega))).2
    refine Tells.up (g:=fun k=>Azp.l1 k (bumpS t s l (D ++ [(i:Int)])) L (L.length:Int) ((D ++ [(i:Int)]).length:Int)) ?_ (fun k=>by
      rw[Azp.l1];rw[if_pos (by omega),if_pos (by omega),if_pos (by omega),e1,if_pos (by omega),if_pos (by rw[bumpS_len];omega),wrap64_id (n:=rd (bumpS t s l D) (i:Int)+1) (by rw[hb];omega) (by rw[hb];omega),wrap64_id (by omega) (by omega)]
      rw[Int.toNat_natCast,bumpS_step t s l D i hi hxD];simp)
    exact ih (D ++ [(i:Int)]) (by rw[← hD];simp)
theorem split_l0 (t s:Int) (l:List Int) (out:List Int × Int) (ht0:0≤t) (ht:t≤1125899906842624) (hs:s≤1125899906842624) (hw:∀ w ∈ l,0≤w∧w≤s) (hl:l.length≤1000)
    (hend:Tells (fun k=>Azp.l0 k t s (quoS t s l) (idx l.length) (leftS t s l) l (l.length:Int) (l.length:Int) (remS t s l)) out) :
    ∀ r pre,pre ++ r=l→Tells (fun k=>Azp.l0 k t s (quoS t s pre ++ List.replicate r.length 0) (idx pre.length ++ List.replicate r.length 0) (t - (quoS t s pre).sum) l (l.length:Int) (pre.length:Int) (remS t s pre ++ List.replicate r.length 0)) out:=by
  intro r;induction r with
  | nil =>
    intro pre h;rw[List.append_nil] at h;subst h;simpa [leftS] using hend
  | cons x r ih =>
    intro pre h;have hlen:l.length=pre.length+r.length+1:=by rw[← h];simp;omega
    have hx:=hw x (by rw[← h];simp)
    have e1:rd l (pre.length:Int)=x:=rd_mid' h.symm rfl;have hq:=quo_le ht0 hx.1 hx.2;have hqs:=sum_le_mul (m:=t) (l:=quoS t s pre) (fun y hy=>by
      unfold quoS at hy;obtain⟨w,hw',rfl⟩:=List.mem_map.1 hy;have:=hw w (by rw[← h];exact List.mem_append_left _ hw')
      exact quo_le ht0 this.1 this.2)
    have hql:(quoS t s pre).length=pre.length:=by simp [quoS]
    have hrl:(remS t s pre).length=pre.length:=by simp [remS]
    have hil:(idx pre.length).length=pre.length:=idx_len _;rw[hql] at hqs;have hmul:t * (pre.length:Int)≤1125899906842624 * 1000:=by
      have a:=Int.mul_le_mul_of_nonneg_right ht (show(0:Int)≤(pre.length:Int) by omega)
      omega
    have sA:(quoS t s pre ++ List.replicate (x :: r).length 0).set (pre.length:Int).toNat (t * x / s)=quoS t s (pre ++ [x]) ++ List.replicate r.length 0:=by
      rw[set_mid' (A:=quoS t s pre) (x:=0) (B:=List.replicate r.length 0) (by rw[List.length_cons,List.replicate_succ]) (by rw[hql])]
      simp [quoS]
    have sB:(remS t s pre ++ List.replicate (x :: r).length 0).set (pre.length:Int).toNat (t * x % s)=remS t s (pre ++ [x]) ++ List.replicate r.length 0:=by
      rw[set_mid' (A:=remS t s pre) (x:=0) (B:=List.replicate r.length 0) (by rw[List.length_cons,List.replicate_succ]) (by rw[hrl])]
      simp [remS]
    have sC:(idx pre.length ++ List.replicate (x :: r).length 0).set (pre.length:Int).toNat (pre.length:Int)=idx (pre ++ [x]).length ++ List.replicate r.length 0:=by
      rw[set_mid' (A:=idx pre.length) (x:=0) (B:=List.replicate r.length 0) (by rw[List.length_cons,List.replicate_succ]) (by rw[hil])]
      rw[List.length_append,List.length_singleton,idx_succ];simp
    have eq:rd (quoS t s (pre ++ [x]) ++ List.replicate r.length 0) (pre.length:Int)=t * x / s :=
      rd_mid' (A:=quoS t s pre) (B:=List.replicate r.length 0) (by simp [quoS]) (by rw[hql])
    refine Tells.up (ih (pre ++ [x]) (by rw[← h];simp)) (fun k=>?_)
    rw[Azp.l0];rw[if_pos (by omega),if_pos (by omega),if_pos (by omega),e1,quotient_val t x s ht0 ht hx.1 hx.2 hs]
    simp only[Option.bind_some];rw[if_pos (by simp [hql];omega),sA,if_pos (by simp [hrl];omega),if_pos (by simp [hil];omega),sC,eq,sB,wrap64_id (by omega) (by omega),wrap64_id (by omega) (by omega)]
    have e2:t - (quoS t s (pre ++ [x])).sum=t - (quoS t s pre).sum - t * x / s:=by
      simp [quoS];omega
    rw[e2,List.length_append,List.length_singleton];rfl
theorem split_tells_of {N:Nat} (hsort:∀ (R:List Int) (n:Nat),R.length=n→n≤N→(∀ y ∈ R,0≤y∧y≤1125899906842624)→Tells (fun k=>Bzk.f k (idx n) [R]) (ordS R n)) (t:Int) (l:List Int) (hl:l.length≤N) (hN:N≤1000):Tells (fun k=>Azp.f k t l) (splitS t l):=by
  refine Tells.congr (g:=fun k=>(Bzf.f k t l).bind fun b=>if b.2=0 then Azp.l0 k t b.1 (List.replicate l.length 0) (List.replicate l.length 0) t l (l.length:Int) 0 (List.replicate l.length 0) else some ([],b.2)) ?_ (fun k=>by
    unfold Azp.f;congr 1;funext b
    rw[if_pos (show 0≤(l.length:Int) by omega),if_pos (show((l.length:Int):Int).toNat≤35184372088832 by omega)]
    rfl)
  refine Tells.bind (shCheck_tells t l (by omega)) ?_
  unfold splitS;refine Tells.ite (fun hc=>?_) (fun _=>Tells.const _)
  obtain⟨ht0,ht,hl0,hl1,hin,hs,hz,he⟩:=shCheck_ok hc;rw[he];have hw:∀ w ∈ l,0≤w∧w≤l.sum:=fun w hw=>⟨(inAll_iff.1 hin w hw).1,sum_mem_le hin w hw⟩
  have hlb:=left_bounds hl0 ht0 (fun w h=>(hw w h).1) hz
  have:=split_l0 t l.sum l (partsSp t l.sum l,0) ht0 ht hs hw (by omega) ?_ l [] rfl
  · simpa [quoS,remS,idx] using this
  have hR:∀ y ∈ remS t l.sum l,0≤y∧y≤1125899906842624:=by
    intro y hy;by_cases h0:l.sum=0
    · have ht:=hz h0
      unfold remS at hy;obtain⟨w,_,rfl⟩:=List.mem_map.1 hy;rw[ht];simp
    · have hs0:0≤l.sum:=sum_nonneg (fun w h=>(hw w h).1)
      have:=rem_bounds (show 0 < l.sum by omega) y hy
      omega
  refine Tells.up (g:=fun k=>(Bzk.f k (idx l.length) [remS t l.sum l]).bind fun o=>Azp.l1 k (quoS t l.sum l) (o.take (leftS t l.sum l).toNat) ((o.take (leftS t l.sum l).toNat).length:Int) 0) ?_ (fun k=>by
    rw[Azp.l0];rw[if_neg (by omega)]
    congr 1;funext o
    rw[if_pos hlb.1,if_pos (by rw[idx_len];exact hlb.2.1)]
    rfl)
  refine Tells.bind (hsort _ l.length (by simp [remS]) hl hR) ?_
  have hsub:=List.take_sublist (leftS t l.sum l).toNat (ordS (remS t l.sum l) l.length);have:=split_l1 t l.sum l ((ordS (remS t l.sum l) l.length).take (leftS t l.sum l).toNat) ht0 ht hw (hsub.nodup (ordS_nodup _ _)) (fun i hi=>mem_ordS.1 (hsub.subset hi)) (by omega) (by rw[List.length_take,ordS_len];omega) _ [] rfl
  rw[bumpS_nil] at this;exact this


theorem half_val (x y:Int) (h0:0≤x+y) (h1:x+y < 1000000):wrap64 ((IntKind.u64.wrap (wrap64 (x+y))) / 2)=(x+y) / 2:=by
  have e:IntKind.u64.wrap (wrap64 (x+y))=x+y:=by
    rw[wrap64_id (by omega) (by omega)]
    exact Bzv.w64 _ (by omega) (by omega)
  rw[e,wrap64_id (by omega) (by omega)]
theorem cmp_val (R:List Int) (x y:Int) (hR:∀ z ∈ R,0≤z∧z≤1125899906842624) (hx:0≤x∧x < (R.length:Int)) (hy:0≤y∧y < (R.length:Int)):Czj.f x y [R]=some (rd R y - rd R x):=by
  show(if 0 < (([R]:List (List Int)).length:Int) then(if 0≤y then(if y < (R.length:Int) then(if 0≤x then(if x < (R.length:Int) then some (wrap64 (rd R y - rd R x)) else none) else none) else none) else none) else none)=_
  have h1:=hR _ (rd_mem R y hy.1 hy.2);have h2:=hR _ (rd_mem R x hx.1 hx.2);rw[if_pos (by simp),if_pos (by omega),if_pos (by omega),if_pos (by omega),if_pos (by omega),wrap64_id (by omega) (by omega)]
theorem rd_seg (A B C:List Int) (i:Nat) (h0:A.length≤i) (h1:i < A.length+B.length):rd (A ++ B ++ C) (i:Int)=rd B ((i - A.length:Nat):Int):=by
  show(A ++ B ++ C).getD (i:Int).toNat 0=B.getD ((i - A.length:Nat):Int).toNat 0
  rw[Int.toNat_natCast,Int.toNat_natCast,List.append_assoc,List.getD_eq_getElem?_getD,List.getD_eq_getElem?_getD,List.getElem?_append_right h0,List.getElem?_append_left (by omega)]
theorem swapRange_tells (pars:List (List Int)) (A C B:List Int) (n:Nat) (hN:A.length+n+C.length+n+B.length≤100000):∀ (X2 Y2 X1 Y1:List Int),X1.length=Y1.length→X2.length=Y2.length→X1.length+X2.length=n →
    Tells (fun k=>Azv.l0 k (A ++ Y1 ++ X2 ++ C ++ X1 ++ Y2 ++ B) (A.length:Int) ((A.length+n+C.length:Nat):Int) (n:Int) (X1.length:Int)) (A ++ (Y1 ++ Y2) ++ C ++ (X1 ++ X2) ++ B):=by
  intro X2;induction X2 with
  | nil =>
    intro Y2 X1 Y1 h1 h2 h3;have:Y2=[]:=List.eq_nil_of_length_eq_zero (by simpa using h2.symm)
    subst this;refine Tells.up (Tells.const _) (fun k=>?_)
    rw[Azv.l0];rw[if_neg (by simp at h3;omega)]
    simp
  | cons x X2 ih =>
    intro Y2 X1 Y1 h1 h2 h3;cases Y2 with
    | nil=>simp at h2
    | cons y Y2 =>
      rw[List.length_cons,List.length_cons] at h2;rw[List.length_cons] at h3;have hn:=ih Y2 (X1 ++ [x]) (Y1 ++ [y]) (by simp [h1]) (by omega) (by simp;omega)
      have i1:wrap64 ((A.length:Int)+(X1.length:Int))=((A ++ Y1).length:Int):=by rw[wrap64_id (by omega) (by omega)];simp;omega
      have i2:wrap64 (((A.length+n+C.length:Nat):Int)+(X1.length:Int))=((A ++ Y1 ++ x :: X2 ++ C ++ X1).length:Int):=by rw[wrap64_id (by omega) (by omega)];simp;omega
      have r1:rd (A ++ Y1 ++ x :: X2 ++ C ++ X1 ++ y :: Y2 ++ B) ((A ++ Y1).length:Int)=x:=rd_mid' (A:=A ++ Y1) (B:=X2 ++ C ++ X1 ++ y :: Y2 ++ B) (by simp) rfl
      have r2:rd (A ++ Y1 ++ x :: X2 ++ C ++ X1 ++ y :: Y2 ++ B) ((A ++ Y1 ++ x :: X2 ++ C ++ X1).length:Int)=y:=rd_mid' (A:=A ++ Y1 ++ x :: X2 ++ C ++ X1) (B:=Y2 ++ B) (by simp) rfl
      have s1:(A ++ Y1 ++ x :: X2 ++ C ++ X1 ++ y :: Y2 ++ B).set ((A ++ Y1).length:Int).toNat y=A ++ Y1 ++ y :: (X2 ++ C ++ X1 ++ y :: Y2 ++ B):=set_mid' (A:=A ++ Y1) (x:=x) (by simp) rfl
      have s2:(A ++ Y1 ++ y :: (X2 ++ C ++ X1 ++ y :: Y2 ++ B)).set ((A ++ Y1 ++ x :: X2 ++ C ++ X1).length:Int).toNat x=A ++ Y1 ++ y :: X2 ++ C ++ X1 ++ x :: (Y2 ++ B):=set_mid' (A:=A ++ Y1 ++ y :: X2 ++ C ++ X1) (x:=y) (by simp) (by simp)
      have hlen:((A ++ Y1 ++ x :: X2 ++ C ++ X1 ++ y :: Y2 ++ B).length:Int)=A.length+Y1.length+X2.length+1+C.length+X1.length+Y2.length+1+B.length:=by simp;omega
      have l1:((A ++ Y1).length:Int)=A.length+Y1.length:=by simp
      have l2:((A ++ Y1 ++ x :: X2 ++ C ++ X1).length:Int)=A.length+Y1.length+X2.length+1+C.length+X1.length:=by simp;omega
      refine Tells.up (g:=fun k=>Azv.l0 k (A ++ (Y1 ++ [y]) ++ X2 ++ C ++ (X1 ++ [x]) ++ Y2 ++ B) (A.length:Int) ((A.length+n+C.length:Nat):Int) (n:Int) ((X1 ++ [x]).length:Int)) ?_ (fun k=>by
        rw[Azv.l0];rw[if_pos (by omega),i1,i2,if_pos (by omega),if_pos (by omega),if_pos (by omega),if_pos (by omega),r1,r2,s1,s2,wrap64_id (by omega) (by omega)]
        simp)
      simpa using hn
theorem swap_tells (pars:List (List Int)) (A X C Y B:List Int) (hXY:X.length=Y.length) (hN:A.length+X.length+C.length+X.length+B.length≤100000):Tells (fun k=>Azv.f k (A ++ X ++ C ++ Y ++ B) (A.length:Int) ((A.length+X.length+C.length:Nat):Int) (X.length:Int) pars) (A ++ Y ++ C ++ X ++ B):=by
  have:=swapRange_tells pars A C B X.length hN X Y [] [] rfl hXY (by simp)
  refine Tells.congr (g:=fun k=>Azv.l0 k (A ++ X ++ C ++ Y ++ B) (A.length:Int) ((A.length+X.length+C.length:Nat):Int) (X.length:Int) 0) ?_ (fun k=>by unfold Azv.f;rfl)
  simpa using this
theorem rotate_l0 (pars:List (List Int)) (m:Nat) (hm:m≤10000):∀ (d:Nat) (A X Y B:List Int),X.length+Y.length≤d→1≤X.length→1≤Y.length→A.length+X.length=m→A.length+X.length+Y.length+B.length≤10000 →
    Tells (fun k=>Azk.l0 k (A ++ X ++ Y ++ B) (m:Int) (X.length:Int) (Y.length:Int) pars) (A ++ Y ++ X ++ B):=by
  intro d;induction d with
  | zero=>intro A X Y B h1 h2;omega
  | succ d ih =>
    intro A X Y B hd hX hY hA hB;have hmi:wrap64 ((m:Int) - (X.length:Int))=(A.length:Int):=by rw[wrap64_id (by omega) (by omega)];omega
    by_cases e:X.length=Y.length
    · refine Tells.up (g:=fun k=>(Azv.f k (A ++ X ++ Y ++ B) (A.length:Int) (m:Int) (X.length:Int) pars).bind fun t=>some t) ?_ (fun k=>by
        rw[Azk.l0];rw[if_pos (by omega),hmi])
      have:=swap_tells pars A X [] Y B e (by simp;omega)
      rw[List.append_nil,List.append_nil,List.length_nil,Nat.add_zero,hA] at this;exact Tells.bind this (Tells.const _)
    · by_cases c:X.length > Y.length
      · have hX12:X=X.take Y.length ++ X.drop Y.length:=(List.take_append_drop _ _).symm
        have hlt:Y.length < X.length:=by omega
        clear e c;have hl1:(X.take Y.length).length=Y.length:=by rw[List.length_take];omega
        have hl2:(X.drop Y.length).length+Y.length=X.length:=by rw[List.length_drop];omega
        generalize X.take Y.length=X1 at *;generalize X.drop Y.length=X2 at *;refine Tells.up (g:=fun k=>(Azv.f k (A ++ X ++ Y ++ B) (A.length:Int) (m:Int) (Y.length:Int) pars).bind fun t=>Azk.l0 k t (m:Int) (X2.length:Int) (Y.length:Int) pars) ?_ (fun k=>by
          rw[Azk.l0];rw[if_neg (by omega),if_pos (by omega),hmi,wrap64_id (n:=(X.length:Int) - (Y.length:Int)) (by omega) (by omega)]
          rw[show(X.length:Int) - (Y.length:Int)=(X2.length:Int) by omega])
        have hs:=swap_tells pars A X1 X2 Y B hl1 (by omega)
        rw[hl1,show A.length+Y.length+X2.length=m by omega] at hs
        have hn:=ih (A ++ Y) X2 X1 B (by omega) (by omega) (by omega) (by rw[List.length_append];omega) (by rw[List.length_append];omega)
        rw[hl1] at hn;rw[hX12];refine Tells.bind (r:=A ++ Y ++ X2 ++ X1 ++ B) (by simpa using hs) ?_
        simpa using hn
      · have hY12:Y=Y.take (Y.length - X.length) ++ Y.drop (Y.length - X.length):=(List.take_append_drop _ _).symm
        have hlt:X.length < Y.length:=by omega
        clear e c;have hl1:(Y.take (Y.length - X.length)).length+X.length=Y.length:=by rw[List.length_take];omega
        have hl2:(Y.drop (Y.length - X.length)).length=X.length:=by rw[List.length_drop];omega
        generalize Y.take (Y.length - X.length)=Y1 at *;generalize Y.drop (Y.length - X.length)=Y2 at *;have hmj:wrap64 (wrap64 ((m:Int)+(Y.length:Int)) - (X.length:Int))=((A.length+X.length+Y1.length:Nat):Int):=by
          rw[wrap64_id (n:=(m:Int)+(Y.length:Int)) (by omega) (by omega),wrap64_id (by omega) (by omega)];omega
        have hmk:wrap64 ((Y.length:Int) - (X.length:Int))=(Y1.length:Int):=by rw[wrap64_id (by omega) (by omega)];omega
        refine Tells.up (g:=fun k=>(Azv.f k (A ++ X ++ Y ++ B) (A.length:Int) ((A.length+X.length+Y1.length:Nat):Int) (X.length:Int) pars).bind fun t=>Azk.l0 k t (m:Int) (X.length:Int) (Y1.length:Int) pars) ?_ (fun k=>by
          rw[Azk.l0];rw[if_neg (show ¬ (X.length:Int)=(Y.length:Int) by omega),if_neg (show ¬ (X.length:Int) > (Y.length:Int) by omega),hmi,hmj,hmk])
        have hs:=swap_tells pars A X Y1 Y2 B hl2.symm (by omega)
        have hn:=ih A Y2 Y1 (X ++ B) (by omega) (by omega) (by omega) (by omega) (by rw[List.length_append];omega)
        rw[hl2] at hn;rw[hY12];refine Tells.bind (r:=A ++ Y2 ++ Y1 ++ X ++ B) (by simpa using hs) ?_
        simpa using hn
theorem rotate_tells (pars:List (List Int)) (A X Y B:List Int) (hX:1≤X.length) (hY:1≤Y.length) (hN:A.length+X.length+Y.length+B.length≤10000):Tells (fun k=>Azk.f k (A ++ X ++ Y ++ B) (A.length:Int) ((A.length+X.length:Nat):Int) ((A.length+X.length+Y.length:Nat):Int) pars) (A ++ Y ++ X ++ B):=by
  refine Tells.congr (rotate_l0 pars (A.length+X.length) (by omega) (X.length+Y.length) A X Y B (Nat.le_refl _) hX hY rfl hN) (fun k=>?_)
  unfold Azk.f;rw[wrap64_id (by omega) (by omega),wrap64_id (by omega) (by omega)]
  congr 1 <;> omega

structure Blocks (R L M:List Int):Prop where
  l:L.Pairwise (ltR R)
  r:M.Pairwise (ltR R)
  lr:∀ x ∈ L,∀ y ∈ M,x < y
  okl:∀ x ∈ L,0≤x∧x < (R.length:Int)
  okr:∀ x ∈ M,0≤x∧x < (R.length:Int)
theorem ltR_ge {R:List Int} {x y:Int} (h:ltR R x y):rd R y≤rd R x:=by unfold ltR at h;omega
/-- The elements with a greater remainder stand ahead. -/
theorem cut_gt (R:List Int) (v:Int):∀ M:List Int,M.Pairwise (ltR R)→∃ A B,M=A ++ B∧(∀ y ∈ A,rd R y > v)∧(∀ y ∈ B,rd R y≤v):=by
  intro M;induction M with
  | nil=>intro _;exact⟨[],[],rfl,by simp,by simp⟩
  | cons z M ih =>
    intro h;rw[List.pairwise_cons] at h;by_cases c:rd R z > v
    · obtain⟨A,B,e,hA,hB⟩:=ih h.2
      refine⟨z :: A,B,by rw[e];rfl,fun y hy=>?_,hB⟩
      rcases List.mem_cons.1 hy with rfl|hy
      · exact c
      · exact hA y hy
    · refine⟨[],z :: M,rfl,by simp,fun y hy=>?_⟩
      rcases List.mem_cons.1 hy with rfl|hy
      · omega
      · have:=ltR_ge (h.1 y hy);omega
theorem rd_pre (A B C:List Int) (i:Nat) (h0:A.length≤i) (h1:i < A.length+B.length):rd (A ++ (B ++ C)) (i:Int) ∈ B:=by
  rw[← List.append_assoc,rd_seg A B C i h0 h1];exact rd_mem B _ (by omega) (by omega)
theorem sym_l1 (P Q:List Int) (x:Int) (i:Nat) (hN:P.length+Q.length≤50000):∀ (todo P':List Int),P'.length+todo.length+1=i→P'.length+todo.length+Q.length≤100000→i≤100000 →
    Tells (fun k=>Azz.l1 k (P' ++ x :: todo ++ Q) (i:Int) (P'.length:Int)) (P' ++ todo ++ x :: Q):=by
  intro todo;induction todo with
  | nil =>
    intro P' hi hl hi2;refine Tells.up (Tells.const _) (fun k=>?_)
    rw[Azz.l1];rw[if_neg (by rw[wrap64_id (by omega) (by omega)];simp at hi;omega)]
    simp
  | cons y todo ih =>
    intro P' hi hl hi2;rw[List.length_cons] at hi hl;have hn:=ih (P' ++ [y]) (by simp;omega) (by simp;omega) hi2
    have hlen:((P' ++ x :: y :: todo ++ Q).length:Int)=P'.length+todo.length+2+Q.length:=by simp;omega
    have w1:wrap64 ((P'.length:Int)+1)=(P'.length:Int)+1:=wrap64_id (by omega) (by omega)
    have w2:wrap64 ((i:Int) - 1)=(i:Int) - 1:=wrap64_id (by omega) (by omega)
    have c1:(P'.length:Int) < (i:Int) - 1:=by omega
    have c2:0≤(P'.length:Int)+1:=by omega
    have c3:(P'.length:Int)+1 < ((P' ++ x :: y :: todo ++ Q).length:Int):=by rw[hlen];omega
    have c4:0≤(P'.length:Int):=by omega
    have c5:(P'.length:Int) < ((P' ++ x :: y :: todo ++ Q).length:Int):=by rw[hlen];omega
    have r1:rd (P' ++ x :: y :: todo ++ Q) (P'.length:Int)=x:=rd_mid' (A:=P') (B:=y :: todo ++ Q) (by simp) rfl
    have r2:rd (P' ++ x :: y :: todo ++ Q) ((P'.length:Int)+1)=y:=rd_mid' (A:=P' ++ [x]) (B:=todo ++ Q) (by simp) (by simp)
    have s1:(P' ++ x :: y :: todo ++ Q).set (P'.length:Int).toNat y=P' ++ y :: (y :: todo ++ Q):=set_mid' (A:=P') (x:=x) (by simp) rfl
    have s2:(P' ++ y :: (y :: todo ++ Q)).set ((P'.length:Int)+1).toNat x=P' ++ [y] ++ x :: (todo ++ Q):=set_mid' (A:=P' ++ [y]) (x:=y) (by simp) (by simp)
    refine Tells.up (g:=fun k=>Azz.l1 k (P' ++ [y] ++ x :: todo ++ Q) (i:Int) ((P' ++ [y]).length:Int)) ?_ (fun k=>by
      rw[Azz.l1];rw[w1,w2,if_pos c1,if_pos c2,if_pos c3,if_pos c4,if_pos c5,r1,r2,s1,s2];simp)
    simpa using hn
theorem sym_l0 (R D:List Int) (a x:Int) (e:Nat) (lo hi:Nat) (out:List Int) (hR:∀ z ∈ R,0≤z∧z≤1125899906842624) (hx:0≤x∧x < (R.length:Int)) (ha:0≤a∧a < (D.length:Int)) (hax:rd D a=x) (hD:D.length≤100000) (hhi:hi≤D.length)
    (hok:∀ q:Nat,lo≤q→q < hi→0≤rd D (q:Int)∧rd D (q:Int) < (R.length:Int)) (hlt:∀ q:Nat,lo≤q→q < e→rd R (rd D (q:Int)) > rd R x) (hge:∀ q:Nat,e≤q→q < hi→rd R (rd D (q:Int))≤rd R x)
    (hend:Tells (fun k=>Azz.l1 k D (e:Int) a) out):∀ (d i j:Nat),j - i≤d→lo≤i→i≤e→e≤j→j≤hi→Tells (fun k=>Azz.l0 k D a (i:Int) (j:Int) [R]) out:=by
  intro d;induction d with
  | zero =>
    intro i j h1 h2 h3 h4 h5;obtain rfl:i=e:=by omega
    obtain rfl:j=i:=by omega
    refine Tells.up hend (fun k=>?_)
    rw[Azz.l0];rw[if_neg (by omega)]
  | succ d ih =>
    intro i j h1 h2 h3 h4 h5;by_cases c:i < j
    · have hh:=half_val (i:Int) (j:Int) (by omega) (by omega)
      obtain⟨q,hq⟩:∃ q:Nat,((i:Int)+(j:Int)) / 2=(q:Int):=⟨(i+j) / 2,by omega⟩
      rw[hq] at hh;have hqi:i≤q∧q < j:=by omega
      have hokq:=hok q (by omega) (by omega)
      have hc:=cmp_val R (rd D (q:Int)) x hR hokq hx;by_cases c2:q < e
      · have hgt:=hlt q (by omega) c2
        refine Tells.up (ih (q+1) j (by omega) (by omega) (by omega) h4 h5) (fun k=>?_)
        rw[Azz.l0];rw[if_pos (by omega),hh,if_pos (by omega),if_pos (by omega),if_pos ha.1,if_pos ha.2,hax,hc]
        simp only[Option.bind_some];rw[if_pos (by omega),wrap64_id (by omega) (by omega)]
        rfl
      · have hle:=hge q (by omega) (by omega)
        refine Tells.up (ih i q (by omega) h2 h3 (by omega) (by omega)) (fun k=>?_)
        rw[Azz.l0];rw[if_pos (by omega),hh,if_pos (by omega),if_pos (by omega),if_pos ha.1,if_pos ha.2,hax,hc]
        simp only[Option.bind_some];rw[if_neg (by omega)]
    · obtain rfl:i=e:=by omega
      obtain rfl:j=i:=by omega
      refine Tells.up hend (fun k=>?_)
      rw[Azz.l0];rw[if_neg (by omega)]
theorem sym_l3 (Q:List Int) (y:Int) (i:Nat):∀ (todo P tail:List Int),P.length=i→P.length+todo.length+tail.length≤100000 →
    Tells (fun k=>Azz.l3 k (P ++ todo.reverse ++ y :: tail) (i:Int) ((P.length+todo.length:Nat):Int)) (P ++ y :: todo.reverse ++ tail):=by
  intro todo;induction todo with
  | nil =>
    intro P tail hi hl;refine Tells.up (Tells.const _) (fun k=>?_)
    rw[Azz.l3];rw[if_neg (by simp;omega)]
    simp
  | cons z todo ih =>
    intro P tail hi hl;rw[List.length_cons] at hl;have hn:=ih P (z :: tail) hi (by simp;omega)
    have hp:(((P.length+(z :: todo).length:Nat):Int))=((P.length+todo.length:Nat):Int)+1:=by simp;omega
    have hlen:((P ++ (z :: todo).reverse ++ y :: tail).length:Int)=P.length+todo.length+2+tail.length:=by simp;omega
    have w1:wrap64 (((P.length+todo.length:Nat):Int)+1 - 1)=((P.length+todo.length:Nat):Int):=by rw[wrap64_id (by omega) (by omega)];omega
    have c1:((P.length+todo.length:Nat):Int)+1 > (i:Int):=by omega
    have c2:0≤((P.length+todo.length:Nat):Int):=by omega
    have c3:((P.length+todo.length:Nat):Int) < ((P ++ (z :: todo).reverse ++ y :: tail).length:Int):=by rw[hlen];omega
    have c4:0≤((P.length+todo.length:Nat):Int)+1:=by omega
    have c5:((P.length+todo.length:Nat):Int)+1 < ((P ++ (z :: todo).reverse ++ y :: tail).length:Int):=by rw[hlen];omega
    have r1:rd (P ++ (z :: todo).reverse ++ y :: tail) (((P.length+todo.length:Nat):Int)+1)=y:=rd_mid' (A:=P ++ (z :: todo).reverse) (B:=tail) rfl (by simp;omega)
    have r2:rd (P ++ (z :: todo).reverse ++ y :: tail) ((P.length+todo.length:Nat):Int)=z:=rd_mid' (A:=P ++ todo.reverse) (B:=y :: tail) (by simp) (by simp)
    have s1:(P ++ (z :: todo).reverse ++ y :: tail).set (((P.length+todo.length:Nat):Int)+1).toNat z=P ++ (z :: todo).reverse ++ z :: tail:=set_mid' (A:=P ++ (z :: todo).reverse) (x:=y) rfl (by simp;omega)
    have s2:(P ++ (z :: todo).reverse ++ z :: tail).set ((P.length+todo.length:Nat):Int).toNat y=P ++ todo.reverse ++ y :: (z :: tail):=set_mid' (A:=P ++ todo.reverse) (x:=z) (by simp) (by simp)
    rw[hp];refine Tells.up (g:=fun k=>Azz.l3 k (P ++ todo.reverse ++ y :: (z :: tail)) (i:Int) ((P.length+todo.length:Nat):Int)) ?_ (fun k=>by
      rw[Azz.l3];rw[if_pos c1,w1,if_pos c2,if_pos c3,if_pos c4,if_pos c5,r1,r2,s1,s2])
    simpa using hn
theorem sym_l2 (R D:List Int) (m y:Int) (e:Nat) (lo hi:Nat) (out:List Int) (hR:∀ z ∈ R,0≤z∧z≤1125899906842624) (hy:0≤y∧y < (R.length:Int)) (hm:0≤m∧m < (D.length:Int)) (hmy:rd D m=y) (hD:D.length≤100000) (hhi:hi≤D.length)
    (hok:∀ q:Nat,lo≤q→q < hi→0≤rd D (q:Int)∧rd D (q:Int) < (R.length:Int)) (hlt:∀ q:Nat,lo≤q→q < e→rd R (rd D (q:Int))≥rd R y) (hge:∀ q:Nat,e≤q→q < hi→rd R (rd D (q:Int)) < rd R y)
    (hend:Tells (fun k=>Azz.l3 k D (e:Int) m) out):∀ (d i j:Nat),j - i≤d→lo≤i→i≤e→e≤j→j≤hi→Tells (fun k=>Azz.l2 k D m (i:Int) (j:Int) [R]) out:=by
  intro d;induction d with
  | zero =>
    intro i j h1 h2 h3 h4 h5;obtain rfl:i=e:=by omega
    obtain rfl:j=i:=by omega
    refine Tells.up hend (fun k=>?_)
    rw[Azz.l2];rw[if_neg (by omega)]
  | succ d ih =>
    intro i j h1 h2 h3 h4 h5;by_cases c:i < j
    · have hh:=half_val (i:Int) (j:Int) (by omega) (by omega)
      obtain⟨q,hq⟩:∃ q:Nat,((i:Int)+(j:Int)) / 2=(q:Int):=⟨(i+j) / 2,by omega⟩
      rw[hq] at hh;have hqi:i≤q∧q < j:=by omega
      have hokq:=hok q (by omega) (by omega)
      have hc:=cmp_val R y (rd D (q:Int)) hR hy hokq;by_cases c2:q < e
      · have hgt:=hlt q (by omega) c2
        refine Tells.up (ih (q+1) j (by omega) (by omega) (by omega) h4 h5) (fun k=>?_)
        rw[Azz.l2];rw[if_pos (by omega),hh,if_pos hm.1,if_pos hm.2,if_pos (by omega),if_pos (by omega),hmy,hc]
        simp only[Option.bind_some];rw[if_neg (by omega),wrap64_id (by omega) (by omega)]
        rfl
      · have hle:=hge q (by omega) (by omega)
        refine Tells.up (ih i q (by omega) h2 h3 (by omega) (by omega)) (fun k=>?_)
        rw[Azz.l2];rw[if_pos (by omega),hh,if_pos hm.1,if_pos hm.2,if_pos (by omega),if_pos (by omega),hmy,hc]
        simp only[Option.bind_some];rw[if_pos (by omega)]
    · obtain rfl:i=e:=by omega
      obtain rfl:j=i:=by omega
      refine Tells.up hend (fun k=>?_)
      rw[Azz.l2];rw[if_neg (by omega)]

theorem pw_idx {R L:List Int} (h:L.Pairwise (ltR R)) {u v:Nat} (huv:u≤v) (hv:v < L.length):rd R (rd L (v:Int))≤rd R (rd L (u:Int)):=by
  rcases Nat.lt_or_eq_of_le huv with h1|h1
  · have:=List.pairwise_iff_getElem.1 h u v (by omega) hv h1
    rw[rd_at L u (by omega),rd_at L v hv]
    exact ltR_ge this
  · subst h1;exact Int.le_refl _
theorem mem_take_idx {L:List Int} {j:Nat} {x:Int} (h:x ∈ L.take j):∃ u:Nat,u < j∧u < L.length∧x=rd L (u:Int):=by
  obtain⟨i,hi,rfl⟩:=List.getElem_of_mem h;rw[List.length_take] at hi;refine⟨i,by omega,by omega,?_⟩
  rw[rd_at L i (by omega),List.getElem_take]
theorem mem_drop_idx {L:List Int} {j:Nat} {x:Int} (h:x ∈ L.drop j):∃ u:Nat,j≤u∧u < L.length∧x=rd L (u:Int):=by
  obtain⟨i,hi,rfl⟩:=List.getElem_of_mem h;rw[List.length_drop] at hi;refine⟨j+i,by omega,by omega,?_⟩
  rw[rd_at L (j+i) (by omega),List.getElem_drop]
/-- Where a property begins that does not end. -/
theorem cut_nat (Q:Nat→Prop):∀ (d lo hi:Nat),hi - lo≤d→lo≤hi→(∀ c c',lo≤c→c≤c'→c' < hi→Q c→Q c')→∃ s,lo≤s∧s≤hi∧(∀ c,lo≤c→c < s→¬ Q c)∧(∀ c,s≤c→c < hi→Q c):=by
  intro d;induction d with
  | zero=>intro lo hi h1 h2 _;exact⟨lo,Nat.le_refl _,h2,fun c _ _=>by omega,fun c _ _=>by omega⟩
  | succ d ih =>
    intro lo hi h1 h2 hm;by_cases e:lo=hi
    · subst e;exact⟨lo,Nat.le_refl _,h2,fun c _ _=>by omega,fun c _ _=>by omega⟩
    · by_cases q:Q lo
      · exact⟨lo,Nat.le_refl _,h2,fun c _ _=>by omega,fun c hc hc2=>hm lo c (Nat.le_refl _) hc hc2 q⟩
      · obtain⟨s,a1,a2,a3,a4⟩:=ih (lo+1) hi (by omega) (by omega) (fun c c' h3 h4 h5=>hm c c' (by omega) h4 h5)
        refine⟨s,by omega,a2,fun c hc hc2=>?_,a4⟩
        by_cases e2:c=lo
        · rw[e2];exact q
        · exact a3 c (by omega) hc2
theorem l4_step (R D:List Int) (a m b mid n:Int) (p i j q:Nat) (hR:∀ z ∈ R,0≤z∧z≤1125899906842624) (hD:D.length≤100000) (c:i < j) (hq:((i:Int)+(j:Int)) / 2=(q:Int)) (hij:i+j < 1000000) (hpq:q≤p∧p - q < D.length∧q < D.length) (hp:p≤100000)
    (hok:(0≤rd D (q:Int)∧rd D (q:Int) < (R.length:Int))∧(0≤rd D ((p - q:Nat):Int)∧rd D ((p - q:Nat):Int) < (R.length:Int))) (k:Nat) :
    Azz.l4 (k+1) D a m b mid n (i:Int) (j:Int) (p:Int) [R]=if rd R (rd D ((p - q:Nat):Int)) > rd R (rd D (q:Int)) then Azz.l4 k D a m b mid n (i:Int) (q:Int) (p:Int) [R] else Azz.l4 k D a m b mid n ((q+1:Nat):Int) (j:Int) (p:Int) [R]:=by
  have c0:(i:Int) < (j:Int):=by omega
  have c1:0≤((p - q:Nat):Int):=Int.natCast_nonneg _;have c2:((p - q:Nat):Int) < (D.length:Int):=Int.ofNat_lt.2 hpq.2.1;have c3:0≤(q:Int):=Int.natCast_nonneg _;have c4:(q:Int) < (D.length:Int):=Int.ofNat_lt.2 hpq.2.2;have w1:wrap64 ((p:Int) - (q:Int))=((p - q:Nat):Int):=by rw[wrap64_id (by omega) (by omega)];omega
  have hq2:q < 1000000:=by omega
  have w2:wrap64 ((q:Int)+1)=((q+1:Nat):Int):=by rw[wrap64_id (by omega) (by omega)];rfl
  have hh:=half_val (i:Int) (j:Int) (by omega) (by omega)
  rw[hq] at hh;have hc:=cmp_val R (rd D ((p - q:Nat):Int)) (rd D (q:Int)) hR hok.2 hok.1;rw[Azz.l4];rw[if_pos c0,hh,w1,if_pos c1,if_pos c2,if_pos c3,if_pos c4,hc,w2];simp only[Option.bind_some];clear hc hok w1 w2 hh hq c0 c1 c2 c3 c4 hpq;by_cases e:rd R (rd D ((p - q:Nat):Int)) > rd R (rd D (q:Int))
  · rw[if_pos e,if_pos (by omega)]
  · rw[if_neg e,if_neg (by omega)]
theorem sym_l4 (R D:List Int) (a m b mid n:Int) (p s lo hi:Nat) (out:List Int) (hR:∀ z ∈ R,0≤z∧z≤1125899906842624) (hD:D.length≤100000) (hhi:hi≤50000) (hp:p≤100000) (hpc:∀ c:Nat,lo≤c→c < hi→c≤p∧p - c < D.length∧c < D.length)
    (hok:∀ q:Nat,lo≤q→q < hi→(0≤rd D (q:Int)∧rd D (q:Int) < (R.length:Int))∧(0≤rd D ((p - q:Nat):Int)∧rd D ((p - q:Nat):Int) < (R.length:Int)))
    (hlt:∀ q:Nat,lo≤q→q < s→¬ rd R (rd D ((p - q:Nat):Int)) > rd R (rd D (q:Int))) (hge:∀ q:Nat,s≤q→q < hi→rd R (rd D ((p - q:Nat):Int)) > rd R (rd D (q:Int)))
    (hend:Tells (fun k=>if(s:Int) < m then Azz.j6 k D a m b mid (s:Int) (wrap64 (n - (s:Int))) (decide (m < wrap64 (n - (s:Int)))) [R] else Azz.j6 k D a m b mid (s:Int) (wrap64 (n - (s:Int))) false [R]) out):∀ (d i j:Nat),j - i≤d→lo≤i→i≤s→s≤j→j≤hi→Tells (fun k=>Azz.l4 k D a m b mid n (i:Int) (j:Int) (p:Int) [R]) out:=by
  intro d;induction d with
  | zero =>
    intro i j h1 h2 h3 h4 h5;obtain rfl:i=s:=by omega
    obtain rfl:j=i:=by omega
    refine Tells.up hend (fun k=>?_)
    rw[Azz.l4];rw[if_neg (by omega)]
  | succ d ih =>
    intro i j h1 h2 h3 h4 h5;by_cases c:i < j
    · obtain⟨q,hq⟩:∃ q:Nat,((i:Int)+(j:Int)) / 2=(q:Int):=⟨(i+j) / 2,by omega⟩
      have hqi:i≤q∧q < j:=by omega
      have hlo:lo≤q:=by omega
      have hhq:q < hi:=by omega
      have hij:i+j < 1000000:=by omega
      have d1:j - (q+1)≤d:=by omega
      have d2:q - i≤d:=by omega
      have d3:lo≤q+1:=by omega
      have d4:q≤hi:=by omega
      have hpq:=hpc q hlo hhq;have st:=l4_step R D a m b mid n p i j q hR hD c hq hij hpq hp (hok q hlo hhq);by_cases c5:q < s
      · refine Tells.up (ih (q+1) j d1 d3 c5 h4 h5) (fun k=>?_)
        rw[st k,if_neg (hlt q hlo c5)]
      · have c6:s≤q:=Nat.le_of_not_lt c5
        refine Tells.up (ih i q d2 h2 h3 c6 d4) (fun k=>?_)
        rw[st k,if_pos (hge q c6 hhq)]
    · obtain rfl:i=s:=by omega
      obtain rfl:j=i:=by omega
      refine Tells.up hend (fun k=>?_)
      rw[Azz.l4];rw[if_neg (by omega)]
/-- Sorted blocks are merged. -/
def Merges (R:List Int) (L M pre post:List Int):Prop:=∃ S,S.Perm (L ++ M)∧S.Pairwise (ltR R)∧Tells (fun k=>Azz.f k (pre ++ L ++ M ++ post) (pre.length:Int) ((pre.length+L.length:Nat):Int) ((pre.length+L.length+M.length:Nat):Int) [R]) (pre ++ S ++ post)
theorem merge_left (R:List Int) (hR:∀ z ∈ R,0≤z∧z≤1125899906842624) (x:Int) (M pre post:List Int) (h:Blocks R [x] M) (hN:pre.length+1+M.length+post.length≤5000):Merges R [x] M pre post:=by
  obtain⟨A,B,e,hA,hB⟩:=cut_gt R (rd R x) M h.r;have hx:=h.okl x List.mem_cons_self;subst e;have hr:=List.pairwise_append.1 h.r;refine⟨A ++ x :: B,List.perm_middle,?_,?_⟩
  · rw[List.pairwise_append,List.pairwise_cons]
    refine⟨hr.1,⟨fun y hy=>?_,hr.2.1⟩,fun u hu y hy=>?_⟩
    · have h1:=hB y hy
      have h2:=h.lr x List.mem_cons_self y (List.mem_append_right _ hy);unfold ltR;omega
    · rcases List.mem_cons.1 hy with rfl|hy
      · exact Or.inl (hA u hu)
      · exact hr.2.2 u hu y hy
  · rw[List.length_append] at hN
    have hDe:pre ++ [x] ++ (A ++ B) ++ post=pre ++ x :: A ++ (B ++ post):=by simp
    have hend:=sym_l1 [] (B ++ post) x (pre.length+A.length+1) (by simp;omega) A pre rfl (by simp;omega) (by omega)
    have hl0:=sym_l0 R (pre ++ [x] ++ (A ++ B) ++ post) (pre.length:Int) x (pre.length+A.length+1) (pre.length+1) (pre.length+1+(A ++ B).length) (pre ++ A ++ x :: (B ++ post)) hR hx ⟨by omega,by simp;omega⟩ (rd_mid' (A:=pre) (B:=A ++ B ++ post) (by simp) rfl) (by simp;omega) (by simp;omega)
      (fun q h1 h2=>by
        have:=rd_pre (pre ++ [x]) (A ++ B) post q (by simp;omega) (by simp at h2 ⊢;omega)
        rw[← List.append_assoc] at this;exact h.okr _ this)
      (fun q h1 h2=>by
        have:=rd_pre (pre ++ [x]) A (B ++ post) q (by simp;omega) (by simp;omega)
        rw[show pre ++ [x] ++ (A ++ (B ++ post))=pre ++ [x] ++ (A ++ B) ++ post by simp] at this
        exact hA _ this)
      (fun q h1 h2=>by
        have:=rd_pre (pre ++ [x] ++ A) B post q (by simp;omega) (by simp at h2 ⊢;omega)
        rw[show pre ++ [x] ++ A ++ (B ++ post)=pre ++ [x] ++ (A ++ B) ++ post by simp] at this
        exact hB _ this)
      (by rw[hDe];exact hend) ((A ++ B).length) (pre.length+1) (pre.length+1+(A ++ B).length) (by omega) (by omega) (by omega) (by simp;omega) (by omega)
    have hfin:pre ++ A ++ x :: (B ++ post)=pre ++ (A ++ x :: B) ++ post:=by simp
    rw[hfin] at hl0;refine Tells.up hl0 (fun k=>?_)
    rw[Azz.f];rw[if_pos (by rw[wrap64_id (by simp;omega) (by simp;omega)];simp;omega)]
    rfl
theorem merge_right (R:List Int) (hR:∀ z ∈ R,0≤z∧z≤1125899906842624) (y:Int) (L pre post:List Int) (h:Blocks R L [y]) (hL:2≤L.length) (hN:pre.length+L.length+1+post.length≤5000):Merges R L [y] pre post:=by
  obtain⟨A,B,e,hA,hB⟩:=cut_gt R (rd R y - 1) L h.l;have hy:=h.okr y List.mem_cons_self;subst e;have hr:=List.pairwise_append.1 h.l;refine⟨A ++ y :: B,?_,?_,?_⟩
  · rw[List.append_assoc]
    exact List.Perm.append_left A (List.perm_append_comm (l₁:=[y]) (l₂:=B))
  · rw[List.pairwise_append,List.pairwise_cons]
    refine⟨hr.1,⟨fun z hz=>?_,hr.2.1⟩,fun u hu z hz=>?_⟩
    · have h1:=hB z hz
      unfold ltR;omega
    · rcases List.mem_cons.1 hz with rfl|hz
      · have h1:=hA u hu
        have h2:=h.lr u (List.mem_append_left _ hu) z List.mem_cons_self;unfold ltR;omega
      · exact hr.2.2 u hu z hz
  · rw[List.length_append] at hN hL
    have hDe:pre ++ (A ++ B) ++ [y] ++ post=pre ++ A ++ B.reverse.reverse ++ y :: post:=by simp
    have hend:=sym_l3 [] y (pre ++ A).length B.reverse (pre ++ A) post rfl (by simp <;> omega)
    have hpos:(((pre ++ A).length+B.reverse.length:Nat):Int)=((pre.length+(A ++ B).length:Nat):Int):=by simp <;> omega
    have hfin:pre ++ A ++ y :: B.reverse.reverse ++ post=pre ++ (A ++ y :: B) ++ post:=by simp
    rw[hpos,hfin,← hDe] at hend;have hl2:=sym_l2 R (pre ++ (A ++ B) ++ [y] ++ post) ((pre.length+(A ++ B).length:Nat):Int) y (pre ++ A).length pre.length (pre.length+(A ++ B).length) (pre ++ (A ++ y :: B) ++ post) hR hy ⟨by omega,by simp <;> omega⟩ (rd_mid' (A:=pre ++ (A ++ B)) (B:=post) (by simp) (by simp)) (by simp <;> omega) (by simp <;> omega)
      (fun q h1 h2=>by
        have:=rd_pre pre (A ++ B) ([y] ++ post) q (by omega) (by simp at h2 ⊢;omega)
        rw[show pre ++ ((A ++ B) ++ ([y] ++ post))=pre ++ (A ++ B) ++ [y] ++ post by simp] at this
        exact h.okl _ this)
      (fun q h1 h2=>by
        have:=rd_pre pre A (B ++ [y] ++ post) q (by omega) (by simp at h2;omega)
        rw[show pre ++ (A ++ (B ++ [y] ++ post))=pre ++ (A ++ B) ++ [y] ++ post by simp] at this
        have:=hA _ this;omega)
      (fun q h1 h2=>by
        have:=rd_pre (pre ++ A) B ([y] ++ post) q (by simpa using h1) (by simp at h2 ⊢;omega)
        rw[show pre ++ A ++ (B ++ ([y] ++ post))=pre ++ (A ++ B) ++ [y] ++ post by simp] at this
        have:=hB _ this;omega)
      hend ((A ++ B).length) pre.length (pre.length+(A ++ B).length) (by omega) (by omega) (by simp) (by simp <;> omega) (by omega)
    refine Tells.up hl2 (fun k=>?_)
    rw[Azz.f];rw[if_neg (by rw[wrap64_id (by simp <;> omega) (by simp <;> omega)];simp <;> omega),if_pos (by rw[wrap64_id (by simp <;> omega) (by simp <;> omega)];simp <;> omega)]

theorem len_pos {l:List Int} (h:l≠[]):0 < l.length:=by
  cases l with
  | nil=>exact absurd rfl h
  | cons x l=>simp
theorem sym_end (R D2 out:List Int) (a b mid s e:Int) (hT:Tells (fun k=>if mid < e then(if e < b then((Azz.f k D2 mid e b [R]).bind fun t=>some t) else some D2) else some D2) out) (D:List Int) (flag:Bool)
    (h1:flag=true→Tells (fun k=>Azz.f k D a s mid [R]) D2) (h0:flag=false→D2=D):Tells (fun k=>Azz.j8 k D a b mid s e flag [R]) out:=by
  cases flag with
  | true =>
    refine Tells.up (g:=fun k=>(Azz.f k D a s mid [R]).bind fun t=>(if mid < e then(if e < b then((Azz.f k t mid e b [R]).bind fun t=>some t) else some t) else some t)) ?_ (fun k=>?_)
    · exact Tells.bind (h1 rfl) hT
    · rw[Azz.j8];rw[if_pos rfl]
  | false =>
    have:=h0 rfl;subst this;refine Tells.up hT (fun k=>?_)
    rw[Azz.j8];rw[if_neg (by simp)]
theorem sym_last (R pre S1 L2 M2 post S2:List Int) (mid e b:Nat) (he:e=mid+L2.length) (hb:b=e+M2.length)
    (hS:L2≠[]→M2≠[]→Tells (fun k=>Azz.f k (pre ++ S1 ++ L2 ++ M2 ++ post) (mid:Int) (e:Int) (b:Int) [R]) (pre ++ S1 ++ S2 ++ post)) (hS0:L2=[]∨M2=[]→S2=L2 ++ M2) :
    Tells (fun k=>if(mid:Int) < (e:Int) then(if(e:Int) < (b:Int) then((Azz.f k (pre ++ S1 ++ L2 ++ M2 ++ post) (mid:Int) (e:Int) (b:Int) [R]).bind fun t=>some t) else some (pre ++ S1 ++ L2 ++ M2 ++ post)) else some (pre ++ S1 ++ L2 ++ M2 ++ post)) (pre ++ S1 ++ S2 ++ post):=by
  by_cases c1:L2=[]
  · have:=hS0 (Or.inl c1)
    subst this;subst c1;simp at he;refine Tells.congr (Tells.const _) (fun k=>?_)
    rw[if_neg (by omega)]
    simp
  · by_cases c2:M2=[]
    · have:=hS0 (Or.inr c2)
      subst this;subst c2;simp at hb;refine Tells.congr (Tells.const _) (fun k=>?_)
      rw[if_neg (c:=(e:Int) < (b:Int)) (by omega)]
      split <;> simp
    · have l1:=len_pos c1
      have l2:=len_pos c2;refine Tells.congr (Tells.bind (hS c1 c2) (Tells.const _)) (fun k=>?_)
      rw[if_pos (by omega),if_pos (by omega)]
theorem sym_tail (R pre post L1 L2 M1 M2 S1 S2:List Int) (a s m e b mid:Nat) (ha:a=pre.length) (hs:s=a+L1.length) (hm:m=s+L2.length) (he:e=m+M1.length) (hb:b=e+M2.length) (hmid:mid=s+M1.length) (hN:b+post.length≤5000)
    (h1:L1≠[]→M1≠[]→Tells (fun k=>Azz.f k (pre ++ L1 ++ M1 ++ (L2 ++ M2 ++ post)) (a:Int) (s:Int) (mid:Int) [R]) (pre ++ S1 ++ (L2 ++ M2 ++ post))) (h10:L1=[]∨M1=[]→S1=L1 ++ M1)
    (h2:L2≠[]→M2≠[]→Tells (fun k=>Azz.f k (pre ++ S1 ++ L2 ++ M2 ++ post) (mid:Int) (e:Int) (b:Int) [R]) (pre ++ S1 ++ S2 ++ post)) (h20:L2=[]∨M2=[]→S2=L2 ++ M2) :
    Tells (fun k=>if(s:Int) < (m:Int) then Azz.j6 k (pre ++ L1 ++ L2 ++ (M1 ++ M2) ++ post) (a:Int) (m:Int) (b:Int) (mid:Int) (s:Int) (e:Int) (decide ((m:Int) < (e:Int))) [R] else Azz.j6 k (pre ++ L1 ++ L2 ++ (M1 ++ M2) ++ post) (a:Int) (m:Int) (b:Int) (mid:Int) (s:Int) (e:Int) false [R]) (pre ++ S1 ++ S2 ++ post):=by
  have hlast:=sym_last R pre S1 L2 M2 post S2 mid e b (by omega) hb h2 h20
  have h7:Tells (fun k=>Azz.j7 k (pre ++ L1 ++ M1 ++ (L2 ++ M2 ++ post)) (a:Int) (b:Int) (mid:Int) (s:Int) (e:Int) [R]) (pre ++ S1 ++ S2 ++ post):=by
    by_cases c1:L1=[]
    · refine Tells.up (sym_end R _ _ (a:Int) _ _ (s:Int) _ hlast (pre ++ L1 ++ M1 ++ (L2 ++ M2 ++ post)) false (by simp) (fun _=>by rw[h10 (Or.inl c1)];simp)) (fun k=>?_)
      subst c1;simp at hs;rw[Azz.j7];rw[if_neg (by omega)]
    · have l1:=len_pos c1
      by_cases c2:M1=[]
      · refine Tells.up (sym_end R _ _ (a:Int) _ _ (s:Int) _ hlast (pre ++ L1 ++ M1 ++ (L2 ++ M2 ++ post)) false (by simp) (fun _=>by rw[h10 (Or.inr c2)];simp)) (fun k=>?_)
        subst c2;simp at hmid;rw[Azz.j7];rw[if_pos (by omega),show decide ((s:Int) < (mid:Int))=false from decide_eq_false (by omega)]
      · have l2:=len_pos c2
        refine Tells.up (sym_end R _ _ (a:Int) _ _ (s:Int) _ hlast (pre ++ L1 ++ M1 ++ (L2 ++ M2 ++ post)) true (fun _=>?_) (by simp)) (fun k=>?_)
        · have:=h1 c1 c2
          rw[show pre ++ S1 ++ (L2 ++ M2 ++ post)=pre ++ S1 ++ L2 ++ M2 ++ post by simp] at this
          exact this
        · rw[Azz.j7]
          rw[if_pos (by omega),show decide ((s:Int) < (mid:Int))=true from decide_eq_true (by omega)]
  by_cases c1:L2=[]
  · subst c1
    simp at hm;refine Tells.congr (g:=fun k=>Azz.j6 k (pre ++ L1 ++ M1 ++ ([] ++ M2 ++ post)) (a:Int) (m:Int) (b:Int) (mid:Int) (s:Int) (e:Int) false [R]) ?_ (fun k=>?_)
    · refine Tells.up h7 (fun k=>?_)
      rw[Azz.j6];rw[if_neg (by simp)]
    · rw[if_neg (by omega)]
      simp
  · have l1:=len_pos c1
    by_cases c2:M1=[]
    · subst c2
      simp at he;refine Tells.congr (g:=fun k=>Azz.j6 k (pre ++ L1 ++ [] ++ (L2 ++ M2 ++ post)) (a:Int) (m:Int) (b:Int) (mid:Int) (s:Int) (e:Int) false [R]) ?_ (fun k=>?_)
      · refine Tells.up h7 (fun k=>?_)
        rw[Azz.j6];rw[if_neg (by simp)]
      · rw[if_pos (by omega),show decide ((m:Int) < (e:Int))=false from decide_eq_false (by omega)]
        simp
    · have l2:=len_pos c2
      refine Tells.congr (g:=fun k=>Azz.j6 k (pre ++ L1 ++ L2 ++ M1 ++ (M2 ++ post)) (a:Int) (m:Int) (b:Int) (mid:Int) (s:Int) (e:Int) true [R]) ?_ (fun k=>?_)
      · have hr:=rotate_tells [R] (pre ++ L1) L2 M1 (M2 ++ post) (by omega) (by omega) (by simp;omega)
        have e1:(((pre ++ L1).length:Nat):Int)=(s:Int):=by simp;omega
        have e2:(((pre ++ L1).length+L2.length:Nat):Int)=(m:Int):=by simp;omega
        have e3:(((pre ++ L1).length+L2.length+M1.length:Nat):Int)=(e:Int):=by simp;omega
        rw[e1,e2,e3,show pre ++ L1 ++ M1 ++ L2 ++ (M2 ++ post)=pre ++ L1 ++ M1 ++ (L2 ++ M2 ++ post) by simp] at hr
        refine Tells.up (Tells.bind (g:=fun k t=>Azz.j7 k t (a:Int) (b:Int) (mid:Int) (s:Int) (e:Int) [R]) hr h7) (fun k=>?_)
        rw[Azz.j6];rw[if_pos rfl]
      · rw[if_pos (by omega),show decide ((m:Int) < (e:Int))=true from decide_eq_true (by omega)]
        simp
theorem sym_glue (R L1 L2 M1 M2 S1 S2:List Int) (hL:(L1 ++ L2).Pairwise (ltR R)) (hM:(M1 ++ M2).Pairwise (ltR R)) (h12:∀ x ∈ L1,∀ y ∈ M2,ltR R x y) (h21:∀ x ∈ M1,∀ y ∈ L2,ltR R x y) (p1:S1.Perm (L1 ++ M1)) (p2:S2.Perm (L2 ++ M2)) (s1:S1.Pairwise (ltR R)) (s2:S2.Pairwise (ltR R)):(S1 ++ S2).Perm (L1 ++ L2 ++ (M1 ++ M2))∧(S1 ++ S2).Pairwise (ltR R):=by
  have hL':=List.pairwise_append.1 hL;have hM':=List.pairwise_append.1 hM;constructor
  · refine(List.Perm.append p1 p2).trans ?_
    rw[List.append_assoc,List.append_assoc];refine List.Perm.append_left L1 ?_;rw[← List.append_assoc,← List.append_assoc];exact List.Perm.append_right M2 List.perm_append_comm
  · rw[List.pairwise_append]
    refine⟨s1,s2,fun x hx y hy=>?_⟩
    have hx':=p1.mem_iff.1 hx;have hy':=p2.mem_iff.1 hy;rcases List.mem_append.1 hx' with hx'|hx' <;> rcases List.mem_append.1 hy' with hy'|hy'
    · exact hL'.2.2 x hx' y hy'
    · exact h12 x hx' y hy'
    · exact h21 x hx' y hy'
    · exact hM'.2.2 x hx' y hy'

theorem split_at (l:List Int) (n:Nat) (hn:n≤l.length):∃ a b,l=a ++ b∧a.length=n∧(∀ x ∈ a,∃ u:Nat,u < n∧x=rd l (u:Int))∧(∀ x ∈ b,∃ u:Nat,n≤u∧u < l.length∧x=rd l (u:Int)) :=
  ⟨l.take n,l.drop n,(List.take_append_drop n l).symm,by rw[List.length_take];omega,fun x hx=>by
    obtain⟨u,h1,_,h3⟩:=mem_take_idx hx;exact⟨u,h1,h3⟩,fun x hx=>mem_drop_idx hx⟩
theorem Blocks.sub {R L1 L2 M1 M2:List Int} (h:Blocks R (L1 ++ L2) (M1 ++ M2)):Blocks R L1 M1∧Blocks R L2 M2:=by
  have h1:=List.pairwise_append.1 h.l;have h2:=List.pairwise_append.1 h.r;exact⟨⟨h1.1,h2.1,fun x hx y hy=>h.lr x (List.mem_append_left _ hx) y (List.mem_append_left _ hy),fun x hx=>h.okl x (List.mem_append_left _ hx),fun x hx=>h.okr x (List.mem_append_left _ hx)⟩,
    ⟨h1.2.1,h2.2.1,fun x hx y hy=>h.lr x (List.mem_append_right _ hx) y (List.mem_append_right _ hy),fun x hx=>h.okl x (List.mem_append_right _ hx),fun x hx=>h.okr x (List.mem_append_right _ hx)⟩⟩
theorem merges_or (R X Y pre post:List Int) (hB:Blocks R X Y) (ih:X≠[]→Y≠[]→Merges R X Y pre post):∃ S,S.Perm (X ++ Y)∧S.Pairwise (ltR R)∧(X≠[]→Y≠[]→Tells (fun k=>Azz.f k (pre ++ X ++ Y ++ post) (pre.length:Int) ((pre.length+X.length:Nat):Int) ((pre.length+X.length+Y.length:Nat):Int) [R]) (pre ++ S ++ post))∧(X=[]∨Y=[]→S=X ++ Y):=by
  by_cases c1:X=[]
  · subst c1
    exact⟨Y,List.Perm.refl _,hB.r,fun h=>absurd rfl h,fun _=>rfl⟩
  · by_cases c2:Y=[]
    · subst c2
      exact⟨X,by simp,hB.l,fun _ h=>absurd rfl h,fun _=>by simp⟩
    · obtain⟨S,p,s,t⟩:=ih c1 c2
      exact⟨S,p,s,fun _ _=>t,fun h=>absurd h (by simp [c1,c2])⟩
theorem sym_h12 {R L M:List Int} (hl:L.Pairwise (ltR R)) (hr:M.Pairwise (ltR R)) {i j:Nat} (hi:i < L.length) (hq:¬ rd R (rd M (j:Int)) > rd R (rd L (i:Int))) {u v:Nat} (hu:u≤i) (hv:j≤v) (hvm:v < M.length):rd R (rd M (v:Int))≤rd R (rd L (u:Int)) :=
  Int.le_trans (pw_idx hr hv hvm) (Int.le_trans (Int.not_lt.1 hq) (pw_idx hl hu hi))
theorem sym_h21 {R L M:List Int} (hl:L.Pairwise (ltR R)) (hr:M.Pairwise (ltR R)) {i j:Nat} (hi:i < M.length) (hq:rd R (rd M (i:Int)) > rd R (rd L (j:Int))) {u v:Nat} (hu:u≤i) (hv:j≤v) (hvm:v < L.length):rd R (rd L (v:Int)) < rd R (rd M (u:Int)) :=
  Int.lt_of_le_of_lt (pw_idx hl hv hvm) (Int.lt_of_lt_of_le hq (pw_idx hr hu hi))
theorem sym_start (R D:List Int) (A m b mid:Nat) (hAm:A+2≤m) (hmb:m+2≤b) (hb:b≤5000) (hmid:mid=(A+b) / 2):∃ lo hi:Nat,lo≤hi∧A≤lo∧hi≤m∧hi≤mid∧(hi=mid∨hi=m)∧(lo=A∨lo+b=mid+m)∧mid+m≤lo+b∧∀ out,Tells (fun k=>Azz.l4 k D (A:Int) (m:Int) (b:Int) (mid:Int) ((mid+m:Nat):Int) (lo:Int) (hi:Int) ((mid+m - 1:Nat):Int) [R]) out→Tells (fun k=>Azz.f k D (A:Int) (m:Int) (b:Int) [R]) out:=by
  have hh:=half_val (A:Int) (b:Int) (by omega) (by omega)
  rw[show((A:Int)+(b:Int)) / 2=(mid:Int) by omega] at hh
  have w1:wrap64 ((mid:Int)+(m:Int))=((mid+m:Nat):Int):=by rw[wrap64_id (by omega) (by omega)];omega
  have w3:wrap64 (((mid+m:Nat):Int) - 1)=((mid+m - 1:Nat):Int):=by rw[wrap64_id (by omega) (by omega)];omega
  have n1:¬ wrap64 ((m:Int) - (A:Int))=1:=by rw[wrap64_id (by omega) (by omega)];omega
  have n2:¬ wrap64 ((b:Int) - (m:Int))=1:=by rw[wrap64_id (by omega) (by omega)];omega
  by_cases c:mid < m
  · have w2:wrap64 (((mid+m:Nat):Int) - (b:Int))=((mid+m - b:Nat):Int):=by rw[wrap64_id (by omega) (by omega)];omega
    refine⟨mid+m - b,mid,by omega,by omega,by omega,by omega,Or.inl rfl,Or.inr (by omega),by omega,fun out h=>?_⟩
    refine Tells.up (g:=fun k=>Azz.j4 k D (A:Int) (m:Int) (b:Int) (mid:Int) ((mid+m:Nat):Int) ((mid+m - b:Nat):Int) (mid:Int) [R]) ?_ (fun k=>?_)
    · refine Tells.up h (fun k=>?_)
      rw[Azz.j4];rw[w3]
    · rw[Azz.f]
      rw[if_neg n1,if_neg n2,hh,if_pos (by omega),w1,w2]
  · refine⟨A,m,by omega,by omega,by omega,by omega,Or.inr rfl,Or.inl rfl,by omega,fun out h=>?_⟩
    refine Tells.up (g:=fun k=>Azz.j4 k D (A:Int) (m:Int) (b:Int) (mid:Int) ((mid+m:Nat):Int) (A:Int) (m:Int) [R]) ?_ (fun k=>?_)
    · refine Tells.up h (fun k=>?_)
      rw[Azz.j4];rw[w3]
    · rw[Azz.f]
      rw[if_neg n1,if_neg n2,hh,if_neg (by omega),w1]
theorem merge_gen (R:List Int) (hR:∀ z ∈ R,0≤z∧z≤1125899906842624) (L M pre post:List Int) (hB:Blocks R L M) (hN:pre.length+L.length+M.length+post.length≤5000) (hL:2≤L.length) (hM:2≤M.length)
    (ih:∀ X Y pre' post':List Int,X.length+Y.length < L.length+M.length→X≠[]→Y≠[]→Blocks R X Y→pre'.length+X.length+Y.length+post'.length≤5000→Merges R X Y pre' post'):Merges R L M pre post:=by
  obtain⟨A,hA⟩:∃ A:Nat,A=pre.length:=⟨_,rfl⟩;obtain⟨m,hm⟩:∃ m:Nat,m=A+L.length:=⟨_,rfl⟩;obtain⟨b,hb⟩:∃ b:Nat,b=m+M.length:=⟨_,rfl⟩;obtain⟨mid,hmid⟩:∃ q:Nat,q=(A+b) / 2:=⟨_,rfl⟩;have hmid2:2 * mid≤A+b∧A+b≤2 * mid+1:=by omega
  obtain⟨D,hD⟩:∃ D:List Int,D=pre ++ L ++ M ++ post:=⟨_,rfl⟩;have hb5:b+post.length≤5000:=by omega
  have hDl:D.length=b+post.length:=by rw[hD];simp;omega
  obtain⟨lo,hi,g1,g2,g3,g4,g5,g6,g7,hf⟩:=sym_start R D A m b mid (by omega) (by omega) (by omega) hmid
  obtain⟨p,hp⟩:∃ p:Nat,p=mid+m - 1:=⟨_,rfl⟩;have hp1:p+1=mid+m:=by omega
  clear hmid;have hdL:∀ c:Nat,A≤c→c < m→rd D (c:Int)=rd L ((c - A:Nat):Int):=fun c h1 h2=>by
    have:=rd_seg pre L (M ++ post) c (by omega) (by omega)
    rw[show pre ++ L ++ (M ++ post)=D by rw[hD];simp] at this
    rw[this,hA]
  have hdM:∀ c:Nat,m≤c→c < b→rd D (c:Int)=rd M ((c - m:Nat):Int):=fun c h1 h2=>by
    have:=rd_seg (pre ++ L) M post c (by simp;omega) (by simp;omega)
    rw[← hD] at this;rw[this,show(pre ++ L).length=m by simp;omega]
  have hpc:∀ c:Nat,lo≤c→c < hi→A≤c∧c < m∧m≤p - c∧p - c < b∧c≤p:=fun c h1 h2=>by omega
  have hokL:∀ u:Nat,u < L.length→0≤rd L (u:Int)∧rd L (u:Int) < (R.length:Int):=fun u hu=>hB.okl _ (rd_mem L _ (by omega) (by omega))
  have hokM:∀ u:Nat,u < M.length→0≤rd M (u:Int)∧rd M (u:Int) < (R.length:Int):=fun u hu=>hB.okr _ (rd_mem M _ (by omega) (by omega))
  obtain⟨s,s1,s2,hnq,hq⟩:=cut_nat (fun c=>rd R (rd D ((p - c:Nat):Int)) > rd R (rd D (c:Int))) (hi - lo) lo hi (Nat.le_refl _) g1 (fun c c' h1 h2 h3 h4=>by
    have q1:=hpc c h1 (by omega)
    have q2:=hpc c' (by omega) h3
    have a1:=pw_idx hB.l (u:=c - A) (v:=c' - A) (by omega) (by omega)
    have a2:=pw_idx hB.r (u:=p - c' - m) (v:=p - c - m) (by omega) (by omega)
    rw[hdL c q1.1 q1.2.1,hdM (p - c) q1.2.2.1 q1.2.2.2.1] at h4;rw[hdL c' q2.1 q2.2.1,hdM (p - c') q2.2.2.1 q2.2.2.2.1];exact Int.lt_of_le_of_lt a1 (Int.lt_of_lt_of_le h4 a2))
  obtain⟨e,he⟩:∃ e:Nat,e+s=mid+m:=⟨mid+m - s,by omega⟩
  obtain⟨L1,L2,eL,l1,iL1,iL2⟩:=split_at L (s - A) (by omega)
  obtain⟨M1,M2,eM,m1,iM1,iM2⟩:=split_at M (mid - s) (by omega)
  have h12:∀ x ∈ L1,∀ y ∈ M2,ltR R x y:=fun x hx y hy=>by
    have hxy:=hB.lr x (by rw[eL];exact List.mem_append_left _ hx) y (by rw[eM];exact List.mem_append_right _ hy)
    obtain⟨u,u1,rfl⟩:=iL1 x hx;obtain⟨v,v1,v2,rfl⟩:=iM2 y hy;have hs:lo≤s - 1∧s - 1 < s:=by omega
    have q1:=hpc (s - 1) hs.1 (by omega)
    have hn:=hnq (s - 1) hs.1 hs.2;rw[hdL _ q1.1 q1.2.1,hdM _ q1.2.2.1 q1.2.2.2.1] at hn;have:=sym_h12 hB.l hB.r (by omega) hn (u:=u) (v:=v) (by omega) (by omega) v2
    rcases Int.lt_or_eq_of_le this with h|h
    · exact Or.inl h
    · exact Or.inr ⟨h.symm,hxy⟩
  have h21:∀ x ∈ M1,∀ y ∈ L2,ltR R x y:=fun x hx y hy=>by
    obtain⟨u,u1,rfl⟩:=iM1 x hx;obtain⟨v,v1,v2,rfl⟩:=iL2 y hy;have hs:s < hi:=by omega
    have q1:=hpc s s1 hs;have hn:=hq s (Nat.le_refl _) hs;rw[hdL _ q1.1 q1.2.1,hdM _ q1.2.2.1 q1.2.2.2.1] at hn;exact Or.inl (sym_h21 hB.l hB.r (by omega) hn (u:=u) (v:=v) (by omega) (by omega) v2)
  have lenL:L.length=L1.length+L2.length:=by rw[eL,List.length_append]
  have lenM:M.length=M1.length+M2.length:=by rw[eM,List.length_append]
  have hsub:=Blocks.sub (R:=R) (L1:=L1) (L2:=L2) (M1:=M1) (M2:=M2) (by rw[← eL,← eM];exact hB)
  obtain⟨S1,p1,t1,f1,n1⟩:=merges_or R L1 M1 pre (L2 ++ M2 ++ post) hsub.1 (fun a1 a2=>ih L1 M1 pre (L2 ++ M2 ++ post) (by omega) a1 a2 hsub.1 (by simp;omega))
  obtain⟨S2,p2,t2,f2,n2⟩:=merges_or R L2 M2 (pre ++ S1) post hsub.2 (fun a1 a2=>ih L2 M2 (pre ++ S1) post (by omega) a1 a2 hsub.2 (by have:=p1.length_eq;simp at this ⊢;omega))
  have lenS:S1.length=L1.length+M1.length:=by have:=p1.length_eq;simpa using this
  have gl:=sym_glue R L1 L2 M1 M2 S1 S2 (by rw[← eL];exact hB.l) (by rw[← eM];exact hB.r) h12 h21 p1 p2 t1 t2
  refine⟨S1 ++ S2,by rw[eL,eM];exact gl.1,gl.2,?_⟩
  have x1:pre.length+L1.length=s:=by omega
  have x2:pre.length+L1.length+M1.length=mid:=by omega
  have x3:(pre ++ S1).length=mid:=by simp;omega
  have x4:(pre ++ S1).length+L2.length=e:=by omega
  have x5:(pre ++ S1).length+L2.length+M2.length=b:=by omega
  rw[x2,x1,← hA] at f1;rw[x5,x4,x3] at f2;have tail:=sym_tail R pre post L1 L2 M1 M2 S1 S2 A s m e b mid hA (by omega) (by omega) (by omega) (by omega) (by omega) hb5 f1 n1 f2 n2
  rw[show pre ++ L1 ++ L2 ++ (M1 ++ M2) ++ post=D by rw[hD,eL,eM];simp] at tail
  have w:wrap64 (((mid+m:Nat):Int) - (s:Int))=(e:Int):=by rw[wrap64_id (by omega) (by omega)];omega
  have h4:=sym_l4 R D (A:Int) (m:Int) (b:Int) (mid:Int) ((mid+m:Nat):Int) p s lo hi (pre ++ S1 ++ S2 ++ post) hR (by omega) (by omega) (by omega) (fun c h1 h2=>by have:=hpc c h1 h2;omega)
    (fun q h1 h2=>by
      have q1:=hpc q h1 h2;rw[hdL _ q1.1 q1.2.1,hdM _ q1.2.2.1 q1.2.2.2.1];exact⟨hokL _ (by omega),hokM _ (by omega)⟩) hnq hq (by rw[w];exact tail) (hi - lo) lo hi (Nat.le_refl _) (Nat.le_refl _) s1 s2 (Nat.le_refl _)
  have:=hf _ (by rw[← hp];exact h4)
  rw[show pre ++ (S1 ++ S2) ++ post=pre ++ S1 ++ S2 ++ post by simp,← hA,← hm,← hb,← hD]
  exact this
theorem merges (R:List Int) (hR:∀ z ∈ R,0≤z∧z≤1125899906842624):∀ (d:Nat) (L M pre post:List Int),L.length+M.length≤d→L≠[]→M≠[]→Blocks R L M→pre.length+L.length+M.length+post.length≤5000→Merges R L M pre post:=by
  intro d;induction d with
  | zero=>intro L M pre post h hL;have:=len_pos hL;omega
  | succ d ih =>
    intro L M pre post hd hL hM hB hN;have pL:=len_pos hL;have pM:=len_pos hM;by_cases c1:L.length=1
    · obtain⟨x,rfl⟩:=List.length_eq_one_iff.1 c1
      exact merge_left R hR x M pre post hB (by omega)
    · by_cases c2:M.length=1
      · obtain⟨y,rfl⟩:=List.length_eq_one_iff.1 c2
        exact merge_right R hR y L pre post hB (by omega) (by omega)
      · exact merge_gen R hR L M pre post hB hN (by omega) (by omega) (fun X Y pre' post' h1 h2 h3 h4 h5=>ih X Y pre' post' (by omega) h2 h3 h4 h5)

def seg (lo len:Nat):List Int:=(List.range len).map (fun i:Nat=>((lo+i:Nat):Int))
theorem seg_len (lo len:Nat):(seg lo len).length=len:=by simp [seg]
theorem seg_add (lo u v:Nat):seg lo (u+v)=seg lo u ++ seg (lo+u) v:=by
  unfold seg;rw[List.range_add,List.map_append,List.map_map];congr 1
  apply List.map_congr_left;intro x _;show((lo+(u+x):Nat):Int)=((lo+u+x:Nat):Int)
  omega
theorem seg_zero (n:Nat):seg 0 n=idx n:=by
  unfold seg idx;apply List.map_congr_left;intro x _;simp
theorem mem_seg {lo len:Nat} {x:Int}:x ∈ seg lo len ↔ (lo:Int)≤x∧x < ((lo+len:Nat):Int):=by
  unfold seg;rw[List.mem_map];constructor
  · rintro ⟨i,hi,rfl⟩
    rw[List.mem_range] at hi;omega
  · intro h
    exact⟨(x - lo).toNat,by rw[List.mem_range];omega,by omega⟩
theorem seg_lt (lo len:Nat):(seg lo len).Pairwise (· < ·):=by
  unfold seg;rw[List.pairwise_map];refine(List.pairwise_lt_range (n:=len)).imp ?_;intro a b h;omega
/-- A sorted run of the numbers lo,lo+1,.. -/
def SegRun (R:List Int) (lo:Nat) (S:List Int):Prop:=S.Perm (seg lo S.length)∧S.Pairwise (ltR R)
theorem SegRun.mem {R:List Int} {lo:Nat} {S:List Int} (h:SegRun R lo S) {x:Int} (hx:x ∈ S):(lo:Int)≤x∧x < ((lo+S.length:Nat):Int):=mem_seg.1 (h.1.mem_iff.1 hx)
theorem segRun_ins (R:List Int) (lo len:Nat):SegRun R lo (insAll R (seg lo len) []).reverse∧(insAll R (seg lo len) []).reverse.length=len:=by
  have hp:(insAll R (seg lo len) []).reverse.Perm (seg lo len):=by
    have:=(List.reverse_perm _).trans (insAll_perm R (seg lo len) []);rwa [List.append_nil] at this
  have hl:(insAll R (seg lo len) []).reverse.length=len:=by rw[hp.length_eq,seg_len]
  refine⟨⟨by rw[hl];exact hp,?_⟩,hl⟩
  rw[List.pairwise_reverse];exact insAll_sorted R (seg lo len) [] List.Pairwise.nil (seg_lt lo len) (by simp)
inductive Runs (R:List Int) (bs:Nat):Nat→List Int→Prop
  | last (lo:Nat) (S:List Int) (h:S.length≤bs) (hs:SegRun R lo S):Runs R bs lo S
  | cons (lo:Nat) (S T:List Int) (h:S.length=bs) (hs:SegRun R lo S) (ht:Runs R bs (lo+bs) T):Runs R bs lo (S ++ T)
theorem segRun_nil (R:List Int) (lo:Nat):SegRun R lo []:=⟨by simp [seg],List.Pairwise.nil⟩
theorem Runs.head {R:List Int} {bs lo:Nat} {T:List Int} (h:Runs R bs lo T) (hb:bs≤T.length):∃ S T',T=S ++ T'∧S.length=bs∧SegRun R lo S∧Runs R bs (lo+bs) T':=by
  cases h with
  | last _ _ h hs=>exact⟨T,[],by simp,by omega,hs,Runs.last _ [] (by simp) (segRun_nil R _)⟩
  | cons _ S T' h hs ht=>exact⟨S,T',rfl,h,hs,ht⟩
theorem Runs.single {R:List Int} {bs lo:Nat} {T:List Int} (h:Runs R bs lo T) (hb:T.length≤bs):SegRun R lo T:=by
  cases h with
  | last _ _ h hs=>exact hs
  | cons _ S T' h hs ht =>
    have:T'=[]:=by
      rw[List.length_append] at hb;exact List.eq_nil_of_length_eq_zero (by omega)
    subst this;simpa using hs
theorem segRun_blocks {R:List Int} {lo:Nat} {S T:List Int} (h1:SegRun R lo S) (h2:SegRun R (lo+S.length) T) (hn:lo+S.length+T.length≤R.length):Blocks R S T :=
  ⟨h1.2,h2.2,fun x hx y hy=>by have:=h1.mem hx;have:=h2.mem hy;omega,fun x hx=>by have:=h1.mem hx;omega,fun x hx=>by have:=h2.mem hx;omega⟩
theorem segRun_merged {R:List Int} {lo:Nat} {S T U:List Int} (h1:SegRun R lo S) (h2:SegRun R (lo+S.length) T) (hp:U.Perm (S ++ T)) (hs:U.Pairwise (ltR R)):SegRun R lo U:=by
  refine⟨?_,hs⟩;have hl:U.length=S.length+T.length:=by rw[hp.length_eq,List.length_append]
  rw[hl,seg_add];exact hp.trans (List.Perm.append h1.1 h2.1)
theorem segRun_all {R:List Int} {n:Nat} {S:List Int} (h:SegRun R 0 S) (hn:S.length=n):S=ordS R n:=by
  refine ordS_unique R n S ?_ h.2;have:=h.1;rwa [hn,seg_zero] at this
theorem stable_l2 (R:List Int) (hR:∀ z ∈ R,0≤z∧z≤1125899906842624) (n bs:Nat) (hn:n≤1000) (hRn:R.length=n) (hb1:1≤bs) (hb2:bs < n) (out:List Int):∀ (d a:Nat) (pre T:List Int),T.length≤d→pre.length=a→a+T.length=n→Runs R bs a T →
    (∀ T',Runs R (2 * bs) a T'→T'.length=T.length→Tells (fun k=>Azw.l1 k (pre ++ T') (n:Int) ((2 * bs:Nat):Int) [R]) out)→Tells (fun k=>Azw.l2 k (pre ++ T) (n:Int) (bs:Int) (a:Int) ((a+2 * bs:Nat):Int) [R]) out:=by
  intro d;induction d with
  | zero =>
    intro a pre T h1 h2 h3 h4 h5;have hT:SegRun R a T:=h4.single (by omega)
    refine Tells.up (h5 T (Runs.last _ _ (by omega) hT) rfl) (fun k=>?_)
    rw[Azw.l2];have w1:wrap64 ((a:Int)+(bs:Int))=(a:Int)+(bs:Int):=wrap64_id (by omega) (by omega)
    have w2:wrap64 ((bs:Int) * 2)=((2 * bs:Nat):Int):=by rw[wrap64_id (by omega) (by omega)];omega
    rw[if_neg (by omega),w1,if_neg (by omega),w2]
  | succ d ih =>
    intro a pre T h1 h2 h3 h4 h5;have w1:wrap64 ((a:Int)+(bs:Int))=((a+bs:Nat):Int):=by rw[wrap64_id (by omega) (by omega)];omega
    have w2:wrap64 ((bs:Int) * 2)=((2 * bs:Nat):Int):=by rw[wrap64_id (by omega) (by omega)];omega
    by_cases c1:a+2 * bs≤n
    · obtain⟨S1,T1,e1,l1,r1,h41⟩:=h4.head (by omega)
      subst e1;rw[List.length_append] at h1 h3 h5;obtain⟨S2,T2,e2,l2,r2,h42⟩:=h41.head (by omega)
      subst e2;rw[List.length_append] at h1 h3 h5;have r2':SegRun R (a+S1.length) S2:=by rw[l1];exact r2
      obtain⟨U,pU,sU,tU⟩:=merges R hR (S1.length+S2.length) S1 S2 pre T2 (Nat.le_refl _) (by intro h;subst h;simp at l1;omega) (by intro h;subst h;simp at l2;omega) (segRun_blocks r1 r2' (by omega)) (by omega)
      have hU:U.length=2 * bs:=by rw[pU.length_eq,List.length_append];omega
      have rU:=segRun_merged r1 r2' pU sU;rw[show pre.length+S1.length+S2.length=a+2 * bs by omega,show pre.length+S1.length=a+bs by omega,h2,show pre ++ S1 ++ S2 ++ T2=pre ++ (S1 ++ (S2 ++ T2)) by simp] at tU
      have nx:=ih (a+2 * bs) (pre ++ U) T2 (by omega) (by rw[List.length_append];omega) (by omega) (by rw[show a+2 * bs=a+bs+bs by omega];exact h42) (fun T' hT' hl=>by
        have:=h5 (U ++ T') (Runs.cons _ _ _ hU rU hT') (by rw[List.length_append];omega)
        rwa [← List.append_assoc] at this)
      have w3:wrap64 (2 * (bs:Int))=((2 * bs:Nat):Int):=by rw[wrap64_id (by omega) (by omega)];omega
      have w4:wrap64 (((a+2 * bs:Nat):Int)+((2 * bs:Nat):Int))=((a+2 * bs+2 * bs:Nat):Int):=by rw[wrap64_id (by omega) (by omega)];omega
      refine Tells.up (Tells.bind (g:=fun k t=>Azw.l2 k t (n:Int) (bs:Int) ((a+2 * bs:Nat):Int) ((a+2 * bs+2 * bs:Nat):Int) [R]) tU nx) (fun k=>?_)
      rw[Azw.l2];rw[if_pos (by omega),w1,w3,w4]
    · by_cases c2:a+bs < n
      · obtain⟨S1,T1,e1,l1,r1,h41⟩:=h4.head (by omega)
        subst e1;rw[List.length_append] at h1 h3 h5;have r2':SegRun R (a+S1.length) T1:=by rw[l1];exact h41.single (by omega)
        obtain⟨U,pU,sU,tU⟩:=merges R hR (S1.length+T1.length) S1 T1 pre [] (Nat.le_refl _) (by intro h;subst h;simp at l1;omega) (by intro h;subst h;simp at h3;omega) (segRun_blocks r1 r2' (by omega)) (by simp;omega)
        have hU:U.length=S1.length+T1.length:=by rw[pU.length_eq,List.length_append]
        have rU:=segRun_merged r1 r2' pU sU;rw[show pre.length+S1.length+T1.length=n by omega,show pre.length+S1.length=a+bs by omega,h2,show pre ++ S1 ++ T1 ++ []=pre ++ (S1 ++ T1) by simp,show pre ++ U ++ []=pre ++ U by simp] at tU
        refine Tells.up (Tells.bind (g:=fun k t=>Azw.l1 k t (n:Int) ((2 * bs:Nat):Int) [R]) tU (h5 U (Runs.last _ _ (by omega) rU) hU)) (fun k=>?_)
        rw[Azw.l2];rw[if_neg (by omega),w1,if_pos (by omega),w2]
      · have hT:SegRun R a T:=h4.single (by omega)
        refine Tells.up (h5 T (Runs.last _ _ (by omega) hT) rfl) (fun k=>?_)
        rw[Azw.l2];rw[if_neg (by omega),w1,if_neg (by omega),w2]
theorem stable_l1 (R:List Int) (hR:∀ z ∈ R,0≤z∧z≤1125899906842624) (n:Nat) (hn:n≤1000) (hRn:R.length=n):∀ (d bs:Nat),n≤bs+d→1≤bs→bs≤2000→∀ T,Runs R bs 0 T→T.length=n→Tells (fun k=>Azw.l1 k T (n:Int) (bs:Int) [R]) (ordS R n):=by
  intro d;induction d with
  | zero =>
    intro bs h1 h2 h3 T hT hl;have:=segRun_all (hT.single (by omega)) hl
    subst this;refine Tells.up (Tells.const _) (fun k=>?_)
    rw[Azw.l1];rw[if_neg (by omega)]
  | succ d ih =>
    intro bs h1 h2 h3 T hT hl;by_cases c:bs < n
    · have:=stable_l2 R hR n bs hn hRn h2 c (ordS R n) n 0 [] T (by omega) rfl (by omega) hT (fun T' hT' hl'=>by
        have:=ih (2 * bs) (by omega) (by omega) (by omega) T' hT' (by omega)
        simpa using this)
      have w:wrap64 (2 * (bs:Int))=((0+2 * bs:Nat):Int):=by rw[wrap64_id (by omega) (by omega)];omega
      refine Tells.up this (fun k=>?_)
      rw[Azw.l1];rw[if_pos (by omega),w]
      rfl
    · have:=segRun_all (hT.single (by omega)) hl
      subst this;refine Tells.up (Tells.const _) (fun k=>?_)
      rw[Azw.l1];rw[if_neg (by omega)]
theorem stable_l0 (R:List Int) (hR:∀ z ∈ R,0≤z∧z≤1125899906842624) (n:Nat) (hn:n≤1000) (hRn:R.length=n) (out:List Int):∀ (d a len:Nat) (pre:List Int),len≤d→pre.length=a→a+len=n →
    (∀ T,Runs R 20 a T→T.length=len→Tells (fun k=>Azw.l1 k (pre ++ T) (n:Int) 20 [R]) out)→Tells (fun k=>Azw.l0 k (pre ++ seg a len) (n:Int) 20 (a:Int) ((a+20:Nat):Int) [R]) out:=by
  intro d;induction d with
  | zero =>
    intro a len pre h1 h2 h3 h5;have hi:=ins_tells R pre (seg a len) [] (by omega) hR (by rw[seg_len];omega) (fun y hy=>by have:=mem_seg.1 hy;omega)
    rw[seg_len,show(pre.length:Int)+(len:Int)=(n:Int) by omega,h2,List.append_nil,List.append_nil] at hi
    have hr:=segRun_ins R a len;refine Tells.up (Tells.bind (g:=fun k t=>Azw.l1 k t (n:Int) 20 [R]) hi (h5 _ (Runs.last _ _ (by rw[hr.2];omega) hr.1) hr.2)) (fun k=>?_)
    rw[Azw.l0];rw[if_neg (by omega)]
  | succ d ih =>
    intro a len pre h1 h2 h3 h5;by_cases c:a+20≤n
    · obtain⟨l',rfl⟩:∃ l',len=20+l':=⟨len - 20,by omega⟩
      rw[seg_add];have hi:=ins_tells R pre (seg a 20) (seg (a+20) l') (by omega) hR (by rw[seg_len];omega) (fun y hy=>by have:=mem_seg.1 hy;omega)
      rw[seg_len,show(pre.length:Int)+((20:Nat):Int)=((a+20:Nat):Int) by omega,h2,List.append_assoc] at hi
      have hr:=segRun_ins R a 20;have nx:=ih (a+20) l' (pre ++ (insAll R (seg a 20) []).reverse) (by omega) (by rw[List.length_append,hr.2];omega) (by omega) (fun T hT hl=>by
        have:=h5 _ (Runs.cons _ _ _ hr.2 hr.1 hT) (by rw[List.length_append,hr.2,hl])
        rwa [← List.append_assoc] at this)
      have w:wrap64 (((a+20:Nat):Int)+20)=((a+20+20:Nat):Int):=by rw[wrap64_id (by omega) (by omega)];omega
      refine Tells.up (Tells.bind (g:=fun k t=>Azw.l0 k t (n:Int) 20 ((a+20:Nat):Int) ((a+20+20:Nat):Int) [R]) hi nx) (fun k=>?_)
      rw[Azw.l0];rw[if_pos (by omega),w]
    · have hi:=ins_tells R pre (seg a len) [] (by omega) hR (by rw[seg_len];omega) (fun y hy=>by have:=mem_seg.1 hy;omega)
      rw[seg_len,show(pre.length:Int)+(len:Int)=(n:Int) by omega,h2,List.append_nil,List.append_nil] at hi
      have hr:=segRun_ins R a len;refine Tells.up (Tells.bind (g:=fun k t=>Azw.l1 k t (n:Int) 20 [R]) hi (h5 _ (Runs.last _ _ (by rw[hr.2];omega) hr.1) hr.2)) (fun k=>?_)
      rw[Azw.l0];rw[if_neg (by omega)]
/-- The stable sort,up to 1000 of them. -/
theorem sortall_tells (R:List Int) (n:Nat) (hRn:R.length=n) (hn:n≤1000) (hR:∀ y ∈ R,0≤y∧y≤1125899906842624):Tells (fun k=>Bzk.f k (idx n) [R]) (ordS R n):=by
  have h0:=stable_l0 R hR n hn hRn (ordS R n) n 0 n [] (Nat.le_refl _) rfl (by omega) (fun T hT hl=>by
    have:=stable_l1 R hR n hn hRn n 20 (by omega) (by omega) (by omega) T hT hl
    simpa using this)
  rw[seg_zero] at h0;refine Tells.congr (g:=fun k=>(Azw.l0 k (idx n) ((idx n).length:Int) 20 0 20 [R]).bind fun t=>some t) ?_ (fun k=>by
    unfold Bzk.f Azw.f;rfl)
  rw[idx_len];exact Tells.bind h0 (Tells.const _)

theorem splitall_tells (t:Int) (l:List Int) (hl:l.length≤1000):Tells (fun k=>Azp.f k t l) (splitS t l) :=
  split_tells_of (N:=1000) (fun R n hRn hn hR=>sortall_tells R n hRn hn hR) t l hl (by omega)

theorem and1 (x:Int) (h0:0≤x) (h1:x < 4611686018427387904):Go.bits .and .i64 x 1=x % 2:=by
  have h:=bits_mask .i64 62 (by decide) (fun n a b=>by rw[IntKind.wrap_i64];omega) 1 (by decide) x h0 (by simpa using h1)
  simpa using h
theorem divide_sub (a b c X:Int) (x10:Int) (hc1:1≤c) (hc:c≤1125899906842624) (R:Int × Int):∀ (n:Nat) (q r:Int),0≤r→r < (n+1) * c→0≤q→q≤9007199254740992 - n →
    Tells (fun k=>Azf.l0 k a b c (q+r / c) (r % c) (wrap64 (x10 - 1))) R→n≤3→Tells (fun k=>Azf.l1 k a b c q r x10) R:=by
  intro n;induction n with
  | zero =>
    intro q r h0 h1 hq0 hq1 hT hn;have hr:r < c:=by simpa using h1
    rw[Int.ediv_eq_zero_of_lt h0 hr,Int.emod_eq_of_lt h0 hr,Int.add_zero] at hT;refine Tells.up hT (fun k=>?_)
    rw[Azf.l1];rw[if_neg (by omega)]
  | succ n ih =>
    intro q r h0 h1 hq0 hq1 hT hn;by_cases hr:r≥c
    · refine Tells.up (g:=fun k=>Azf.l1 k a b c (q+1) (r - c) x10) ?_ (fun k=>by
        rw[Azf.l1];have hr2:r < 4 * c+c:=by
          have:((n:Int)+1+1) * c≤5 * c:=Int.mul_le_mul_of_nonneg_right (by omega) (by omega)
          have h1':r < ((n:Int)+1+1) * c:=by simpa using h1
          omega
        rw[if_pos hr,wrap64_id (by omega) (by omega),wrap64_id (by omega) (by omega)])
      refine ih (q+1) (r - c) (by omega) ?_ (by omega) (by omega) ?_ (by omega)
      · have h1':r < ((n:Int)+1+1) * c:=by simpa using h1
        rw[Int.add_mul ((n:Int)+1) 1 c,Int.one_mul] at h1';omega
      · have e1:(r - c) / c=r / c - 1:=by
          rw[show r - c=r+(-1) * c by omega,Int.add_mul_ediv_right _ _ (by omega)]
          omega
        have e2:(r - c) % c=r % c:=by
          rw[show r - c=r+(-1) * c by omega,Int.add_mul_emod_self_right]
        rw[e1,e2,show q+1+(r / c - 1)=q+r / c by omega]
        exact hT
    · have hr':r < c:=by omega
      rw[Int.ediv_eq_zero_of_lt h0 hr',Int.emod_eq_of_lt h0 hr',Int.add_zero] at hT;refine Tells.up hT (fun k=>?_)
      rw[Azf.l1];rw[if_neg hr]
theorem div12_tells (a b c:Int) (ha0:0≤a) (hac:a≤c) (hc1:1≤c) (hc:c≤1125899906842624) (hb0:0≤b) (hb:b≤1125899906842624):Tells (fun k=>Azf.f k a b c) (a * b / c,a * b % c):=by
  have lp:∀ (j:Nat),j≤51→Tells (fun k=>Azf.l0 k a b c (a * (b / 2 ^ j) / c) (a * (b / 2 ^ j) % c) ((j:Int) - 1)) (a * b / c,a * b % c):=by
    intro j;induction j with
    | zero =>
      intro _;refine Tells.up (g:=fun _=>some (a * b / c,a * b % c)) (Tells.const _) (fun k=>?_)
      rw[Azf.l0];rw[if_neg (by omega)]
      simp
    | succ j ih =>
      intro hj;have h2:(2:Int) ^ (j+1)=2 * 2 ^ j:=by rw[Int.pow_succ,Int.mul_comm]
      have hpos:(0:Int) < 2 ^ j:=Int.pow_pos (by decide)
      have hB:b / 2 ^ (j+1)=b / 2 ^ j / 2:=by
        rw[Int.pow_succ,Int.ediv_ediv_of_nonneg (by omega)]
      have hBj0:0≤b / 2 ^ j:=Int.ediv_nonneg hb0 (by omega)
      have hBj1:b / 2 ^ j≤b:=Int.ediv_le_self _ hb0;generalize hBB:b / 2 ^ j=B at *;have hX0:0≤a * (B / 2):=Int.mul_nonneg ha0 (by omega)
      have hXle:a * (B / 2)≤c * (B / 2):=Int.mul_le_mul_of_nonneg_right hac (by omega)
      have hr0:0≤a * (B / 2) % c:=Int.emod_nonneg _ (by omega)
      have hr1:a * (B / 2) % c < c:=Int.emod_lt_of_pos _ (by omega)
      have hq0:0≤a * (B / 2) / c:=Int.ediv_nonneg hX0 (by omega)
      have hq1:a * (B / 2) / c≤B / 2:=by
        have:=Int.ediv_le_ediv (c:=c) (by omega) hXle
        rwa [Int.mul_comm c,Int.mul_ediv_cancel _ (by omega)] at this
      have hdm:c * (a * (B / 2) / c)+a * (B / 2) % c=a * (B / 2):=Int.mul_ediv_add_emod _ _;rw[hB];generalize hq:a * (B / 2) / c=q at *;generalize hr:a * (B / 2) % c=r at *;have hs:shr .i64 b (((j+1:Nat):Int) - 1)=B:=by
        unfold shr;rw[show((((j+1:Nat):Int) - 1)).toNat=j by omega,show min j (IntKind.i64.bits)=j by
          have:IntKind.i64.bits=64:=rfl;omega]
        exact hBB
      have hstep:∀ (rr:Int),rr=2 * r+(B % 2) * a→Tells (fun k=>Azf.j1 k a b c (2 * q) rr (((j+1:Nat):Int) - 1)) (a * b / c,a * b % c):=by
        intro rr hrr;have hba:0≤(B % 2) * a∧(B % 2) * a≤a:=by
          rcases Int.emod_two_eq B with h|h
          · rw[h];simp [ha0]
          · rw[h];simp [ha0]
        refine Tells.up (g:=fun k=>Azf.l1 k a b c (2 * q) rr (((j+1:Nat):Int) - 1)) ?_ (fun k=>by rw[Azf.j1])
        refine divide_sub a b c 0 _ hc1 hc _ 2 (2 * q) rr (by omega) (by rw[show((2:Nat):Int)+1=3 from rfl];omega) (by omega) (by omega) ?_ (by omega)
        have hX:a * B=2 * (a * (B / 2))+(B % 2) * a:=by
          have:=Int.mul_ediv_add_emod B 2;calc a * B=a * (2 * (B / 2)+B % 2):=by rw[this]
            _=2 * (a * (B / 2))+(B % 2) * a:=by rw[Int.mul_add,← Int.mul_assoc,Int.mul_comm a 2,Int.mul_assoc,Int.mul_comm a (B % 2)]
        have hXX:a * B=rr+(2 * q) * c:=by
          rw[hX,hrr,← hdm,Int.mul_add,Int.mul_comm c q,← Int.mul_assoc];omega
        have e1:2 * q+rr / c=a * B / c:=by
          rw[hXX,Int.add_mul_ediv_right _ _ (by omega)];omega
        have e2:rr % c=a * B % c:=by rw[hXX,Int.add_mul_emod_self_right]
        rw[e1,e2,wrap64_id (by omega) (by omega),show((j+1:Nat):Int) - 1 - 1=(j:Int) - 1 by omega]
        have:=ih (by omega)
        exact this
      refine Tells.up (g:=fun k=>Azf.j1 k a b c (2 * q) (2 * r+(B % 2) * a) (((j+1:Nat):Int) - 1)) (hstep _ rfl) (fun k=>?_)
      rw[Azf.l0];rw[if_pos (by omega),if_pos (by omega),hs,and1 B hBj0 (by omega),wrap64_id (n:=2 * q) (by omega) (by omega),wrap64_id (n:=2 * r) (by omega) (by omega)]
      rcases Int.emod_two_eq B with h|h
      · rw[if_neg (by omega),h];simp
      · rw[if_pos h,h,wrap64_id (by omega) (by omega)];simp
  have h51:=lp 51 (by omega)
  have e:b / 2 ^ 51=0:=Int.ediv_eq_zero_of_lt hb0 (by omega)
  rw[e] at h51;simp at h51;refine Tells.congr h51 (fun k=>?_)
  unfold Azf.f;rfl
/-- The remainders,without those that are picked. -/

def pickS (R D:List Int) (n:Nat):List Int:=(idx n).map fun i=>if i ∈ D then -1 else rd R i
theorem pickS_len (R D:List Int) (n:Nat):(pickS R D n).length=n:=by simp [pickS,idx_len]
theorem rd_pickS (R D:List Int) (n i:Nat) (h:i < n):rd (pickS R D n) (i:Int)=if(i:Int) ∈ D then -1 else rd R i:=by
  unfold pickS;rw[rd_map _ _ i (by rw[idx_len];exact h),rd_idx _ _ h]
theorem pickS_nil (R:List Int):pickS R [] R.length=R:=by
  apply ext_rd (by rw[pickS_len])
  intro i hi;rw[pickS_len] at hi;rw[rd_pickS _ _ _ _ hi];simp
theorem pickS_step (R D:List Int) (n i:Nat) (h:i < n):(pickS R D n).set i (-1)=pickS R (D ++ [(i:Int)]) n:=by
  apply ext_rd (by simp [pickS_len])
  intro j hj;have hj':j < n:=by simpa [pickS_len] using hj
  rw[rd_set _ _ _ _ (by rw[pickS_len];exact hj'),rd_pickS _ _ _ _ hj',rd_pickS _ _ _ _ hj']
  by_cases e:i=j
  · subst e;simp
  · rw[if_neg e]
    have:((j:Int) ∈ D ++ [(i:Int)]) ↔ (j:Int) ∈ D:=by
      rw[List.mem_append,List.mem_singleton];constructor
      · rintro (h|h)
        · exact h
        · omega
      · exact Or.inl
    simp only[this]

theorem refCheck_tells (t:Int) (l:List Int) (hl:l.length≤1000000):Tells (fun k=>Azb.f k t l) (shCheckS t l):=by
  refine Tells.congr (g:=fun k=>Azb.j0 k t l (decide (t < 0∨t > 1125899906842624))) ?_ (fun k=>by
    unfold Azb.f;by_cases h:t < 0
    · rw[if_pos h,decide_eq_true (p:=t < 0∨t > 1125899906842624) (Or.inl h)]
    · rw[if_neg h];congr 1;simp [h])
  refine Tells.up (g:=fun k=>if decide (t < 0∨t > 1125899906842624)=true then some (0,1) else if(l.length:Int)=0 then some (0,10) else if(l.length:Int) > 512 then some (0,8) else Azb.l0 k t l ((0:Nat):Int)) ?_ (fun k=>by rw[Azb.j0];rfl)
  unfold shCheckS;by_cases h1:t < 0∨t > 1125899906842624
  · rw[if_pos h1];exact Tells.pos (decide_eq_true h1) (Tells.const _)
  rw[if_neg h1];refine Tells.neg (by simpa using h1) ?_
  refine Tells.ite (fun _=>Tells.const _) (fun h2=>?_)
  refine Tells.ite (fun _=>Tells.const _) (fun h3=>?_)
  have l1:inAll 1125899906842624 l=true→∀ n i s,i+n=l.length→0≤s→s≤(i:Int) * 1125899906842624→s+(l.drop i).sum=l.sum→Tells (fun k=>Azb.l1 k t l s (i:Int)) (if l.sum > 1125899906842624 then(0,2) else if l.sum=0 then(if t > 0 then(0,16) else(l.sum,0)) else(l.sum,0)):=by
    intro ha n;induction n with
    | zero =>
      intro i s hi h0 h1 hs;rw[List.drop_of_length_le (by omega),List.sum_nil,Int.add_zero] at hs
      subst hs;refine Tells.up (g:=fun k=>if l.sum > 1125899906842624 then some (0,2) else if l.sum=0 then(if t=0 then some (l.sum,0) else some (0,16)) else some (l.sum,0)) ?_ (fun k=>by
        rw[Azb.l1];rw[if_neg (by omega)])
      refine Tells.ite (fun _=>Tells.const _) (fun _=>?_)
      refine Tells.ite (fun _=>?_) (fun _=>Tells.const _)
      by_cases h:t=0
      · rw[if_neg (show ¬ t > 0 by omega)];exact Tells.pos h (Tells.const _)
      · rw[if_pos (show t > 0 by omega)];exact Tells.neg h (Tells.const _)
    | succ n ih =>
      intro i s hi h0 h1 hs;have hx:=inAll_iff.1 ha _ (rd_mem l (i:Int) (by omega) (by omega))
      rw[rd_drop l i (by omega),List.sum_cons] at hs
      refine Tells.up (ih (i+1) (s+rd l (i:Int)) (by omega) (by omega) (by omega) (by omega)) (fun k=>?_)
      rw[Azb.l1];rw[if_pos (by omega),if_pos (by omega),wrap64_id (n:=s+rd l (i:Int)) (by omega) (by omega),wrap64_id (by omega) (by omega)]
      rfl
  have l0:∀ n i,i+n=l.length→inAll 1125899906842624 (l.take i)=true→Tells (fun k=>Azb.l0 k t l (i:Int)) (if inAll 1125899906842624 l=true then(if l.sum > 1125899906842624 then(0,2) else if l.sum=0 then(if t > 0 then(0,16) else(l.sum,0)) else(l.sum,0)) else(0,1)):=by
    intro n;induction n with
    | zero =>
      intro i hi ha;rw[List.take_of_length_le (by omega)] at ha
      rw[if_pos ha];refine Tells.up (l1 ha l.length 0 0 (by omega) (by omega) (by omega) (by simp)) (fun k=>?_)
      rw[Azb.l0];rw[if_neg (by omega)]
      rfl
    | succ n ih =>
      intro i hi ha;have hr:=rd_drop l i (by omega)
      have hm:=rd_mem l (i:Int) (by omega) (by omega)
      refine Tells.up (g:=fun k=>if rd l (i:Int) < 0 then some (0,1) else if rd l (i:Int) > 1125899906842624 then some (0,1) else Azb.l0 k t l ((i+1:Nat):Int)) ?_ (fun k=>by
        rw[Azb.l0];rw[if_pos (by omega),if_pos (by omega),wrap64_id (n:=(i:Int)+1) (by omega) (by omega)]
        rfl)
      by_cases c1:rd l (i:Int) < 0
      · rw[if_neg (by intro h;have:=inAll_iff.1 h _ hm;omega)]
        exact Tells.pos c1 (Tells.const _)
      by_cases c2:rd l (i:Int) > 1125899906842624
      · rw[if_neg (by intro h;have:=inAll_iff.1 h _ hm;omega)]
        exact Tells.neg c1 (Tells.pos c2 (Tells.const _))
      refine Tells.neg c1 (Tells.neg c2 (ih (i+1) (by omega) ?_))
      rw[inAll_iff] at ha ⊢;intro x hx;rw[List.take_add_one,List.mem_append] at hx;rcases hx with hx|hx
      · exact ha x hx
      · rw[List.getElem?_eq_getElem (by omega)] at hx
        simp at hx;rw[hx,← rd_at l i (by omega)]
        omega
  exact l0 l.length 0 (by omega) (by simp [inAll])
/-- The search ends at the first greatest one. -/
theorem ref_l2 (P X:List Int) (left:Int) (o:Nat) (out:List Int × Int) (hX:X.length=P.length) (hl:X.length≤1000000) (ho:o < X.length) (h1:∀ j:Nat,j < X.length→rd X j≤rd X o) (h2:∀ j:Nat,j < o→rd X j < rd X o)
    (hend:Tells (fun k=>Azm.l1 k (P.set o (wrap64 (rd P (o:Int)+1))) (wrap64 (left - 1)) (X.set o (-1))) out) :
    ∀ n i b:Nat,i+n=X.length→b < i→(∀ j:Nat,j < i→rd X j≤rd X b)→(∀ j:Nat,j < b→rd X j < rd X b)→Tells (fun k=>Azm.l2 k P left X (b:Int) (i:Int)) out:=by
  intro n;induction n with
  | zero =>
    intro i b hi hb h3 h4;have e:b=o:=by
      rcases Nat.lt_trichotomy b o with h|h|h
      · have:=h2 b h;have:=h3 o (by omega);omega
      · exact h
      · have:=h4 o h;have:=h1 b (by omega);omega
    subst e;refine Tells.up hend (fun k=>?_)
    rw[Azm.l2];rw[if_neg (by omega),if_pos (by omega),if_pos (by omega),if_pos (by omega)]
    rfl
  | succ n ih =>
    intro i b hi hb h3 h4;by_cases c:rd X (i:Int) > rd X (b:Int)
    · refine Tells.up (ih (i+1) i (by omega) (by omega) ?_ ?_) (fun k=>?_)
      · intro j hj
        by_cases e:j=i
        · subst e;omega
        · have:=h3 j (by omega);omega
      · intro j hj
        have:=h3 j (by omega);omega
      · rw[Azm.l2]
        rw[if_pos (by omega),if_pos (by omega),if_pos (by omega),if_pos (by omega),if_pos c,wrap64_id (by omega) (by omega)]
        rfl
    · refine Tells.up (ih (i+1) b (by omega) (by omega) ?_ h4) (fun k=>?_)
      · intro j hj
        by_cases e:j=i
        · subst e;omega
        · exact h3 j (by omega)
      · rw[Azm.l2]
        rw[if_pos (by omega),if_pos (by omega),if_pos (by omega),if_pos (by omega),if_neg c,wrap64_id (by omega) (by omega)]
        rfl
theorem ref_l1 (t s:Int) (l:List Int) (ht0:0≤t) (ht:t≤1125899906842624) (hw:∀ w ∈ l,0≤w∧w≤s) (hl0:0 < l.length) (hl:l.length≤1000000) (hR:∀ y ∈ remS t s l,0≤y) :
    ∀ (todo D post:List Int),D ++ todo ++ post=ordS (remS t s l) l.length→Tells (fun k=>Azm.l1 k (bumpS t s l D) (todo.length:Int) (pickS (remS t s l) D l.length)) (bumpS t s l (D ++ todo),0):=by
  intro todo;induction todo with
  | nil =>
    intro D post _;rw[List.append_nil];refine Tells.up (Tells.const _) (fun k=>?_)
    rw[Azm.l1];rw[if_neg (by simp)]
  | cons x todo ih =>
    intro D post hD;have hO:=ordS_sorted (remS t s l) l.length;have hN:=ordS_nodup (remS t s l) l.length;have hx:0≤x∧x < (l.length:Int):=mem_ordS.1 (by rw[← hD];simp:x ∈ ordS (remS t s l) l.length)
    have hall:∀ j:Nat,j < l.length→(j:Int) ∈ D∨(j:Int)=x∨(j:Int) ∈ todo ++ post:=by
      intro j hj;have:(j:Int) ∈ ordS (remS t s l) l.length:=mem_ordS.2 (by omega)
      rw[← hD] at this;simp at this ⊢;rcases this with h|h|h|h
      · exact Or.inl h
      · exact Or.inr (Or.inl h)
      · exact Or.inr (Or.inr (Or.inl h))
      · exact Or.inr (Or.inr (Or.inr h))
    rw[← hD,List.append_assoc,List.nodup_append] at hN;have hxD:x ∉ D:=fun h=>hN.2.2 x h x (by simp) rfl
    rw[← hD,List.append_assoc,List.pairwise_append] at hO;have hO2:=hO.2.1;rw[List.cons_append,List.pairwise_cons] at hO2;obtain⟨o,rfl⟩:∃ o:Nat,x=(o:Int):=⟨x.toNat,by omega⟩
    have ho:o < l.length:=by omega
    have hRo:0≤rd (remS t s l) (o:Int):=hR _ (rd_mem _ _ (by omega) (by simp [remS];omega))
    have hb:rd (bumpS t s l D) (o:Int)=t * rd l o / s:=by rw[rd_bumpS _ _ _ _ _ ho,if_neg hxD,Int.add_zero]
    have hq:=quo_le ht0 (hw _ (rd_mem l o (by omega) (by omega))).1 (hw _ (rd_mem l o (by omega) (by omega))).2
    have hto:(((o:Int) :: todo).length:Int)=(todo.length:Int)+1:=by simp
    have hpl:(pickS (remS t s l) D l.length).length=l.length:=pickS_len _ _ _;have hle:((ordS (remS t s l) l.length).length:Int)=l.length:=by rw[ordS_len]
    rw[← hD] at hle;have htl:(todo.length:Int)≤l.length:=by simp at hle;omega
    refine Tells.up (g:=fun k=>Azm.l2 k (bumpS t s l D) (((o:Int) :: todo).length:Int) (pickS (remS t s l) D l.length) ((0:Nat):Int) ((1:Nat):Int)) ?_ (fun k=>by
      rw[Azm.l1];rw[if_pos (by omega)]
      rfl)
    refine ref_l2 _ _ _ o _ (by rw[hpl,bumpS_len]) (by omega) (by omega) ?_ ?_ ?_ (l.length - 1) 1 0 (by omega) (by omega) (fun j hj=>by
      obtain rfl:j=0:=by omega
      exact Int.le_refl _) (fun j hj=>by omega)
    · intro j hj
      rw[hpl] at hj;rw[rd_pickS _ _ _ _ hj,rd_pickS _ _ _ _ ho,if_neg hxD];split
      · omega
      · rename_i hjD
        rcases hall j hj with h|h|h
        · exact absurd h hjD
        · rw[h];exact Int.le_refl _
        · have:=hO2.1 _ h
          unfold ltR at this;omega
    · intro j hj
      rw[rd_pickS _ _ _ _ (by omega:j < l.length),rd_pickS _ _ _ _ ho,if_neg hxD]
      split
      · omega
      · rename_i hjD
        rcases hall j (by omega) with h|h|h
        · exact absurd h hjD
        · omega
        · have:=hO2.1 _ h
          unfold ltR at this;omega
    · rw[hb,wrap64_id (by omega) (by omega),← hb,bumpS_step t s l D o ho hxD,pickS_step _ _ _ _ ho,wrap64_id (by omega) (by omega),hto]
      have:=ih (D ++ [(o:Int)]) post (by rw[← hD];simp)
      have e:(todo.length:Int)+1 - 1=(todo.length:Int):=by omega
      rw[e];simpa using this
theorem ref_l0 (t s:Int) (l:List Int) (out:List Int × Int) (ht0:0≤t) (ht:t≤1125899906842624) (hs1:1≤s) (hs:s≤1125899906842624) (hw:∀ w ∈ l,0≤w∧w≤s) (hl:l.length≤1000)
    (hend:Tells (fun k=>Azm.l1 k (quoS t s l) (leftS t s l) (remS t s l)) out) :
    ∀ r pre,pre ++ r=l→Tells (fun k=>Azm.l0 k t l s (quoS t s pre ++ List.replicate r.length 0) (t - (quoS t s pre).sum) (remS t s pre ++ List.replicate r.length 0) (pre.length:Int)) out:=by
  intro r;induction r with
  | nil =>
    intro pre h;rw[List.append_nil] at h;subst h;refine Tells.up hend (fun k=>?_)
    rw[Azm.l0];rw[if_neg (by omega)]
    simp [leftS]
  | cons x r ih =>
    intro pre h;have hlen:l.length=pre.length+r.length+1:=by rw[← h];simp;omega
    have hx:=hw x (by rw[← h];simp)
    have e1:rd l (pre.length:Int)=x:=rd_mid' h.symm rfl;have hq:=quo_le ht0 hx.1 hx.2;have hqs:=sum_le_mul (m:=t) (l:=quoS t s pre) (fun y hy=>by
      unfold quoS at hy;obtain⟨w,hw',rfl⟩:=List.mem_map.1 hy;have:=hw w (by rw[← h];exact List.mem_append_left _ hw')
      exact quo_le ht0 this.1 this.2)
    have hql:(quoS t s pre).length=pre.length:=by simp [quoS]
    have hrl:(remS t s pre).length=pre.length:=by simp [remS]
    rw[hql] at hqs;have hmul:t * (pre.length:Int)≤1125899906842624 * 1000:=by
      have a:=Int.mul_le_mul_of_nonneg_right ht (show(0:Int)≤(pre.length:Int) by omega)
      omega
    have sA:(quoS t s pre ++ List.replicate (x :: r).length 0).set (pre.length:Int).toNat (t * x / s)=quoS t s (pre ++ [x]) ++ List.replicate r.length 0:=by
      rw[set_mid' (A:=quoS t s pre) (x:=0) (B:=List.replicate r.length 0) (by rw[List.length_cons,List.replicate_succ]) (by rw[hql])]
      simp [quoS]
    have sB:(remS t s pre ++ List.replicate (x :: r).length 0).set (pre.length:Int).toNat (t * x % s)=remS t s (pre ++ [x]) ++ List.replicate r.length 0:=by
      rw[set_mid' (A:=remS t s pre) (x:=0) (B:=List.replicate r.length 0) (by rw[List.length_cons,List.replicate_succ]) (by rw[hrl])]
      simp [remS]
    have eq:rd (quoS t s (pre ++ [x]) ++ List.replicate r.length 0) (pre.length:Int)=t * x / s :=
      rd_mid' (A:=quoS t s pre) (B:=List.replicate r.length 0) (by simp [quoS]) (by rw[hql])
    have e2:t - (quoS t s (pre ++ [x])).sum=t - (quoS t s pre).sum - t * x / s:=by
      simp [quoS];omega
    have hnext:=ih (pre ++ [x]) (by rw[← h];simp)
    rw[e2] at hnext;refine Tells.up (g:=fun k=>(Azf.f k x t s).bind fun b=>if(pre.length:Int) < ((quoS t s pre ++ List.replicate (x :: r).length 0).length:Int) then((some ((quoS t s pre ++ List.replicate (x :: r).length 0).set (pre.length:Int).toNat b.1:List Int)).bind fun y=>if(pre.length:Int) < ((remS t s pre ++ List.replicate (x :: r).length 0).length:Int) then Azm.l0 k t l s y (wrap64 (t - (quoS t s pre).sum - rd y (pre.length:Int))) ((remS t s pre ++ List.replicate (x :: r).length 0).set (pre.length:Int).toNat b.2) (wrap64 ((pre.length:Int)+1)) else none) else none) ?_ (fun k=>by
      rw[Azm.l0];rw[if_pos (by omega),if_pos (by omega),e1])
    refine Tells.bind (div12_tells x t s hx.1 hx.2 hs1 hs ht0 ht) ?_;rw[Int.mul_comm x t];refine Tells.pos (by simp [hql];omega) ?_
    refine Tells.bind (Tells.const _) ?_;refine Tells.pos (by simp [hrl];omega) ?_
    rw[sA,sB,eq,wrap64_id (by omega) (by omega),wrap64_id (by omega) (by omega)]
    rw[List.length_append,List.length_singleton] at hnext;exact hnext
theorem refSplit_tells (t:Int) (l:List Int) (hl:l.length≤1000):Tells (fun k=>Azm.f k t l) (splitS t l):=by
  refine Tells.congr (g:=fun k=>(Azb.f k t l).bind fun b=>if b.2=0 then(if b.1=0 then some (List.replicate l.length 0,0) else Azm.l0 k t l b.1 (List.replicate l.length 0) t (List.replicate l.length 0) 0) else some ([],b.2)) ?_ (fun k=>by
    unfold Azm.f;congr 1;funext b
    rw[if_pos (show 0≤(l.length:Int) by omega),if_pos (show((l.length:Int):Int).toNat≤35184372088832 by omega)]
    rfl)
  refine Tells.bind (refCheck_tells t l (by omega)) ?_
  unfold splitS;refine Tells.ite (fun hc=>?_) (fun _=>Tells.const _)
  obtain⟨ht0,ht,hl0,hl1,hin,hs,hz,he⟩:=shCheck_ok hc;rw[he];have hw:∀ w ∈ l,0≤w∧w≤l.sum:=fun w hw=>⟨(inAll_iff.1 hin w hw).1,sum_mem_le hin w hw⟩
  have hs0:0≤l.sum:=sum_nonneg (fun w h=>(hw w h).1)
  have hlb:=left_bounds hl0 ht0 (fun w h=>(hw w h).1) hz
  by_cases h0:l.sum=0
  · have ht:=hz h0
    refine Tells.pos h0 ?_;have e:partsSp t l.sum l=List.replicate l.length 0:=by
      unfold partsSp leftS;rw[quoS_zero t l.sum l (fun w _=>by rw[ht];simp)]
      rw[ht];have e0:((0:Int) - (List.replicate l.length (0:Int)).sum).toNat=0:=by simp
      rw[e0,List.take_zero,bumpS_nil,quoS_zero 0 l.sum l (fun w _=>by simp)]
    rw[e];exact Tells.const _
  · refine Tells.neg h0 ?_
    have hR:∀ y ∈ remS t l.sum l,0≤y:=fun y hy=>(rem_bounds (show 0 < l.sum by omega) y hy).1
    have:=ref_l0 t l.sum l (partsSp t l.sum l,0) ht0 ht (by omega) hs hw hl ?_ l [] rfl
    · simpa [quoS,remS] using this
    have h1:=ref_l1 t l.sum l ht0 ht hw hl0 (by omega) hR ((ordS (remS t l.sum l) l.length).take (leftS t l.sum l).toNat) [] ((ordS (remS t l.sum l) l.length).drop (leftS t l.sum l).toNat) (by rw[List.nil_append,List.take_append_drop])
    rw[bumpS_nil,List.nil_append] at h1;have e1:(((ordS (remS t l.sum l) l.length).take (leftS t l.sum l).toNat).length:Int)=leftS t l.sum l:=by
      rw[List.length_take,ordS_len];omega
    have e2:pickS (remS t l.sum l) [] l.length=remS t l.sum l:=by
      have:=pickS_nil (remS t l.sum l);simpa [remS] using this
    rw[e1,e2] at h1;exact h1

theorem awake_tells:Tells (fun k=>Azx.f k) true:=Tells.of (fun k=>Azx.mono k) ⟨300,by decide +kernel⟩

theorem same12 (l:List Int) (hl:l.length≤1000):Tells (fun k=>Bzq.f k l l) true:=by
  have lp:∀ n i k,n < k→i+n=l.length→Bzq.l0 k l l (i:Int)=some true:=by
    intro n;induction n with
    | zero =>
      intro i k hk hi;obtain⟨m,rfl⟩:∃ m,k=m+1:=⟨k - 1,by omega⟩
      unfold Bzq.l0;rw[if_neg (by omega)]
    | succ n ih =>
      intro i k hk hi;obtain⟨m,rfl⟩:∃ m,k=m+1:=⟨k - 1,by omega⟩
      unfold Bzq.l0;rw[if_pos (by omega),if_pos (by omega),if_pos (by omega),if_pos rfl,wrap64_id (by omega) (by omega)]
      exact ih (i+1) m (by omega) (by omega)
  refine⟨l.length+1,fun k hk=>?_⟩
  show Bzq.f k l l=some true
  unfold Bzq.f;rw[if_pos rfl];exact lp l.length 0 k (by omega) (by omega)

def evenS (t n:Int):List Int × Int:=if t < 0∨t > 1125899906842624∨n < 1∨n > 512 then([],1) else splitS t (List.replicate n.toNat 1)
theorem evenS_len (t n:Int):(evenS t n).1.length≤1000:=by
  unfold evenS;split
  · simp
  · rename_i h
    unfold splitS;split
    · show(bumpS t _ _ _).length≤1000
      rw[bumpS_len,List.length_replicate];omega
    · simp
theorem evenS_split (t n:Int) (h1:1≤n) (h2:n≤512):splitS t (List.replicate n.toNat 1)=evenS t n:=by
  unfold evenS;by_cases h:t < 0∨t > 1125899906842624
  · rw[if_pos (by omega)]
    unfold splitS shCheckS;rw[if_pos h];rfl
  · rw[if_neg (by omega)]
theorem even_tells (t n:Int):Tells (fun k=>Czq.f k t n) (evenS t n):=by
  have bad:Tells (fun k=>Czq.j0 k t n true) ([],1):=Tells.up (Tells.const _) (fun k=>by rw[Czq.j0,if_pos rfl])
  unfold Czq.f evenS;by_cases c1:t < 0
  · rw[if_pos (by omega)];exact Tells.pos c1 bad
  refine Tells.neg c1 ?_;by_cases c2:t > 1125899906842624
  · rw[if_pos (by omega)];exact Tells.pos c2 bad
  refine Tells.neg c2 ?_;by_cases c3:n < 1
  · rw[if_pos (by omega)];exact Tells.pos c3 bad
  refine Tells.neg c3 ?_;by_cases c4:n > 512
  · rw[if_pos (by omega),decide_eq_true c4];exact bad
  rw[if_neg (by omega),decide_eq_false c4]
  have hs:=splitall_tells t (List.replicate n.toNat 1) (by simp;omega)
  refine Tells.up (hs.bind (g:=fun _ bt=>some (bt.1,bt.2)) (Tells.const _)) (fun k=>?_)
  have e:Czv.f ([1]:List Int) n=some (List.replicate n.toNat 1):=by
    unfold Czv.f;rw[if_pos ⟨rfl,by omega,by omega⟩]
    rfl
  rw[Czq.j0,if_neg (by decide),e]
  rfl
theorem refEven_l0 (t:Int) (n:Nat) (hn:n≤512) (d:Nat):∀ i:Nat,i+d=n→Tells (fun k=>Bzw.l0 k t (n:Int) (List.replicate i 1) (i:Int)) (splitS t (List.replicate n 1)):=by
  induction d with
  | zero =>
    intro i hi;obtain rfl:i=n:=by omega
    have hs:=refSplit_tells t (List.replicate i 1) (by simp;omega)
    refine Tells.up (hs.bind (g:=fun _ bt=>some (bt.1,bt.2)) (Tells.const _)) (fun k=>?_)
    rw[Bzw.l0,if_neg (by omega)]
  | succ d ih =>
    intro i hi;have ei:wrap64 ((i:Int)+1)=((i+1:Nat):Int):=by rw[wrap64_id (by omega) (by omega)];omega
    refine Tells.up (ih (i+1) (by omega)) (fun k=>?_)
    rw[Bzw.l0,if_pos (by omega),if_pos (by rw[List.length_replicate];omega),ei,List.replicate_succ']
theorem refEven_tells (t n:Int):Tells (fun k=>Bzw.f k t n) (evenS t n):=by
  have bad:Tells (fun k=>Bzw.j0 k t n true) ([],1):=Tells.up (Tells.const _) (fun k=>by rw[Bzw.j0,if_pos rfl])
  unfold Bzw.f evenS;by_cases c1:t < 0
  · rw[if_pos (by omega)];exact Tells.pos c1 bad
  refine Tells.neg c1 ?_;by_cases c2:t > 1125899906842624
  · rw[if_pos (by omega)];exact Tells.pos c2 bad
  refine Tells.neg c2 ?_;by_cases c3:n < 1
  · rw[if_pos (by omega)];exact Tells.pos c3 bad
  refine Tells.neg c3 ?_;by_cases c4:n > 512
  · rw[if_pos (by omega),decide_eq_true c4];exact bad
  rw[if_neg (by omega),decide_eq_false c4]
  obtain⟨m,rfl⟩:∃ m:Nat,n=(m:Int):=⟨n.toNat,by omega⟩
  rw[Int.toNat_natCast];refine Tells.up (refEven_l0 t m (by omega) m 0 (by omega)) (fun k=>?_)
  rw[Bzw.j0,if_neg (by decide)]
  rfl
theorem evensLaw_l0 (t:Int) (n:Nat) (hn1:1≤n) (hn:n≤512) (d:Nat):∀ i:Nat,i+d=n→Tells (fun k=>papermilllaw12_ShareEvens.l0 k t (n:Int) (evenS t n).1 (evenS t n).2 (List.replicate i 1 ++ List.replicate (n - i) 0) (i:Int)) true:=by
  induction d with
  | zero =>
    intro i hi;obtain rfl:i=n:=by omega
    have hs:=splitall_tells t (List.replicate i 1) (by simp;omega)
    have ee:=evenS_split t (i:Int) (by omega) (by omega)
    rw[Int.toNat_natCast] at ee;rw[ee] at hs;have hm:=same12 (evenS t i).1 (evenS_len t i);have ha:Tells (fun k=>(Azx.f k).bind fun t=>(some t)) true:=awake_tells.bind (Tells.const _)
    refine Tells.up (hs.bind (g:=fun k bt=>(Bzq.f k (evenS t i).1 bt.1).bind fun t373=>(if t373=true then(if(evenS t i).2=bt.2 then((Azx.f k).bind fun t374=>(some t374)) else(none)) else(none))) (hm.bind (Tells.pos rfl (Tells.pos rfl ha)))) (fun k=>?_)
    rw[papermilllaw12_ShareEvens.l0,if_neg (by omega),Nat.sub_self,List.replicate_zero,List.append_nil]
  | succ d ih =>
    intro i hi;have ei:wrap64 ((i:Int)+1)=((i+1:Nat):Int):=by rw[wrap64_id (by omega) (by omega)];omega
    have es:(List.replicate i (1:Int) ++ List.replicate (n - i) 0).set i 1=List.replicate (i+1) 1 ++ List.replicate (n - (i+1)) 0:=by
      rw[show n - i=(n - (i+1))+1 by omega,List.replicate_succ,List.set_append_right _ _ (by simp),List.length_replicate,Nat.sub_self,List.set_cons_zero,List.replicate_succ',List.append_assoc]
      rfl
    refine Tells.up (ih (i+1) (by omega)) (fun k=>?_)
    rw[papermilllaw12_ShareEvens.l0,if_pos (by omega),if_pos (by omega),if_pos (by rw[List.length_append,List.length_replicate,List.length_replicate];omega),ei,Int.toNat_natCast,es]
theorem ShareEvens:papermilllaw12_ShareEvens.Pure:=by
  intro t n _ _;have ha:Tells (fun k=>(Azx.f k).bind fun t=>(some t)) true:=awake_tells.bind (Tells.const _)
  have hj:∀ a b,Tells (fun k=>papermilllaw12_ShareEvens.j1 k t n a b true) true:=fun a b=>Tells.up ha (fun k=>by rw[papermilllaw12_ShareEvens.j1,if_pos rfl])
  refine Tells.get ?_;unfold papermilllaw12_ShareEvens.f;refine(even_tells t n).bind ((refEven_tells t n).bind ((same12 _ (evenS_len t n)).bind (Tells.pos rfl ?_)));rw[show((evenS t n).2 != (evenS t n).2)=false by simp]
  by_cases c1:n < 1
  · refine Tells.up (hj (evenS t n).1 (evenS t n).2) (fun k=>?_)
    rw[papermilllaw12_ShareEvens.j0,if_neg (by decide),if_pos c1]
  by_cases c2:n > 512
  · refine Tells.up (hj (evenS t n).1 (evenS t n).2) (fun k=>?_)
    rw[papermilllaw12_ShareEvens.j0,if_neg (by decide),if_neg c1,decide_eq_true c2]
  obtain⟨m,rfl⟩:∃ m:Nat,n=(m:Int):=⟨n.toNat,by omega⟩
  have hl:=evensLaw_l0 t m (by omega) (by omega) m 0 (by omega)
  refine Tells.up (g:=fun k=>papermilllaw12_ShareEvens.j1 k t (m:Int) (evenS t m).1 (evenS t m).2 false) (Tells.up hl (fun k=>?_)) (fun k=>?_)
  · rw[papermilllaw12_ShareEvens.j1,if_neg (by decide),if_pos (by omega),if_pos (by rw[Int.toNat_natCast];omega),Int.toNat_natCast]
    rfl
  · rw[papermilllaw12_ShareEvens.j0,if_neg (by decide),if_neg c1,decide_eq_false c2]

end Go.Proofs.Ytblifmmcmngdnaa.Pure
