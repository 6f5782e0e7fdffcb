import Derived.Test.YtokkiljkgejnhaaPrint40
namespace Go.Proofs.Ytokkiljkgejnhaa.Pure
open Go.RowKit Go.Proofs.Ytokkiljkgejnhaa.Print Go.Proofs.YtokkiljkgejnhaaW.PrintWords Go.Proofs.YtokkiljkgejnhaaW.PrintLast
set_option linter.unusedVariables false
set_option linter.unusedSimpArgs false

/-- From some number of rounds on f tells r. -/
def Tells {α:Type} (f:Nat→Option α) (r:α):Prop:=∃ K,∀ k,K≤k→f k=some r
namespace Tells
theorem leO {α:Type} {f:Nat→Option α} (hm:∀ k,LeO (f k) (f (k+1))) {K:Nat} {r:α} (h:f K=some r):∀ k,K≤k→f k=some r:=by
  intro k hk;induction hk with
  | refl=>exact h
  | step _ ih=>exact hm _ _ ih
theorem of {α:Type} {f:Nat→Option α} (hm:∀ k,LeO (f k) (f (k+1))) {r:α} (h:∃ K,f K=some r):Tells f r:=by
  obtain⟨K,h⟩:=h;exact⟨K,leO hm h⟩
theorem get {α:Type} {f:Nat→Option α} {r:α} (h:Tells f r):∃ k,f k=some r:=by
  obtain⟨K,h⟩:=h;exact⟨K,h K (Nat.le_refl K)⟩
theorem const {α:Type} (r:α):Tells (fun _=>some r) r:=⟨0,fun _ _=>rfl⟩
theorem bind {α β:Type} {f:Nat→Option α} {g:Nat→α→Option β} {r:α} {s:β} (h:Tells f r) (h':Tells (fun k=>g k r) s):Tells (fun k=>(f k).bind (g k)) s:=by
  obtain⟨K,h⟩:=h;obtain⟨K',h'⟩:=h';refine⟨max K K',fun k hk=>?_⟩
  show(f k).bind (g k)=some s
  rw[h k (by omega)]
  exact h' k (by omega)
theorem congr {α:Type} {f g:Nat→Option α} {r:α} (h:Tells g r) (e:∀ k,f k=g k):Tells f r:=by
  obtain⟨K,h⟩:=h;exact⟨K,fun k hk=>(e k).trans (h k hk)⟩
theorem up {α:Type} {f g:Nat→Option α} {r:α} (h:Tells g r) (e:∀ k,f (k+1)=g k):Tells f r:=by
  obtain⟨K,h⟩:=h;refine⟨K+1,fun k hk=>?_⟩
  obtain⟨m,rfl⟩:∃ m,k=m+1:=⟨k - 1,by omega⟩
  exact(e m).trans (h m (by omega))
theorem ite {α:Type} {c:Prop} [Decidable c] {f g:Nat→Option α} {r s:α} (h:c→Tells f r) (h':¬ c→Tells g s):Tells (fun k=>if c then f k else g k) (if c then r else s):=by
  by_cases hc:c
  · simp only[if_pos hc];exact h hc
  · simp only[if_neg hc];exact h' hc
theorem pos {α:Type} {c:Prop} [Decidable c] {f g:Nat→Option α} {r:α} (hc:c) (h:Tells f r):Tells (fun k=>if c then f k else g k) r:=by
  simp only[if_pos hc];exact h
theorem neg {α:Type} {c:Prop} [Decidable c] {f g:Nat→Option α} {r:α} (hc:¬ c) (h:Tells g r):Tells (fun k=>if c then f k else g k) r:=by
  simp only[if_neg hc];exact h
end Tells
theorem wrap64_id {n:Int} (h0:-9223372036854775808≤n) (h1:n < 9223372036854775808):wrap64 n=n:=by
  unfold wrap64;omega
theorem wf64 {n:Int} (h:(Lit.int .i64 n).wf=true):-9223372036854775808≤n∧n < 9223372036854775808:=by
  have h':(decide (-9223372036854775808≤n) && decide (n≤9223372036854775807))=true:=h;simp only[Bool.and_eq_true,decide_eq_true_eq] at h';omega

theorem rd_drop (l:List Int) (i:Nat) (h:i < l.length):l.drop i=rd l (i:Int) :: l.drop (i+1):=by
  rw[List.drop_eq_getElem_cons h];congr 1
  show l[i]=l.getD (i:Int).toNat 0
  simp [h]
theorem rd_at (l:List Int) (i:Nat) (h:i < l.length):rd l (i:Int)=l[i]:=by
  show l.getD (i:Int).toNat 0=_
  simp [h]
theorem rd_mid (A:List Int) (x:Int) (B:List Int):rd (A ++ x :: B) (A.length:Int)=x:=by
  show(A ++ x :: B).getD (A.length:Int).toNat 0=x
  simp
theorem rd_mid' {l A:List Int} {x:Int} {B:List Int} {i:Int} (h:l=A ++ x :: B) (hi:i=(A.length:Int)):rd l i=x:=by
  subst h hi;exact rd_mid A x B
theorem set_mid (A:List Int) (x v:Int) (B:List Int):(A ++ x :: B).set ((A.length:Int)).toNat v=A ++ v :: B:=by simp
theorem set_mid' {l A:List Int} {x v:Int} {B:List Int} {i:Int} (h:l=A ++ x :: B) (hi:i=(A.length:Int)):l.set i.toNat v=A ++ v :: B:=by
  subst h hi;exact set_mid A x v B
theorem rd_mem (l:List Int) (i:Int) (h0:0≤i) (h:i < (l.length:Int)):rd l i ∈ l:=by
  obtain⟨j,rfl⟩:∃ j:Nat,i=(j:Int):=⟨i.toNat,by omega⟩
  rw[rd_at l j (by omega)]
  exact List.getElem_mem _
theorem ext_rd {a b:List Int} (hl:a.length=b.length) (h:∀ i:Nat,i < a.length→rd a (i:Int)=rd b (i:Int)):a=b:=by
  apply List.ext_getElem hl;intro i h1 h2;have:=h i h1;rwa [rd_at a i h1,rd_at b i h2] at this
theorem rd_map (f:Int→Int) (l:List Int) (i:Nat) (h:i < l.length):rd (l.map f) (i:Int)=f (rd l (i:Int)):=by
  rw[rd_at _ i (by simpa using h),rd_at l i h]
  simp
theorem rd_set (l:List Int) (i j:Nat) (v:Int) (h:j < l.length):rd (l.set i v) (j:Int)=if i=j then v else rd l (j:Int):=by
  rw[rd_at _ j (by simpa using h),rd_at l j h,List.getElem_set]
theorem rd_replicate (n i:Nat) (v:Int) (h:i < n):rd (List.replicate n v) (i:Int)=v:=by
  rw[rd_at _ i (by simpa using h)]
  simp
/-- The sum,as the program adds it up. -/
def sumFrom (s:Int):List Int→Int
  | []=>s
  | x :: l=>sumFrom (wrap64 (s+x)) l
/-- All from 0 to most. -/
def inAll (most:Int) (l:List Int):Bool:=l.all fun x=>decide (0≤x) && decide (x≤most)
theorem inAll_iff {m:Int} {l:List Int}:inAll m l=true ↔ ∀ x ∈ l,0≤x∧x≤m:=by
  unfold inAll;simp [List.all_eq_true,Bool.and_eq_true,decide_eq_true_eq]
theorem inAll_cons {m x:Int} {l:List Int}:inAll m (x :: l)=((decide (0≤x) && decide (x≤m)) && inAll m l):=rfl
theorem sum_bounds {m:Int} {l:List Int} (h:inAll m l=true):0≤l.sum∧l.sum≤m * l.length:=by
  induction l with
  | nil=>simp
  | cons x l ih =>
    rw[inAll_cons,Bool.and_eq_true,Bool.and_eq_true,decide_eq_true_eq,decide_eq_true_eq] at h;have:=ih h.2;rw[List.sum_cons,List.length_cons];have e:m * ((l.length+1:Nat):Int)=m * l.length+m:=by rw[Int.natCast_add,Int.mul_add];simp
    omega
theorem sum_mem_le {m:Int} {l:List Int} (h:inAll m l=true):∀ x ∈ l,x≤l.sum:=by
  induction l with
  | nil=>simp
  | cons y l ih =>
    have h':=h;rw[inAll_cons,Bool.and_eq_true,Bool.and_eq_true,decide_eq_true_eq,decide_eq_true_eq] at h';have hb:=sum_bounds h'.2;intro x hx;rw[List.sum_cons];rcases List.mem_cons.1 hx with rfl|hx
    · omega
    · have:=ih h'.2 x hx;omega
theorem sumFrom_eq {m:Int} (l:List Int) (h:inAll m l=true):∀ s,0≤s→0≤m→s+m * l.length < 9223372036854775808→sumFrom s l=s+l.sum:=by
  induction l with
  | nil=>intro s _ _ _;simp [sumFrom]
  | cons x l ih =>
    intro s h0 hm h1;rw[inAll_cons,Bool.and_eq_true,Bool.and_eq_true,decide_eq_true_eq,decide_eq_true_eq] at h;have e:m * ((l.length+1:Nat):Int)=m * l.length+m:=by rw[Int.natCast_add,Int.mul_add];simp
    rw[List.length_cons,e] at h1;have hp:0≤m * (l.length:Int):=Int.mul_nonneg hm (by omega)
    show sumFrom (wrap64 (s+x)) l=_
    rw[wrap64_id (by omega) (by omega),ih h.2 (s+x) (by omega) hm (by omega),List.sum_cons]
    omega
/-- 0,1,..,n - 1 -/
def idx (n:Nat):List Int:=(List.range n).map (fun i:Nat=>(i:Int))
theorem idx_len (n:Nat):(idx n).length=n:=by simp [idx]
theorem idx_succ (n:Nat):idx (n+1)=idx n ++ [(n:Int)]:=by simp [idx,List.range_succ]
theorem mem_idx {n:Nat} {i:Int}:i ∈ idx n ↔ 0≤i∧i < (n:Int):=by
  unfold idx;rw[List.mem_map];constructor
  · rintro ⟨j,hj,rfl⟩
    have:=List.mem_range.1 hj;omega
  · rintro ⟨h0,h1⟩
    exact⟨i.toNat,List.mem_range.2 (by omega),by omega⟩
theorem rd_idx (n i:Nat) (h:i < n):rd (idx n) (i:Int)=i:=by
  rw[rd_at _ i (by rw[idx_len];exact h)]
  simp [idx]
theorem idx_nodup (n:Nat):(idx n).Nodup:=by
  induction n with
  | zero=>simp [idx]
  | succ n ih =>
    rw[idx_succ,List.nodup_append];refine⟨ih,by simp,?_⟩
    intro a ha b hb;rw[List.mem_singleton] at hb;have:=mem_idx.1 ha;omega
theorem map_idx (l:List Int):(idx l.length).map (rd l)=l:=by
  apply ext_rd (by simp [idx_len])
  intro i hi;have hi':i < l.length:=by simpa [idx_len] using hi
  rw[rd_map _ _ i (by rw[idx_len];exact hi'),rd_idx _ _ hi']

structure StOk (l:List Int):Prop where
  pos:0 < l.length
  len:l.length≤512
  rng:∀ i:Nat,i < l.length→-1099511627776≤rd l (i:Int)∧rd l (i:Int)≤1099511627776
theorem both {α:Type} {c:Prop} [Decidable c] {f g:Nat→Option α} {r:α} (h:c→Tells f r) (h':¬ c→Tells g r):Tells (fun k=>if c then f k else g k) r:=by
  by_cases hc:c
  · simp only[if_pos hc];exact h hc
  · simp only[if_neg hc];exact h' hc
theorem wsucc {i n:Nat} (h:i < n) (hn:n≤100000):wrap64 ((i:Int)+1)=((i+1:Nat):Int):=by rw[wrap64_id (by omega) (by omega)];omega
theorem stcheck_loop (l:List Int) (hl:l.length≤1000) (d:Nat):∀ i:Nat,i+d=l.length→∃ r,Tells (fun k=>Azp.l0 k l (l.length:Int) (i:Int)) r∧Tells (fun k=>Azj.l0 k l (i:Int)) (if r≥0 then 1 else 0)∧(¬ r≥0→∀ j:Nat,i≤j→j < l.length→-1099511627776≤rd l (j:Int)∧rd l (j:Int)≤1099511627776):=by
  induction d with
  | zero =>
    intro i hi;refine⟨-1,Tells.up (Tells.const _) (fun k=>?_),Tells.up (Tells.const _) (fun k=>?_),fun _ j h1 h2=>by omega⟩
    · rw[Azp.l0,if_neg (by omega)]
    · rw[Azj.l0,if_neg (by omega),if_neg (by omega)]
  | succ d ih =>
    intro i hi;have e2:=wsucc (i:=i) (n:=l.length) (by omega) (by omega)
    have c1:(i:Int) < (l.length:Int):=by omega
    have c2:(0:Int)≤(i:Int):=by omega
    by_cases h0:rd l (i:Int) < -1099511627776
    · refine⟨(i:Int),Tells.up (Tells.const _) (fun k=>?_),Tells.up (Tells.const _) (fun k=>?_),fun h=>absurd c2 h⟩
      · rw[Azp.l0,if_pos c1,if_pos c2,if_pos c1]
        unfold Ezx.f;rw[if_pos h0,Option.bind_some,if_pos rfl]
      · rw[Azj.l0,if_pos c1,if_pos c2,if_pos h0,if_pos c2]
    by_cases h1:rd l (i:Int) > 1099511627776
    · refine⟨(i:Int),Tells.up (Tells.const _) (fun k=>?_),Tells.up (Tells.const _) (fun k=>?_),fun h=>absurd c2 h⟩
      · rw[Azp.l0,if_pos c1,if_pos c2,if_pos c1]
        unfold Ezx.f;rw[if_neg h0,Option.bind_some,if_pos (decide_eq_true h1)]
      · rw[Azj.l0,if_pos c1,if_pos c2,if_neg h0,if_pos h1,if_pos c2]
    obtain⟨r,a,b,c⟩:=ih (i+1) (by omega)
    refine⟨r,Tells.up a (fun k=>?_),Tells.up b (fun k=>?_),fun hr j hj hj2=>?_⟩
    · rw[Azp.l0,if_pos c1,if_pos c2,if_pos c1]
      unfold Ezx.f;rw[if_neg h0,Option.bind_some,decide_eq_false h1,if_neg (by decide),e2]
    · rw[Azj.l0,if_pos c1,if_pos c2,if_neg h0,if_neg h1,e2]
    · rcases Nat.lt_or_ge i j with hij|hij
      · exact c hr j hij hj2
      · obtain rfl:j=i:=by omega
        exact⟨by omega,by omega⟩
theorem check60 (l:List Int):∃ r,Tells (fun k=>Bzx.f k l) r∧Tells (fun k=>Azj.f k l) r∧(r=0→StOk l):=by
  by_cases h2:(l.length:Int)=0
  · exact⟨10,(Tells.const 10).congr (fun k=>by unfold Bzx.f;rw[if_pos h2]),(Tells.const 10).congr (fun k=>by unfold Azj.f;rw[if_pos h2]),fun h=>absurd h (by decide)⟩
  by_cases h5:(l.length:Int) > 512
  · exact⟨8,(Tells.const 8).congr (fun k=>by unfold Bzx.f;rw[if_neg h2,if_pos h5]),(Tells.const 8).congr (fun k=>by unfold Azj.f;rw[if_neg h2,if_pos h5]),fun h=>absurd h (by decide)⟩
  obtain⟨r,a,b,c⟩:=stcheck_loop l (by omega) l.length 0 (by omega)
  refine⟨if r≥0 then 1 else 0,?_,b.congr (fun k=>by unfold Azj.f;rw[if_neg h2,if_neg h5];rfl),fun h=>?_⟩
  · unfold Bzx.f Bzy.f Azp.f
    simp only[if_neg h2,if_neg h5];refine Tells.bind (a.bind (Tells.const (decide (r≥0)))) ?_;by_cases hr:r≥0
    · simp only[decide_eq_true hr,if_true,if_pos hr];exact Tells.const _
    · simp only[decide_eq_false hr,Bool.false_eq_true,if_false,if_neg hr];exact Tells.const _
  · by_cases hr:r≥0
    · rw[if_pos hr] at h;exact absurd h (by decide)
    · exact⟨by omega,by omega,fun i hi=>c hr i (by omega) hi⟩
theorem awake_tells:Tells (fun k=>Azz.f k) true:=Tells.of (fun k=>Azz.mono k) ⟨300,by decide +kernel⟩
theorem awake_end:Tells (fun k=>(Azz.f k).bind fun t=>(some t)) true:=awake_tells.bind (Tells.const _)
theorem mx_eq (a b:Int):mx a b=max a b:=by unfold mx;split <;> omega

def cntLe (l:List Int) (x:Int):Nat:=l.countP fun y=>decide (y≤x)
theorem getD_at (l:List Int) (i:Nat) (h:i < l.length):l.getD i 0=l[i]:=by simp [h]
theorem cntLe_sorted:∀ {S:List Int},S.Pairwise (·≤·)→∀ (i:Nat),i < S.length→∀ x:Int,(i < cntLe S x ↔ S.getD i 0≤x):=by
  intro S;induction S with
  | nil=>intro _ i hi;simp at hi
  | cons y S ih =>
    intro hS i hi x;rw[List.pairwise_cons] at hS;by_cases hy:y≤x
    · have e:cntLe (y :: S) x=cntLe S x+1:=by unfold cntLe;rw[List.countP_cons_of_pos (by simpa using hy)]
      rw[e];cases i with
      | zero=>simp [hy]
      | succ i =>
        have:=ih hS.2 i (by simpa using hi) x
        rw[List.getD_cons_succ,← this];omega
    · have h0:cntLe (y :: S) x=0:=by
        unfold cntLe;rw[List.countP_eq_zero];intro z hz;rcases List.mem_cons.1 hz with rfl|hz
        · simpa using hy
        · have:=hS.1 z hz;simp;omega
      rw[h0];constructor
      · intro h;omega
      · intro h
        exfalso
        cases i with
        | zero=>exact hy (by simpa using h)
        | succ i =>
          have hi':i < S.length:=by simpa using hi
          rw[List.getD_cons_succ,getD_at _ _ hi'] at h;have:=hS.1 _ (List.getElem_mem hi');omega
theorem cntLe_srt (l:List Int) (x:Int):cntLe (Azb.srt l) x=cntLe l x:=(Azb.srt_perm l).countP_eq _
theorem cntLe_le (l:List Int) (x:Int):cntLe l x≤l.length:=List.countP_le_length
/-- The place of a quantile. -/
theorem q_at {p:Int} {n:Nat} (h1:1≤p) (h2:p≤1000) (hn:0 < n) (hn2:n≤1000):∃ i:Nat,Azb.at_ p (n:Int)=(i:Int)∧i < n∧∀ c:Nat,(1000 * (c:Int)≥p * (n:Int) ↔ i < c):=by
  have hpn:p * (n:Int)≤1000 * (n:Int):=Int.mul_le_mul_of_nonneg_right h2 (by omega)
  have hpn0:(n:Int)≤p * (n:Int):=by have:=Int.mul_le_mul_of_nonneg_right h1 (show(0:Int)≤(n:Int) by omega);omega
  have e:Azb.at_ p (n:Int)=(p * (n:Int)+999) / 1000 - 1:=by
    unfold Azb.at_;rw[wrap64_id (n:=p * (n:Int)) (by omega) (by omega),wrap64_id (n:=p * (n:Int)+999) (by omega) (by omega),Int.tdiv_eq_ediv_of_nonneg (by omega),wrap64_id (n:=(p * (n:Int)+999) / 1000) (by omega) (by omega),wrap64_id (by omega) (by omega)]
  generalize p * (n:Int)=q at *;refine⟨((q+999) / 1000 - 1).toNat,by rw[e];omega,by omega,fun c=>by omega⟩
def quanR (l:List Int) (p:Int):Int:=rd (Azb.srt l) (Azb.at_ p (l.length:Int))
theorem quan_facts {l:List Int} (h:StOk l) {p:Int} (h1:1≤p) (h2:p≤1000):quanR l p ∈ l∧∀ x,(1000 * (cntLe l x:Int)≥p * (l.length:Int) ↔ quanR l p≤x):=by
  obtain⟨i,e,hi,hc⟩:=q_at h1 h2 h.pos (by have:=h.len;omega)
  have hl:(Azb.srt l).length=l.length:=(Azb.srt_perm l).length_eq;have eq:quanR l p=(Azb.srt l).getD i 0:=by
    unfold quanR;rw[e];rfl
  refine⟨?_,fun x=>?_⟩
  · rw[eq,getD_at _ _ (by omega)]
    exact(Azb.srt_perm l).mem_iff.1 (List.getElem_mem _)
  · rw[hc,← cntLe_srt l x,cntLe_sorted (Azb.srt_sorted l) i (by omega) x,eq]
theorem quan_tells {l:List Int} (h:StOk l) {e:Int} (hc:Tells (fun k=>Bzx.f k l) e) (he:e=0) (p:Int):Tells (fun k=>Azb.f k l p) (if p < 1 then(0,1) else if p > 1000 then(0,1) else(quanR l p,0)):=by
  subst he;unfold Azb.f;refine hc.bind ?_;simp only[if_true];by_cases h1:p < 1
  · simp only[if_pos h1];exact Tells.const _
  by_cases h2:p > 1000
  · simp only[if_neg h1,if_pos h2];exact Tells.const _
  obtain⟨i,ei,hi,_⟩:=q_at (p:=p) (by omega) (by omega) h.pos (by have:=h.len;omega)
  have hl:=h.len;have hp:=h.pos;simp only[if_neg h1,if_neg h2,if_pos (show 0 < l.length∧l.length≤1000000∧0≤Azb.at_ p (l.length:Int)∧Azb.at_ p (l.length:Int) < (l.length:Int) from⟨hp,by omega,by omega,by omega⟩)]
  exact Tells.const _
theorem cnt_step (l:List Int) (x:Int) (j:Nat) (hj:j < l.length):cntLe (l.take (j+1)) x=cntLe (l.take j) x+(if rd l (j:Int)≤x then 1 else 0):=by
  unfold cntLe;rw[List.take_add_one,List.countP_append,List.getElem?_eq_getElem hj,rd_at l j hj];by_cases h:l[j]≤x
  · rw[if_pos h];simp [h]
  · rw[if_neg h];simp [h]
theorem rquan_l1 (l:List Int) (p:Int) (b:Int) (f:Bool) (i:Nat) (hi:i < l.length) (hn:l.length≤1000) (R:Int × Int)
    (hT:∀ b' f',b'=(if 1000 * (cntLe l (rd l (i:Int)):Int)≥wrap64 (p * (l.length:Int)) then(if f=true then(if rd l (i:Int) < b then rd l (i:Int) else b) else rd l (i:Int)) else b)→f'=(f || decide (1000 * (cntLe l (rd l (i:Int)):Int)≥wrap64 (p * (l.length:Int))))→Tells (fun k=>Azw.l0 k l p b' f' ((i+1:Nat):Int)) R) (d:Nat) :
    ∀ j:Nat,j+d=l.length→Tells (fun k=>Azw.l1 k l p b f (i:Int) (cntLe (l.take j) (rd l (i:Int)):Int) (j:Int)) R:=by
  have ei:=wsucc hi (by omega)
  induction d with
  | zero =>
    intro j hj;have hc:cntLe (l.take j) (rd l (i:Int))=cntLe l (rd l (i:Int)):=by rw[List.take_of_length_le (by omega)]
    have hb:=cntLe_le l (rd l (i:Int));rw[hc];by_cases h0:1000 * (cntLe l (rd l (i:Int)):Int)≥wrap64 (p * (l.length:Int))
    · have w0:wrap64 (1000 * (cntLe l (rd l (i:Int)):Int))=1000 * (cntLe l (rd l (i:Int)):Int):=wrap64_id (by omega) (by omega)
      simp only[if_pos h0,decide_eq_true h0,Bool.or_true] at hT;cases f with
      | true =>
        by_cases hb:rd l (i:Int) < b
        · refine Tells.up (hT (rd l (i:Int)) true (by rw[if_pos rfl,if_pos hb]) rfl) (fun k=>?_)
          rw[Azw.l1,if_neg (by omega),w0,if_pos h0,if_pos rfl,if_pos (by omega),if_pos (by omega),if_pos hb,ei]
        · refine Tells.up (hT b true (by rw[if_pos rfl,if_neg hb]) rfl) (fun k=>?_)
          rw[Azw.l1,if_neg (by omega),w0,if_pos h0,if_pos rfl,if_pos (by omega),if_pos (by omega),if_neg hb,ei]
      | false =>
        refine Tells.up (hT (rd l (i:Int)) true (by rw[if_neg (by decide)]) rfl) (fun k=>?_)
        rw[Azw.l1,if_neg (by omega),w0,if_pos h0,if_neg (by decide),if_pos (by omega),if_pos (by omega),ei]
    · have w0:wrap64 (1000 * (cntLe l (rd l (i:Int)):Int))=1000 * (cntLe l (rd l (i:Int)):Int):=wrap64_id (by omega) (by omega)
      simp only[if_neg h0,decide_eq_false h0,Bool.or_false] at hT;refine Tells.up (hT b f rfl rfl) (fun k=>?_)
      rw[Azw.l1,if_neg (by omega),w0,if_neg h0,ei]
  | succ d ih =>
    intro j hj;have ej:=wsucc (i:=j) (n:=l.length) (by omega) (by omega)
    have hs:=cnt_step l (rd l (i:Int)) j (by omega)
    have hb:=cntLe_le (l.take j) (rd l (i:Int));have hb2:(l.take j).length≤1000:=by rw[List.length_take];omega
    refine Tells.up (ih (j+1) (by omega)) (fun k=>?_)
    rw[Azw.l1,if_pos (by omega),if_pos (by omega),if_pos (by omega),if_pos (by omega),hs]
    by_cases hx:rd l (j:Int)≤rd l (i:Int)
    · rw[if_pos hx,if_pos hx,ej,wrap64_id (by omega) (by omega)]
      congr 1
    · rw[if_neg hx,if_neg hx,ej]
      congr 1
theorem rquan_l0 {l:List Int} (h:StOk l) {p:Int} (h1:1≤p) (h2:p≤1000) (d:Nat):∀ (i:Nat) (b:Int) (f:Bool),i+d=l.length→(f=true→quanR l p≤b∧(b ∈ l))→(f=true→quanR l p ∈ l.take i→b=quanR l p)→(f=false→quanR l p ∉ l.take i)→Tells (fun k=>Azw.l0 k l p b f (i:Int)) (quanR l p,0):=by
  obtain⟨qm,qc⟩:=quan_facts h h1 h2;have hn:=h.len;have hw:wrap64 (p * (l.length:Int))=p * (l.length:Int):=by
    have hpn:p * (l.length:Int)≤1000 * (l.length:Int):=Int.mul_le_mul_of_nonneg_right h2 (by omega)
    have hpn0:0≤p * (l.length:Int):=Int.mul_nonneg (by omega) (by omega)
    exact wrap64_id (by omega) (by omega)
  induction d with
  | zero =>
    intro i b f hi hb hb2 hf;have ht:l.take i=l:=List.take_of_length_le (by omega)
    rw[ht] at hb2 hf;cases f with
    | false=>exact absurd qm (hf rfl)
    | true =>
      rw[← hb2 rfl qm];refine Tells.up (Tells.const _) (fun k=>?_)
      rw[Azw.l0,if_neg (by omega)]
  | succ d ih =>
    intro i b f hi hb hb2 hf;have hmem:∀ x,x ∈ l.take (i+1) ↔ x ∈ l.take i∨x=rd l (i:Int):=fun x=>by
      rw[List.take_add_one,List.mem_append,List.getElem?_eq_getElem (show i < l.length by omega),rd_at l i (by omega)];simp
    have hrm:rd l (i:Int) ∈ l:=rd_mem l _ (by omega) (by omega)
    have key:=rquan_l1 l p b f i (by omega) (by omega) (quanR l p,0) (fun b' f' hb' hf'=>?_) l.length 0 (by omega)
    · refine Tells.up key (fun k=>?_)
      rw[Azw.l0,if_pos (by omega)]
      rfl
    · rw[hw] at hb' hf'
      have hq:=qc (rd l (i:Int));by_cases hx:quanR l p≤rd l (i:Int)
      · have h0:=hq.2 hx
        rw[if_pos h0] at hb';rw[decide_eq_true h0,Bool.or_true] at hf';subst hf';refine ih (i+1) b' true (by omega) (fun _=>?_) (fun _ hm=>?_) (fun h=>by cases h)
        · cases f with
          | true =>
            rw[if_pos rfl] at hb';obtain⟨x1,x2⟩:=hb rfl;by_cases hlt:rd l (i:Int) < b
            · rw[if_pos hlt] at hb';rw[hb'];exact⟨hx,hrm⟩
            · rw[if_neg hlt] at hb';rw[hb'];exact⟨x1,x2⟩
          | false =>
            rw[if_neg (by decide)] at hb';rw[hb'];exact⟨hx,hrm⟩
        · rw[hmem] at hm
          cases f with
          | true =>
            rw[if_pos rfl] at hb';obtain⟨x1,x2⟩:=hb rfl;rcases hm with hm|hm
            · have:=hb2 rfl hm
              rw[hb',if_neg (by omega)];exact this
            · by_cases hlt:rd l (i:Int) < b
              · rw[hb',if_pos hlt];exact hm.symm
              · rw[hb',if_neg hlt];omega
          | false =>
            rw[if_neg (by decide)] at hb'
            rcases hm with hm|hm
            · exact absurd hm (hf rfl)
            · rw[hb'];exact hm.symm
      · have h0:¬ 1000 * (cntLe l (rd l (i:Int)):Int)≥p * (l.length:Int):=fun h=>hx (hq.1 h)
        rw[if_neg h0] at hb';rw[decide_eq_false h0,Bool.or_false] at hf';subst hb' hf';refine ih (i+1) _ _ (by omega) hb (fun hf1 hm=>?_) (fun hf1 hm=>?_)
        · rw[hmem] at hm
          rcases hm with hm|hm
          · exact hb2 hf1 hm
          · omega
        · rw[hmem] at hm
          rcases hm with hm|hm
          · exact hf hf1 hm
          · omega
theorem rquan_tells {l:List Int} (h:StOk l) {e:Int} (hc:Tells (fun k=>Azj.f k l) e) (he:e=0) (p:Int):Tells (fun k=>Azw.f k l p) (if p < 1 then(0,1) else if p > 1000 then(0,1) else(quanR l p,0)):=by
  subst he;unfold Azw.f;refine hc.bind ?_;simp only[if_true];have hT:Tells (fun k=>Azw.j0 k l p true) (0,1):=Tells.up (Tells.const _) (fun k=>by rw[Azw.j0,if_pos rfl])
  by_cases h1:p < 1
  · simp only[if_pos h1];exact hT
  by_cases h2:p > 1000
  · simp only[if_neg h1,if_pos h2,decide_eq_true h2];exact hT
  simp only[if_neg h1,if_neg h2,decide_eq_false h2];refine Tells.up (rquan_l0 h (p:=p) (by omega) (by omega) l.length 0 0 false (by omega) (fun h=>by cases h) (fun h=>by cases h) (fun _ hm=>by simp at hm)) (fun k=>?_)
  rw[Azw.j0,if_neg (by decide)]
  rfl
theorem quan60 (l:List Int) (p:Int):∃ r,Tells (fun k=>Azb.f k l p) r∧Tells (fun k=>Azw.f k l p) r:=by
  obtain⟨e,a,b,c⟩:=check60 l;by_cases he:e=0
  · exact⟨_,quan_tells (c he) a he p,rquan_tells (c he) b he p⟩
  · refine⟨(0,e),?_,?_⟩
    · unfold Azb.f;refine a.bind ?_;simp only[if_neg he];exact Tells.const _
    · unfold Azw.f;refine b.bind ?_;simp only[if_neg he];exact Tells.const _

theorem rd_one (t:Int):rd [t] 0=t:=rfl
def stepR (P:Int→Bool) (s:Int × Int) (x:Int):Int × Int:=(mx s.1 (if P x then s.2+1 else 0),if P x then s.2+1 else 0)
def runR (P:Int→Bool) (s:Int × Int) (l:List Int):Int:=(l.foldl (stepR P) s).1
theorem runs1_loop (l:List Int) (t:Int) (hl:l.length≤1000) (d:Nat):∀ (i:Nat) (m r:Int),i+d=l.length→0≤r→r≤(i:Int)→Tells (fun k=>Azm.l0 k m r l (l.length:Int) (i:Int) [t]) (runR (fun x=>decide (x > t)) (m,r) (l.drop i)):=by
  induction d with
  | zero =>
    intro i m r hi h0 h1;rw[List.drop_of_length_le (by omega)]
    refine Tells.up (Tells.const _) (fun k=>?_)
    rw[Azm.l0,if_neg (by omega)]
    rfl
  | succ d ih =>
    intro i m r hi h0 h1;have e2:=wsucc (i:=i) (n:=l.length) (by omega) (by omega)
    have e3:wrap64 (r+1)=r+1:=wrap64_id (by omega) (by omega)
    rw[rd_drop l i (by omega)]
    show Tells _ (((l.drop (i+1)).foldl (stepR _) (stepR _ (m,r) (rd l (i:Int)))).1)
    by_cases c:rd l (i:Int) > t
    · refine Tells.up (g:=fun k=>Azm.l0 k (mx m (r+1)) (r+1) l (l.length:Int) ((i+1:Nat):Int) [t]) ?_ (fun k=>?_)
      · have:=ih (i+1) (mx m (r+1)) (r+1) (by omega) (by omega) (by omega)
        unfold stepR;simp only[decide_eq_true c,if_true];exact this
      · rw[Azm.l0,if_pos (by omega),if_pos (by omega),if_pos (by omega)]
        unfold Ezb.f;rw[if_pos (by simp),Option.bind_some,rd_one,if_pos (decide_eq_true c),e2,e3]
    · refine Tells.up (g:=fun k=>Azm.l0 k (mx m 0) 0 l (l.length:Int) ((i+1:Nat):Int) [t]) ?_ (fun k=>?_)
      · have:=ih (i+1) (mx m 0) 0 (by omega) (by omega) (by omega)
        unfold stepR;simp only[decide_eq_false c,Bool.false_eq_true,if_false];exact this
      · rw[Azm.l0,if_pos (by omega),if_pos (by omega),if_pos (by omega)]
        unfold Ezb.f;rw[if_pos (by simp),Option.bind_some,rd_one,if_neg (by simpa using c),e2]
theorem runs2_loop (l:List Int) (t:Int) (hl:l.length≤1000) (d:Nat):∀ (i:Nat) (m r:Int),i+d=l.length→0≤r→r≤(i:Int)→Tells (fun k=>Azf.l0 k m r l (l.length:Int) (i:Int) [t]) (runR (fun x=>decide (x < t)) (m,r) (l.drop i)):=by
  induction d with
  | zero =>
    intro i m r hi h0 h1;rw[List.drop_of_length_le (by omega)]
    refine Tells.up (Tells.const _) (fun k=>?_)
    rw[Azf.l0,if_neg (by omega)]
    rfl
  | succ d ih =>
    intro i m r hi h0 h1;have e2:=wsucc (i:=i) (n:=l.length) (by omega) (by omega)
    have e3:wrap64 (r+1)=r+1:=wrap64_id (by omega) (by omega)
    rw[rd_drop l i (by omega)]
    show Tells _ (((l.drop (i+1)).foldl (stepR _) (stepR _ (m,r) (rd l (i:Int)))).1)
    by_cases c:rd l (i:Int) < t
    · refine Tells.up (g:=fun k=>Azf.l0 k (mx m (r+1)) (r+1) l (l.length:Int) ((i+1:Nat):Int) [t]) ?_ (fun k=>?_)
      · have:=ih (i+1) (mx m (r+1)) (r+1) (by omega) (by omega) (by omega)
        unfold stepR;simp only[decide_eq_true c,if_true];exact this
      · rw[Azf.l0,if_pos (by omega),if_pos (by omega),if_pos (by omega)]
        unfold Ezp.f;rw[if_pos (by simp),Option.bind_some,rd_one,if_pos (decide_eq_true c),e2,e3]
    · refine Tells.up (g:=fun k=>Azf.l0 k (mx m 0) 0 l (l.length:Int) ((i+1:Nat):Int) [t]) ?_ (fun k=>?_)
      · have:=ih (i+1) (mx m 0) 0 (by omega) (by omega) (by omega)
        unfold stepR;simp only[decide_eq_false c,Bool.false_eq_true,if_false];exact this
      · rw[Azf.l0,if_pos (by omega),if_pos (by omega),if_pos (by omega)]
        unfold Ezp.f;rw[if_pos (by simp),Option.bind_some,rd_one,if_neg (by simpa using c),e2]
theorem rruns_loop (l:List Int) (t:Int) (hl:l.length≤1000) (d:Nat):∀ (i:Nat) (m n r q:Int),i+d=l.length→0≤r→r≤(i:Int)→0≤q→q≤(i:Int)→Tells (fun k=>Bzz.l0 k l t m n r q (i:Int)) (runR (fun x=>decide (x > t)) (m,r) (l.drop i),runR (fun x=>decide (x < t)) (n,q) (l.drop i),0):=by
  induction d with
  | zero =>
    intro i m n r q hi h0 h1 h2 h3;rw[List.drop_of_length_le (by omega)]
    refine Tells.up (Tells.const _) (fun k=>?_)
    rw[Bzz.l0,if_neg (by omega)]
    rfl
  | succ d ih =>
    intro i m n r q hi h0 h1 h2 h3;have e2:=wsucc (i:=i) (n:=l.length) (by omega) (by omega)
    have e3:wrap64 (r+1)=r+1:=wrap64_id (by omega) (by omega)
    have e4:wrap64 (q+1)=q+1:=wrap64_id (by omega) (by omega)
    have key:∀ m' n' r' q',(m',r')=stepR (fun x=>decide (x > t)) (m,r) (rd l (i:Int))→(n',q')=stepR (fun x=>decide (x < t)) (n,q) (rd l (i:Int))→0≤r'→r'≤((i+1:Nat):Int)→0≤q'→q'≤((i+1:Nat):Int)→Tells (fun k=>Bzz.l0 k l t m' n' r' q' ((i+1:Nat):Int)) (runR (fun x=>decide (x > t)) (m,r) (l.drop i),runR (fun x=>decide (x < t)) (n,q) (l.drop i),0):=by
      intro m' n' r' q' e e' g0 g1 g2 g3;have:=ih (i+1) m' n' r' q' (by omega) g0 g1 g2 g3
      rw[e,e'] at this;rw[rd_drop l i (by omega)]
      exact this
    by_cases c:rd l (i:Int)≤t
    · by_cases c':rd l (i:Int)≥t
      · refine Tells.up (key (mx m 0) (mx n 0) 0 0 ?_ ?_ (by omega) (by omega) (by omega) (by omega)) (fun k=>?_)
        · unfold stepR;simp only[decide_eq_false (show ¬ rd l (i:Int) > t by omega),Bool.false_eq_true,if_false]
        · unfold stepR;simp only[decide_eq_false (show ¬ rd l (i:Int) < t by omega),Bool.false_eq_true,if_false]
        · rw[Bzz.l0,if_pos (by omega),if_pos (by omega),if_pos c,if_pos c',e2]
      · refine Tells.up (key (mx m 0) (mx n (q+1)) 0 (q+1) ?_ ?_ (by omega) (by omega) (by omega) (by omega)) (fun k=>?_)
        · unfold stepR;simp only[decide_eq_false (show ¬ rd l (i:Int) > t by omega),Bool.false_eq_true,if_false]
        · unfold stepR;simp only[decide_eq_true (show rd l (i:Int) < t by omega),if_true]
        · rw[Bzz.l0,if_pos (by omega),if_pos (by omega),if_pos c,if_neg c',e2,e4]
    · by_cases c':rd l (i:Int)≥t
      · refine Tells.up (key (mx m (r+1)) (mx n 0) (r+1) 0 ?_ ?_ (by omega) (by omega) (by omega) (by omega)) (fun k=>?_)
        · unfold stepR;simp only[decide_eq_true (show rd l (i:Int) > t by omega),if_true]
        · unfold stepR;simp only[decide_eq_false (show ¬ rd l (i:Int) < t by omega),Bool.false_eq_true,if_false]
        · rw[Bzz.l0,if_pos (by omega),if_pos (by omega),if_neg c,if_pos c',e2,e3]
      · exact absurd (show rd l (i:Int)≤t∨rd l (i:Int)≥t by omega) (by omega)
def runsR (l:List Int) (t:Int):Int × Int × Int:=(runR (fun x=>decide (x > t)) (0,0) l,runR (fun x=>decide (x < t)) (0,0) l,0)
theorem runs_tells {l:List Int} (h:StOk l) {e:Int} (hc:Tells (fun k=>Bzx.f k l) e) (he:e=0) (t:Int):Tells (fun k=>Czz.f k l t) (runsR l t):=by
  subst he;have hn:=h.len;unfold Czz.f Azm.f Azf.f;refine hc.bind ?_;simp only[if_true];exact(runs1_loop l t (by omega) l.length 0 0 0 (by omega) (by omega) (by omega)).bind ((runs2_loop l t (by omega) l.length 0 0 0 (by omega) (by omega) (by omega)).bind (Tells.const _))
theorem runs60 (l:List Int) (t:Int):∃ r,Tells (fun k=>Czz.f k l t) r∧Tells (fun k=>Bzz.f k l t) r:=by
  obtain⟨e,a,b,c⟩:=check60 l;by_cases he:e=0
  · have h:=c he
    have hn:=h.len;refine⟨runsR l t,runs_tells h a he t,?_⟩;subst he;unfold Bzz.f;refine b.bind ?_;simp only[if_true];exact rruns_loop l t (by omega) l.length 0 0 0 0 0 (by omega) (by omega) (by omega) (by omega) (by omega)
  · refine⟨(0,0,e),?_,?_⟩
    · unfold Czz.f;refine a.bind ?_;simp only[if_neg he];exact Tells.const _
    · unfold Bzz.f;refine b.bind ?_;simp only[if_neg he];exact Tells.const _

theorem StatsCounts:papermilllaw60_StatsCounts.Pure:=by
  intro l p t _ _ _ _ _;refine Tells.get ?_;unfold papermilllaw60_StatsCounts.f;refine both (fun _=>awake_end) (fun _=>?_)
  obtain⟨r,a,b⟩:=quan60 l p;obtain⟨q,c,d⟩:=runs60 l t;refine a.bind (b.bind (c.bind (d.bind ?_)));simp only[if_true];exact awake_end

end Go.Proofs.Ytokkiljkgejnhaa.Pure
