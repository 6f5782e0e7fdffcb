import Derived.Test.YtokkiljkgejnhaaPrint44
import Derived.Test.YtokkiljkgejnhaaPrint38
namespace Go.Proofs.Ytokkiljkgejnhaa.Pure
open Go.RowKit Go.Proofs.Ytokkiljkgejnhaa.Print Go.Proofs.YtokkiljkgejnhaaW.PrintWords Go.Proofs.YtokkiljkgejnhaaW.PrintLast
set_option linter.unusedVariables false
set_option linter.unusedSimpArgs false

/-- From some number of rounds on f tells r. -/
def Tells {α:Type} (f:Nat→Option α) (r:α):Prop:=∃ K,∀ k,K≤k→f k=some r
namespace Tells
theorem leO {α:Type} {f:Nat→Option α} (hm:∀ k,LeO (f k) (f (k+1))) {K:Nat} {r:α} (h:f K=some r):∀ k,K≤k→f k=some r:=by
  intro k hk;induction hk with
  | refl=>exact h
  | step _ ih=>exact hm _ _ ih
theorem of {α:Type} {f:Nat→Option α} (hm:∀ k,LeO (f k) (f (k+1))) {r:α} (h:∃ K,f K=some r):Tells f r:=by
  obtain⟨K,h⟩:=h;exact⟨K,leO hm h⟩
theorem get {α:Type} {f:Nat→Option α} {r:α} (h:Tells f r):∃ k,f k=some r:=by
  obtain⟨K,h⟩:=h;exact⟨K,h K (Nat.le_refl K)⟩
theorem const {α:Type} (r:α):Tells (fun _=>some r) r:=⟨0,fun _ _=>rfl⟩
theorem bind {α β:Type} {f:Nat→Option α} {g:Nat→α→Option β} {r:α} {s:β} (h:Tells f r) (h':Tells (fun k=>g k r) s):Tells (fun k=>(f k).bind (g k)) s:=by
  obtain⟨K,h⟩:=h;obtain⟨K',h'⟩:=h';refine⟨max K K',fun k hk=>?_⟩
  show(f k).bind (g k)=some s
  rw[h k (by omega)]
  exact h' k (by omega)
theorem congr {α:Type} {f g:Nat→Option α} {r:α} (h:Tells g r) (e:∀ k,f k=g k):Tells f r:=by
  obtain⟨K,h⟩:=h;exact⟨K,fun k hk=>(e k).trans (h k hk)⟩
theorem up {α:Type} {f g:Nat→Option α} {r:α} (h:Tells g r) (e:∀ k,f (k+1)=g k):Tells f r:=by
  obtain⟨K,h⟩:=h;refine⟨K+1,fun k hk=>?_⟩
  obtain⟨m,rfl⟩:∃ m,k=m+1:=⟨k - 1,by omega⟩
  exact(e m).trans (h m (by omega))
theorem ite {α:Type} {c:Prop} [Decidable c] {f g:Nat→Option α} {r s:α} (h:c→Tells f r) (h':¬ c→Tells g s):Tells (fun k=>if c then f k else g k) (if c then r else s):=by
  by_cases hc:c
  · simp only[if_pos hc];exact h hc
  · simp only[if_neg hc];exact h' hc
theorem pos {α:Type} {c:Prop} [Decidable c] {f g:Nat→Option α} {r:α} (hc:c) (h:Tells f r):Tells (fun k=>if c then f k else g k) r:=by
  simp only[if_pos hc];exact h
theorem neg {α:Type} {c:Prop} [Decidable c] {f g:Nat→Option α} {r:α} (hc:¬ c) (h:Tells g r):Tells (fun k=>if c then f k else g k) r:=by
  simp only[if_neg hc];exact h
end Tells
theorem wrap64_id {n:Int} (h0:-9223372036854775808≤n) (h1:n < 9223372036854775808):wrap64 n=n:=by
  unfold wrap64;omega
theorem wf64 {n:Int} (h:(Lit.int .i64 n).wf=true):-9223372036854775808≤n∧n < 9223372036854775808:=by
  have h':(decide (-9223372036854775808≤n) && decide (n≤9223372036854775807))=true:=h;simp only[Bool.and_eq_true,decide_eq_true_eq] at h';omega

theorem rd_drop (l:List Int) (i:Nat) (h:i < l.length):l.drop i=rd l (i:Int) :: l.drop (i+1):=by
  rw[List.drop_eq_getElem_cons h];congr 1
  show l[i]=l.getD (i:Int).toNat 0
  simp [h]
theorem rd_at (l:List Int) (i:Nat) (h:i < l.length):rd l (i:Int)=l[i]:=by
  show l.getD (i:Int).toNat 0=_
  simp [h]
theorem rd_mid (A:List Int) (x:Int) (B:List Int):rd (A ++ x :: B) (A.length:Int)=x:=by
  show(A ++ x :: B).getD (A.length:Int).toNat 0=x
  simp
theorem rd_mid' {l A:List Int} {x:Int} {B:List Int} {i:Int} (h:l=A ++ x :: B) (hi:i=(A.length:Int)):rd l i=x:=by
  subst h hi;exact rd_mid A x B
theorem set_mid (A:List Int) (x v:Int) (B:List Int):(A ++ x :: B).set ((A.length:Int)).toNat v=A ++ v :: B:=by simp
theorem set_mid' {l A:List Int} {x v:Int} {B:List Int} {i:Int} (h:l=A ++ x :: B) (hi:i=(A.length:Int)):l.set i.toNat v=A ++ v :: B:=by
  subst h hi;exact set_mid A x v B
theorem rd_mem (l:List Int) (i:Int) (h0:0≤i) (h:i < (l.length:Int)):rd l i ∈ l:=by
  obtain⟨j,rfl⟩:∃ j:Nat,i=(j:Int):=⟨i.toNat,by omega⟩
  rw[rd_at l j (by omega)]
  exact List.getElem_mem _
theorem ext_rd {a b:List Int} (hl:a.length=b.length) (h:∀ i:Nat,i < a.length→rd a (i:Int)=rd b (i:Int)):a=b:=by
  apply List.ext_getElem hl;intro i h1 h2;have:=h i h1;rwa [rd_at a i h1,rd_at b i h2] at this
theorem rd_map (f:Int→Int) (l:List Int) (i:Nat) (h:i < l.length):rd (l.map f) (i:Int)=f (rd l (i:Int)):=by
  rw[rd_at _ i (by simpa using h),rd_at l i h]
  simp
theorem rd_set (l:List Int) (i j:Nat) (v:Int) (h:j < l.length):rd (l.set i v) (j:Int)=if i=j then v else rd l (j:Int):=by
  rw[rd_at _ j (by simpa using h),rd_at l j h,List.getElem_set]
theorem rd_replicate (n i:Nat) (v:Int) (h:i < n):rd (List.replicate n v) (i:Int)=v:=by
  rw[rd_at _ i (by simpa using h)]
  simp
/-- The sum,as the program adds it up. -/
def sumFrom (s:Int):List Int→Int
  | []=>s
  | x :: l=>sumFrom (wrap64 (s+x)) l
/-- All from 0 to most. -/
def inAll (most:Int) (l:List Int):Bool:=l.all fun x=>decide (0≤x) && decide (x≤most)
theorem inAll_iff {m:Int} {l:List Int}:inAll m l=true ↔ ∀ x ∈ l,0≤x∧x≤m:=by
  unfold inAll;simp [List.all_eq_true,Bool.and_eq_true,decide_eq_true_eq]
theorem inAll_cons {m x:Int} {l:List Int}:inAll m (x :: l)=((decide (0≤x) && decide (x≤m)) && inAll m l):=rfl
theorem sum_bounds {m:Int} {l:List Int} (h:inAll m l=true):0≤l.sum∧l.sum≤m * l.length:=by
  induction l with
  | nil=>simp
  | cons x l ih =>
    rw[inAll_cons,Bool.and_eq_true,Bool.and_eq_true,decide_eq_true_eq,decide_eq_true_eq] at h;have:=ih h.2;rw[List.sum_cons,List.length_cons];have e:m * ((l.length+1:Nat):Int)=m * l.length+m:=by rw[Int.natCast_add,Int.mul_add];simp
    omega
theorem sum_mem_le {m:Int} {l:List Int} (h:inAll m l=true):∀ x ∈ l,x≤l.sum:=by
  induction l with
  | nil=>simp
  | cons y l ih =>
    have h':=h;rw[inAll_cons,Bool.and_eq_true,Bool.and_eq_true,decide_eq_true_eq,decide_eq_true_eq] at h';have hb:=sum_bounds h'.2;intro x hx;rw[List.sum_cons];rcases List.mem_cons.1 hx with rfl|hx
    · omega
    · have:=ih h'.2 x hx;omega
theorem sumFrom_eq {m:Int} (l:List Int) (h:inAll m l=true):∀ s,0≤s→0≤m→s+m * l.length < 9223372036854775808→sumFrom s l=s+l.sum:=by
  induction l with
  | nil=>intro s _ _ _;simp [sumFrom]
  | cons x l ih =>
    intro s h0 hm h1;rw[inAll_cons,Bool.and_eq_true,Bool.and_eq_true,decide_eq_true_eq,decide_eq_true_eq] at h;have e:m * ((l.length+1:Nat):Int)=m * l.length+m:=by rw[Int.natCast_add,Int.mul_add];simp
    rw[List.length_cons,e] at h1;have hp:0≤m * (l.length:Int):=Int.mul_nonneg hm (by omega)
    show sumFrom (wrap64 (s+x)) l=_
    rw[wrap64_id (by omega) (by omega),ih h.2 (s+x) (by omega) hm (by omega),List.sum_cons]
    omega
/-- 0,1,..,n - 1 -/
def idx (n:Nat):List Int:=(List.range n).map (fun i:Nat=>(i:Int))
theorem idx_len (n:Nat):(idx n).length=n:=by simp [idx]
theorem idx_succ (n:Nat):idx (n+1)=idx n ++ [(n:Int)]:=by simp [idx,List.range_succ]
theorem mem_idx {n:Nat} {i:Int}:i ∈ idx n ↔ 0≤i∧i < (n:Int):=by
  unfold idx;rw[List.mem_map];constructor
  · rintro ⟨j,hj,rfl⟩
    have:=List.mem_range.1 hj;omega
  · rintro ⟨h0,h1⟩
    exact⟨i.toNat,List.mem_range.2 (by omega),by omega⟩
theorem rd_idx (n i:Nat) (h:i < n):rd (idx n) (i:Int)=i:=by
  rw[rd_at _ i (by rw[idx_len];exact h)]
  simp [idx]
theorem idx_nodup (n:Nat):(idx n).Nodup:=by
  induction n with
  | zero=>simp [idx]
  | succ n ih =>
    rw[idx_succ,List.nodup_append];refine⟨ih,by simp,?_⟩
    intro a ha b hb;rw[List.mem_singleton] at hb;have:=mem_idx.1 ha;omega
theorem map_idx (l:List Int):(idx l.length).map (rd l)=l:=by
  apply ext_rd (by simp [idx_len])
  intro i hi;have hi':i < l.length:=by simpa [idx_len] using hi
  rw[rd_map _ _ i (by rw[idx_len];exact hi'),rd_idx _ _ hi']

structure StOk (l:List Int):Prop where
  pos:0 < l.length
  len:l.length≤512
  rng:∀ i:Nat,i < l.length→-1099511627776≤rd l (i:Int)∧rd l (i:Int)≤1099511627776
theorem both {α:Type} {c:Prop} [Decidable c] {f g:Nat→Option α} {r:α} (h:c→Tells f r) (h':¬ c→Tells g r):Tells (fun k=>if c then f k else g k) r:=by
  by_cases hc:c
  · simp only[if_pos hc];exact h hc
  · simp only[if_neg hc];exact h' hc
theorem wsucc {i n:Nat} (h:i < n) (hn:n≤100000):wrap64 ((i:Int)+1)=((i+1:Nat):Int):=by rw[wrap64_id (by omega) (by omega)];omega
theorem stcheck_loop (l:List Int) (hl:l.length≤1000) (d:Nat):∀ i:Nat,i+d=l.length→∃ r,Tells (fun k=>Azp.l0 k l (l.length:Int) (i:Int)) r∧Tells (fun k=>Azj.l0 k l (i:Int)) (if r≥0 then 1 else 0)∧(¬ r≥0→∀ j:Nat,i≤j→j < l.length→-1099511627776≤rd l (j:Int)∧rd l (j:Int)≤1099511627776):=by
  induction d with
  | zero =>
    intro i hi;refine⟨-1,Tells.up (Tells.const _) (fun k=>?_),Tells.up (Tells.const _) (fun k=>?_),fun _ j h1 h2=>by omega⟩
    · rw[Azp.l0,if_neg (by omega)]
    · rw[Azj.l0,if_neg (by omega),if_neg (by omega)]
  | succ d ih =>
    intro i hi;have e2:=wsucc (i:=i) (n:=l.length) (by omega) (by omega)
    have c1:(i:Int) < (l.length:Int):=by omega
    have c2:(0:Int)≤(i:Int):=by omega
    by_cases h0:rd l (i:Int) < -1099511627776
    · refine⟨(i:Int),Tells.up (Tells.const _) (fun k=>?_),Tells.up (Tells.const _) (fun k=>?_),fun h=>absurd c2 h⟩
      · rw[Azp.l0,if_pos c1,if_pos c2,if_pos c1]
        unfold Ezx.f;rw[if_pos h0,Option.bind_some,if_pos rfl]
      · rw[Azj.l0,if_pos c1,if_pos c2,if_pos h0,if_pos c2]
    by_cases h1:rd l (i:Int) > 1099511627776
    · refine⟨(i:Int),Tells.up (Tells.const _) (fun k=>?_),Tells.up (Tells.const _) (fun k=>?_),fun h=>absurd c2 h⟩
      · rw[Azp.l0,if_pos c1,if_pos c2,if_pos c1]
        unfold Ezx.f;rw[if_neg h0,Option.bind_some,if_pos (decide_eq_true h1)]
      · rw[Azj.l0,if_pos c1,if_pos c2,if_neg h0,if_pos h1,if_pos c2]
    obtain⟨r,a,b,c⟩:=ih (i+1) (by omega)
    refine⟨r,Tells.up a (fun k=>?_),Tells.up b (fun k=>?_),fun hr j hj hj2=>?_⟩
    · rw[Azp.l0,if_pos c1,if_pos c2,if_pos c1]
      unfold Ezx.f;rw[if_neg h0,Option.bind_some,decide_eq_false h1,if_neg (by decide),e2]
    · rw[Azj.l0,if_pos c1,if_pos c2,if_neg h0,if_neg h1,e2]
    · rcases Nat.lt_or_ge i j with hij|hij
      · exact c hr j hij hj2
      · obtain rfl:j=i:=by omega
        exact⟨by omega,by omega⟩
theorem check60 (l:List Int):∃ r,Tells (fun k=>Bzx.f k l) r∧Tells (fun k=>Azj.f k l) r∧(r=0→StOk l):=by
  by_cases h2:(l.length:Int)=0
  · exact⟨10,(Tells.const 10).congr (fun k=>by unfold Bzx.f;rw[if_pos h2]),(Tells.const 10).congr (fun k=>by unfold Azj.f;rw[if_pos h2]),fun h=>absurd h (by decide)⟩
  by_cases h5:(l.length:Int) > 512
  · exact⟨8,(Tells.const 8).congr (fun k=>by unfold Bzx.f;rw[if_neg h2,if_pos h5]),(Tells.const 8).congr (fun k=>by unfold Azj.f;rw[if_neg h2,if_pos h5]),fun h=>absurd h (by decide)⟩
  obtain⟨r,a,b,c⟩:=stcheck_loop l (by omega) l.length 0 (by omega)
  refine⟨if r≥0 then 1 else 0,?_,b.congr (fun k=>by unfold Azj.f;rw[if_neg h2,if_neg h5];rfl),fun h=>?_⟩
  · unfold Bzx.f Bzy.f Azp.f
    simp only[if_neg h2,if_neg h5];refine Tells.bind (a.bind (Tells.const (decide (r≥0)))) ?_;by_cases hr:r≥0
    · simp only[decide_eq_true hr,if_true,if_pos hr];exact Tells.const _
    · simp only[decide_eq_false hr,Bool.false_eq_true,if_false,if_neg hr];exact Tells.const _
  · by_cases hr:r≥0
    · rw[if_pos hr] at h;exact absurd h (by decide)
    · exact⟨by omega,by omega,fun i hi=>c hr i (by omega) hi⟩
theorem awake_tells:Tells (fun k=>Azz.f k) true:=Tells.of (fun k=>Azz.mono k) ⟨300,by decide +kernel⟩
theorem awake_end:Tells (fun k=>(Azz.f k).bind fun t=>(some t)) true:=awake_tells.bind (Tells.const _)
theorem mx_eq (a b:Int):mx a b=max a b:=by unfold mx;split <;> omega

def cntLe (l:List Int) (x:Int):Nat:=l.countP fun y=>decide (y≤x)
theorem getD_at (l:List Int) (i:Nat) (h:i < l.length):l.getD i 0=l[i]:=by simp [h]
theorem cntLe_sorted:∀ {S:List Int},S.Pairwise (·≤·)→∀ (i:Nat),i < S.length→∀ x:Int,(i < cntLe S x ↔ S.getD i 0≤x):=by
  intro S;induction S with
  | nil=>intro _ i hi;simp at hi
  | cons y S ih =>
    intro hS i hi x;rw[List.pairwise_cons] at hS;by_cases hy:y≤x
    · have e:cntLe (y :: S) x=cntLe S x+1:=by unfold cntLe;rw[List.countP_cons_of_pos (by simpa using hy)]
      rw[e];cases i with
      | zero=>simp [hy]
      | succ i =>
        have:=ih hS.2 i (by simpa using hi) x
        rw[List.getD_cons_succ,← this];omega
    · have h0:cntLe (y :: S) x=0:=by
        unfold cntLe;rw[List.countP_eq_zero];intro z hz;rcases List.mem_cons.1 hz with rfl|hz
        · simpa using hy
        · have:=hS.1 z hz;simp;omega
      rw[h0];constructor
      · intro h;omega
      · intro h
        exfalso
        cases i with
        | zero=>exact hy (by simpa using h)
        | succ i =>
          have hi':i < S.length:=by simpa using hi
          rw[List.getD_cons_succ,getD_at _ _ hi'] at h;have:=hS.1 _ (List.getElem_mem hi');omega
theorem cntLe_srt (l:List Int) (x:Int):cntLe (Azb.srt l) x=cntLe l x:=(Azb.srt_perm l).countP_eq _
theorem cntLe_le (l:List Int) (x:Int):cntLe l x≤l.length:=List.countP_le_length
/-- The place of a quantile. -/
theorem q_at {p:Int} {n:Nat} (h1:1≤p) (h2:p≤1000) (hn:0 < n) (hn2:n≤1000):∃ i:Nat,Azb.at_ p (n:Int)=(i:Int)∧i < n∧∀ c:Nat,(1000 * (c:Int)≥p * (n:Int) ↔ i < c):=by
  have hpn:p * (n:Int)≤1000 * (n:Int):=Int.mul_le_mul_of_nonneg_right h2 (by omega)
  have hpn0:(n:Int)≤p * (n:Int):=by have:=Int.mul_le_mul_of_nonneg_right h1 (show(0:Int)≤(n:Int) by omega);omega
  have e:Azb.at_ p (n:Int)=(p * (n:Int)+999) / 1000 - 1:=by
    unfold Azb.at_;rw[wrap64_id (n:=p * (n:Int)) (by omega) (by omega),wrap64_id (n:=p * (n:Int)+999) (by omega) (by omega),Int.tdiv_eq_ediv_of_nonneg (by omega),wrap64_id (n:=(p * (n:Int)+999) / 1000) (by omega) (by omega),wrap64_id (by omega) (by omega)]
  generalize p * (n:Int)=q at *;refine⟨((q+999) / 1000 - 1).toNat,by rw[e];omega,by omega,fun c=>by omega⟩
def quanR (l:List Int) (p:Int):Int:=rd (Azb.srt l) (Azb.at_ p (l.length:Int))
theorem quan_facts {l:List Int} (h:StOk l) {p:Int} (h1:1≤p) (h2:p≤1000):quanR l p ∈ l∧∀ x,(1000 * (cntLe l x:Int)≥p * (l.length:Int) ↔ quanR l p≤x):=by
  obtain⟨i,e,hi,hc⟩:=q_at h1 h2 h.pos (by have:=h.len;omega)
  have hl:(Azb.srt l).length=l.length:=(Azb.srt_perm l).length_eq;have eq:quanR l p=(Azb.srt l).getD i 0:=by
    unfold quanR;rw[e];rfl
  refine⟨?_,fun x=>?_⟩
  · rw[eq,getD_at _ _ (by omega)]
    exact(Azb.srt_perm l).mem_iff.1 (List.getElem_mem _)
  · rw[hc,← cntLe_srt l x,cntLe_sorted (Azb.srt_sorted l) i (by omega) x,eq]
theorem quan_tells {l:List Int} (h:StOk l) {e:Int} (hc:Tells (fun k=>Bzx.f k l) e) (he:e=0) (p:Int):Tells (fun k=>Azb.f k l p) (if p < 1 then(0,1) else if p > 1000 then(0,1) else(quanR l p,0)):=by
  subst he;unfold Azb.f;refine hc.bind ?_;simp only[if_true];by_cases h1:p < 1
  · simp only[if_pos h1];exact Tells.const _
  by_cases h2:p > 1000
  · simp only[if_neg h1,if_pos h2];exact Tells.const _
  obtain⟨i,ei,hi,_⟩:=q_at (p:=p) (by omega) (by omega) h.pos (by have:=h.len;omega)
  have hl:=h.len;have hp:=h.pos;simp only[if_neg h1,if_neg h2,if_pos (show 0 < l.length∧l.length≤1000000∧0≤Azb.at_ p (l.length:Int)∧Azb.at_ p (l.length:Int) < (l.length:Int) from⟨hp,by omega,by omega,by omega⟩)]
  exact Tells.const _
theorem cnt_step (l:List Int) (x:Int) (j:Nat) (hj:j < l.length):cntLe (l.take (j+1)) x=cntLe (l.take j) x+(if rd l (j:Int)≤x then 1 else 0):=by
  unfold cntLe;rw[List.take_add_one,List.countP_append,List.getElem?_eq_getElem hj,rd_at l j hj];by_cases h:l[j]≤x
  · rw[if_pos h];simp [h]
  · rw[if_neg h];simp [h]
theorem rquan_l1 (l:List Int) (p:Int) (b:Int) (f:Bool) (i:Nat) (hi:i < l.length) (hn:l.length≤1000) (R:Int × Int)
    (hT:∀ b' f',b'=(if 1000 * (cntLe l (rd l (i:Int)):Int)≥wrap64 (p * (l.length:Int)) then(if f=true then(if rd l (i:Int) < b then rd l (i:Int) else b) else rd l (i:Int)) else b)→f'=(f || decide (1000 * (cntLe l (rd l (i:Int)):Int)≥wrap64 (p * (l.length:Int))))→Tells (fun k=>Azw.l0 k l p b' f' ((i+1:Nat):Int)) R) (d:Nat) :
    ∀ j:Nat,j+d=l.length→Tells (fun k=>Azw.l1 k l p b f (i:Int) (cntLe (l.take j) (rd l (i:Int)):Int) (j:Int)) R:=by
  have ei:=wsucc hi (by omega)
  induction d with
  | zero =>
    intro j hj;have hc:cntLe (l.take j) (rd l (i:Int))=cntLe l (rd l (i:Int)):=by rw[List.take_of_length_le (by omega)]
    have hb:=cntLe_le l (rd l (i:Int));rw[hc];by_cases h0:1000 * (cntLe l (rd l (i:Int)):Int)≥wrap64 (p * (l.length:Int))
    · have w0:wrap64 (1000 * (cntLe l (rd l (i:Int)):Int))=1000 * (cntLe l (rd l (i:Int)):Int):=wrap64_id (by omega) (by omega)
      simp only[if_pos h0,decide_eq_true h0,Bool.or_true] at hT;cases f with
      | true =>
        by_cases hb:rd l (i:Int) < b
        · refine Tells.up (hT (rd l (i:Int)) true (by rw[if_pos rfl,if_pos hb]) rfl) (fun k=>?_)
          rw[Azw.l1,if_neg (by omega),w0,if_pos h0,if_pos rfl,if_pos (by omega),if_pos (by omega),if_pos hb,ei]
        · refine Tells.up (hT b true (by rw[if_pos rfl,if_neg hb]) rfl) (fun k=>?_)
          rw[Azw.l1,if_neg (by omega),w0,if_pos h0,if_pos rfl,if_pos (by omega),if_pos (by omega),if_neg hb,ei]
      | false =>
        refine Tells.up (hT (rd l (i:Int)) true (by rw[if_neg (by decide)]) rfl) (fun k=>?_)
        rw[Azw.l1,if_neg (by omega),w0,if_pos h0,if_neg (by decide),if_pos (by omega),if_pos (by omega),ei]
    · have w0:wrap64 (1000 * (cntLe l (rd l (i:Int)):Int))=1000 * (cntLe l (rd l (i:Int)):Int):=wrap64_id (by omega) (by omega)
      simp only[if_neg h0,decide_eq_false h0,Bool.or_false] at hT;refine Tells.up (hT b f rfl rfl) (fun k=>?_)
      rw[Azw.l1,if_neg (by omega),w0,if_neg h0,ei]
  | succ d ih =>
    intro j hj;have ej:=wsucc (i:=j) (n:=l.length) (by omega) (by omega)
    have hs:=cnt_step l (rd l (i:Int)) j (by omega)
    have hb:=cntLe_le (l.take j) (rd l (i:Int));have hb2:(l.take j).length≤1000:=by rw[List.length_take];omega
    refine Tells.up (ih (j+1) (by omega)) (fun k=>?_)
    rw[Azw.l1,if_pos (by omega),if_pos (by omega),if_pos (by omega),if_pos (by omega),hs]
    by_cases hx:rd l (j:Int)≤rd l (i:Int)
    · rw[if_pos hx,if_pos hx,ej,wrap64_id (by omega) (by omega)]
      congr 1
    · rw[if_neg hx,if_neg hx,ej]
      congr 1
theorem rquan_l0 {l:List Int} (h:StOk l) {p:Int} (h1:1≤p) (h2:p≤1000) (d:Nat):∀ (i:Nat) (b:Int) (f:Bool),i+d=l.length→(f=true→quanR l p≤b∧(b ∈ l))→(f=true→quanR l p ∈ l.take i→b=quanR l p)→(f=false→quanR l p ∉ l.take i)→Tells (fun k=>Azw.l0 k l p b f (i:Int)) (quanR l p,0):=by
  obtain⟨qm,qc⟩:=quan_facts h h1 h2;have hn:=h.len;have hw:wrap64 (p * (l.length:Int))=p * (l.length:Int):=by
    have hpn:p * (l.length:Int)≤1000 * (l.length:Int):=Int.mul_le_mul_of_nonneg_right h2 (by omega)
    have hpn0:0≤p * (l.length:Int):=Int.mul_nonneg (by omega) (by omega)
    exact wrap64_id (by omega) (by omega)
  induction d with
  | zero =>
    intro i b f hi hb hb2 hf;have ht:l.take i=l:=List.take_of_length_le (by omega)
    rw[ht] at hb2 hf;cases f with
    | false=>exact absurd qm (hf rfl)
    | true =>
      rw[← hb2 rfl qm];refine Tells.up (Tells.const _) (fun k=>?_)
      rw[Azw.l0,if_neg (by omega)]
  | succ d ih =>
    intro i b f hi hb hb2 hf;have hmem:∀ x,x ∈ l.take (i+1) ↔ x ∈ l.take i∨x=rd l (i:Int):=fun x=>by
      rw[List.take_add_one,List.mem_append,List.getElem?_eq_getElem (show i < l.length by omega),rd_at l i (by omega)];simp
    have hrm:rd l (i:Int) ∈ l:=rd_mem l _ (by omega) (by omega)
    have key:=rquan_l1 l p b f i (by omega) (by omega) (quanR l p,0) (fun b' f' hb' hf'=>?_) l.length 0 (by omega)
    · refine Tells.up key (fun k=>?_)
      rw[Azw.l0,if_pos (by omega)]
      rfl
    · rw[hw] at hb' hf'
      have hq:=qc (rd l (i:Int));by_cases hx:quanR l p≤rd l (i:Int)
      · have h0:=hq.2 hx
        rw[if_pos h0] at hb';rw[decide_eq_true h0,Bool.or_true] at hf';subst hf';refine ih (i+1) b' true (by omega) (fun _=>?_) (fun _ hm=>?_) (fun h=>by cases h)
        · cases f with
          | true =>
            rw[if_pos rfl] at hb';obtain⟨x1,x2⟩:=hb rfl;by_cases hlt:rd l (i:Int) < b
            · rw[if_pos hlt] at hb';rw[hb'];exact⟨hx,hrm⟩
            · rw[if_neg hlt] at hb';rw[hb'];exact⟨x1,x2⟩
          | false =>
            rw[if_neg (by decide)] at hb';rw[hb'];exact⟨hx,hrm⟩
        · rw[hmem] at hm
          cases f with
          | true =>
            rw[if_pos rfl] at hb';obtain⟨x1,x2⟩:=hb rfl;rcases hm with hm|hm
            · have:=hb2 rfl hm
              rw[hb',if_neg (by omega)];exact this
            · by_cases hlt:rd l (i:Int) < b
              · rw[hb',if_pos hlt];exact hm.symm
              · rw[hb',if_neg hlt];omega
          | false =>
            rw[if_neg (by decide)] at hb'
            rcases hm with hm|hm
            · exact absurd hm (hf rfl)
            · rw[hb'];exact hm.symm
      · have h0:¬ 1000 * (cntLe l (rd l (i:Int)):Int)≥p * (l.length:Int):=fun h=>hx (hq.1 h)
        rw[if_neg h0] at hb';rw[decide_eq_false h0,Bool.or_false] at hf';subst hb' hf';refine ih (i+1) _ _ (by omega) hb (fun hf1 hm=>?_) (fun hf1 hm=>?_)
        · rw[hmem] at hm
          rcases hm with hm|hm
          · exact hb2 hf1 hm
          · omega
        · rw[hmem] at hm
          rcases hm with hm|hm
          · exact hf hf1 hm
          · omega
theorem rquan_tells {l:List Int} (h:StOk l) {e:Int} (hc:Tells (fun k=>Azj.f k l) e) (he:e=0) (p:Int):Tells (fun k=>Azw.f k l p) (if p < 1 then(0,1) else if p > 1000 then(0,1) else(quanR l p,0)):=by
  subst he;unfold Azw.f;refine hc.bind ?_;simp only[if_true];have hT:Tells (fun k=>Azw.j0 k l p true) (0,1):=Tells.up (Tells.const _) (fun k=>by rw[Azw.j0,if_pos rfl])
  by_cases h1:p < 1
  · simp only[if_pos h1];exact hT
  by_cases h2:p > 1000
  · simp only[if_neg h1,if_pos h2,decide_eq_true h2];exact hT
  simp only[if_neg h1,if_neg h2,decide_eq_false h2];refine Tells.up (rquan_l0 h (p:=p) (by omega) (by omega) l.length 0 0 false (by omega) (fun h=>by cases h) (fun h=>by cases h) (fun _ hm=>by simp at hm)) (fun k=>?_)
  rw[Azw.j0,if_neg (by decide)]
  rfl
theorem quan60 (l:List Int) (p:Int):∃ r,Tells (fun k=>Azb.f k l p) r∧Tells (fun k=>Azw.f k l p) r:=by
  obtain⟨e,a,b,c⟩:=check60 l;by_cases he:e=0
  · exact⟨_,quan_tells (c he) a he p,rquan_tells (c he) b he p⟩
  · refine⟨(0,e),?_,?_⟩
    · unfold Azb.f;refine a.bind ?_;simp only[if_neg he];exact Tells.const _
    · unfold Azw.f;refine b.bind ?_;simp only[if_neg he];exact Tells.const _

theorem idx_ok (l:List Int) (hl:l.length≤1000) (hr:∀ i:Nat,i < l.length→-1099511627776≤rd l (i:Int)∧rd l (i:Int)≤1099511627776) (d:Nat):∀ i:Nat,i+d=l.length→Tells (fun k=>Azp.l0 k l (l.length:Int) (i:Int)) (-1):=by
  induction d with
  | zero =>
    intro i hi;refine Tells.up (Tells.const _) (fun k=>?_)
    rw[Azp.l0,if_neg (by omega)]
  | succ d ih =>
    intro i hi;have h:=hr i (by omega)
    refine Tells.up (ih (i+1) (by omega)) (fun k=>?_)
    rw[Azp.l0,if_pos (by omega),if_pos (by omega),if_pos (by omega)]
    unfold Ezx.f;rw[if_neg (by omega),Option.bind_some,decide_eq_false (by omega),if_neg (by decide),wsucc (n:=l.length) (by omega) (by omega)]
theorem check_ok {l:List Int} (h:StOk l):Tells (fun k=>Bzx.f k l) 0:=by
  have hp:=h.pos;have hn:=h.len;unfold Bzx.f Bzy.f Azp.f;simp only[if_neg (show ¬ (l.length:Int)=0 by omega),if_neg (show ¬ (l.length:Int) > 512 by omega)]
  refine Tells.bind ((idx_ok l (by omega) h.rng l.length 0 (by omega)).bind (Tells.const (decide ((-1:Int)≥0)))) ?_
  simp only[show decide ((-1:Int)≥0)=false from rfl,Bool.false_eq_true,if_false]
  exact Tells.const _

theorem srt_rev (l:List Int):Azb.srt l.reverse=Azb.srt l :=
  List.Perm.eq_of_pairwise (le:=fun x y=>x≤y) (fun a b _ _ h h'=>Int.le_antisymm h h') (Azb.srt_sorted _) (Azb.srt_sorted _) ((Azb.srt_perm _).trans ((List.reverse_perm l).trans (Azb.srt_perm l).symm))
theorem quan_mono {l:List Int} (h:StOk l) {p q:Int} (h1:1≤p) (hpq:p≤q) (h2:q≤1000):quanR l p≤quanR l q:=by
  obtain⟨_,c1⟩:=quan_facts h h1 (by omega)
  obtain⟨_,c2⟩:=quan_facts h (p:=q) (by omega) h2
  have a:=(c2 (quanR l q)).2 (Int.le_refl _);have b:p * (l.length:Int)≤q * (l.length:Int):=Int.mul_le_mul_of_nonneg_right hpq (by omega)
  exact(c1 (quanR l q)).1 (by omega)
def bnd_st (l:List Int) (a:Int) (i:Nat):Int × Int × Bool × Int × List Int:=((cntLe (l.take i) a:Int),(cntLe (l.take i) (a - 1):Int),(l.take i).any (fun y=>y == a),(l.take i).foldl mx (rd l 0),(l.reverse).take i)
theorem cnt_step' (l:List Int) (x:Int) (j:Nat) (hj:j < l.length):(cntLe (l.take (j+1)) x:Int)=(cntLe (l.take j) x:Int)+(if rd l (j:Int)≤x then 1 else 0):=by
  rw[cnt_step l x j hj];split <;> omega
theorem bnd_loop {l:List Int} (hn:l.length≤600) (p q a b g:Int) (R:Bool) (hend:Tells (fun k=>papermilllaw60_StatsBounds.l0 k l p q a b g (bnd_st l a l.length).1 (bnd_st l a l.length).2.1 (bnd_st l a l.length).2.2.1 (bnd_st l a l.length).2.2.2.1 (bnd_st l a l.length).2.2.2.2 (l.length:Int)) R) (d:Nat):∀ i:Nat,i+d=l.length→Tells (fun k=>papermilllaw60_StatsBounds.l0 k l p q a b g (bnd_st l a i).1 (bnd_st l a i).2.1 (bnd_st l a i).2.2.1 (bnd_st l a i).2.2.2.1 (bnd_st l a i).2.2.2.2 (i:Int)) R:=by
  induction d with
  | zero =>
    intro i hi;obtain rfl:i=l.length:=by omega
    exact hend
  | succ d ih =>
    intro i hi;have hil:i < l.length:=by omega
    refine Tells.up (ih (i+1) (by omega)) (fun k=>?_)
    have e2:=wsucc (i:=i) (n:=l.length) hil (by omega)
    have s1:=cnt_step' l a i hil;have s2:=cnt_step' l (a - 1) i hil;have b1:=cntLe_le (l.take i) a;have b2:=cntLe_le (l.take i) (a - 1);have b3:(l.take i).length≤600:=by rw[List.length_take];omega
    have ht:l.take (i+1)=l.take i ++ [rd l (i:Int)]:=by rw[List.take_add_one,List.getElem?_eq_getElem hil,rd_at l i hil];rfl
    have s3:(l.take (i+1)).any (fun y=>y == a)=((l.take i).any (fun y=>y == a) || (rd l (i:Int) == a)):=by rw[ht,List.any_append];simp
    have s4:(l.take (i+1)).foldl mx (rd l 0)=mx ((l.take i).foldl mx (rd l 0)) (rd l (i:Int)):=by rw[ht,List.foldl_append];rfl
    have wi:wrap64 (wrap64 ((l.length:Int) - 1) - (i:Int))=((l.length - 1 - i:Nat):Int):=by rw[wrap64_id (n:=(l.length:Int) - 1) (by omega) (by omega),wrap64_id (by omega) (by omega)];omega
    have s5:(l.reverse).take (i+1)=(l.reverse).take i ++ [rd l ((l.length - 1 - i:Nat):Int)]:=by
      rw[List.take_add_one,List.getElem?_eq_getElem (by rw[List.length_reverse];exact hil),List.getElem_reverse,rd_at l _ (by omega)];rfl
    have c0:(i:Int) < (l.length:Int):=by omega
    have c1:(0:Int)≤(i:Int):=by omega
    have d0:(0:Int)≤((l.length - 1 - i:Nat):Int):=by omega
    have d1:((l.length - 1 - i:Nat):Int) < (l.length:Int):=by omega
    have d2:((l.reverse).take i).length < 17592186044416:=by rw[List.length_take,List.length_reverse];omega
    unfold bnd_st;simp only[s1,s2,s3,s4,s5];have w1:wrap64 ((cntLe (l.take i) a:Int)+1)=(cntLe (l.take i) a:Int)+1:=wrap64_id (by omega) (by omega)
    have w2:wrap64 ((cntLe (l.take i) (a - 1):Int)+1)=(cntLe (l.take i) (a - 1):Int)+1:=wrap64_id (by omega) (by omega)
    rw[papermilllaw60_StatsBounds.l0,if_pos c0,if_pos c1];simp only[wi,if_pos d0,if_pos d1,if_pos d2,w1,w2,e2];generalize (l.take i).any (fun y=>y == a)=f
    by_cases x1:rd l (i:Int)≤a
    · by_cases x2:rd l (i:Int) < a
      · have x3:rd l (i:Int)≤a - 1:=by omega
        cases f <;> simp only[if_pos x1,if_pos x2,if_pos x3,if_true,Bool.false_eq_true,if_false,Bool.true_or,Bool.false_or]
      · have x3:¬ rd l (i:Int)≤a - 1:=by omega
        cases f <;> simp only[if_pos x1,if_neg x2,if_neg x3,if_true,Bool.false_eq_true,if_false,Bool.true_or,Bool.false_or,Int.add_zero]
    · have x2:¬ rd l (i:Int) < a:=by omega
      have x3:¬ rd l (i:Int)≤a - 1:=by omega
      cases f <;> simp only[if_neg x1,if_neg x2,if_neg x3,if_true,Bool.false_eq_true,if_false,Bool.true_or,Bool.false_or,Int.add_zero]
theorem foldl_mx (l:List Int):∀ z:Int,z≤l.foldl mx z∧(∀ y ∈ l,y≤l.foldl mx z)∧(l.foldl mx z=z∨l.foldl mx z ∈ l):=by
  induction l with
  | nil=>intro z;exact⟨Int.le_refl _,by simp,.inl rfl⟩
  | cons x l ih =>
    intro z;obtain⟨a,b,c⟩:=ih (mx z x);have hm:z≤mx z x∧x≤mx z x∧(mx z x=z∨mx z x=x):=by unfold mx;split <;> omega
    refine⟨Int.le_trans hm.1 a,fun y hy=>?_,?_⟩
    · rcases List.mem_cons.1 hy with rfl|hy
      · exact Int.le_trans hm.2.1 a
      · exact b y hy
    · show l.foldl mx (mx z x)=z∨l.foldl mx (mx z x) ∈ x :: l
      rcases c with c|c
      · rw[c]
        rcases hm.2.2 with h|h
        · exact .inl h
        · exact .inr (by rw[h];exact List.mem_cons_self)
      · exact .inr (List.mem_cons_of_mem _ c)
theorem w1000 (c:Nat) (h:c≤600):wrap64 (1000 * (c:Int))=1000 * (c:Int):=wrap64_id (by omega) (by omega)
theorem wpn {p:Int} {n:Nat} (h1:1≤p) (h2:p≤1000) (hn:n≤600):wrap64 (p * (n:Int))=p * (n:Int):=by
  have a:p * (n:Int)≤1000 * (n:Int):=Int.mul_le_mul_of_nonneg_right h2 (by omega)
  have b:0≤p * (n:Int):=Int.mul_nonneg (by omega) (by omega)
  exact wrap64_id (by omega) (by omega)
theorem bnd_fin (l:List Int) (p q a b g most less fm:Int) (back:List Int) (hQ:Tells (fun k=>Azb.f k back p) (a,0)) (hm:¬ wrap64 (1000 * most) < wrap64 (p * (l.length:Int))) (hl:¬ wrap64 (1000 * less)≥wrap64 (p * (l.length:Int))) (hg:g=fm) (h1:p≤q→a≤b) (h2:q≤p→b≤a):Tells (fun k=>papermilllaw60_StatsBounds.l0 k l p q a b g most less true fm back (l.length:Int)) true:=by
  refine Tells.up (hQ.bind (g:=fun k bt835=>(if true=true then(if(wrap64 (1000 * most)) < (wrap64 (p * (l.length:Int))) then(none) else(if(wrap64 (1000 * less))≥(wrap64 (p * (l.length:Int))) then(none) else(if g=fm then(if bt835.2=0 then(if bt835.1=a then(if p > q then(if p < q then((Azz.f k).bind fun t837=>(some t837)) else(if a≥b then((Azz.f k).bind fun t838=>(some t838)) else(none))) else(if a≤b then(if p < q then((Azz.f k).bind fun t839=>(some t839)) else(if a≥b then((Azz.f k).bind fun t840=>(some t840)) else(none))) else(none))) else(none)) else(none)) else(none)))) else(none))) ?_) (fun k=>by rw[papermilllaw60_StatsBounds.l0,if_neg (Int.lt_irrefl _)])
  simp only[if_true,if_neg hm,if_neg hl,if_pos hg];by_cases hpq:p > q
  · simp only[if_pos hpq,if_neg (show ¬ p < q by omega),if_pos (show a≥b from h2 (by omega))]
    exact awake_end
  · simp only[if_neg hpq,if_pos (h1 (by omega))]
    by_cases hlt:p < q
    · simp only[if_pos hlt];exact awake_end
    · simp only[if_neg hlt,if_pos (show a≥b from h2 (by omega))];exact awake_end
theorem StatsBounds:papermilllaw60_StatsBounds.Pure:=by
  intro l p q _ _ _ _ _;refine Tells.get ?_;unfold papermilllaw60_StatsBounds.f;refine both (fun _=>awake_end) (fun _=>?_)
  obtain⟨e,ck,_,hok⟩:=check60 l;have hT:∀ a b g,Tells (fun k=>papermilllaw60_StatsBounds.j0 k l p q a b g true) true:=fun a b g=>Tells.up awake_end (fun k=>by rw[papermilllaw60_StatsBounds.j0,if_pos rfl])
  by_cases he:e=0
  · have h:=hok he
    have hn:=h.len;have hpos:=h.pos;refine(quan_tells h ck he p).bind ((quan_tells h ck he q).bind ((quan_tells h ck he 1000).bind ?_));simp only[if_neg (show ¬ (1000:Int) < 1 by decide),if_neg (show ¬ (1000:Int) > 1000 by decide)]
    by_cases hp:p < 1
    · simp only[if_pos hp,if_neg (show ¬ (1:Int)=0 by decide)];exact hT _ _ _
    by_cases hp2:p > 1000
    · simp only[if_neg hp,if_pos hp2,if_neg (show ¬ (1:Int)=0 by decide)];exact hT _ _ _
    by_cases hq:q < 1
    · simp only[if_neg hp,if_neg hp2,if_pos hq,if_true,if_neg (show ¬ (1:Int)=0 by decide)];exact hT _ _ _
    by_cases hq2:q > 1000
    · simp only[if_neg hp,if_neg hp2,if_neg hq,if_pos hq2,if_true,if_neg (show ¬ (1:Int)=0 by decide)];exact hT _ _ _
    simp only[if_neg hp,if_neg hp2,if_neg hq,if_neg hq2,if_true,bne_self_eq_false];obtain⟨qm,qc⟩:=quan_facts h (p:=p) (by omega) (by omega)
    obtain⟨gm,gc⟩:=quan_facts h (p:=1000) (by omega) (by omega)
    have hp1:1≤p:=by omega
    have hp3:p≤1000:=by omega
    have hq1:1≤q:=by omega
    have hq3:q≤1000:=by omega
    have hw:=wpn hp1 hp3 (Nat.le_trans hn (show 512≤600 by decide))
    have hend:Tells (fun k=>papermilllaw60_StatsBounds.l0 k l p q (quanR l p) (quanR l q) (quanR l 1000) (bnd_st l (quanR l p) l.length).1 (bnd_st l (quanR l p) l.length).2.1 (bnd_st l (quanR l p) l.length).2.2.1 (bnd_st l (quanR l p) l.length).2.2.2.1 (bnd_st l (quanR l p) l.length).2.2.2.2 (l.length:Int)) true:=by
      have e1:l.take l.length=l:=List.take_length;have e2:l.reverse.take l.length=l.reverse:=by rw[← List.length_reverse,List.take_length]
      unfold bnd_st;simp only[e1,e2];have hrev:StOk l.reverse:=⟨by rw[List.length_reverse];exact hpos,by rw[List.length_reverse];exact hn,fun i hi=>by
        rw[List.length_reverse] at hi;have hm:rd l.reverse (i:Int) ∈ l:=List.mem_reverse.1 (rd_mem l.reverse _ (by omega) (by rw[List.length_reverse];omega))
        obtain⟨j,hj,ej⟩:=List.getElem_of_mem hm;have:=h.rng j hj;rw[rd_at l j hj,ej] at this;exact this⟩
      have hQ:=quan_tells hrev (check_ok hrev) rfl p;have eq:quanR l.reverse p=quanR l p:=by unfold quanR;rw[srt_rev,List.length_reverse]
      rw[eq,if_neg hp,if_neg hp2] at hQ;have bq:=cntLe_le l (quanR l p);have bq2:=cntLe_le l (quanR l p - 1);have c1:¬ 1000 * (cntLe l (quanR l p):Int) < p * (l.length:Int):=Int.not_lt.2 ((qc (quanR l p)).2 (Int.le_refl _));have c2:¬ 1000 * (cntLe l (quanR l p - 1):Int)≥p * (l.length:Int):=fun hc=>by have:=(qc (quanR l p - 1)).1 hc;omega
      have cin:l.any (fun y=>y == quanR l p)=true:=List.any_eq_true.2 ⟨_,qm,by simp⟩
      obtain⟨fa,fb,fc⟩:=foldl_mx l (rd l 0);have r0:rd l 0 ∈ l:=rd_mem l 0 (by omega) (by omega)
      have cg:quanR l 1000=l.foldl mx (rd l 0):=by
        have all:∀ x,(∀ y ∈ l,y≤x)→quanR l 1000≤x:=fun x hx=>(gc x).1 (by
          have:cntLe l x=l.length:=by unfold cntLe;rw[List.countP_eq_length];intro y hy;simpa using hx y hy
          rw[this];omega)
        have h1:=all _ fb;have h2:∀ y ∈ l,y≤quanR l 1000:=by
          have hc:=(gc (quanR l 1000)).2 (Int.le_refl _);have hb:=cntLe_le l (quanR l 1000);have:cntLe l (quanR l 1000)=l.length:=by omega
          unfold cntLe at this;rw[List.countP_eq_length] at this;intro y hy;simpa using this y hy
        have h3:l.foldl mx (rd l 0)≤quanR l 1000:=by
          rcases fc with fc|fc
          · rw[fc];exact h2 _ r0
          · exact h2 _ fc
        exact Int.le_antisymm h1 h3
      have w1:=w1000 (cntLe l (quanR l p)) (Nat.le_trans bq (Nat.le_trans hn (by decide)))
      have w2:=w1000 (cntLe l (quanR l p - 1)) (Nat.le_trans bq2 (Nat.le_trans hn (by decide)))
      rw[cin];exact bnd_fin l p q _ _ _ _ _ _ _ hQ (by rw[w1,hw];exact c1) (by rw[w2,hw];exact c2) cg (fun hpq=>quan_mono h hp1 hpq hq3) (fun hpq=>quan_mono h hq1 hpq hp3)
    refine Tells.up (bnd_loop (by omega) p q (quanR l p) (quanR l q) (quanR l 1000) true hend l.length 0 (by omega)) (fun k=>?_)
    rw[papermilllaw60_StatsBounds.j0,if_neg (by decide),if_pos (by omega)]
    rfl
  · have hQ:∀ p',Tells (fun k=>Azb.f k l p') (0,e):=fun p'=>by
      unfold Azb.f;refine ck.bind ?_;simp only[if_neg he];exact Tells.const _
    refine(hQ p).bind ((hQ q).bind ((hQ 1000).bind ?_));simp only[if_neg he];exact hT _ _ _

end Go.Proofs.Ytokkiljkgejnhaa.Pure
