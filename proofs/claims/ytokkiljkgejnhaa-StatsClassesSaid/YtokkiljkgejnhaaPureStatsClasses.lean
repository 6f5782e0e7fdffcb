import Derived.Test.YtokkiljkgejnhaaPrint45
import Derived.Test.YtokkiljkgejnhaaPrint38
namespace Go.Proofs.Ytokkiljkgejnhaa.Pure
open Go.RowKit Go.Proofs.Ytokkiljkgejnhaa.Print Go.Proofs.YtokkiljkgejnhaaW.PrintWords Go.Proofs.YtokkiljkgejnhaaW.PrintLast
set_option linter.unusedVariables false
set_option linter.unusedSimpArgs false

/-- From some number of rounds on f tells r. -/
def Tells {α:Type} (f:Nat→Option α) (r:α):Prop:=∃ K,∀ k,K≤k→f k=some r
namespace Tells
theorem leO {α:Type} {f:Nat→Option α} (hm:∀ k,LeO (f k) (f (k+1))) {K:Nat} {r:α} (h:f K=some r):∀ k,K≤k→f k=some r:=by
  intro k hk;induction hk with
  | refl=>exact h
  | step _ ih=>exact hm _ _ ih
theorem of {α:Type} {f:Nat→Option α} (hm:∀ k,LeO (f k) (f (k+1))) {r:α} (h:∃ K,f K=some r):Tells f r:=by
  obtain⟨K,h⟩:=h;exact⟨K,leO hm h⟩
theorem get {α:Type} {f:Nat→Option α} {r:α} (h:Tells f r):∃ k,f k=some r:=by
  obtain⟨K,h⟩:=h;exact⟨K,h K (Nat.le_refl K)⟩
theorem const {α:Type} (r:α):Tells (fun _=>some r) r:=⟨0,fun _ _=>rfl⟩
theorem bind {α β:Type} {f:Nat→Option α} {g:Nat→α→Option β} {r:α} {s:β} (h:Tells f r) (h':Tells (fun k=>g k r) s):Tells (fun k=>(f k).bind (g k)) s:=by
  obtain⟨K,h⟩:=h;obtain⟨K',h'⟩:=h';refine⟨max K K',fun k hk=>?_⟩
  show(f k).bind (g k)=some s
  rw[h k (by omega)]
  exact h' k (by omega)
theorem congr {α:Type} {f g:Nat→Option α} {r:α} (h:Tells g r) (e:∀ k,f k=g k):Tells f r:=by
  obtain⟨K,h⟩:=h;exact⟨K,fun k hk=>(e k).trans (h k hk)⟩
theorem up {α:Type} {f g:Nat→Option α} {r:α} (h:Tells g r) (e:∀ k,f (k+1)=g k):Tells f r:=by
  obtain⟨K,h⟩:=h;refine⟨K+1,fun k hk=>?_⟩
  obtain⟨m,rfl⟩:∃ m,k=m+1:=⟨k - 1,by omega⟩
  exact(e m).trans (h m (by omega))
theorem ite {α:Type} {c:Prop} [Decidable c] {f g:Nat→Option α} {r s:α} (h:c→Tells f r) (h':¬ c→Tells g s):Tells (fun k=>if c then f k else g k) (if c then r else s):=by
  by_cases hc:c
  · simp only[if_pos hc];exact h hc
  · simp only[if_neg hc];exact h' hc
theorem pos {α:Type} {c:Prop} [Decidable c] {f g:Nat→Option α} {r:α} (hc:c) (h:Tells f r):Tells (fun k=>if c then f k else g k) r:=by
  simp only[if_pos hc];exact h
theorem neg {α:Type} {c:Prop} [Decidable c] {f g:Nat→Option α} {r:α} (hc:¬ c) (h:Tells g r):Tells (fun k=>if c then f k else g k) r:=by
  simp only[if_neg hc];exact h
end Tells
theorem wrap64_id {n:Int} (h0:-9223372036854775808≤n) (h1:n < 9223372036854775808):wrap64 n=n:=by
  unfold wrap64;omega
theorem wf64 {n:Int} (h:(Lit.int .i64 n).wf=true):-9223372036854775808≤n∧n < 9223372036854775808:=by
  have h':(decide (-9223372036854775808≤n) && decide (n≤9223372036854775807))=true:=h;simp only[Bool.and_eq_true,decide_eq_true_eq] at h';omega

theorem rd_drop (l:List Int) (i:Nat) (h:i < l.length):l.drop i=rd l (i:Int) :: l.drop (i+1):=by
  rw[List.drop_eq_getElem_cons h];congr 1
  show l[i]=l.getD (i:Int).toNat 0
  simp [h]
theorem rd_at (l:List Int) (i:Nat) (h:i < l.length):rd l (i:Int)=l[i]:=by
  show l.getD (i:Int).toNat 0=_
  simp [h]
theorem rd_mid (A:List Int) (x:Int) (B:List Int):rd (A ++ x :: B) (A.length:Int)=x:=by
  show(A ++ x :: B).getD (A.length:Int).toNat 0=x
  simp
theorem rd_mid' {l A:List Int} {x:Int} {B:List Int} {i:Int} (h:l=A ++ x :: B) (hi:i=(A.length:Int)):rd l i=x:=by
  subst h hi;exact rd_mid A x B
theorem set_mid (A:List Int) (x v:Int) (B:List Int):(A ++ x :: B).set ((A.length:Int)).toNat v=A ++ v :: B:=by simp
theorem set_mid' {l A:List Int} {x v:Int} {B:List Int} {i:Int} (h:l=A ++ x :: B) (hi:i=(A.length:Int)):l.set i.toNat v=A ++ v :: B:=by
  subst h hi;exact set_mid A x v B
theorem rd_mem (l:List Int) (i:Int) (h0:0≤i) (h:i < (l.length:Int)):rd l i ∈ l:=by
  obtain⟨j,rfl⟩:∃ j:Nat,i=(j:Int):=⟨i.toNat,by omega⟩
  rw[rd_at l j (by omega)]
  exact List.getElem_mem _
theorem ext_rd {a b:List Int} (hl:a.length=b.length) (h:∀ i:Nat,i < a.length→rd a (i:Int)=rd b (i:Int)):a=b:=by
  apply List.ext_getElem hl;intro i h1 h2;have:=h i h1;rwa [rd_at a i h1,rd_at b i h2] at this
theorem rd_map (f:Int→Int) (l:List Int) (i:Nat) (h:i < l.length):rd (l.map f) (i:Int)=f (rd l (i:Int)):=by
  rw[rd_at _ i (by simpa using h),rd_at l i h]
  simp
theorem rd_set (l:List Int) (i j:Nat) (v:Int) (h:j < l.length):rd (l.set i v) (j:Int)=if i=j then v else rd l (j:Int):=by
  rw[rd_at _ j (by simpa using h),rd_at l j h,List.getElem_set]
theorem rd_replicate (n i:Nat) (v:Int) (h:i < n):rd (List.replicate n v) (i:Int)=v:=by
  rw[rd_at _ i (by simpa using h)]
  simp
/-- The sum,as the program adds it up. -/
def sumFrom (s:Int):List Int→Int
  | []=>s
  | x :: l=>sumFrom (wrap64 (s+x)) l
/-- All from 0 to most. -/
def inAll (most:Int) (l:List Int):Bool:=l.all fun x=>decide (0≤x) && decide (x≤most)
theorem inAll_iff {m:Int} {l:List Int}:inAll m l=true ↔ ∀ x ∈ l,0≤x∧x≤m:=by
  unfold inAll;simp [List.all_eq_true,Bool.and_eq_true,decide_eq_true_eq]
theorem inAll_cons {m x:Int} {l:List Int}:inAll m (x :: l)=((decide (0≤x) && decide (x≤m)) && inAll m l):=rfl
theorem sum_bounds {m:Int} {l:List Int} (h:inAll m l=true):0≤l.sum∧l.sum≤m * l.length:=by
  induction l with
  | nil=>simp
  | cons x l ih =>
    rw[inAll_cons,Bool.and_eq_true,Bool.and_eq_true,decide_eq_true_eq,decide_eq_true_eq] at h;have:=ih h.2;rw[List.sum_cons,List.length_cons];have e:m * ((l.length+1:Nat):Int)=m * l.length+m:=by rw[Int.natCast_add,Int.mul_add];simp
    omega
theorem sum_mem_le {m:Int} {l:List Int} (h:inAll m l=true):∀ x ∈ l,x≤l.sum:=by
  induction l with
  | nil=>simp
  | cons y l ih =>
    have h':=h;rw[inAll_cons,Bool.and_eq_true,Bool.and_eq_true,decide_eq_true_eq,decide_eq_true_eq] at h';have hb:=sum_bounds h'.2;intro x hx;rw[List.sum_cons];rcases List.mem_cons.1 hx with rfl|hx
    · omega
    · have:=ih h'.2 x hx;omega
theorem sumFrom_eq {m:Int} (l:List Int) (h:inAll m l=true):∀ s,0≤s→0≤m→s+m * l.length < 9223372036854775808→sumFrom s l=s+l.sum:=by
  induction l with
  | nil=>intro s _ _ _;simp [sumFrom]
  | cons x l ih =>
    intro s h0 hm h1;rw[inAll_cons,Bool.and_eq_true,Bool.and_eq_true,decide_eq_true_eq,decide_eq_true_eq] at h;have e:m * ((l.length+1:Nat):Int)=m * l.length+m:=by rw[Int.natCast_add,Int.mul_add];simp
    rw[List.length_cons,e] at h1;have hp:0≤m * (l.length:Int):=Int.mul_nonneg hm (by omega)
    show sumFrom (wrap64 (s+x)) l=_
    rw[wrap64_id (by omega) (by omega),ih h.2 (s+x) (by omega) hm (by omega),List.sum_cons]
    omega
/-- 0,1,..,n - 1 -/
def idx (n:Nat):List Int:=(List.range n).map (fun i:Nat=>(i:Int))
theorem idx_len (n:Nat):(idx n).length=n:=by simp [idx]
theorem idx_succ (n:Nat):idx (n+1)=idx n ++ [(n:Int)]:=by simp [idx,List.range_succ]
theorem mem_idx {n:Nat} {i:Int}:i ∈ idx n ↔ 0≤i∧i < (n:Int):=by
  unfold idx;rw[List.mem_map];constructor
  · rintro ⟨j,hj,rfl⟩
    have:=List.mem_range.1 hj;omega
  · rintro ⟨h0,h1⟩
    exact⟨i.toNat,List.mem_range.2 (by omega),by omega⟩
theorem rd_idx (n i:Nat) (h:i < n):rd (idx n) (i:Int)=i:=by
  rw[rd_at _ i (by rw[idx_len];exact h)]
  simp [idx]
theorem idx_nodup (n:Nat):(idx n).Nodup:=by
  induction n with
  | zero=>simp [idx]
  | succ n ih =>
    rw[idx_succ,List.nodup_append];refine⟨ih,by simp,?_⟩
    intro a ha b hb;rw[List.mem_singleton] at hb;have:=mem_idx.1 ha;omega
theorem map_idx (l:List Int):(idx l.length).map (rd l)=l:=by
  apply ext_rd (by simp [idx_len])
  intro i hi;have hi':i < l.length:=by simpa [idx_len] using hi
  rw[rd_map _ _ i (by rw[idx_len];exact hi'),rd_idx _ _ hi']

structure StOk (l:List Int):Prop where
  pos:0 < l.length
  len:l.length≤512
  rng:∀ i:Nat,i < l.length→-1099511627776≤rd l (i:Int)∧rd l (i:Int)≤1099511627776
theorem both {α:Type} {c:Prop} [Decidable c] {f g:Nat→Option α} {r:α} (h:c→Tells f r) (h':¬ c→Tells g r):Tells (fun k=>if c then f k else g k) r:=by
  by_cases hc:c
  · simp only[if_pos hc];exact h hc
  · simp only[if_neg hc];exact h' hc
theorem wsucc {i n:Nat} (h:i < n) (hn:n≤100000):wrap64 ((i:Int)+1)=((i+1:Nat):Int):=by rw[wrap64_id (by omega) (by omega)];omega
theorem stcheck_loop (l:List Int) (hl:l.length≤1000) (d:Nat):∀ i:Nat,i+d=l.length→∃ r,Tells (fun k=>Azp.l0 k l (l.length:Int) (i:Int)) r∧Tells (fun k=>Azj.l0 k l (i:Int)) (if r≥0 then 1 else 0)∧(¬ r≥0→∀ j:Nat,i≤j→j < l.length→-1099511627776≤rd l (j:Int)∧rd l (j:Int)≤1099511627776):=by
  induction d with
  | zero =>
    intro i hi;refine⟨-1,Tells.up (Tells.const _) (fun k=>?_),Tells.up (Tells.const _) (fun k=>?_),fun _ j h1 h2=>by omega⟩
    · rw[Azp.l0,if_neg (by omega)]
    · rw[Azj.l0,if_neg (by omega),if_neg (by omega)]
  | succ d ih =>
    intro i hi;have e2:=wsucc (i:=i) (n:=l.length) (by omega) (by omega)
    have c1:(i:Int) < (l.length:Int):=by omega
    have c2:(0:Int)≤(i:Int):=by omega
    by_cases h0:rd l (i:Int) < -1099511627776
    · refine⟨(i:Int),Tells.up (Tells.const _) (fun k=>?_),Tells.up (Tells.const _) (fun k=>?_),fun h=>absurd c2 h⟩
      · rw[Azp.l0,if_pos c1,if_pos c2,if_pos c1]
        unfold Ezx.f;rw[if_pos h0,Option.bind_some,if_pos rfl]
      · rw[Azj.l0,if_pos c1,if_pos c2,if_pos h0,if_pos c2]
    by_cases h1:rd l (i:Int) > 1099511627776
    · refine⟨(i:Int),Tells.up (Tells.const _) (fun k=>?_),Tells.up (Tells.const _) (fun k=>?_),fun h=>absurd c2 h⟩
      · rw[Azp.l0,if_pos c1,if_pos c2,if_pos c1]
        unfold Ezx.f;rw[if_neg h0,Option.bind_some,if_pos (decide_eq_true h1)]
      · rw[Azj.l0,if_pos c1,if_pos c2,if_neg h0,if_pos h1,if_pos c2]
    obtain⟨r,a,b,c⟩:=ih (i+1) (by omega)
    refine⟨r,Tells.up a (fun k=>?_),Tells.up b (fun k=>?_),fun hr j hj hj2=>?_⟩
    · rw[Azp.l0,if_pos c1,if_pos c2,if_pos c1]
      unfold Ezx.f;rw[if_neg h0,Option.bind_some,decide_eq_false h1,if_neg (by decide),e2]
    · rw[Azj.l0,if_pos c1,if_pos c2,if_neg h0,if_neg h1,e2]
    · rcases Nat.lt_or_ge i j with hij|hij
      · exact c hr j hij hj2
      · obtain rfl:j=i:=by omega
        exact⟨by omega,by omega⟩
theorem check60 (l:List Int):∃ r,Tells (fun k=>Bzx.f k l) r∧Tells (fun k=>Azj.f k l) r∧(r=0→StOk l):=by
  by_cases h2:(l.length:Int)=0
  · exact⟨10,(Tells.const 10).congr (fun k=>by unfold Bzx.f;rw[if_pos h2]),(Tells.const 10).congr (fun k=>by unfold Azj.f;rw[if_pos h2]),fun h=>absurd h (by decide)⟩
  by_cases h5:(l.length:Int) > 512
  · exact⟨8,(Tells.const 8).congr (fun k=>by unfold Bzx.f;rw[if_neg h2,if_pos h5]),(Tells.const 8).congr (fun k=>by unfold Azj.f;rw[if_neg h2,if_pos h5]),fun h=>absurd h (by decide)⟩
  obtain⟨r,a,b,c⟩:=stcheck_loop l (by omega) l.length 0 (by omega)
  refine⟨if r≥0 then 1 else 0,?_,b.congr (fun k=>by unfold Azj.f;rw[if_neg h2,if_neg h5];rfl),fun h=>?_⟩
  · unfold Bzx.f Bzy.f Azp.f
    simp only[if_neg h2,if_neg h5];refine Tells.bind (a.bind (Tells.const (decide (r≥0)))) ?_;by_cases hr:r≥0
    · simp only[decide_eq_true hr,if_true,if_pos hr];exact Tells.const _
    · simp only[decide_eq_false hr,Bool.false_eq_true,if_false,if_neg hr];exact Tells.const _
  · by_cases hr:r≥0
    · rw[if_pos hr] at h;exact absurd h (by decide)
    · exact⟨by omega,by omega,fun i hi=>c hr i (by omega) hi⟩
theorem awake_tells:Tells (fun k=>Azz.f k) true:=Tells.of (fun k=>Azz.mono k) ⟨300,by decide +kernel⟩
theorem awake_end:Tells (fun k=>(Azz.f k).bind fun t=>(some t)) true:=awake_tells.bind (Tells.const _)
theorem mx_eq (a b:Int):mx a b=max a b:=by unfold mx;split <;> omega

theorem idx_ok (l:List Int) (hl:l.length≤1000) (hr:∀ i:Nat,i < l.length→-1099511627776≤rd l (i:Int)∧rd l (i:Int)≤1099511627776) (d:Nat):∀ i:Nat,i+d=l.length→Tells (fun k=>Azp.l0 k l (l.length:Int) (i:Int)) (-1):=by
  induction d with
  | zero =>
    intro i hi;refine Tells.up (Tells.const _) (fun k=>?_)
    rw[Azp.l0,if_neg (by omega)]
  | succ d ih =>
    intro i hi;have h:=hr i (by omega)
    refine Tells.up (ih (i+1) (by omega)) (fun k=>?_)
    rw[Azp.l0,if_pos (by omega),if_pos (by omega),if_pos (by omega)]
    unfold Ezx.f;rw[if_neg (by omega),Option.bind_some,decide_eq_false (by omega),if_neg (by decide),wsucc (n:=l.length) (by omega) (by omega)]
theorem check_ok {l:List Int} (h:StOk l):Tells (fun k=>Bzx.f k l) 0:=by
  have hp:=h.pos;have hn:=h.len;unfold Bzx.f Bzy.f Azp.f;simp only[if_neg (show ¬ (l.length:Int)=0 by omega),if_neg (show ¬ (l.length:Int) > 512 by omega)]
  refine Tells.bind ((idx_ok l (by omega) h.rng l.length 0 (by omega)).bind (Tells.const (decide ((-1:Int)≥0)))) ?_
  simp only[show decide ((-1:Int)≥0)=false from rfl,Bool.false_eq_true,if_false]
  exact Tells.const _

def inCls (a b x:Int):Int:=if a≤x then(if x < b then 1 else 0) else 0
/-- How many are at least a and less than b. -/
def cnt (a b:Int):List Int→Int
  | []=>0
  | x :: l=>inCls a b x+cnt a b l
theorem inCls_01 (a b x:Int):0≤inCls a b x∧inCls a b x≤1:=by unfold inCls;split <;> (try split) <;> omega
theorem cnt_append (a b:Int) (l m:List Int):cnt a b (l ++ m)=cnt a b l+cnt a b m:=by
  induction l with
  | nil=>show cnt a b m=0+cnt a b m;omega
  | cons x l ih=>show _+cnt a b (l ++ m)=_+cnt a b l+_;omega
theorem cnt_bound (a b:Int) (l:List Int):0≤cnt a b l∧cnt a b l≤(l.length:Int):=by
  induction l with
  | nil=>exact⟨Int.le_refl _,Int.le_refl _⟩
  | cons x l ih =>
    have:=inCls_01 a b x;rw[List.length_cons];show 0≤inCls a b x+cnt a b l∧inCls a b x+cnt a b l≤_
    omega
theorem cnt_take (a b:Int) (l:List Int) (j:Nat) (h:j < l.length):cnt a b (l.take (j+1))=cnt a b (l.take j)+inCls a b (rd l (j:Int)):=by
  rw[← List.take_append_getElem h,cnt_append,rd_at l j h];show _+(inCls a b l[j]+0)=_
  omega
theorem inCls_add {a b c:Int} (h1:a≤b) (h2:b≤c) (x:Int):inCls a b x+inCls b c x=inCls a c x:=by
  unfold inCls;split <;> (try split) <;> (try split) <;> (try split) <;> (try split) <;> omega
theorem cnt_add {a b c:Int} (h1:a≤b) (h2:b≤c) (l:List Int):cnt a b l+cnt b c l=cnt a c l:=by
  induction l with
  | nil=>rfl
  | cons x l ih =>
    have:=inCls_add h1 h2 x;show inCls a b x+cnt a b l+(inCls b c x+cnt b c l)=inCls a c x+cnt a c l
    omega
def clsS (E l:List Int) (t:Nat):Int:=cnt (rd E (t:Int)) (rd E ((t+1:Nat):Int)) l
def histS (E l:List Int) (m:Nat):List Int:=(List.range m).map (clsS E l)
theorem histS_len (E l:List Int) (m:Nat):(histS E l m).length=m:=by unfold histS;simp
theorem rd_histS (E l:List Int) (m t:Nat) (h:t < m):rd (histS E l m) (t:Int)=clsS E l t:=by
  unfold histS;rw[rd_at _ t (by simpa using h),List.getElem_map,List.getElem_range]
theorem histx_l2 (l E:List Int) (m:Nat) (hE:E.length=m+1) (hm:m≤100) (j:Nat) (hj:j < l.length) (hl:l.length≤1000) (R:List Int × Int)
    (next:∀ y:List Int,y.length=m→(∀ t:Nat,t < m→rd y (t:Int)=clsS E (l.take (j+1)) t)→Tells (fun k=>Azv.l1 k E y l (l.length:Int) ((j+1:Nat):Int)) R) (d:Nat) :
    ∀ (i:Nat) (y:List Int),i+d=m→y.length=m→(∀ t:Nat,t < m→rd y (t:Int)=clsS E (l.take (if t < i then j+1 else j)) t)→Tells (fun k=>Azv.l2 k E y (rd l (j:Int)) l (l.length:Int) (j:Int) (m:Int) (i:Int)) R:=by
  have ej:=wsucc (i:=j) (n:=l.length) hj (by omega)
  induction d with
  | zero =>
    intro i y hi hy hr;refine Tells.up (next y hy (fun t ht=>?_)) (fun k=>?_)
    · rw[hr t ht,if_pos (by omega)]
    · rw[Azv.l2,if_neg (by omega),ej]
  | succ d ih =>
    intro i y hi hy hr;have ei:=wsucc (i:=i) (n:=m) (by omega) (by omega)
    have c0:(i:Int) < (m:Int):=by omega
    have c1:(0:Int)≤(i:Int):=by omega
    have c2:(i:Int) < (E.length:Int):=by omega
    have c3:(0:Int)≤((i+1:Nat):Int):=by omega
    have c4:((i+1:Nat):Int) < (E.length:Int):=by omega
    have c5:(i:Int) < (y.length:Int):=by omega
    have hi0:=hr i (by omega)
    rw[if_neg (by omega)] at hi0
    have hb:clsS E (l.take j) i≤1000∧0≤clsS E (l.take j) i:=by
      have:=cnt_bound (rd E (i:Int)) (rd E ((i+1:Nat):Int)) (l.take j);rw[List.length_take] at this;unfold clsS;omega
    have hs:clsS E (l.take (j+1)) i=clsS E (l.take j) i+inCls (rd E (i:Int)) (rd E ((i+1:Nat):Int)) (rd l (j:Int)):=cnt_take _ _ l j hj;have keep:inCls (rd E (i:Int)) (rd E ((i+1:Nat):Int)) (rd l (j:Int))=0→∀ t:Nat,t < m→rd y (t:Int)=clsS E (l.take (if t < i+1 then j+1 else j)) t:=fun h0 t ht=>by
      by_cases hti:t=i
      · subst hti
        rw[if_pos (by omega),hi0,hs,h0];omega
      · rw[hr t ht]
        by_cases h:t < i
        · rw[if_pos h,if_pos (by omega)]
        · rw[if_neg h,if_neg (by omega)]
    by_cases h1:rd E (i:Int)≤rd l (j:Int)
    · by_cases h2:rd l (j:Int) < rd E ((i+1:Nat):Int)
      · have e1:inCls (rd E (i:Int)) (rd E ((i+1:Nat):Int)) (rd l (j:Int))=1:=by unfold inCls;rw[if_pos h1,if_pos h2]
        refine Tells.up (ih (i+1) (y.set ((i:Nat):Int).toNat (wrap64 (rd y (i:Int)+1))) (by omega) (by simpa using hy) (fun t ht=>?_)) (fun k=>?_)
        · rw[Int.toNat_natCast,rd_set y i t _ (by omega)]
          by_cases hti:i=t
          · subst hti
            rw[if_pos rfl,if_pos (by omega),hi0,hs,e1,wrap64_id (by omega) (by omega)]
          · rw[if_neg hti,hr t ht]
            by_cases h:t < i
            · rw[if_pos h,if_pos (by omega)]
            · rw[if_neg h,if_neg (by omega)]
        · rw[Azv.l2,if_pos c0,if_pos c1,if_pos c2,if_pos h1,ei,if_pos c3,if_pos c4,if_pos h2,if_pos c5]
      · refine Tells.up (ih (i+1) y (by omega) hy (keep (by unfold inCls;rw[if_pos h1,if_neg h2]))) (fun k=>?_)
        rw[Azv.l2,if_pos c0,if_pos c1,if_pos c2,if_pos h1,ei,if_pos c3,if_pos c4,if_neg h2]
    · refine Tells.up (ih (i+1) y (by omega) hy (keep (by unfold inCls;rw[if_neg h1]))) (fun k=>?_)
      rw[Azv.l2,if_pos c0,if_pos c1,if_pos c2,if_neg h1,ei]
theorem histx_l1 (l E:List Int) (m:Nat) (hE:E.length=m+1) (hm:m≤100) (hl:l.length≤1000) (d:Nat) :
    ∀ (j:Nat) (y:List Int),j+d=l.length→y.length=m→(∀ t:Nat,t < m→rd y (t:Int)=clsS E (l.take j) t)→Tells (fun k=>Azv.l1 k E y l (l.length:Int) (j:Int)) (histS E l m,0):=by
  induction d with
  | zero =>
    intro j y hj hy hr;have e:y=histS E l m:=ext_rd (by rw[hy,histS_len]) (fun t ht=>by
      rw[hr t (by omega),rd_histS E l m t (by omega),List.take_of_length_le (by omega)])
    subst e;exact Tells.up (Tells.const _) (fun k=>by rw[Azv.l1,if_neg (by omega)])
  | succ d ih =>
    intro j y hj hy hr;refine Tells.up (histx_l2 l E m hE hm j (by omega) hl _ (fun z hz h=>ih (j+1) z (by omega) hz h) m 0 y (by omega) hy (fun t ht=>by rw[if_neg (by omega)];exact hr t ht)) (fun k=>?_)
    rw[Azv.l1,if_pos (by omega),if_pos (by omega),if_pos (by omega),hy];rfl
def Inc (E:List Int):Prop:=∀ t:Nat,t+1 < E.length→rd E (t:Int) < rd E ((t+1:Nat):Int)
theorem histx_l0 (l E:List Int) (m:Nat) (hE:E.length=m+1) (hm:m≤100) (hm1:1≤m) (hl:l.length≤1000) (hI:Inc E) (d:Nat):∀ i:Nat,1≤i→i+d=E.length→Tells (fun k=>Azv.l0 k l E (i:Int)) (histS E l m,0):=by
  induction d with
  | zero =>
    intro i h1 hi;have w1:wrap64 ((E.length:Int) - 1)=(m:Int):=by rw[wrap64_id (by omega) (by omega)];omega
    have c0:(0:Int)≤(m:Int):=by omega
    have c1:(m:Int).toNat≤35184372088832:=by omega
    refine Tells.up (histx_l1 l E m hE hm hl l.length 0 (List.replicate m 0) (by omega) (by simp) (fun t ht=>by rw[rd_replicate m t 0 ht];rfl)) (fun k=>?_)
    rw[Azv.l0,if_neg (by omega),w1,if_pos c0,if_pos c1,Int.toNat_natCast];rfl
  | succ d ih =>
    intro i h1 hi;have w1:wrap64 ((i:Int) - 1)=((i - 1:Nat):Int):=by rw[wrap64_id (by omega) (by omega)];omega
    have ei:=wsucc (i:=i) (n:=E.length) (by omega) (by omega)
    have h:=hI (i - 1) (by omega)
    rw[show i - 1+1=i by omega] at h
    refine Tells.up (ih (i+1) (by omega) (by omega)) (fun k=>?_)
    rw[Azv.l0,if_pos (by omega),if_pos (by omega),w1,if_pos (by omega),if_pos (by omega),if_neg (by omega),ei]
theorem histx_bad (l E:List Int) (hn:E.length≤1000) (d:Nat):∀ i:Nat,1≤i→i+d=E.length→(∃ t:Nat,i≤t+1∧t+1 < E.length∧¬ rd E (t:Int) < rd E ((t+1:Nat):Int))→Tells (fun k=>Azv.l0 k l E (i:Int)) ([],9):=by
  induction d with
  | zero=>intro i h1 hi ⟨t,a,b,_⟩;exact absurd hi (by omega)
  | succ d ih =>
    intro i h1 hi ⟨t,a,b,c⟩;have w1:wrap64 ((i:Int) - 1)=((i - 1:Nat):Int):=by rw[wrap64_id (by omega) (by omega)];omega
    have ei:=wsucc (i:=i) (n:=E.length) (by omega) (by omega)
    by_cases h:rd E (i:Int)≤rd E ((i - 1:Nat):Int)
    · refine Tells.up (Tells.const _) (fun k=>?_)
      rw[Azv.l0,if_pos (by omega),if_pos (by omega),w1,if_pos (by omega),if_pos (by omega),if_pos h]
    · have hti:i≠t+1:=fun e=>by
        subst e;rw[Nat.add_sub_cancel] at h;omega
      refine Tells.up (ih (i+1) (by omega) (by omega) ⟨t,by omega,b,c⟩) (fun k=>?_)
      rw[Azv.l0,if_pos (by omega),if_pos (by omega),w1,if_pos (by omega),if_pos (by omega),if_neg h,ei]
theorem hist_good {l E:List Int} (h:StOk l) (h2:2≤E.length) (h64:E.length≤64) (hI:Inc E):Tells (fun k=>Azv.f k l E) (histS E l (E.length - 1),0):=by
  have hl:=h.len;unfold Azv.f;refine(check_ok h).bind ?_;simp only[if_true,if_neg (show ¬ (E.length:Int) < 2 by omega),if_neg (show ¬ (E.length:Int) > 64 by omega)]
  exact histx_l0 l E (E.length - 1) (by omega) (by omega) (by omega) (by omega) hI (E.length - 1) 1 (by omega) (by omega)
/-- With bad edges,or bad values: no numbers,and an error. -/
theorem hist_fault (l E:List Int) (hb:¬ (StOk l∧2≤E.length∧E.length≤64∧Inc E)):∃ e:Int,¬ e=0∧Tells (fun k=>Azv.f k l E) ([],e):=by
  obtain⟨e,ck,_,hok⟩:=check60 l;unfold Azv.f;by_cases he:e=0
  · have h:=hok he
    subst he;by_cases h2:(E.length:Int) < 2
    · exact⟨10,by decide,ck.bind (by simp only[if_true,if_pos h2];exact Tells.const _)⟩
    by_cases h3:(E.length:Int) > 64
    · exact⟨8,by decide,ck.bind (by simp only[if_true,if_neg h2,if_pos h3];exact Tells.const _)⟩
    have hx:∃ t:Nat,t+1 < E.length∧¬ rd E (t:Int) < rd E ((t+1:Nat):Int):=by
      refine Classical.byContradiction fun hc=>hb ⟨h,by omega,by omega,fun t ht=>?_⟩
      exact Classical.byContradiction fun hd=>hc ⟨t,ht,hd⟩
    obtain⟨t,ht,hd⟩:=hx;refine⟨9,by decide,ck.bind ?_⟩
    simp only[if_true,if_neg h2,if_neg h3];exact histx_bad l E (by omega) (E.length - 1) 1 (by omega) (by omega) ⟨t,by omega,ht,hd⟩
  · exact⟨e,he,ck.bind (by simp only[if_neg he];exact Tells.const _)⟩

theorem same12 (l:List Int) (hl:l.length≤1000):Tells (fun k=>Azy.f k l l) true:=by
  have lp:∀ n i k,n < k→i+n=l.length→Azy.l0 k l l (i:Int)=some true:=by
    intro n;induction n with
    | zero =>
      intro i k hk hi;obtain⟨m,rfl⟩:∃ m,k=m+1:=⟨k - 1,by omega⟩
      unfold Azy.l0;rw[if_neg (by omega)]
    | succ n ih =>
      intro i k hk hi;obtain⟨m,rfl⟩:∃ m,k=m+1:=⟨k - 1,by omega⟩
      unfold Azy.l0;rw[if_pos (by omega),if_pos (by omega),if_pos (by omega),if_pos rfl,wrap64_id (by omega) (by omega)]
      exact ih (i+1) m (by omega) (by omega)
  refine⟨l.length+1,fun k hk=>?_⟩
  show Azy.f k l l=some true
  unfold Azy.f;rw[if_pos rfl];exact lp l.length 0 k (by omega) (by omega)

theorem Inc.mono {E:List Int} (h:Inc E) (a d:Nat):a+d < E.length→rd E (a:Int)≤rd E ((a+d:Nat):Int):=by
  induction d with
  | zero=>intro _;exact Int.le_refl _
  | succ d ih =>
    intro hd;have x:=ih (by omega)
    have y:=h (a+d) (by omega)
    rw[show a+(d+1)=a+d+1 by omega]
    omega
/-- The edges without the K-th. -/
def fewS (E:List Int) (K:Nat):List Int:=E.take K ++ E.drop (K+1)
theorem few_len (E:List Int) (K:Nat) (hK:K < E.length):(fewS E K).length=E.length - 1:=by
  unfold fewS;rw[List.length_append,List.length_take,List.length_drop];omega
theorem rd_few (E:List Int) (K t:Nat) (hK:K < E.length) (h:t+1 < E.length):rd (fewS E K) (t:Int)=if t < K then rd E (t:Int) else rd E ((t+1:Nat):Int):=by
  have hl:=few_len E K hK;rw[rd_at _ t (by omega)]
  have ht:(E.take K).length=K:=by rw[List.length_take];omega
  unfold fewS;by_cases h1:t < K
  · rw[if_pos h1,List.getElem_append_left (by omega),List.getElem_take,rd_at E t (by omega)]
  · rw[if_neg h1,List.getElem_append_right (by omega),List.getElem_drop,rd_at E (t+1) (by omega)]
    congr 1
    omega
theorem few_inc {E:List Int} (h:Inc E) (K:Nat) (hK:K < E.length):Inc (fewS E K):=by
  intro t ht;rw[few_len E K hK] at ht;rw[rd_few E K t hK (by omega),rd_few E K (t+1) hK (by omega)]
  have a:=h t (by omega)
  have b:=h (t+1) (by omega)
  by_cases h1:t+1 < K
  · rw[if_pos (by omega),if_pos h1];exact a
  · rw[if_neg h1]
    by_cases h2:t < K
    · rw[if_pos h2];exact Int.lt_trans a b
    · rw[if_neg h2];exact b
theorem few_cls {E:List Int} (h:Inc E) (l:List Int) (K t:Nat) (hK1:1≤K) (hK:K+1 < E.length) (ht:t+2 < E.length) :
    clsS (fewS E K) l t=if t+1 < K then clsS E l t else if t+1=K then clsS E l t+clsS E l (t+1) else clsS E l (t+1):=by
  unfold clsS;rw[rd_few E K t (by omega) (by omega),rd_few E K (t+1) (by omega) (by omega)]
  by_cases h1:t+1 < K
  · rw[if_pos (by omega),if_pos h1,if_pos h1]
  · rw[if_neg h1,if_neg h1]
    by_cases h2:t+1=K
    · rw[if_pos (by omega),if_pos h2]
      have a:=h t (by omega)
      have b:=h (t+1) (by omega)
      exact(cnt_add (Int.le_of_lt a) (Int.le_of_lt b) l).symm
    · rw[if_neg (by omega),if_neg h2]
theorem few_head {E:List Int} (h:Inc E) (l:List Int) (m K:Nat) (hE:E.length=m+1) (hK1:1≤K) (hK:K+1≤m):(histS (fewS E K) l (m - 1)).take (K - 1)=(histS E l m).take (K - 1):=by
  have a:=histS_len (fewS E K) l (m - 1);have b:=histS_len E l m;refine List.ext_getElem (by rw[List.length_take,List.length_take,a,b];omega) (fun i h1 h2=>?_)
  rw[List.length_take] at h1 h2;rw[List.getElem_take,List.getElem_take,← rd_at _ i (by omega),← rd_at _ i (by omega),rd_histS _ _ _ i (by omega),rd_histS _ _ _ i (by omega),few_cls h l K i hK1 (by omega) (by omega),if_pos (by omega)]
theorem few_tail {E:List Int} (h:Inc E) (l:List Int) (m K:Nat) (hE:E.length=m+1) (hK1:1≤K) (hK:K+1≤m):(histS (fewS E K) l (m - 1)).drop K=(histS E l m).drop (K+1):=by
  have a:=histS_len (fewS E K) l (m - 1);have b:=histS_len E l m;refine List.ext_getElem (by rw[List.length_drop,List.length_drop,a,b];omega) (fun i h1 h2=>?_)
  rw[List.length_drop] at h1 h2;rw[List.getElem_drop,List.getElem_drop,← rd_at _ (K+i) (by omega),← rd_at _ (K+1+i) (by omega),rd_histS _ _ _ (K+i) (by omega),rd_histS _ _ _ (K+1+i) (by omega),few_cls h l K (K+i) hK1 (by omega) (by omega),if_neg (by omega),if_neg (by omega),show K+1+i=K+i+1 by omega]
theorem sc_j4 (g h:List Int) (K:Nat) (hK1:1≤K) (hg:K≤g.length) (hh:K+1≤h.length) (hn:h.length≤100) (e1:g.take (K - 1)=h.take (K - 1)) (e2:g.drop K=h.drop (K+1)):Tells (fun k=>papermilllaw60_StatsClasses.j4 k h (K:Int) g false) true:=by
  have w1:wrap64 ((K:Int) - 1)=((K - 1:Nat):Int):=by rw[wrap64_id (by omega) (by omega)];omega
  have w2:wrap64 ((K:Int)+1)=((K+1:Nat):Int):=by rw[wrap64_id (by omega) (by omega)];omega
  refine Tells.up (g:=fun k=>(Azy.f k (h.take (K - 1)) (h.take (K - 1))).bind fun t876=>(if t876=true then((Azy.f k (h.drop (K+1)) (h.drop (K+1))).bind fun t885=>(if t885=true then((Azz.f k).bind fun t886=>(some t886)) else(none))) else(none))) ?_ (fun k=>?_)
  · refine(same12 _ (by rw[List.length_take];omega)).bind ?_
    simp only[if_true];refine(same12 _ (by rw[List.length_drop];omega)).bind ?_
    simp only[if_true];exact awake_end
  · rw[papermilllaw60_StatsClasses.j4,if_neg (by decide),w1,w2,if_pos (by omega),if_pos (by omega),if_pos (by omega),if_pos (show(0:Int)≤(K:Int) by omega),if_pos (show(K:Int)≤(g.length:Int) by omega),if_pos (show(0:Int)≤((K+1:Nat):Int) by omega),if_pos (show((K+1:Nat):Int)≤(h.length:Int) by omega),Int.toNat_natCast,Int.toNat_natCast,Int.toNat_natCast,e1,e2]
theorem sc_tail {l E:List Int} (h:StOk l) (m:Nat) (hE:E.length=m+1) (hm1:1≤m) (hm:m≤63) (hI:Inc E) (w:Int) (hw0:0≤w) (hw1:w≤255):Tells (fun k=>papermilllaw60_StatsClasses.l1 k l E w (histS E l m) 0 (l.length:Int)) true:=by
  have hl:=h.len;by_cases h3:(E.length:Int) < 3
  · exact Tells.up awake_end (fun k=>by rw[papermilllaw60_StatsClasses.l1,if_neg (by omega),if_pos rfl,if_pos h3])
  have hlen:=histS_len E l m;have wm:wrap64 ((E.length:Int) - 2)=((m - 1:Nat):Int):=by rw[wrap64_id (by omega) (by omega)];omega
  have ww:wrap64 w=w:=wrap64_id (by omega) (by omega)
  have em:Int.tmod w ((m - 1:Nat):Int)=w % ((m - 1:Nat):Int):=Int.tmod_eq_emod_of_nonneg hw0;have b1:=Int.emod_nonneg w (show((m - 1:Nat):Int)≠0 by omega)
  have b2:=Int.emod_lt_of_pos w (show(0:Int) < ((m - 1:Nat):Int) by omega)
  obtain⟨K,hK⟩:∃ K:Nat,1+w % ((m - 1:Nat):Int)=(K:Int):=⟨(1+w % ((m - 1:Nat):Int)).toNat,by omega⟩
  have hK1:1≤K:=by omega
  have hK2:K+1≤m:=by omega
  have wK:wrap64 (1+(Int.tmod (wrap64 w) (wrap64 ((E.length:Int) - 2))))=(K:Int):=by rw[wm,ww,em,hK,wrap64_id (by omega) (by omega)]
  clear hK b1 b2 em ww hw0 hw1;have w1:wrap64 ((K:Int)+1)=((K+1:Nat):Int):=by rw[wrap64_id (by omega) (by omega)];omega
  have w2:wrap64 ((K:Int) - 1)=((K - 1:Nat):Int):=by rw[wrap64_id (by omega) (by omega)];omega
  have w3:wrap64 (((histS E l m).length:Int) - 1)=((m - 1:Nat):Int):=by rw[hlen,wrap64_id (by omega) (by omega)];omega
  have hfl:=few_len E K (by omega)
  have hg:=hist_good h (E:=fewS E K) (by omega) (by omega) (few_inc hI K (by omega))
  rw[hfl,show E.length - 1 - 1=m - 1 by omega] at hg
  have hgl:=histS_len (fewS E K) l (m - 1);have t1:(E.take K).length≤64:=by rw[List.length_take];omega
  have t2:(E.drop (K+1)).length≤64:=by rw[List.length_drop];omega
  have hv:rd (histS (fewS E K) l (m - 1)) ((K - 1:Nat):Int)=wrap64 (rd (histS E l m) ((K - 1:Nat):Int)+rd (histS E l m) (K:Int)):=by
    rw[rd_histS _ _ _ (K - 1) (by omega),rd_histS _ _ _ (K - 1) (by omega),rd_histS _ _ _ K (by omega),few_cls hI l K (K - 1) hK1 (by omega) (by omega),if_neg (by omega),if_pos (by omega),show K - 1+1=K by omega]
    have c1:=cnt_bound (rd E ((K - 1:Nat):Int)) (rd E ((K - 1+1:Nat):Int)) l;have c2:=cnt_bound (rd E (K:Int)) (rd E ((K+1:Nat):Int)) l;unfold clsS;rw[wrap64_id (by omega) (by omega)]
  refine Tells.up (g:=fun k=>(Azv.f k l (fewS E K)).bind fun bt861=>(if bt861.2=0 then(if(bt861.1.length:Int)=((m - 1:Nat):Int) then(if((K - 1:Nat):Int) < (bt861.1.length:Int) then(papermilllaw60_StatsClasses.j4 k (histS E l m) (K:Int) bt861.1 ((rd bt861.1 ((K - 1:Nat):Int)) != (wrap64 ((rd (histS E l m) ((K - 1:Nat):Int))+(rd (histS E l m) (K:Int)))))) else none) else(papermilllaw60_StatsClasses.j4 k (histS E l m) (K:Int) bt861.1 true)) else(papermilllaw60_StatsClasses.j4 k (histS E l m) (K:Int) bt861.1 true))) ?_ (fun k=>?_)
  · refine hg.bind ?_
    simp only[if_true,hgl,if_pos (show((K - 1:Nat):Int) < ((m - 1:Nat):Int) by omega),hv,bne_self_eq_false]
    exact sc_j4 _ _ K hK1 (by omega) (by omega) (by omega) (few_head hI l m K hE hK1 hK2) (few_tail hI l m K hE hK1 hK2)
  · rw[papermilllaw60_StatsClasses.l1,if_neg (by omega),if_pos rfl,if_neg h3,wK,wm,if_neg (by omega),if_pos (by omega),if_pos (by omega),Int.toNat_natCast,if_pos (by rw[List.length_nil];omega),List.nil_append,Option.bind_some,w1,if_pos (by omega),if_pos (by omega),Int.toNat_natCast,if_pos (by omega),w2,w3]
    simp only[if_pos (show(0:Int)≤((K - 1:Nat):Int) by omega),hlen,if_pos (show((K - 1:Nat):Int) < (m:Int) by omega),if_pos (show(K:Int) < (m:Int) by omega)]
    rfl
theorem sc_l1 {l E:List Int} (h:StOk l) (m:Nat) (hE:E.length=m+1) (hm1:1≤m) (hm:m≤63) (hI:Inc E) (w:Int) (hw0:0≤w) (hw1:w≤255) (d:Nat):∀ j:Nat,j+d=l.length→Tells (fun k=>papermilllaw60_StatsClasses.l1 k l E w (histS E l m) (cnt (rd E 0) (rd E (m:Int)) (l.drop j)) (j:Int)) true:=by
  have hl:=h.len;induction d with
  | zero =>
    intro j hj;obtain rfl:j=l.length:=by omega
    rw[List.drop_length];exact sc_tail h m hE hm1 hm hI w hw0 hw1
  | succ d ih =>
    intro j hj;have a:=ih (j+1) (by omega)
    rw[rd_drop l j (by omega)]
    have b:=cnt_bound (rd E 0) (rd E (m:Int)) (l.drop (j+1));rw[List.length_drop] at b;have wE:wrap64 ((E.length:Int) - 1)=(m:Int):=by rw[wrap64_id (by omega) (by omega)];omega
    have ej:=wsucc (i:=j) (n:=l.length) (by omega) (by omega)
    show Tells (fun k=>papermilllaw60_StatsClasses.l1 k l E w (histS E l m) (inCls (rd E 0) (rd E (m:Int)) (rd l (j:Int))+cnt (rd E 0) (rd E (m:Int)) (l.drop (j+1))) (j:Int)) true
    refine Tells.up a (fun k=>?_)
    rw[papermilllaw60_StatsClasses.l1,if_pos (by omega),if_pos (by omega),if_pos (by omega),wE,ej,if_pos (show(0:Int)≤(m:Int) by omega),if_pos (show(m:Int) < (E.length:Int) by omega)]
    generalize cnt (rd E 0) (rd E (m:Int)) (l.drop (j+1))=C at *;by_cases h1:rd E 0≤rd l (j:Int)
    · rw[if_pos h1]
      by_cases h2:rd l (j:Int) < rd E (m:Int)
      · rw[if_pos h2]
        have e:inCls (rd E 0) (rd E (m:Int)) (rd l (j:Int))=1:=by unfold inCls;rw[if_pos h1,if_pos h2]
        rw[e,show wrap64 (1+C - 1)=C by rw[wrap64_id (by omega) (by omega)];omega]
      · rw[if_neg h2]
        have e:inCls (rd E 0) (rd E (m:Int)) (rd l (j:Int))=0:=by unfold inCls;rw[if_pos h1,if_neg h2]
        rw[e,Int.zero_add]
    · rw[if_neg h1]
      have e:inCls (rd E 0) (rd E (m:Int)) (rd l (j:Int))=0:=by unfold inCls;rw[if_neg h1]
      rw[e,Int.zero_add]
theorem sc_l0 {l E:List Int} (h:StOk l) (m:Nat) (hE:E.length=m+1) (hm1:1≤m) (hm:m≤63) (hI:Inc E) (w:Int) (hw0:0≤w) (hw1:w≤255) (d:Nat):∀ i:Nat,i+d=m→Tells (fun k=>papermilllaw60_StatsClasses.l0 k l E w (histS E l m) (cnt (rd E 0) (rd E (i:Int)) l) (i:Int)) true:=by
  have hl:=h.len;have hlen:=histS_len E l m;induction d with
  | zero =>
    intro i hi;obtain rfl:i=m:=by omega
    refine Tells.up (sc_l1 h i hE hm1 hm hI w hw0 hw1 l.length 0 (by omega)) (fun k=>?_)
    rw[papermilllaw60_StatsClasses.l0,if_neg (by omega),List.drop_zero]
    rfl
  | succ d ih =>
    intro i hi;have a:=ih (i+1) (by omega)
    have mo:=hI.mono 0 i (by omega)
    rw[Nat.zero_add,show((0:Nat):Int)=0 from rfl] at mo
    have ad:=cnt_add mo (Int.le_of_lt (hI i (by omega))) l
    have c1:=cnt_bound (rd E 0) (rd E ((i+1:Nat):Int)) l;have ei:=wsucc (i:=i) (n:=m) (by omega) (by omega)
    refine Tells.up a (fun k=>?_)
    rw[papermilllaw60_StatsClasses.l0,if_pos (by omega),if_pos (by omega),ei,rd_histS E l m i (by omega)]
    unfold clsS;rw[ad,wrap64_id (by omega) (by omega)]
theorem cnt_none (a:Int) (l:List Int):cnt a a l=0:=by
  induction l with
  | nil=>rfl
  | cons x l ih =>
    show inCls a a x+cnt a a l=0
    rw[ih];unfold inCls;split <;> (try split) <;> omega
theorem wfu8 {n:Int} (h:(Lit.int .u8 n).wf=true):0≤n∧n≤255:=by
  have h':(decide (0≤n) && decide (n≤255))=true:=h;simp only[Bool.and_eq_true,decide_eq_true_eq] at h';exact h'
theorem StatsClasses:papermilllaw60_StatsClasses.Pure:=by
  intro l E w _ _ _ _ _ _ hw;obtain⟨hw0,hw1⟩:=wfu8 hw;have hj:∀ x:Bool,Tells (fun k=>papermilllaw60_StatsClasses.j0 k l E w x) true:=by
    intro x;cases x with
    | true=>exact Tells.up awake_end (fun k=>by rw[papermilllaw60_StatsClasses.j0,if_pos rfl])
    | false =>
      by_cases hb:StOk l∧2≤E.length∧E.length≤64∧Inc E
      · obtain⟨h,h2,h64,hI⟩:=hb
        obtain⟨m,hE⟩:∃ m:Nat,E.length=m+1:=⟨E.length - 1,by omega⟩
        have hg:=hist_good h h2 h64 hI;rw[show E.length - 1=m by omega] at hg
        have hlen:=histS_len E l m;have wE:wrap64 ((E.length:Int) - 1)=(m:Int):=by rw[wrap64_id (by omega) (by omega)];omega
        refine Tells.up (hg.bind (g:=fun k bt842=>(if bt842.2=0 then(if(E.length:Int) < 2 then(papermilllaw60_StatsClasses.j1 k l E w bt842.1 true) else(papermilllaw60_StatsClasses.j1 k l E w bt842.1 ((bt842.1.length:Int) != (wrap64 ((E.length:Int) - 1))))) else(if(bt842.1.length:Int)=0 then((Azz.f k).bind fun t846=>(some t846)) else(none)))) ?_) (fun k=>by rw[papermilllaw60_StatsClasses.j0,if_neg (by decide)])
        simp only[if_true,if_neg (show ¬ (E.length:Int) < 2 by omega),hlen,wE,bne_self_eq_false]
        have s:=sc_l0 h m hE (by omega) (by omega) hI w hw0 hw1 m 0 (by omega)
        rw[show((0:Nat):Int)=0 from rfl,cnt_none] at s
        exact Tells.up s (fun k=>by rw[papermilllaw60_StatsClasses.j1,if_neg (by decide)])
      · obtain⟨e,he,hf⟩:=hist_fault l E hb
        refine Tells.up (hf.bind (g:=fun k bt842=>(if bt842.2=0 then(if(E.length:Int) < 2 then(papermilllaw60_StatsClasses.j1 k l E w bt842.1 true) else(papermilllaw60_StatsClasses.j1 k l E w bt842.1 ((bt842.1.length:Int) != (wrap64 ((E.length:Int) - 1))))) else(if(bt842.1.length:Int)=0 then((Azz.f k).bind fun t846=>(some t846)) else(none)))) ?_) (fun k=>by rw[papermilllaw60_StatsClasses.j0,if_neg (by decide)])
        simp only[if_neg he,List.length_nil];simp only[show((0:Nat):Int)=0 from rfl,if_true]
        exact awake_end
  refine Tells.get ?_;unfold papermilllaw60_StatsClasses.f;exact both (fun _=>hj _) (fun _=>hj _)

end Go.Proofs.Ytokkiljkgejnhaa.Pure
