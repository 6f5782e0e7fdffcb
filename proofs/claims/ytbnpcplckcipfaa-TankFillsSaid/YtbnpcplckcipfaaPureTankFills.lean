import Derived.Test.YtbnpcplckcipfaaPrint57
namespace Go.Proofs.Ytbnpcplckcipfaa.Pure
open Go.RowKit Go.Proofs.Ytbnpcplckcipfaa.Print Go.Proofs.YtbnpcplckcipfaaW.PrintWords Go.Proofs.YtbnpcplckcipfaaW.PrintLast
set_option linter.unusedVariables false
set_option linter.unusedSimpArgs false

/-- From some number of rounds on f tells r. -/
def Tells {α:Type} (f:Nat→Option α) (r:α):Prop:=∃ K,∀ k,K≤k→f k=some r
namespace Tells
theorem leO {α:Type} {f:Nat→Option α} (hm:∀ k,LeO (f k) (f (k+1))) {K:Nat} {r:α} (h:f K=some r):∀ k,K≤k→f k=some r:=by
  intro k hk;induction hk with
  | refl=>exact h
  | step _ ih=>exact hm _ _ ih
theorem of {α:Type} {f:Nat→Option α} (hm:∀ k,LeO (f k) (f (k+1))) {r:α} (h:∃ K,f K=some r):Tells f r:=by
  obtain⟨K,h⟩:=h;exact⟨K,leO hm h⟩
theorem get {α:Type} {f:Nat→Option α} {r:α} (h:Tells f r):∃ k,f k=some r:=by
  obtain⟨K,h⟩:=h;exact⟨K,h K (Nat.le_refl K)⟩
theorem const {α:Type} (r:α):Tells (fun _=>some r) r:=⟨0,fun _ _=>rfl⟩
theorem bind {α β:Type} {f:Nat→Option α} {g:Nat→α→Option β} {r:α} {s:β} (h:Tells f r) (h':Tells (fun k=>g k r) s):Tells (fun k=>(f k).bind (g k)) s:=by
  obtain⟨K,h⟩:=h;obtain⟨K',h'⟩:=h';refine⟨max K K',fun k hk=>?_⟩
  show(f k).bind (g k)=some s
  rw[h k (by omega)]
  exact h' k (by omega)
theorem congr {α:Type} {f g:Nat→Option α} {r:α} (h:Tells g r) (e:∀ k,f k=g k):Tells f r:=by
  obtain⟨K,h⟩:=h;exact⟨K,fun k hk=>(e k).trans (h k hk)⟩
theorem up {α:Type} {f g:Nat→Option α} {r:α} (h:Tells g r) (e:∀ k,f (k+1)=g k):Tells f r:=by
  obtain⟨K,h⟩:=h;refine⟨K+1,fun k hk=>?_⟩
  obtain⟨m,rfl⟩:∃ m,k=m+1:=⟨k - 1,by omega⟩
  exact(e m).trans (h m (by omega))
theorem ite {α:Type} {c:Prop} [Decidable c] {f g:Nat→Option α} {r s:α} (h:c→Tells f r) (h':¬ c→Tells g s):Tells (fun k=>if c then f k else g k) (if c then r else s):=by
  by_cases hc:c
  · simp only[if_pos hc];exact h hc
  · simp only[if_neg hc];exact h' hc
theorem pos {α:Type} {c:Prop} [Decidable c] {f g:Nat→Option α} {r:α} (hc:c) (h:Tells f r):Tells (fun k=>if c then f k else g k) r:=by
  simp only[if_pos hc];exact h
theorem neg {α:Type} {c:Prop} [Decidable c] {f g:Nat→Option α} {r:α} (hc:¬ c) (h:Tells g r):Tells (fun k=>if c then f k else g k) r:=by
  simp only[if_neg hc];exact h
end Tells
theorem wrap64_id {n:Int} (h0:-9223372036854775808≤n) (h1:n < 9223372036854775808):wrap64 n=n:=by
  unfold wrap64;omega

theorem rd_drop (l:List Int) (i:Nat) (h:i < l.length):l.drop i=rd l (i:Int) :: l.drop (i+1):=by
  rw[List.drop_eq_getElem_cons h];congr 1
  show l[i]=l.getD (i:Int).toNat 0
  simp [h]
theorem rd_at (l:List Int) (i:Nat) (h:i < l.length):rd l (i:Int)=l[i]:=by
  show l.getD (i:Int).toNat 0=_
  simp [h]
theorem rd_mem (l:List Int) (i:Int) (h0:0≤i) (h:i < (l.length:Int)):rd l i ∈ l:=by
  obtain⟨j,rfl⟩:∃ j:Nat,i=(j:Int):=⟨i.toNat,by omega⟩
  rw[rd_at l j (by omega)]
  exact List.getElem_mem _
theorem rd_set (l:List Int) (i j:Nat) (v:Int) (h:j < l.length):rd (l.set i v) (j:Int)=if i=j then v else rd l (j:Int):=by
  rw[rd_at _ j (by simpa using h),rd_at l j h,List.getElem_set]
theorem rd_replicate (n i:Nat) (v:Int) (h:i < n):rd (List.replicate n v) (i:Int)=v:=by
  rw[rd_at _ i (by simpa using h)]
  simp
/-- The sum,as the program adds it up. -/
def inAll (most:Int) (l:List Int):Bool:=l.all fun x=>decide (0≤x) && decide (x≤most)
theorem inAll_cons {m x:Int} {l:List Int}:inAll m (x :: l)=((decide (0≤x) && decide (x≤m)) && inAll m l):=rfl

def nv:List Int→Int
  | []=>0
  | x :: xs=>x+1000000000 * nv xs
/-- The base to a power. -/
def LB:Nat→Int
  | 0=>1
  | n+1=>1000000000 * LB n
theorem LB_zero:LB 0=1:=rfl
theorem LB_succ (n:Nat):LB (n+1)=1000000000 * LB n:=rfl
theorem LB_pos (n:Nat):0 < LB n:=by
  induction n with
  | zero=>decide
  | succ n ih=>rw[LB_succ];omega
theorem LB_add (m n:Nat):LB (m+n)=LB m * LB n:=by
  induction m with
  | zero=>rw[Nat.zero_add,LB_zero,Int.one_mul]
  | succ m ih=>rw[Nat.succ_add,LB_succ,LB_succ,ih,Int.mul_assoc]
theorem LB_le {m n:Nat} (h:m≤n):LB m≤LB n:=by
  induction h with
  | refl=>omega
  | step _ ih=>rw[LB_succ];have:=LB_pos m;omega
/-- Limbs in range. -/
def Lim (xs:List Int):Prop:=∀ x ∈ xs,0≤x∧x < 1000000000
theorem Lim.nil:Lim []:=fun _ h=>by simp at h
theorem Lim.cons {x:Int} {xs:List Int} (h:Lim (x :: xs)):(0≤x∧x < 1000000000)∧Lim xs:=⟨h x (by simp),fun y hy=>h y (by simp [hy])⟩
theorem Lim.mk {x:Int} {xs:List Int} (h:0≤x) (h1:x < 1000000000) (h2:Lim xs):Lim (x :: xs):=by
  intro y hy;rcases List.mem_cons.1 hy with rfl|hy
  · exact⟨h,h1⟩
  · exact h2 y hy
theorem Lim.append {xs ys:List Int} (h:Lim xs) (h':Lim ys):Lim (xs ++ ys):=by
  intro y hy;rcases List.mem_append.1 hy with hy|hy
  · exact h y hy
  · exact h' y hy
theorem Lim.left {xs ys:List Int} (h:Lim (xs ++ ys)):Lim xs:=fun y hy=>h y (by simp [hy])
theorem Lim.right {xs ys:List Int} (h:Lim (xs ++ ys)):Lim ys:=fun y hy=>h y (by simp [hy])
theorem Lim.take {xs:List Int} (h:Lim xs) (n:Nat):Lim (xs.take n):=fun y hy=>h y (List.mem_of_mem_take hy)
theorem Lim.drop {xs:List Int} (h:Lim xs) (n:Nat):Lim (xs.drop n):=fun y hy=>h y (List.mem_of_mem_drop hy)
theorem Lim.set {xs:List Int} (h:Lim xs) (i:Nat) {v:Int} (h0:0≤v) (h1:v < 1000000000):Lim (xs.set i v):=by
  intro y hy;rcases List.mem_or_eq_of_mem_set hy with hy|rfl
  · exact h y hy
  · exact⟨h0,h1⟩
theorem Lim.zeros (n:Nat):Lim (List.replicate n 0):=fun y hy=>by
  rw[List.eq_of_mem_replicate hy];omega
theorem Lim.rd {xs:List Int} (h:Lim xs) {i:Int} (h0:0≤i) (h1:i < (xs.length:Int)):0≤rd xs i∧rd xs i < 1000000000:=h _ (rd_mem xs i h0 h1)
theorem nv_append (xs ys:List Int):nv (xs ++ ys)=nv xs+LB xs.length * nv ys:=by
  induction xs with
  | nil=>simp [nv,LB_zero]
  | cons x xs ih =>
    show x+1000000000 * nv (xs ++ ys)=x+1000000000 * nv xs+LB (xs.length+1) * nv ys
    rw[ih,LB_succ,Int.mul_add,Int.mul_assoc];omega
theorem nv_single (x:Int):nv [x]=x:=by simp [nv]
theorem nv_snoc (xs:List Int) (x:Int):nv (xs ++ [x])=nv xs+LB xs.length * x:=by rw[nv_append,nv_single]
theorem nv_zeros (n:Nat):nv (List.replicate n 0)=0:=by
  induction n with
  | zero=>rfl
  | succ n ih=>rw[List.replicate_succ];show 0+1000000000 * nv _=0;rw[ih];rfl
theorem nv_nonneg {xs:List Int} (h:Lim xs):0≤nv xs:=by
  induction xs with
  | nil=>simp [nv]
  | cons x xs ih =>
    have:=ih h.cons.2;have:=h.cons.1;show 0≤x+1000000000 * nv xs
    omega
theorem nv_lt {xs:List Int} (h:Lim xs):nv xs < LB xs.length:=by
  induction xs with
  | nil=>simp [nv,LB_zero]
  | cons x xs ih =>
    have:=ih h.cons.2;have:=h.cons.1;show x+1000000000 * nv xs < LB (xs.length+1)
    rw[LB_succ];omega
/-- No zero stands at the end. -/
def Tight (xs:List Int):Prop:=xs=[]∨rd xs ((xs.length:Int) - 1)≠0
def Can (xs:List Int):Prop:=Lim xs∧Tight xs
theorem Can.lim {xs:List Int} (h:Can xs):Lim xs:=h.1
theorem Can.nil:Can []:=⟨Lim.nil,.inl rfl⟩
theorem rd_cons_succ (x:Int) (xs:List Int) (i:Int) (h:0≤i):rd (x :: xs) (i+1)=rd xs i:=by
  unfold rd;rw[show(i+1).toNat=i.toNat+1 by omega]
  simp
theorem Tight.tail {x:Int} {xs:List Int} (h:Tight (x :: xs)):Tight xs:=by
  cases xs with
  | nil=>exact .inl rfl
  | cons y ys =>
    right
    rcases h with h|h
    · cases h
    · intro e
      apply h;have e1:((x :: y :: ys).length:Int) - 1=(((y :: ys).length:Int) - 1)+1:=by simp only[List.length_cons];omega
      rw[e1,rd_cons_succ _ _ _ (by simp only[List.length_cons];omega)]
      exact e
theorem Can.tail {x:Int} {xs:List Int} (h:Can (x :: xs)):Can xs:=⟨h.1.cons.2,h.2.tail⟩
theorem Can.zero {xs:List Int} (h:Can xs) (h0:nv xs=0):xs=[]:=by
  induction xs with
  | nil=>rfl
  | cons x xs ih =>
    exfalso
    have h1:=h.1.cons.1;have h2:=nv_nonneg h.1.cons.2;have h3:x+1000000000 * nv xs=0:=h0;have e:=ih h.tail (by omega)
    subst e;rcases h.2 with h4|h4
    · cases h4
    · apply h4
      show rd [x] 0=0
      show x=0
      simp only[nv] at h3;omega
theorem Can.ext {xs ys:List Int} (h:Can xs) (h':Can ys) (e:nv xs=nv ys):xs=ys:=by
  induction xs generalizing ys with
  | nil=>exact(h'.zero (by rw[← e];rfl)).symm
  | cons x xs ih =>
    cases ys with
    | nil=>exact h.zero (by rw[e];rfl)
    | cons y ys =>
      have h1:=h.1.cons.1;have h2:=h'.1.cons.1;have e1:x+1000000000 * nv xs=y+1000000000 * nv ys:=e;have e2:x=y:=by omega
      subst e2;rw[ih h.tail h'.tail (by omega)]
/-- The limbs of a number. -/
def digs (n:Nat):List Int:=if h:n=0 then [] else((n % 1000000000:Nat):Int) :: digs (n / 1000000000)
termination_by n
decreasing_by omega
theorem digs_zero:digs 0=[]:=by unfold digs;simp
theorem digs_pos {n:Nat} (h:0 < n):digs n=((n % 1000000000:Nat):Int) :: digs (n / 1000000000):=by
  rw[digs];rw[dif_neg (by omega)]
theorem nv_digs (n:Nat):nv (digs n)=n:=by
  induction n using Nat.strongRecOn with
  | _ n ih =>
    rcases Nat.eq_zero_or_pos n with h|h
    · subst h;rw[digs_zero];rfl
    · rw[digs_pos h]
      show((n % 1000000000:Nat):Int)+1000000000 * nv (digs (n / 1000000000))=n
      rw[ih _ (by omega)]
      omega
theorem lim_digs (n:Nat):Lim (digs n):=by
  induction n using Nat.strongRecOn with
  | _ n ih =>
    rcases Nat.eq_zero_or_pos n with h|h
    · subst h;rw[digs_zero];exact Lim.nil
    · rw[digs_pos h]
      exact Lim.mk (by omega) (by omega) (ih _ (by omega))
theorem can_digs (n:Nat):Can (digs n):=by
  refine⟨lim_digs n,?_⟩;induction n using Nat.strongRecOn with
  | _ n ih =>
    rcases Nat.eq_zero_or_pos n with h|h
    · subst h;rw[digs_zero];exact .inl rfl
    · rw[digs_pos h]
      right
      rcases Nat.eq_zero_or_pos (n / 1000000000) with h1|h1
      · rw[h1,digs_zero]
        show((n % 1000000000:Nat):Int)≠0
        omega
      · rcases ih _ (show n / 1000000000 < n by omega) with h2|h2
        · rw[digs_pos h1] at h2;cases h2
        · rw[List.length_cons,show(((digs (n / 1000000000)).length+1:Nat):Int) - 1=(((digs (n / 1000000000)).length:Int) - 1)+1 by omega,rd_cons_succ _ _ _ (by
            have:0 < (digs (n / 1000000000)).length:=by rw[digs_pos h1];simp
            omega)]
          exact h2
/-- The limbs of an integer that is not negative. -/
def dg (n:Int):List Int:=digs n.toNat
theorem dg_nv {xs:List Int} (h:Can xs):dg (nv xs)=xs:=by
  refine(can_digs _).ext h ?_;show nv (digs (nv xs).toNat)=nv xs
  rw[nv_digs];have:=nv_nonneg h.1;omega
theorem can_dg (n:Int):Can (dg n):=can_digs _
theorem nv_dg {n:Int} (h:0≤n):nv (dg n)=n:=by
  show nv (digs n.toNat)=n
  rw[nv_digs];omega
theorem dg_eq {xs:List Int} {n:Int} (h:Can xs) (e:nv xs=n):xs=dg n:=by rw[← e,dg_nv h]
theorem dg_zero:dg 0=[]:=digs_zero
theorem nv_ge {xs:List Int} (h:Can xs) (hl:0 < xs.length):LB (xs.length - 1)≤nv xs:=by
  induction xs with
  | nil=>simp at hl
  | cons x xs ih =>
    rcases Nat.eq_zero_or_pos xs.length with h0|h0
    · have e:=List.eq_nil_of_length_eq_zero h0
      subst e;have h1:=h.1.cons.1;show LB 0≤x+1000000000 * nv []
      rw[LB_zero];rcases h.2 with h2|h2
      · cases h2
      · have h3:x≠0:=h2
        simp only[nv];omega
    · have h1:=ih h.tail h0
      have h2:=h.1.cons.1;show LB (xs.length+1 - 1)≤x+1000000000 * nv xs
      rw[show xs.length+1 - 1=(xs.length - 1)+1 by omega,LB_succ]
      omega
/-- The number of limbs by the value. -/
theorem len_le {xs:List Int} (h:Can xs) {n:Nat} (e:nv xs < LB n):xs.length≤n:=by
  rcases Nat.lt_or_ge n xs.length with h1|h1
  · exfalso
    have h2:=nv_ge h (by omega)
    have h3:=LB_le (show n≤xs.length - 1 by omega)
    omega
  · exact h1
theorem len_le_iff {xs:List Int} (h:Can xs) (n:Nat):xs.length≤n ↔ nv xs < LB n:=by
  constructor
  · intro h1
    have:=nv_lt h.1;have:=LB_le h1;omega
  · exact len_le h
theorem len_zero_iff {xs:List Int} (h:Can xs):xs.length=0 ↔ nv xs=0:=by
  constructor
  · intro h1;rw[List.eq_nil_of_length_eq_zero h1];rfl
  · intro h1;rw[h.zero h1];rfl
theorem nv_pos {xs:List Int} (h:Can xs) (hl:0 < xs.length):0 < nv xs:=by
  have:=nv_ge h hl;have:=LB_pos (xs.length - 1);omega
theorem len_lt_val {xs ys:List Int} (h:Can xs) (h':Can ys) (hl:xs.length < ys.length):nv xs < nv ys:=by
  have h1:=nv_lt h.1;have h2:=nv_ge h' (by omega)
  have h3:=LB_le (show xs.length≤ys.length - 1 by omega)
  omega
/-- The value of the first limbs. -/
def pv (xs:List Int) (i:Nat):Int:=nv (xs.take i)
theorem pv_zero (xs:List Int):pv xs 0=0:=by simp [pv,nv]
theorem take_succ_rd {xs:List Int} {i:Nat} (h:i < xs.length):xs.take (i+1)=xs.take i ++ [rd xs (i:Int)]:=by
  rw[rd_at xs i h,List.take_succ_eq_append_getElem h]
theorem pv_succ {xs:List Int} {i:Nat} (h:i < xs.length):pv xs (i+1)=pv xs i+LB i * rd xs (i:Int):=by
  unfold pv;rw[take_succ_rd h,nv_snoc,List.length_take,Nat.min_eq_left (by omega)]
theorem pv_all {xs:List Int} {i:Nat} (h:xs.length≤i):pv xs i=nv xs:=by unfold pv;rw[List.take_of_length_le h]
theorem pv_lt {xs:List Int} (h:Lim xs) {i:Nat} (hi:i≤xs.length):pv xs i < LB i:=by
  have:=nv_lt (h.take i);rwa [List.length_take,Nat.min_eq_left hi] at this
theorem pv_nonneg {xs:List Int} (h:Lim xs) (i:Nat):0≤pv xs i:=nv_nonneg (h.take i)
theorem nv_split (xs:List Int) (i:Nat) (h:i≤xs.length):nv xs=pv xs i+LB i * nv (xs.drop i):=by
  unfold pv;have e:nv xs=nv (xs.take i ++ xs.drop i):=by rw[List.take_append_drop]
  rw[e,nv_append,List.length_take,Nat.min_eq_left h]
/-- The list without the zeros at its end. -/
def trim (xs:List Int):List Int:=dg (nv xs)
theorem nv_trim {xs:List Int} (h:Lim xs):nv (trim xs)=nv xs:=nv_dg (nv_nonneg h)
theorem take_trim {xs:List Int} (h:Lim xs) (n:Nat) (hn:n≤xs.length) (hz:∀ i:Nat,n≤i→i < xs.length→rd xs (i:Int)=0) (hl:n=0∨rd xs ((n:Int) - 1)≠0):xs.take n=trim xs:=by
  have e0:∀ ys:List Int,(∀ i:Nat,i < ys.length→rd ys (i:Int)=0)→nv ys=0:=by
    intro ys;induction ys with
    | nil=>intro _;rfl
    | cons y ys ih =>
      intro hy;show y+1000000000 * nv ys=0
      have h1:y=0:=hy 0 (by simp)
      rw[ih (fun i hi=>by
        have h2:=hy (i+1) (by simpa using hi)
        rwa [show(((i+1:Nat)):Int)=(i:Int)+1 by omega,rd_cons_succ _ _ _ (by omega)] at h2),h1]
      rfl
  have e1:nv (xs.drop n)=0:=e0 _ (fun i hi=>by
    have h2:=hz (n+i) (by omega) (by simp at hi;omega)
    rw[rd_at _ _ (by simp at hi;omega)] at h2
    rw[rd_at _ _ hi,List.getElem_drop];exact h2)
  refine dg_eq ⟨h.take n,?_⟩ ?_
  · rcases hl with hl|hl
    · left;subst hl;simp
    · rcases Nat.eq_zero_or_pos n with h0|h0
      · left;subst h0;simp
      · right
        intro e;apply hl;rw[List.length_take,Nat.min_eq_left hn] at e;rw[show(n:Int) - 1=((n - 1:Nat):Int) by omega] at e ⊢
        rw[rd_at _ _ (by simp;omega)] at e
        rw[rd_at _ _ (by omega)]
        simpa using e
  · have:=nv_split xs n hn
    rw[e1] at this;unfold pv at this;omega

def limbOk (x:Int):Bool:=decide (0≤x) && decide (x < 1000000000)
def lastOk (l:List Int):Bool:=decide (l.length=0) || (rd l ((l.length:Int) - 1) != 0)
def natOk (l:List Int):Bool:=decide (l.length≤48) && (l.all limbOk && lastOk l)
theorem limbs_iff {l:List Int}:l.all limbOk=true ↔ Lim l:=by
  unfold limbOk Lim;simp [List.all_eq_true,Bool.and_eq_true,decide_eq_true_eq]
theorem lastOk_iff {l:List Int}:lastOk l=true ↔ Tight l:=by
  unfold lastOk Tight;simp only[Bool.or_eq_true,decide_eq_true_eq,bne_iff_ne,ne_eq,List.length_eq_zero_iff]
theorem natOk_iff {l:List Int}:natOk l=true ↔ Can l∧l.length≤48:=by
  unfold natOk Can;rw[Bool.and_eq_true,Bool.and_eq_true,limbs_iff,lastOk_iff,decide_eq_true_eq];exact⟨fun h=>⟨h.2,h.1⟩,fun h=>⟨h.2,h.1⟩⟩
theorem natOk_dg {n:Int} (h:n < LB 48):natOk (dg n)=true:=by
  rw[natOk_iff];refine⟨can_dg n,?_⟩;rcases Int.lt_or_le n 0 with h0|h0
  · have:dg n=[]:=by unfold dg;rw[show n.toNat=0 by omega];exact digs_zero
    rw[this];simp
  · exact len_le (can_dg n) (by rw[nv_dg h0];exact h)
theorem valid_loop (l:List Int) (h48:l.length≤48) (d:Nat):∀ i:Nat,i+d=l.length→Tells (fun k=>Azy.l0 k l (l.length:Int) (i:Int)) ((l.drop i).all limbOk && lastOk l):=by
  induction d with
  | zero =>
    intro i hi;refine Tells.up (g:=fun _=>some (lastOk l)) ?_ (fun k=>?_)
    · rw[List.drop_eq_nil_of_le (by omega)]
      exact Tells.const _
    · simp only[Azy.l0]
      rw[if_neg (by omega)]
      unfold lastOk;by_cases h0:l.length=0
      · rw[if_pos (by omega),decide_eq_true h0];rfl
      · rw[if_neg (by omega),decide_eq_false h0,wrap64_id (by omega) (by omega),if_pos (by omega),if_pos (by omega)];rfl
  | succ d ih =>
    intro i hi;rw[rd_drop l i (by omega),List.all_cons]
    unfold limbOk;by_cases h1:rd l (i:Int) < 0
    · refine Tells.up (g:=fun _=>some false) ?_ (fun k=>?_)
      · rw[decide_eq_false (by omega:¬ 0≤rd l (i:Int))];exact Tells.const _
      · simp only[Azy.l0]
        rw[if_pos (by omega),if_pos (by omega),if_pos (by omega),if_pos h1]
    · by_cases h2:rd l (i:Int)≥1000000000
      · refine Tells.up (g:=fun _=>some false) ?_ (fun k=>?_)
        · rw[decide_eq_false (by omega:¬ rd l (i:Int) < 1000000000),Bool.and_false];exact Tells.const _
        · simp only[Azy.l0]
          rw[if_pos (by omega),if_pos (by omega),if_pos (by omega),if_neg h1,if_pos h2]
      · refine Tells.up (g:=fun k=>Azy.l0 k l (l.length:Int) ((i+1:Nat):Int)) ?_ (fun k=>?_)
        · rw[decide_eq_true (by omega:0≤rd l (i:Int)),decide_eq_true (by omega:rd l (i:Int) < 1000000000),Bool.and_true,Bool.true_and]
          exact ih (i+1) (by omega)
        · simp only[Azy.l0]
          rw[if_pos (by omega),if_pos (by omega),if_pos (by omega),if_neg h1,if_neg h2,wrap64_id (by omega) (by omega)]
          rfl
theorem Valid_tells (l:List Int):Tells (fun k=>Azy.f k l) (natOk l):=by
  unfold Azy.f natOk;by_cases h:(l.length:Int) > 48
  · rw[decide_eq_false (by omega:¬ l.length≤48)]
    exact Tells.pos h (Tells.const _)
  · rw[decide_eq_true (by omega:l.length≤48),Bool.true_and]
    have:=valid_loop l (by omega) l.length 0 (by omega)
    exact Tells.neg h (by simpa using this)
theorem trimmed_loop (x:List Int) (hx:Lim x) (hb:x.length < 4611686018427387904) (d:Nat):d≤x.length→(∀ i:Nat,d≤i→i < x.length→rd x (i:Int)=0)→Tells (fun k=>Bzp.l0 k x (d:Int)) (trim x):=by
  induction d with
  | zero =>
    intro hd hz;refine Tells.up (g:=fun _=>some (trim x)) (Tells.const _) (fun k=>?_)
    simp only[Bzp.l0];rw[if_neg (by omega),if_pos (by omega),if_pos (by omega)]
    rw[show((0:Nat):Int).toNat=0 by omega,take_trim hx 0 (by omega) hz (.inl rfl)]
  | succ d ih =>
    intro hd hz;by_cases h0:rd x (d:Int)=0
    · refine Tells.up (g:=fun k=>Bzp.l0 k x (d:Int)) (ih (by omega) (fun i h1 h2=>?_)) (fun k=>?_)
      · rcases Nat.eq_or_lt_of_le h1 with e|e
        · rw[← e];exact h0
        · exact hz i e h2
      · simp only[Bzp.l0]
        rw[if_pos (by omega),wrap64_id (by omega) (by omega),show((d+1:Nat):Int) - 1=(d:Int) by omega,if_pos (by omega),if_pos (by omega),if_pos h0]
    · refine Tells.up (g:=fun _=>some (trim x)) (Tells.const _) (fun k=>?_)
      simp only[Bzp.l0];rw[if_pos (by omega),wrap64_id (by omega) (by omega),show((d+1:Nat):Int) - 1=(d:Int) by omega,if_pos (by omega),if_pos (by omega),if_neg h0,if_pos (by omega),if_pos (by omega)]
      rw[show((d+1:Nat):Int).toNat=d+1 by omega,take_trim hx (d+1) hd hz (.inr (by rw[show((d+1:Nat):Int) - 1=(d:Int) by omega];exact h0))]
theorem trimmed_tells {x:List Int} (hx:Lim x) (hb:x.length < 4611686018427387904):Tells (fun k=>Bzp.f k x) (trim x):=by
  unfold Bzp.f;exact trimmed_loop x hx hb x.length (Nat.le_refl _) (fun i h1 h2=>absurd h2 (by omega))
theorem padded_eq (l:List Int) (n:Nat) (hn:n≤1000000) (hl:l.length≤1000000):Gzy.f l (n:Int)=some (l ++ List.replicate (n - l.length) 0):=by
  unfold Gzy.f Hzy.f;have hm:mx (n:Int) (l.length:Int)=((max n l.length:Nat):Int):=by
    unfold mx;split <;> omega
  rw[hm,if_pos (by omega),if_pos (by omega),show(((max n l.length:Nat):Int)).toNat=max n l.length by omega]
  simp only[Option.bind_some];rw[List.length_replicate,List.take_of_length_le (by omega),List.drop_replicate]
  rw[show max n l.length - l.length=n - l.length by omega]
theorem padded_self (l:List Int) (hl:l.length≤1000000):Gzy.f l (l.length:Int)=some l:=by
  rw[padded_eq l l.length hl hl];simp
/-- A value as limbs,or the error of overflow. -/
def fitv (v:Int):List Int × Int:=if v < LB 48 then(dg v,0) else([],2)
theorem fitted_tells {x:List Int} (hx:Lim x) (hb:x.length < 4611686018427387904):Tells (fun k=>Fzk.f k x) (fitv (nv x)):=by
  unfold Fzk.f;refine(trimmed_tells hx hb).bind ?_;have hc:Can (trim x):=can_dg _;have hn:nv (trim x)=nv x:=nv_trim hx;unfold fitv;have h1:=len_le_iff hc 48;rw[hn] at h1;by_cases h:nv x < LB 48
  · rw[if_pos h]
    exact Tells.neg (by have:=h1.2 h;omega) (Tells.const _)
  · rw[if_neg h]
    refine Tells.pos ?_ (Tells.const _);rcases Nat.lt_or_ge 48 (trim x).length with h2|h2
    · omega
    · exact absurd (h1.1 h2) h
theorem nv_set:∀ (x:List Int) (i:Nat) (v:Int),i < x.length→nv (x.set i v)=nv x+LB i * (v - rd x (i:Int))
  | [],i,v,h=>by simp at h
  | a :: x,0,v,h=>by
    show v+1000000000 * nv x=a+1000000000 * nv x+LB 0 * (v - a)
    rw[LB_zero];omega
  | a :: x,i+1,v,h=>by
    show a+1000000000 * nv (x.set i v)=a+1000000000 * nv x+LB (i+1) * (v - rd (a :: x) ((i+1:Nat):Int))
    rw[nv_set x i v (by simpa using h),show(((i+1:Nat)):Int)=(i:Int)+1 by omega,rd_cons_succ _ _ _ (by omega),LB_succ,Int.mul_add,Int.mul_assoc]
    omega
theorem nv_drop {l:List Int} {i:Nat} (h:i < l.length):nv (l.drop i)=rd l (i:Int)+1000000000 * nv (l.drop (i+1)):=by
  rw[rd_drop l i h];rfl
theorem nv_drop_all {l:List Int} {i:Nat} (h:l.length≤i):nv (l.drop i)=0:=by
  rw[List.drop_eq_nil_of_le h];rfl
/-- How two numbers compare. -/
def cmpI (x y:Int):Int:=if x < y then -1 else if x > y then 1 else 0
theorem compare_loop (a b:List Int) (ha:Lim a) (hb:Lim b) (hl:a.length=b.length) (hn:a.length≤1000000) (d:Nat):d≤a.length→Tells (fun k=>Dzj.l0 k a b ((d:Int) - 1)) (cmpI (pv a d) (pv b d)):=by
  induction d with
  | zero =>
    intro _;refine Tells.up (g:=fun _=>some 0) ?_ (fun k=>?_)
    · rw[pv_zero,pv_zero];exact Tells.const _
    · simp only[Dzj.l0];rw[if_neg (by omega)]
  | succ d ih =>
    intro hd;have h1:=pv_succ (xs:=a) (i:=d) (by omega)
    have h2:=pv_succ (xs:=b) (i:=d) (by omega)
    have h3:=pv_lt ha (i:=d) (by omega)
    have h4:=pv_lt hb (i:=d) (by omega)
    have h5:=pv_nonneg ha d;have h6:=pv_nonneg hb d;rw[show((d+1:Nat):Int) - 1=(d:Int) by omega]
    rcases Int.lt_trichotomy (rd a (d:Int)) (rd b (d:Int)) with h|h|h
    · have h7:LB d * (rd a (d:Int)+1)≤LB d * rd b (d:Int):=Int.mul_le_mul_of_nonneg_left (by omega) (by have:=LB_pos d;omega)
      rw[Int.mul_add] at h7;refine Tells.up (g:=fun _=>some (-1)) ?_ (fun k=>?_)
      · rw[show cmpI (pv a (d+1)) (pv b (d+1))=-1 by unfold cmpI;rw[if_pos (by omega)]];exact Tells.const _
      · simp only[Dzj.l0];rw[if_pos (by omega),if_pos (by omega),if_pos (by omega),if_pos (by omega),if_pos h]
    · refine Tells.up (g:=fun k=>Dzj.l0 k a b ((d:Int) - 1)) ?_ (fun k=>?_)
      · have e:cmpI (pv a (d+1)) (pv b (d+1))=cmpI (pv a d) (pv b d):=by
          rw[h1,h2,h];unfold cmpI;by_cases e1:pv a d < pv b d
          · rw[if_pos e1,if_pos (by omega)]
          · rw[if_neg e1,if_neg (by omega)]
            by_cases e2:pv a d > pv b d
            · rw[if_pos e2,if_pos (by omega)]
            · rw[if_neg e2,if_neg (by omega)]
        rw[e];exact ih (by omega)
      · simp only[Dzj.l0]
        rw[if_pos (by omega),if_pos (by omega),if_pos (by omega),if_pos (by omega),if_neg (by omega),if_neg (by omega),wrap64_id (by omega) (by omega)]
    · have h7:LB d * (rd b (d:Int)+1)≤LB d * rd a (d:Int):=Int.mul_le_mul_of_nonneg_left (by omega) (by have:=LB_pos d;omega)
      rw[Int.mul_add] at h7;refine Tells.up (g:=fun _=>some 1) ?_ (fun k=>?_)
      · rw[show cmpI (pv a (d+1)) (pv b (d+1))=1 by unfold cmpI;rw[if_neg (by omega),if_pos (by omega)]];exact Tells.const _
      · simp only[Dzj.l0];rw[if_pos (by omega),if_pos (by omega),if_pos (by omega),if_pos (by omega),if_neg (by omega),if_pos h]
theorem compare_tells {a b:List Int} (ha:Can a) (hb:Can b) (hn:a.length≤1000000) (hm:b.length≤1000000):Tells (fun k=>Dzj.f k a b) (cmpI (nv a) (nv b)):=by
  unfold Dzj.f;by_cases hl:(a.length:Int)=(b.length:Int)
  · refine Tells.pos hl ?_
    have h:=compare_loop a b ha.1 hb.1 (by omega) hn a.length (Nat.le_refl _)
    rw[pv_all (Nat.le_refl _),pv_all (by omega)] at h
    refine h.congr (fun k=>?_)
    rw[wrap64_id (by omega) (by omega)]
  · refine Tells.neg hl ?_
    by_cases h:(a.length:Int) < (b.length:Int)
    · have:=len_lt_val ha hb (by omega)
      rw[show cmpI (nv a) (nv b)=-1 by unfold cmpI;rw[if_pos (by omega)]]
      exact Tells.pos h (Tells.const _)
    · have:=len_lt_val hb ha (by omega)
      rw[show cmpI (nv a) (nv b)=1 by unfold cmpI;rw[if_neg (by omega),if_pos (by omega)]]
      exact Tells.neg h (Tells.const _)
theorem cmpI_neg {x y:Int}:cmpI x y < 0 ↔ x < y:=by
  unfold cmpI;by_cases h:x < y
  · rw[if_pos h];omega
  · rw[if_neg h]
    by_cases h':x > y
    · rw[if_pos h'];omega
    · rw[if_neg h'];omega
/-- Of: the limbs of an integer. -/
theorem Of_loop (m:Nat):∀ (n:Int) (acc:List Int),0≤n→n < LB m→m≤100→acc.length+m < 1000000→n < 9223372036854775808→Tells (fun k=>Fzw.l0 k n acc) (acc ++ dg n,0):=by
  induction m with
  | zero =>
    intro n acc h0 h1 _ _ _;rw[LB_zero] at h1;obtain rfl:n=0:=by omega
    refine Tells.up (g:=fun _=>some (acc,0)) ?_ (fun k=>?_)
    · rw[dg_zero,List.append_nil];exact Tells.const _
    · simp only[Fzw.l0];rw[if_neg (by omega)]
  | succ m ih =>
    intro n acc h0 h1 hm hl hn;rw[LB_succ] at h1;rcases Int.lt_or_eq_of_le h0 with hp|hp
    · have e1:Int.tdiv n 1000000000=n / 1000000000:=Int.tdiv_eq_ediv_of_nonneg h0
      have e2:Int.tmod n 1000000000=n % 1000000000:=Int.tmod_eq_emod_of_nonneg h0;refine Tells.up (g:=fun k=>Fzw.l0 k (n / 1000000000) (acc ++ [n % 1000000000])) ?_ (fun k=>?_)
      · have h:=ih (n / 1000000000) (acc ++ [n % 1000000000]) (by omega) (by have:=LB_pos m;omega) (by omega) (by simp;omega) (by omega)
        have e3:dg n=n % 1000000000 :: dg (n / 1000000000):=by
          unfold dg;rw[digs_pos (by omega),show n.toNat / 1000000000=(n / 1000000000).toNat by omega]
          congr 1;omega
        rw[e3];simpa using h
      · simp only[Fzw.l0]
        rw[if_pos (by omega),if_pos (by omega),e1,e2,wrap64_id (by omega) (by omega)]
    · subst hp
      refine Tells.up (g:=fun _=>some (acc,0)) ?_ (fun k=>?_)
      · rw[dg_zero,List.append_nil];exact Tells.const _
      · simp only[Fzw.l0];rw[if_neg (by omega)]
theorem LB3:LB 3=1000000000000000000000000000:=by decide
theorem LB2:LB 2=1000000000000000000:=by decide
theorem Of_tells {n:Int} (h0:0≤n) (h1:n < 9223372036854775808):Tells (fun k=>Fzw.f k n) (dg n,0):=by
  unfold Fzw.f;refine Tells.neg (by omega) ?_
  have:=Of_loop 3 n [] h0 (by rw[LB3];omega) (by omega) (by simp) h1
  simpa using this
theorem small_tells {l:List Int} (h:Lim l) (hl:l.length≤2):Tells (fun k=>Dzx.f k l) (nv l):=by
  unfold Dzx.f;match l,h,hl with
  | [],_,_ =>
    refine⟨1,fun k hk=>?_⟩
    obtain⟨m,rfl⟩:∃ m,k=m+1:=⟨k - 1,by omega⟩
    show Dzx.l0 (m+1) [] 0 (wrap64 (((0:Nat):Int) - 1))=some 0
    rw[show wrap64 (((0:Nat):Int) - 1)=-1 by unfold wrap64;omega]
    simp only[Dzx.l0];rw[if_neg (by omega)]
  | [a],h,_ =>
    have h1:=h.cons.1;refine⟨2,fun k hk=>?_⟩
    obtain⟨m,rfl⟩:∃ m,k=m+1+1:=⟨k - 2,by omega⟩
    show Dzx.l0 (m+1+1) [a] 0 (wrap64 (((1:Nat):Int) - 1))=some (a+1000000000 * 0)
    rw[show wrap64 (((1:Nat):Int) - 1)=0 by unfold wrap64;omega]
    simp only[Dzx.l0];rw[if_pos (by omega),if_pos (by omega),if_pos (by simp)]
    rw[if_neg (by rw[wrap64_id] <;> omega)]
    show some (wrap64 (wrap64 (0 * 1000000000)+a))=_
    rw[wrap64_id (n:=0 * 1000000000) (by omega) (by omega),wrap64_id (by omega) (by omega)]
    congr 1;omega
  | [a,b],h,_ =>
    have h1:=h.cons.1;have h2:=h.cons.2.cons.1;refine⟨3,fun k hk=>?_⟩
    obtain⟨m,rfl⟩:∃ m,k=m+1+1+1:=⟨k - 3,by omega⟩
    show Dzx.l0 (m+1+1+1) [a,b] 0 (wrap64 (((2:Nat):Int) - 1))=some (a+1000000000 * (b+1000000000 * 0))
    rw[show wrap64 (((2:Nat):Int) - 1)=1 by unfold wrap64;omega]
    simp only[Dzx.l0];have e1:wrap64 ((1:Int) - 1)=0:=by unfold wrap64;omega
    rw[if_pos (by omega),if_pos (by omega),if_pos (by simp),e1,if_pos (by omega),if_pos (by omega),if_pos (by simp)]
    rw[if_neg (by rw[wrap64_id] <;> omega)]
    show some (wrap64 (wrap64 (wrap64 (wrap64 (0 * 1000000000)+b) * 1000000000)+a))=_
    rw[wrap64_id (n:=0 * 1000000000) (by omega) (by omega),wrap64_id (n:=0 * 1000000000+b) (by omega) (by omega),wrap64_id (n:=(0 * 1000000000+b) * 1000000000) (by omega) (by omega),wrap64_id (by omega) (by omega)]
    congr 1;omega

theorem mul_alg (P xi ai bj c t m q:Int) (e:m+1000000000 * q=xi+ai * bj+c):P * (c+ai * (bj+1000000000 * t))=P * (m - xi)+1000000000 * P * (q+ai * t):=by grind
theorem mul_alg2 (P a t b:Int):P * ((a+1000000000 * t) * b)=P * (a * b)+1000000000 * P * (t * b):=by grind
/-- A product of limbs,with what is there and what is carried,fits. -/
theorem limb_prod {x y:Int} (hx:0≤x) (hx1:x < 1000000000) (hy:0≤y) (hy1:y < 1000000000):0≤x * y∧x * y≤999999998000000001:=by
  refine⟨Int.mul_nonneg hx hy,?_⟩;have:x * y≤999999999 * 999999999:=Int.mul_le_mul (by omega) (by omega) hy (by omega)
  omega
theorem limb_step {xi u c:Int} (h0:0≤xi) (h1:xi < 1000000000) (h2:0≤u) (h3:u≤999999998000000001) (h4:0≤c) (h5:c < 1000000000) :
    wrap64 (wrap64 (xi+wrap64 u)+c)=xi+u+c∧Int.tdiv (xi+u+c) 1000000000=(xi+u+c) / 1000000000∧Int.tmod (xi+u+c) 1000000000=(xi+u+c) % 1000000000∧0≤(xi+u+c) % 1000000000∧(xi+u+c) % 1000000000 < 1000000000∧0≤(xi+u+c) / 1000000000∧(xi+u+c) / 1000000000 < 1000000000∧wrap64 ((xi+u+c) / 1000000000)=(xi+u+c) / 1000000000:=by
  refine⟨?_,Int.tdiv_eq_ediv_of_nonneg (by omega),Int.tmod_eq_emod_of_nonneg (by omega),by omega,by omega,by omega,by omega,wrap64_id (by omega) (by omega)⟩
  rw[wrap64_id (n:=u) (by omega) (by omega),wrap64_id (n:=xi+u) (by omega) (by omega),wrap64_id (by omega) (by omega)]
theorem Mul_inner (a b:List Int) (ha:Lim a) (hb:Lim b) (N:Nat) (hN:N=a.length+b.length+1) (hn:N≤1000000) (R:List Int × Int) (i:Nat) (hi:i < a.length) (V:Int)
    (hout:∀ x:List Int,x.length=N→Lim x→(∀ m:Nat,i+1+b.length≤m→m < N→rd x (m:Int)=0)→V=nv x+LB (i+1) * (nv (a.drop (i+1)) * nv b)→Tells (fun k=>Czx.l0 k a b x (a.length:Int) ((i+1:Nat):Int)) R) (d:Nat) :
    ∀ (j:Nat) (x:List Int) (c:Int),j+d=b.length→x.length=N→Lim x→(∀ m:Nat,i+b.length≤m→m < N→rd x (m:Int)=0)→0≤c→c < 1000000000 →
      V=nv x+LB (i+j) * (c+rd a (i:Int) * nv (b.drop j))+LB (i+1) * (nv (a.drop (i+1)) * nv b) →
      Tells (fun k=>Czx.l1 k a b x (i:Int) c (a.length:Int) (i:Int) (b.length:Int) (j:Int)) R:=by
  induction d with
  | zero =>
    intro j x c hj hx hl hz h0 h1;have k1:i+b.length < N:=by omega
    have k2:i+b.length < x.length:=by omega
    have k3:i+j=i+b.length:=by omega
    have k4:b.length≤j:=by omega
    have k5:∀ m:Nat,i+1+b.length≤m→m < N→¬ (i+b.length=m)∧m < x.length∧i+b.length≤m:=fun m h2 h3=>by omega
    have k6:¬ ((j:Int) < (b.length:Int)):=by omega
    have k7:wrap64 ((i:Int)+(b.length:Int))=((i+b.length:Nat):Int):=by rw[wrap64_id (by omega) (by omega)];omega
    have k8:(0:Int)≤((i+b.length:Nat):Int)∧((i+b.length:Nat):Int) < (x.length:Int):=by omega
    have k9:wrap64 ((i:Int)+1)=((i+1:Nat):Int):=by rw[wrap64_id (by omega) (by omega)];omega
    have k10:((i+b.length:Nat):Int).toNat=i+b.length:=by omega
    intro hv;have hz0:=hz (i+b.length) (Nat.le_refl _) k1;rw[nv_drop_all k4,Int.mul_zero,Int.add_zero] at hv;refine Tells.up (g:=fun k=>Czx.l0 k a b (x.set (i+b.length) c) (a.length:Int) ((i+1:Nat):Int)) ?_ (fun k=>?_)
    · refine hout _ (by simpa using hx) (hl.set _ h0 h1) (fun m h2 h3=>?_) ?_
      · rw[rd_set x _ m c (k5 m h2 h3).2.1,if_neg (k5 m h2 h3).1];exact hz m (k5 m h2 h3).2.2 h3
      · rw[nv_set x _ c k2,hz0,Int.sub_zero,hv,k3]
    · simp only[Czx.l1]
      rw[if_neg k6,k7,if_pos k8.1,if_pos k8.2,k9,k10]
  | succ d ih =>
    intro j x c hj hx hl hz h0 h1;have i1:i+j < x.length:=by omega
    have i2:j < b.length:=by omega
    have i3:i+(j+1)=(i+j)+1:=by omega
    have i4:(j+1)+d=b.length:=by omega
    have j1:(j:Int) < (b.length:Int):=by omega
    have j2:(0:Int)≤((i+j:Nat):Int):=by omega
    have j3:((i+j:Nat):Int) < (x.length:Int):=by omega
    have j4:(0:Int)≤(i:Int):=by omega
    have j5:(i:Int) < (a.length:Int):=by omega
    have j6:(0:Int)≤(j:Int):=by omega
    have j7:wrap64 ((j:Int)+1)=((j+1:Nat):Int):=by rw[wrap64_id (by omega) (by omega)];omega
    have e0:wrap64 ((i:Int)+(j:Int))=((i+j:Nat):Int):=by rw[wrap64_id (by omega) (by omega)];omega
    have j8:((i+j:Nat):Int).toNat=i+j:=by omega
    have i5:∀ m:Nat,i+b.length≤m→m < N→¬ (i+j=m)∧m < x.length:=fun m h2 h3=>by omega
    intro hv;have hr:=hl.rd j2 j3;have hs:=hb.rd j6 j1;have ht:=ha.rd j4 j5;have hp:=limb_prod ht.1 ht.2 hs.1 hs.2;obtain⟨e1,e2,e3,b1,b2,b3,b4,b5⟩:=limb_step hr.1 hr.2 hp.1 hp.2 h0 h1;refine Tells.up (g:=fun k=>Czx.l1 k a b (x.set (i+j) ((rd x ((i+j:Nat):Int)+rd a (i:Int) * rd b (j:Int)+c) % 1000000000)) (i:Int) ((rd x ((i+j:Nat):Int)+rd a (i:Int) * rd b (j:Int)+c) / 1000000000) (a.length:Int) (i:Int) (b.length:Int) ((j+1:Nat):Int)) ?_ (fun k=>?_)
    · refine ih (j+1) _ _ i4 (by simpa using hx) (hl.set _ b1 b2) (fun m h2 h3=>?_) b3 b4 ?_
      · rw[rd_set x _ m _ (i5 m h2 h3).2,if_neg (i5 m h2 h3).1];exact hz m h2 h3
      · rw[nv_set x (i+j) _ i1,i3,LB_succ (i+j),hv,nv_drop (l:=b) (i:=j) i2]
        rw[mul_alg (LB (i+j)) (rd x ((i+j:Nat):Int)) (rd a (i:Int)) (rd b (j:Int)) c (nv (b.drop (j+1))) _ _ (Int.emod_add_mul_ediv _ _)];ac_rfl
    · simp only[Czx.l1]
      rw[if_pos j1,e0,if_pos j2,if_pos j3,if_pos j4,if_pos j5,if_pos j6,if_pos j1,e1,e2,e3,b5,j7,j8]
theorem Mul_outer (a b:List Int) (ha:Lim a) (hb:Lim b) (N:Nat) (hN:N=a.length+b.length+1) (hn:N≤1000000) (V:Int) (d:Nat) :
    ∀ (i:Nat) (x:List Int),i+d=a.length→x.length=N→Lim x→(∀ m:Nat,i+b.length≤m→m < N→rd x (m:Int)=0)→V=nv x+LB i * (nv (a.drop i) * nv b) →
      Tells (fun k=>Czx.l0 k a b x (a.length:Int) (i:Int)) (fitv V):=by
  induction d with
  | zero =>
    intro i x hi hx hl hz hv;rw[nv_drop_all (by omega),Int.zero_mul,Int.mul_zero,Int.add_zero] at hv
    refine Tells.up (g:=fun k=>(Fzk.f k x).bind fun bt=>(some (bt.1,bt.2))) ?_ (fun k=>?_)
    · rw[hv];exact(fitted_tells hl (by omega)).bind (Tells.const _)
    · simp only[Czx.l0];rw[if_neg (by omega)]
  | succ d ih =>
    intro i x hi hx hl hz hv;refine Tells.up (g:=fun k=>Czx.l1 k a b x (i:Int) 0 (a.length:Int) (i:Int) (b.length:Int) ((0:Nat):Int)) ?_ (fun k=>?_)
    · refine Mul_inner a b ha hb N hN hn _ i (by omega) V (fun y h1 h2 h3 h4=>ih (i+1) y (by omega) h1 h2 h3 h4) b.length 0 x 0 (by omega) hx hl hz (by omega) (by omega) ?_
      rw[hv,nv_drop (l:=a) (i:=i) (by omega),List.drop_zero,Nat.add_zero,Int.zero_add,LB_succ,mul_alg2]
      ac_rfl
    · simp only[Czx.l0];rw[if_pos (by omega)];rfl
theorem Mul_tells (a b:List Int):Tells (fun k=>Czx.f k a b) (if natOk a && natOk b then fitv (nv a * nv b) else([],3)):=by
  unfold Czx.f;refine(Valid_tells a).bind ?_;by_cases ha:natOk a=true
  · refine Tells.pos ha ((Valid_tells b).bind ?_)
    by_cases hb:natOk b=true
    · rw[ha,hb,if_pos (show(true && true)=true from rfl)]
      obtain⟨ca,la⟩:=natOk_iff.1 ha;obtain⟨cb,lb⟩:=natOk_iff.1 hb;have hw:wrap64 (wrap64 ((a.length:Int)+(b.length:Int))+1)=((a.length+b.length+1:Nat):Int):=by rw[wrap64_id (n:=(a.length:Int)+(b.length:Int)) (by omega) (by omega),wrap64_id (by omega) (by omega)];omega
      refine Tells.up (g:=fun k=>Czx.l0 k a b (List.replicate (a.length+b.length+1) 0) (a.length:Int) ((0:Nat):Int)) ?_ (fun k=>?_)
      · refine Mul_outer a b ca.1 cb.1 (a.length+b.length+1) rfl (by omega) _ a.length 0 _ (by omega) (by simp) (Lim.zeros _) (fun m _ h2=>rd_replicate _ m 0 h2) ?_
        rw[nv_zeros,LB_zero,List.drop_zero];omega
      · simp only[Czx.j0]
        rw[if_neg (by decide),hw,if_pos (by omega),if_pos (by omega)]
        rfl
    · rw[show natOk b=false by simpa using hb,Bool.and_false,if_neg (by decide)]
      exact Tells.up (g:=fun _=>some ([],3)) (Tells.const _) (fun k=>by simp [Czx.j0])
  · rw[show natOk a=false by simpa using ha,Bool.false_and,if_neg (by decide)]
    refine Tells.neg (by decide) ?_
    exact Tells.up (g:=fun _=>some ([],3)) (Tells.const _) (fun k=>by simp [Czx.j0])

theorem Add_loop (b:List Int) (hb:Lim b) (n:Nat) (hn:n≤1000000) (hbn:b.length≤n) (V:Int) (hV:V < LB n) (d:Nat):∀ (i:Nat) (x:List Int) (c:Int),i+d=n→x.length=n→Lim x→0≤c→c≤1→V=nv x+LB i * (c+nv (b.drop i)) →
    Tells (fun k=>Ezx.l0 k b x c (n:Int) (i:Int)) (fitv V):=by
  induction d with
  | zero =>
    intro i x c hi hx hl h0 h1 hv;rw[nv_drop_all (by omega),Int.add_zero] at hv
    obtain rfl:i=n:=by omega
    have h2:=nv_nonneg hl;have h3:c=0:=by
      rcases (by omega:c=0∨c=1) with h|h
      · exact h
      · subst h;omega
    subst h3;rw[Int.mul_zero,Int.add_zero] at hv;refine Tells.up (g:=fun k=>(Fzk.f k x).bind fun bt=>(some (bt.1,bt.2))) ?_ (fun k=>?_)
    · rw[hv];exact(fitted_tells hl (by omega)).bind (Tells.const _)
    · simp only[Ezx.l0];rw[if_neg (by omega)]
  | succ d ih =>
    intro i x c hi hx hl h0 h1 hv;have hr:=hl.rd (i:=(i:Int)) (by omega) (by omega)
    by_cases hb1:i < b.length
    · have hs:=hb.rd (i:=(i:Int)) (by omega) (by omega)
      have e1:wrap64 (wrap64 (rd x (i:Int)+c)+rd b (i:Int))=rd x (i:Int)+c+rd b (i:Int):=by rw[wrap64_id (n:=rd x (i:Int)+c) (by omega) (by omega),wrap64_id (by omega) (by omega)]
      have e2:Int.tdiv (rd x (i:Int)+c+rd b (i:Int)) 1000000000=(rd x (i:Int)+c+rd b (i:Int)) / 1000000000:=Int.tdiv_eq_ediv_of_nonneg (by omega)
      have e3:Int.tmod (rd x (i:Int)+c+rd b (i:Int)) 1000000000=(rd x (i:Int)+c+rd b (i:Int)) % 1000000000:=Int.tmod_eq_emod_of_nonneg (by omega)
      refine Tells.up (g:=fun k=>Ezx.l0 k b (x.set i ((rd x (i:Int)+c+rd b (i:Int)) % 1000000000)) ((rd x (i:Int)+c+rd b (i:Int)) / 1000000000) (n:Int) ((i+1:Nat):Int)) ?_ (fun k=>?_)
      · refine ih (i+1) _ _ (by omega) (by simpa using hx) (hl.set i (by omega) (by omega)) (by omega) (by omega) ?_
        rw[nv_set x i _ (by omega),LB_succ,hv,nv_drop hb1]
        generalize nv (b.drop (i+1))=t;generalize rd x (i:Int)=xi at *;generalize rd b (i:Int)=bi at *;have e:=Int.emod_add_mul_ediv (xi+c+bi) 1000000000;generalize (xi+c+bi) % 1000000000=m at *;generalize (xi+c+bi) / 1000000000=q at *;have e':c+(bi+1000000000 * t)=(m - xi)+1000000000 * (q+t):=by omega
        rw[e',Int.mul_add,Int.mul_comm 1000000000 (LB i),Int.mul_assoc,← Int.add_assoc]
      · simp only[Ezx.l0]
        rw[if_pos (by omega),if_pos (by omega),if_pos (by omega),if_pos (by omega),e1,e2,e3,wrap64_id (by omega) (by omega),wrap64_id (by omega) (by omega)]
        rfl
    · have e1:wrap64 (rd x (i:Int)+c)=rd x (i:Int)+c:=wrap64_id (by omega) (by omega)
      have e2:Int.tdiv (rd x (i:Int)+c) 1000000000=(rd x (i:Int)+c) / 1000000000:=Int.tdiv_eq_ediv_of_nonneg (by omega)
      have e3:Int.tmod (rd x (i:Int)+c) 1000000000=(rd x (i:Int)+c) % 1000000000:=Int.tmod_eq_emod_of_nonneg (by omega)
      refine Tells.up (g:=fun k=>Ezx.l0 k b (x.set i ((rd x (i:Int)+c) % 1000000000)) ((rd x (i:Int)+c) / 1000000000) (n:Int) ((i+1:Nat):Int)) ?_ (fun k=>?_)
      · refine ih (i+1) _ _ (by omega) (by simpa using hx) (hl.set i (by omega) (by omega)) (by omega) (by omega) ?_
        rw[nv_set x i _ (by omega),LB_succ,hv,nv_drop_all (by omega),nv_drop_all (by omega)]
        generalize rd x (i:Int)=xi at *;have e:=Int.emod_add_mul_ediv (xi+c) 1000000000;generalize (xi+c) % 1000000000=m at *;generalize (xi+c) / 1000000000=q at *;have e':c+0=(m - xi)+1000000000 * (q+0):=by omega
        rw[e',Int.mul_add,Int.mul_comm 1000000000 (LB i),Int.mul_assoc,← Int.add_assoc]
      · simp only[Ezx.l0]
        rw[if_pos (by omega),if_pos (by omega),if_pos (by omega),if_neg (by omega),e1,e2,e3,wrap64_id (by omega) (by omega),wrap64_id (by omega) (by omega)]
        rfl
theorem Add_tells (a b:List Int):Tells (fun k=>Ezx.f k a b) (if natOk a && natOk b then fitv (nv a+nv b) else([],3)):=by
  unfold Ezx.f;refine(Valid_tells a).bind ?_;by_cases ha:natOk a=true
  · refine Tells.pos ha ((Valid_tells b).bind ?_)
    by_cases hb:natOk b=true
    · rw[ha,hb,if_pos (show(true && true)=true from rfl)]
      obtain⟨ca,la⟩:=natOk_iff.1 ha;obtain⟨cb,lb⟩:=natOk_iff.1 hb;have hm:mx (a.length:Int) (b.length:Int)=((max a.length b.length:Nat):Int):=by unfold mx;split <;> omega
      have hp:=padded_eq a (max a.length b.length+1) (by omega) (by omega)
      refine Tells.up (g:=fun k=>(Gzy.f a ((max a.length b.length+1:Nat):Int)).bind fun t=>Ezx.l0 k b t 0 (t.length:Int) 0) ?_ (fun k=>?_)
      · rw[hp]
        show Tells (fun k=>Ezx.l0 k b (a ++ List.replicate (max a.length b.length+1 - a.length) 0) 0 ((a ++ List.replicate (max a.length b.length+1 - a.length) 0).length:Int) 0) _
        have hl:(a ++ List.replicate (max a.length b.length+1 - a.length) 0).length=max a.length b.length+1:=by simp;omega
        rw[hl];have h1:=nv_lt ca.1;have h2:=nv_lt cb.1;have h3:=LB_le (show a.length≤max a.length b.length by omega)
        have h4:=LB_le (show b.length≤max a.length b.length by omega)
        have h6:=LB_pos (max a.length b.length);have h5:nv (a ++ List.replicate (max a.length b.length+1 - a.length) 0)=nv a:=by rw[nv_append,nv_zeros,Int.mul_zero,Int.add_zero]
        refine Add_loop b cb.1 (max a.length b.length+1) (by omega) (by omega) _ (by rw[LB_succ];omega) (max a.length b.length+1) 0 _ 0 (by omega) hl (ca.1.append (Lim.zeros _)) (by omega) (by omega) ?_
        rw[h5,LB_zero,List.drop_zero];omega
      · simp only[Ezx.j0]
        rw[if_neg (by decide),hm,wrap64_id (by omega) (by omega)]
        rfl
    · rw[show natOk b=false by simpa using hb,Bool.and_false,if_neg (by decide)]
      exact Tells.up (g:=fun _=>some ([],3)) (Tells.const _) (fun k=>by simp [Ezx.j0])
  · rw[show natOk a=false by simpa using ha,Bool.false_and,if_neg (by decide)]
    refine Tells.neg (by decide) ?_
    exact Tells.up (g:=fun _=>some ([],3)) (Tells.const _) (fun k=>by simp [Ezx.j0])
theorem Sub_loop (b:List Int) (hb:Lim b) (n:Nat) (hn:n≤1000000) (hbn:b.length≤n) (V:Int) (hV:0≤V) (d:Nat):∀ (i:Nat) (x:List Int) (c:Int),i+d=n→x.length=n→Lim x→0≤c→c≤1→V=nv x - LB i * (c+nv (b.drop i)) →
    Tells (fun k=>Ezw.l0 k b x c (n:Int) (i:Int)) (dg V,0):=by
  induction d with
  | zero =>
    intro i x c hi hx hl h0 h1 hv;rw[nv_drop_all (by omega),Int.add_zero] at hv
    obtain rfl:i=n:=by omega
    have h2:=nv_lt hl;rw[hx] at h2;have h3:c=0:=by
      rcases (by omega:c=0∨c=1) with h|h
      · exact h
      · subst h;omega
    subst h3;rw[Int.mul_zero,Int.sub_zero] at hv;refine Tells.up (g:=fun k=>(Bzp.f k x).bind fun t=>(some (t,0))) ?_ (fun k=>?_)
    · rw[hv];exact(trimmed_tells hl (by omega)).bind (Tells.const _)
    · simp only[Ezw.l0];rw[if_neg (by omega)]
  | succ d ih =>
    intro i x c hi hx hl h0 h1 hv;have hr:=hl.rd (i:=(i:Int)) (by omega) (by omega)
    have key:∀ (s bi t:Int) (c' v':Int),s=rd x (i:Int) - c - bi→v'=s+1000000000 * c'→nv (b.drop i)=bi+1000000000 * t→V=nv (x.set i v') - LB (i+1) * (c'+t):=by
      intro s bi t c' v' es ev et;rw[nv_set x i _ (by omega),LB_succ,hv,et]
      generalize rd x (i:Int)=xi at *;have e':c+(bi+1000000000 * t)=1000000000 * (c'+t) - (v' - xi):=by omega
      rw[e',Int.mul_sub,Int.mul_comm 1000000000 (LB i),Int.mul_assoc];omega
    by_cases hb1:i < b.length
    · have hs:=hb.rd (i:=(i:Int)) (by omega) (by omega)
      have e1:wrap64 (wrap64 (rd x (i:Int) - c) - rd b (i:Int))=rd x (i:Int) - c - rd b (i:Int):=by rw[wrap64_id (n:=rd x (i:Int) - c) (by omega) (by omega),wrap64_id (by omega) (by omega)]
      by_cases hneg:rd x (i:Int) - c - rd b (i:Int) < 0
      · refine Tells.up (g:=fun k=>Ezw.l0 k b (x.set i (rd x (i:Int) - c - rd b (i:Int)+1000000000)) 1 (n:Int) ((i+1:Nat):Int)) ?_ (fun k=>?_)
        · exact ih (i+1) _ _ (by omega) (by simpa using hx) (hl.set i (by omega) (by omega)) (by omega) (by omega) (key _ _ _ 1 _ rfl (by omega) (nv_drop hb1))
        · simp only[Ezw.l0]
          rw[if_pos (by omega),if_pos (by omega),if_pos (by omega),if_pos (by omega),e1,if_pos hneg,wrap64_id (by omega) (by omega),wrap64_id (by omega) (by omega)]
          rfl
      · refine Tells.up (g:=fun k=>Ezw.l0 k b (x.set i (rd x (i:Int) - c - rd b (i:Int))) 0 (n:Int) ((i+1:Nat):Int)) ?_ (fun k=>?_)
        · exact ih (i+1) _ _ (by omega) (by simpa using hx) (hl.set i (by omega) (by omega)) (by omega) (by omega) (key _ _ _ 0 _ rfl (by omega) (nv_drop hb1))
        · simp only[Ezw.l0]
          rw[if_pos (by omega),if_pos (by omega),if_pos (by omega),if_pos (by omega),e1,if_neg hneg,wrap64_id (by omega) (by omega)]
          rfl
    · have e1:wrap64 (rd x (i:Int) - c)=rd x (i:Int) - c:=wrap64_id (by omega) (by omega)
      have hz:nv (b.drop i)=0+1000000000 * nv (b.drop (i+1)):=by rw[nv_drop_all (by omega),nv_drop_all (by omega)];rfl
      by_cases hneg:rd x (i:Int) - c < 0
      · refine Tells.up (g:=fun k=>Ezw.l0 k b (x.set i (rd x (i:Int) - c+1000000000)) 1 (n:Int) ((i+1:Nat):Int)) ?_ (fun k=>?_)
        · exact ih (i+1) _ _ (by omega) (by simpa using hx) (hl.set i (by omega) (by omega)) (by omega) (by omega) (key _ _ _ 1 _ rfl (by omega) hz)
        · simp only[Ezw.l0]
          rw[if_pos (by omega),if_pos (by omega),if_pos (by omega),if_neg (by omega),e1,if_pos hneg,wrap64_id (by omega) (by omega),wrap64_id (by omega) (by omega)]
          rfl
      · refine Tells.up (g:=fun k=>Ezw.l0 k b (x.set i (rd x (i:Int) - c)) 0 (n:Int) ((i+1:Nat):Int)) ?_ (fun k=>?_)
        · exact ih (i+1) _ _ (by omega) (by simpa using hx) (hl.set i (by omega) (by omega)) (by omega) (by omega) (key _ _ _ 0 _ rfl (by omega) hz)
        · simp only[Ezw.l0]
          rw[if_pos (by omega),if_pos (by omega),if_pos (by omega),if_neg (by omega),e1,if_neg hneg,wrap64_id (by omega) (by omega)]
          rfl
theorem Sub_tells (a b:List Int):Tells (fun k=>Ezw.f k a b) (if natOk a && natOk b then(if nv a < nv b then([],1) else(dg (nv a - nv b),0)) else([],3)):=by
  unfold Ezw.f;refine(Valid_tells a).bind ?_;by_cases ha:natOk a=true
  · refine Tells.pos ha ((Valid_tells b).bind ?_)
    by_cases hb:natOk b=true
    · rw[ha,hb,if_pos (show(true && true)=true from rfl)]
      obtain⟨ca,la⟩:=natOk_iff.1 ha;obtain⟨cb,lb⟩:=natOk_iff.1 hb;refine Tells.up (g:=fun k=>(Dzj.f k a b).bind fun t=>(if t < 0 then(some (([]:List Int),(1:Int))) else((Gzy.f a (a.length:Int)).bind fun t=>Ezw.l0 k b t 0 (t.length:Int) 0))) ?_ (fun k=>rfl)
      refine(compare_tells ca cb (by omega) (by omega)).bind ?_
      by_cases hlt:nv a < nv b
      · rw[if_pos hlt];exact Tells.pos (cmpI_neg.2 hlt) (Tells.const _)
      · rw[if_neg hlt]
        refine Tells.neg (fun h=>hlt (cmpI_neg.1 h)) ?_
        rw[padded_self a (by omega)]
        show Tells (fun k=>Ezw.l0 k b a 0 (a.length:Int) 0) _
        refine Sub_loop b cb.1 a.length (by omega) ?_ _ (by omega) a.length 0 a 0 (by omega) rfl ca.1 (by omega) (by omega) (by rw[LB_zero,List.drop_zero];omega)
        rcases Nat.lt_or_ge a.length b.length with h|h
        · exact absurd (len_lt_val ca cb h) hlt
        · exact h
    · rw[show natOk b=false by simpa using hb,Bool.and_false,if_neg (by decide)]
      exact Tells.up (g:=fun _=>some ([],3)) (Tells.const _) (fun k=>by simp [Ezw.j0])
  · rw[show natOk a=false by simpa using ha,Bool.false_and,if_neg (by decide)]
    refine Tells.neg (by decide) ?_
    exact Tells.up (g:=fun _=>some ([],3)) (Tells.const _) (fun k=>by simp [Ezw.j0])
theorem Cmp_tells (a b:List Int):Tells (fun k=>Gzx.f k a b) (if natOk a && natOk b then(cmpI (nv a) (nv b),0) else(0,3)):=by
  unfold Gzx.f;refine(Valid_tells a).bind ?_;by_cases ha:natOk a=true
  · refine Tells.pos ha ((Valid_tells b).bind ?_)
    by_cases hb:natOk b=true
    · rw[ha,hb,if_pos (show(true && true)=true from rfl)]
      obtain⟨ca,la⟩:=natOk_iff.1 ha;obtain⟨cb,lb⟩:=natOk_iff.1 hb;exact Tells.pos rfl ((compare_tells ca cb (by omega) (by omega)).bind (Tells.const _))
    · rw[show natOk b=false by simpa using hb,Bool.and_false,if_neg (by decide)]
      exact Tells.neg (by decide) (Tells.const _)
  · rw[show natOk a=false by simpa using ha,Bool.false_and,if_neg (by decide)]
    exact Tells.neg (by decide) (Tells.const _)

theorem idiv_of {V Q m r:Int} (h:V=Q * m+r) (h0:0≤r) (h1:r < m):V / m=Q∧V % m=r:=by
  have hm:0 < m:=by omega
  have e:V=r+m * Q:=by rw[h,Int.mul_comm m Q,Int.add_comm]
  constructor
  · rw[e,Int.add_mul_ediv_left _ _ (by omega),Int.ediv_eq_zero_of_lt h0 h1,Int.zero_add]
  · rw[e,Int.add_mul_emod_self_left,Int.emod_eq_of_lt h0 h1]
theorem short_step {r x m:Int} (h0:0≤r) (h1:r < m) (hx:0≤x) (hx1:x < 1000000000) (hm:m < 1000000000) :
    wrap64 (wrap64 (r * 1000000000)+x)=r * 1000000000+x∧Int.tdiv (r * 1000000000+x) m=(r * 1000000000+x) / m∧Int.tmod (r * 1000000000+x) m=(r * 1000000000+x) % m∧0≤(r * 1000000000+x) % m∧(r * 1000000000+x) % m < m∧0≤(r * 1000000000+x) / m∧(r * 1000000000+x) / m < 1000000000∧wrap64 ((r * 1000000000+x) / m)=(r * 1000000000+x) / m:=by
  have hs:0≤r * 1000000000+x:=by omega
  have a1:=Int.emod_nonneg (r * 1000000000+x) (show m≠0 by omega)
  have a2:=Int.emod_lt_of_pos (r * 1000000000+x) (show 0 < m by omega)
  have a3:=Int.ediv_nonneg hs (show 0≤m by omega)
  have a4:(r * 1000000000+x) / m < 1000000000:=Int.ediv_lt_of_lt_mul (by omega) (by omega)
  exact⟨by rw[wrap64_id (n:=r * 1000000000) (by omega) (by omega),wrap64_id (by omega) (by omega)],Int.tdiv_eq_ediv_of_nonneg hs,Int.tmod_eq_emod_of_nonneg hs,a1,a2,a3,a4,wrap64_id (by omega) (by omega)⟩
theorem short_loop (a:List Int) (ha:Lim a) (hn:a.length≤1000000) (m:Int) (hm0:0 < m) (hm:m < 1000000000) (i:Nat):∀ (x:List Int) (r:Int),i≤a.length→x.length=a.length→Lim x→(∀ j:Nat,j < i→rd x (j:Int)=0)→0≤r→r < m→nv a=nv x * m+(r * LB i+pv a i) →
    Tells (fun k=>Dzw.l0 k a m x r ((i:Int) - 1)) (dg (nv a / m),dg (nv a % m)):=by
  induction i with
  | zero =>
    intro x r hi hx hl hz h0 h1 hv;rw[LB_zero,Int.mul_one,pv_zero,Int.add_zero] at hv;obtain⟨e1,e2⟩:=idiv_of hv h0 h1;have hr:Lim [r]:=Lim.mk h0 (Int.lt_trans h1 hm) Lim.nil;refine Tells.up (g:=fun k=>(Bzp.f k x).bind fun t=>((Bzp.f k [r]).bind fun t2=>(some (t,t2)))) ?_ (fun k=>?_)
    · rw[e1,e2]
      have h2:x.length < 4611686018427387904:=by rw[hx];clear hv e1 e2;omega
      have h3:=trimmed_tells hr (by simp)
      unfold trim at h3;rw[nv_single] at h3;exact(trimmed_tells hl h2).bind (h3.bind (Tells.const _))
    · simp only[Dzw.l0];rw[if_neg (by decide)]
  | succ i ih =>
    intro x r hi hx hl hz h0 h1;have i1:i < a.length:=by omega
    have i2:i < x.length:=by omega
    have i3:(0:Int)≤(i:Int):=by omega
    have i4:(i:Int) < (a.length:Int):=by omega
    have i5:(i:Int) < (x.length:Int):=by omega
    have i6:((i+1:Nat):Int) - 1=(i:Int):=by omega
    have i7:wrap64 ((i:Int) - 1)=(i:Int) - 1:=wrap64_id (by omega) (by omega)
    have i8:∀ j:Nat,j < i→¬ (i=j)∧j < x.length∧j < i+1:=fun j hj=>by omega
    have i9:m≠0:=by omega
    have i10:((i:Int)).toNat=i:=by omega
    have i11:i≤a.length:=by omega
    have i12:i < i+1:=by omega
    intro hv;have hr:=ha.rd i3 i4;obtain⟨e1,e2,e3,b1,b2,b3,b4,b5⟩:=short_step h0 h1 hr.1 hr.2 hm;have hz0:=hz i i12;rw[i6];refine Tells.up (g:=fun k=>Dzw.l0 k a m (x.set i ((r * 1000000000+rd a (i:Int)) / m)) ((r * 1000000000+rd a (i:Int)) % m) ((i:Int) - 1)) ?_ (fun k=>?_)
    · refine ih _ _ i11 (by simpa using hx) (hl.set _ b3 b4) (fun j hj=>?_) b1 b2 ?_
      · rw[rd_set x _ j _ (i8 j hj).2.1,if_neg (i8 j hj).1];exact hz j (i8 j hj).2.2
      · rw[nv_set x i _ i2,hz0,Int.sub_zero,hv,pv_succ i1,LB_succ]
        have h:=Int.emod_add_mul_ediv (r * 1000000000+rd a (i:Int)) m;grind
    · simp only[Dzw.l0]
      rw[if_pos i3,if_pos i3,if_pos i4,if_neg i9,if_pos i5,e1,e2,e3,b5,i7,i10]
theorem short_tells {a:List Int} (ha:Lim a) (hn:a.length≤1000000) {m:Int} (hm0:0 < m) (hm:m < 1000000000):Tells (fun k=>Dzw.f k a m) (dg (nv a / m),dg (nv a % m)):=by
  unfold Dzw.f;have h:=short_loop a ha hn m hm0 hm a.length (List.replicate a.length 0) 0 (Nat.le_refl _) (by simp) (Lim.zeros _) (fun j hj=>rd_replicate _ j 0 hj) (by omega) hm0 (by rw[nv_zeros,pv_all (Nat.le_refl _)];omega)
  refine Tells.pos (by omega) (Tells.pos (by omega) ?_)
  refine h.congr (fun k=>?_)
  rw[wrap64_id (by omega) (by omega),show((a.length:Int)).toNat=a.length by omega]
theorem scaled_step {xi m c:Int} (h0:0≤xi) (h1:xi < 1000000000) (h2:0≤m) (h3:m < 1000000000) (h4:0≤c) (h5:c < 1000000000) :
    wrap64 (wrap64 (xi * m)+c)=xi * m+c∧Int.tdiv (xi * m+c) 1000000000=(xi * m+c) / 1000000000∧Int.tmod (xi * m+c) 1000000000=(xi * m+c) % 1000000000∧0≤(xi * m+c) % 1000000000∧(xi * m+c) % 1000000000 < 1000000000∧0≤(xi * m+c) / 1000000000∧(xi * m+c) / 1000000000 < 1000000000∧wrap64 ((xi * m+c) / 1000000000)=(xi * m+c) / 1000000000:=by
  obtain⟨h6,h7⟩:=limb_prod h0 h1 h2 h3;generalize xi * m=u at *;refine⟨?_,Int.tdiv_eq_ediv_of_nonneg (by omega),Int.tmod_eq_emod_of_nonneg (by omega),by omega,by omega,by omega,by omega,wrap64_id (by omega) (by omega)⟩
  rw[wrap64_id (n:=u) (by omega) (by omega),wrap64_id (by omega) (by omega)]
theorem scaled_loop (a:List Int) (ha:Lim a) (hn:a.length≤1000000) (m:Int) (hm0:0≤m) (hm:m < 1000000000) (d:Nat):∀ (i:Nat) (x:List Int) (c:Int),i+d=a.length→x.length=a.length+1→Lim x→(∀ j:Nat,i≤j→j < x.length→rd x (j:Int)=0)→0≤c→c < 1000000000→nv x+LB i * (c+nv (a.drop i) * m)=nv a * m →
    ∃ y,Tells (fun k=>Dzm.l0 k a m x c (a.length:Int) (i:Int)) y∧Lim y∧y.length=a.length+1∧nv y=nv a * m:=by
  induction d with
  | zero =>
    intro i x c hi hx hl hz h0 h1;have i1:i=a.length:=by omega
    have i2:¬ ((i:Int) < (a.length:Int)):=by omega
    have i3:(a.length:Int) < (x.length:Int):=by omega
    have i4:a.length < x.length:=by omega
    have i5:(0:Int)≤(a.length:Int):=by omega
    have i6:((a.length:Int)).toNat=a.length:=by omega
    have i7:i≤a.length:=by omega
    intro hv;rw[nv_drop_all (by rw[i1];exact Nat.le_refl _),Int.zero_mul,Int.add_zero,i1] at hv
    refine⟨x.set a.length c,Tells.up (g:=fun _=>some (x.set a.length c)) (Tells.const _) (fun k=>?_),hl.set _ h0 h1,by simpa using hx,?_⟩
    · simp only[Dzm.l0];rw[if_neg i2,if_pos i5,if_pos i3,i6]
    · rw[nv_set x _ c i4,hz a.length i7 i4,Int.sub_zero,hv]
  | succ d ih =>
    intro i x c hi hx hl hz h0 h1;have i1:i < a.length:=by omega
    have i2:i < x.length:=by omega
    have i3:(0:Int)≤(i:Int):=by omega
    have i4:(i:Int) < (a.length:Int):=by omega
    have i5:(i:Int) < (x.length:Int):=by omega
    have i7:wrap64 ((i:Int)+1)=((i+1:Nat):Int):=by rw[wrap64_id (by omega) (by omega)];omega
    have i8:∀ j:Nat,i+1≤j→j < x.length→¬ (i=j)∧i≤j:=fun j hj _=>by omega
    have i9:(i+1)+d=a.length:=by omega
    have i10:((i:Int)).toNat=i:=by omega
    intro hv;have hr:=ha.rd i3 i4;obtain⟨e1,e2,e3,b1,b2,b3,b4,b5⟩:=scaled_step hr.1 hr.2 hm0 hm h0 h1;have hz0:=hz i (Nat.le_refl _) i2;obtain⟨y,hy,h2,h3,h4⟩:=ih (i+1) (x.set i ((rd a (i:Int) * m+c) % 1000000000)) ((rd a (i:Int) * m+c) / 1000000000) i9 (by simpa using hx) (hl.set _ b1 b2) (fun j h2 h3=>by
        rw[List.length_set] at h3;rw[rd_set x _ j _ h3,if_neg (i8 j h2 h3).1];exact hz j (i8 j h2 h3).2 h3) b3 b4 (by
        rw[← hv,nv_set x i _ i2,hz0,nv_drop i1,LB_succ];have e:=Int.emod_add_mul_ediv (rd a (i:Int) * m+c) 1000000000;grind)
    refine⟨y,Tells.up hy (fun k=>?_),h2,h3,h4⟩
    simp only[Dzm.l0];rw[if_pos i4,if_pos i3,if_pos i4,if_pos i5,e1,e2,e3,b5,i7,i10]
theorem scaled_tells {a:List Int} (ha:Lim a) (hn:a.length≤100000) {m:Int} (hm0:0≤m) (hm:m < 1000000000):∃ y,Tells (fun k=>Dzm.f k a m) y∧Lim y∧y.length=a.length+1∧nv y=nv a * m:=by
  obtain⟨y,hy,h⟩:=scaled_loop a ha (by omega) m hm0 hm a.length 0 (List.replicate (a.length+1) 0) 0 (by omega) (by simp) (Lim.zeros _) (fun j _ h2=>rd_replicate _ j 0 (by simpa using h2)) (by omega) (by omega) (by rw[nv_zeros,LB_zero,List.drop_zero];omega)
  refine⟨y,?_,h⟩;unfold Dzm.f;have hw:wrap64 ((a.length:Int)+1)=((a.length+1:Nat):Int):=by rw[wrap64_id (by omega) (by omega)];omega
  rw[hw];refine Tells.pos (by omega) (Tells.pos (by omega) ?_)
  exact hy
/-- One limb of a difference. -/

theorem reduce_step {u c w:Int} (h0:0≤u) (h1:u < 1000000000) (h2:0≤c) (h3:c≤2000000000) (h4:0≤w) (h5:w≤1000000000000000000) :
    wrap64 (wrap64 (u - c) - wrap64 w)=u - c - w:=by
  rw[wrap64_id (n:=w) (by omega) (by omega),wrap64_id (n:=u - c) (by omega) (by omega),wrap64_id (by omega) (by omega)]
theorem reduce_borrow {s:Int} (h0:s < 0) (h1:-1000000002000000000≤s) :
    wrap64 (Int.tdiv (wrap64 (wrap64 (wrap64 (-s)+1000000000) - 1)) 1000000000)=(-s+999999999) / 1000000000∧wrap64 (s+wrap64 ((-s+999999999) / 1000000000 * 1000000000))=s+(-s+999999999) / 1000000000 * 1000000000∧0≤s+(-s+999999999) / 1000000000 * 1000000000∧s+(-s+999999999) / 1000000000 * 1000000000 < 1000000000∧0≤(-s+999999999) / 1000000000∧(-s+999999999) / 1000000000≤2000000000:=by
  have e1:wrap64 (wrap64 (wrap64 (-s)+1000000000) - 1)=-s+999999999:=by
    rw[wrap64_id (n:=-s) (by omega) (by omega),wrap64_id (n:=-s+1000000000) (by omega) (by omega),wrap64_id (by omega) (by omega)];omega
  have e2:Int.tdiv (-s+999999999) 1000000000=(-s+999999999) / 1000000000:=Int.tdiv_eq_ediv_of_nonneg (by omega)
  rw[e1,e2];refine⟨wrap64_id (by omega) (by omega),?_,by omega,by omega,by omega,by omega⟩
  rw[wrap64_id (n:=(-s+999999999) / 1000000000 * 1000000000) (by omega) (by omega),wrap64_id (by omega) (by omega)]
theorem reduce_loop (v:List Int) (hv:Lim v) (q:Int) (hq0:0≤q) (hq:q≤1000000000) (N:Nat) (hN:N≤1000000) (hvN:v.length≤N) (D:Int) (d:Nat):∀ (i:Nat) (u:List Int) (c:Int),i+d=N→u.length=N→Lim u→0≤c→c≤2000000000→D=nv u - LB i * (c+q * nv (v.drop i)) →
    ∃ (b:Int) (y:List Int),Tells (fun k=>Czm.l0 k u v q c (N:Int) (i:Int)) (decide (b > 0),y)∧0≤b∧Lim y∧y.length=N∧D=nv y - LB N * b:=by
  induction d with
  | zero =>
    intro i u c hi hu hl h0 h1;have i1:i=N:=by omega
    have i2:¬ ((i:Int) < (N:Int)):=by omega
    have i3:v.length≤i:=by omega
    intro hD;rw[nv_drop_all i3,Int.mul_zero,Int.add_zero,i1] at hD;exact⟨c,u,Tells.up (g:=fun _=>some (decide (c > 0),u)) (Tells.const _) (fun k=>by simp only[Czm.l0];rw[if_neg i2]),h0,hl,hu,hD⟩
  | succ d ih =>
    intro i u c hi hu hl h0 h1;have i1:(i:Int) < (N:Int):=by omega
    have i2:i < u.length:=by omega
    have i3:(0:Int)≤(i:Int):=by omega
    have i5:(i:Int) < (u.length:Int):=by omega
    have i7:wrap64 ((i:Int)+1)=((i+1:Nat):Int):=by rw[wrap64_id (by omega) (by omega)];omega
    have i9:(i+1)+d=N:=by omega
    have i10:((i:Int)).toNat=i:=by omega
    have i11:i < v.length∨v.length≤i:=by omega
    intro hD;have hr:=hl.rd i3 i5;have key:∀ (w t s c':Int),s=rd u (i:Int) - c - w→q * nv (v.drop i)=w+1000000000 * t→t=q * nv (v.drop (i+1))→D=nv (u.set i (s+c' * 1000000000)) - LB (i+1) * (c'+q * nv (v.drop (i+1))):=by
      intro w t s c' es et ew;rw[nv_set u i _ i2,LB_succ,hD,et,← ew,es];grind
    rcases i11 with i12|i12
    · have i13:(i:Int) < (v.length:Int):=Int.ofNat_lt.2 i12
      have hs:=hv.rd i3 i13;have hw0:0≤q * rd v (i:Int):=Int.mul_nonneg hq0 hs.1;have hw1:q * rd v (i:Int)≤1000000000 * 1000000000:=Int.mul_le_mul hq (Int.le_of_lt hs.2) hs.1 (by decide)
      have hk:=fun s c'=>key (q * rd v (i:Int)) (q * nv (v.drop (i+1))) s c'
      have et:q * nv (v.drop i)=q * rd v (i:Int)+1000000000 * (q * nv (v.drop (i+1))):=by rw[nv_drop i12];grind
      generalize hwd:q * rd v (i:Int)=w at *;have e1:=reduce_step hr.1 hr.2 h0 h1 hw0 (by clear hk et key hD ih;omega)
      by_cases hneg:rd u (i:Int) - c - w < 0
      · have hlow:-1000000002000000000≤rd u (i:Int) - c - w:=by clear hk et key hD ih;omega
        obtain⟨f1,f2,f3,f4,f5,f6⟩:=reduce_borrow hneg hlow;obtain⟨b,y,hy,g1,g2,g3,g4⟩:=ih (i+1) (u.set i (rd u (i:Int) - c - w+(-(rd u (i:Int) - c - w)+999999999) / 1000000000 * 1000000000)) ((-(rd u (i:Int) - c - w)+999999999) / 1000000000) i9 (by simpa using hu) (hl.set _ f3 f4) f5 f6 (hk _ _ rfl et rfl)
        refine⟨b,y,Tells.up hy (fun k=>?_),g1,g2,g3,g4⟩
        simp only[Czm.l0];rw[if_pos i1,if_pos i3,if_pos i5,if_pos i13,hwd,e1,if_pos hneg,f1,f2,i7,i10]
      · have f3:0≤rd u (i:Int) - c - w:=Int.not_lt.1 hneg
        have f4:rd u (i:Int) - c - w < 1000000000:=by clear hk et key hD ih;omega
        obtain⟨b,y,hy,g1,g2,g3,g4⟩:=ih (i+1) (u.set i (rd u (i:Int) - c - w)) 0 i9 (by simpa using hu) (hl.set _ f3 f4) (Int.le_refl _) (by decide) (by have:=hk _ 0 rfl et rfl;rwa [Int.zero_mul,Int.add_zero] at this)
        refine⟨b,y,Tells.up hy (fun k=>?_),g1,g2,g3,g4⟩
        simp only[Czm.l0];rw[if_pos i1,if_pos i3,if_pos i5,if_pos i13,hwd,e1,if_neg hneg,i7,i10]
    · have i13:¬ (i:Int) < (v.length:Int):=by have:=i12;clear hD key ih;omega
      have i14:v.length≤i+1:=Nat.le_succ_of_le i12;have et:q * nv (v.drop i)=0+1000000000 * (q * nv (v.drop (i+1))):=by rw[nv_drop_all i12,nv_drop_all i14];simp
      have hk:=fun s c'=>key 0 (q * nv (v.drop (i+1))) s c'
      have e1:wrap64 (rd u (i:Int) - c)=rd u (i:Int) - c:=by clear hk et key hD ih;exact wrap64_id (by omega) (by omega)
      have es:rd u (i:Int) - c - 0=rd u (i:Int) - c:=Int.sub_zero _;by_cases hneg:rd u (i:Int) - c < 0
      · have hlow:-1000000002000000000≤rd u (i:Int) - c:=by clear hk et key hD ih;omega
        obtain⟨f1,f2,f3,f4,f5,f6⟩:=reduce_borrow hneg hlow;obtain⟨b,y,hy,g1,g2,g3,g4⟩:=ih (i+1) (u.set i (rd u (i:Int) - c+(-(rd u (i:Int) - c)+999999999) / 1000000000 * 1000000000)) ((-(rd u (i:Int) - c)+999999999) / 1000000000) i9 (by simpa using hu) (hl.set _ f3 f4) f5 f6 (hk _ _ es.symm et rfl)
        refine⟨b,y,Tells.up hy (fun k=>?_),g1,g2,g3,g4⟩
        simp only[Czm.l0];rw[if_pos i1,if_pos i3,if_pos i5,if_neg i13,e1,if_pos hneg,f1,f2,i7,i10]
      · have f3:0≤rd u (i:Int) - c:=Int.not_lt.1 hneg
        have f4:rd u (i:Int) - c < 1000000000:=by clear hk et key hD ih;omega
        obtain⟨b,y,hy,g1,g2,g3,g4⟩:=ih (i+1) (u.set i (rd u (i:Int) - c)) 0 i9 (by simpa using hu) (hl.set _ f3 f4) (Int.le_refl _) (by decide) (by have:=hk _ 0 es.symm et rfl;rwa [Int.zero_mul,Int.add_zero] at this)
        refine⟨b,y,Tells.up hy (fun k=>?_),g1,g2,g3,g4⟩
        simp only[Czm.l0];rw[if_pos i1,if_pos i3,if_pos i5,if_neg i13,e1,if_neg hneg,i7,i10]
/-- The difference,and whether it is negative. -/
theorem reduce_tells {u v:List Int} (hu:Lim u) (hv:Lim v) (hN:u.length≤1000000) (hvN:v.length≤u.length) {q:Int} (hq0:0≤q) (hq:q≤1000000000) (hlow:-LB u.length < nv u - q * nv v) :
    ∃ (b:Bool) (y:List Int),Tells (fun k=>Czm.f k u v q) (b,y)∧Lim y∧y.length=u.length∧(b=true ↔ nv u - q * nv v < 0)∧nv y=nv u - q * nv v+(if b=true then LB u.length else 0):=by
  obtain⟨b,y,hy,h1,h2,h3,h4⟩:=reduce_loop v hv q hq0 hq u.length hN hvN (nv u - q * nv v) u.length 0 u 0 (by omega) rfl hu (by omega) (by omega) (by rw[LB_zero,List.drop_zero];omega)
  have h5:=nv_nonneg h2;have h6:=nv_lt h2;rw[h3] at h6;have hp:=LB_pos u.length;have hb:b=0∨b=1:=by
    rcases (by omega:b=0∨b=1∨2≤b) with h|h|h
    · exact .inl h
    · exact .inr h
    · exfalso
      have:LB u.length * 2≤LB u.length * b:=Int.mul_le_mul_of_nonneg_left h (by omega)
      omega
  refine⟨decide (b > 0),y,hy,h2,h3,?_,?_⟩
  · rcases hb with rfl|rfl
    · simp only[Int.mul_zero] at h4
      constructor
      · intro h;simp at h
      · intro h;omega
    · rw[Int.mul_one] at h4
      constructor
      · intro _;omega
      · intro _;rfl
  · rcases hb with rfl|rfl
    · simp only[Int.mul_zero] at h4
      rw[if_neg (by decide)];omega
    · rw[Int.mul_one] at h4
      rw[if_pos (by decide)];omega
theorem restore_loop (v:List Int) (hv:Lim v) (N:Nat) (hN:N≤1000000) (hvN:v.length≤N) (D:Int) (d:Nat):∀ (i:Nat) (u:List Int) (c:Int),i+d=N→u.length=N→Lim u→0≤c→c≤1→D=nv u+LB i * (c+nv (v.drop i)) →
    ∃ (c':Int) (y:List Int),Tells (fun k=>Dzy.l0 k u v c (N:Int) (i:Int)) y∧0≤c'∧Lim y∧y.length=N∧D=nv y+LB N * c':=by
  induction d with
  | zero =>
    intro i u c hi hu hl h0 h1;have i1:i=N:=by omega
    have i2:¬ ((i:Int) < (N:Int)):=by omega
    have i3:v.length≤i:=by omega
    intro hD;rw[nv_drop_all i3,Int.add_zero,i1] at hD;exact⟨c,u,Tells.up (g:=fun _=>some u) (Tells.const _) (fun k=>by simp only[Dzy.l0];rw[if_neg i2]),h0,hl,hu,hD⟩
  | succ d ih =>
    intro i u c hi hu hl h0 h1;have i1:(i:Int) < (N:Int):=by omega
    have i2:i < u.length:=by omega
    have i3:(0:Int)≤(i:Int):=by omega
    have i5:(i:Int) < (u.length:Int):=by omega
    have i7:wrap64 ((i:Int)+1)=((i+1:Nat):Int):=by rw[wrap64_id (by omega) (by omega)];omega
    have i9:(i+1)+d=N:=by omega
    have i10:((i:Int)).toNat=i:=by omega
    have i11:i < v.length∨v.length≤i:=by omega
    intro hD;have hr:=hl.rd i3 i5;have key:∀ (w t:Int),0≤w→w < 1000000000→nv (v.drop i)=w+1000000000 * t→t=nv (v.drop (i+1)) →
        0≤(rd u (i:Int)+c+w) % 1000000000∧(rd u (i:Int)+c+w) % 1000000000 < 1000000000∧0≤(rd u (i:Int)+c+w) / 1000000000∧(rd u (i:Int)+c+w) / 1000000000≤1∧D=nv (u.set i ((rd u (i:Int)+c+w) % 1000000000))+LB (i+1) * ((rd u (i:Int)+c+w) / 1000000000+nv (v.drop (i+1))) ∧
        Int.tdiv (rd u (i:Int)+c+w) 1000000000=(rd u (i:Int)+c+w) / 1000000000∧Int.tmod (rd u (i:Int)+c+w) 1000000000=(rd u (i:Int)+c+w) % 1000000000∧wrap64 ((rd u (i:Int)+c+w) / 1000000000)=(rd u (i:Int)+c+w) / 1000000000:=by
      intro w t hw0 hw1 et ew;rw[nv_set u i _ i2,LB_succ,hD,et,← ew];have e:=Int.emod_add_mul_ediv (rd u (i:Int)+c+w) 1000000000;clear hD ih et;refine⟨by omega,by omega,by omega,by omega,by grind,Int.tdiv_eq_ediv_of_nonneg (by omega),Int.tmod_eq_emod_of_nonneg (by omega),wrap64_id (by omega) (by omega)⟩
    rcases i11 with i12|i12
    · have i13:(i:Int) < (v.length:Int):=Int.ofNat_lt.2 i12
      have hs:=hv.rd i3 i13;obtain⟨f1,f2,f3,f4,f5,f6,f7,f8⟩:=key _ _ hs.1 hs.2 (nv_drop i12) rfl;have e1:wrap64 (wrap64 (rd u (i:Int)+c)+rd v (i:Int))=rd u (i:Int)+c+rd v (i:Int):=by
        clear hD key ih f5;rw[wrap64_id (n:=rd u (i:Int)+c) (by omega) (by omega),wrap64_id (by omega) (by omega)]
      obtain⟨c',y,hy,g⟩:=ih (i+1) _ _ i9 (by simpa using hu) (hl.set _ f1 f2) f3 f4 f5
      refine⟨c',y,Tells.up hy (fun k=>?_),g⟩
      simp only[Dzy.l0];rw[if_pos i1,if_pos i3,if_pos i5,if_pos i13,e1,f6,f7,f8,i7,i10]
    · have i13:¬ (i:Int) < (v.length:Int):=by have:=i12;clear hD key ih;omega
      have i14:v.length≤i+1:=Nat.le_succ_of_le i12;obtain⟨f1,f2,f3,f4,f5,f6,f7,f8⟩:=key 0 (nv (v.drop (i+1))) (Int.le_refl _) (by decide) (by rw[nv_drop_all i12,nv_drop_all i14];rfl) rfl
      have e1:wrap64 (rd u (i:Int)+c)=rd u (i:Int)+c+0:=by
        clear hD key ih f5;rw[wrap64_id (by omega) (by omega)];omega
      obtain⟨c',y,hy,g⟩:=ih (i+1) _ _ i9 (by simpa using hu) (hl.set _ f1 f2) f3 f4 f5
      refine⟨c',y,Tells.up hy (fun k=>?_),g⟩
      simp only[Dzy.l0];rw[if_pos i1,if_pos i3,if_pos i5,if_neg i13,e1,f6,f7,f8,i7,i10]
theorem restore_tells {u v:List Int} (hu:Lim u) (hv:Lim v) (hN:u.length≤1000000) (hvN:v.length≤u.length) {D:Int} (hD:nv u+nv v=D+LB u.length) (h0:0≤D) (h1:D < LB u.length) :
    ∃ y:List Int,Tells (fun k=>Dzy.f k u v) y∧Lim y∧y.length=u.length∧nv y=D:=by
  obtain⟨c,y,hy,g0,g1,g2,g3⟩:=restore_loop v hv u.length hN hvN (nv u+nv v) u.length 0 u 0 (by omega) rfl hu (by omega) (by omega) (by rw[LB_zero,List.drop_zero];omega)
  refine⟨y,hy,g1,g2,?_⟩;have h2:=nv_nonneg g1;have h3:=nv_lt g1;rw[g2] at h3;have hp:=LB_pos u.length;rcases (by omega:c=0∨c=1∨2≤c) with h|h|h
  · subst h;rw[Int.mul_zero] at g3;omega
  · subst h;rw[Int.mul_one] at g3;omega
  · have:LB u.length * 2≤LB u.length * c:=Int.mul_le_mul_of_nonneg_left h (by omega)
    omega

theorem dig_lt {Q V R lu P U3 lv V2:Int} (h:Q * V≤R) (hR:R=lu+P * U3) (hV:V=lv+P * V2) (hlv:0≤lv) (hlu:lu < P) (hQ:0≤Q) (hP:0 < P):Q * V2≤U3:=by
  rcases Int.lt_or_le U3 (Q * V2) with h1|h1
  · exfalso
    have h2:P * (U3+1)≤P * (Q * V2):=Int.mul_le_mul_of_nonneg_left h1 (Int.le_of_lt hP);have h3:0≤Q * lv:=Int.mul_nonneg hQ hlv;have h4:Q * V=Q * lv+P * (Q * V2):=by rw[hV];grind
    have h5:P * (U3+1)=P * U3+P:=by grind
    generalize P * (Q * V2)=A at *;generalize P * U3=C at *;generalize Q * lv=D at *;generalize Q * V=F at *;omega
  · exact h1
theorem dig_le {q Q V R lu P U3 lv V2:Int} (h:q * V2≤U3) (hR:R=lu+P * U3) (hV:V=lv+P * V2) (hlv:0≤lv) (hlv1:lv < P) (hlu:0≤lu) (hq:0≤q) (hqB:q≤V2) (hP:0 < P) (hQ:R < (Q+1) * V):q≤Q+1:=by
  rcases Int.lt_or_le (Q+1) q with h1|h1
  · exfalso
    have hV0:0≤V2:=Int.le_trans hq hqB;have hVp:0≤V:=by rw[hV];exact Int.add_nonneg hlv (Int.mul_nonneg (Int.le_of_lt hP) hV0)
    have h2:(Q+2) * V≤q * V:=Int.mul_le_mul_of_nonneg_right (by clear hQ;omega:Q+2≤q) hVp
    have h3:P * (q * V2)≤P * U3:=Int.mul_le_mul_of_nonneg_left h (Int.le_of_lt hP);have h4:q * V=q * lv+P * (q * V2):=by rw[hV];grind
    have h5:q * lv≤V2 * P:=Int.mul_le_mul hqB (Int.le_of_lt hlv1) hlv hV0;have h6:(Q+2) * V=(Q+1) * V+V:=by grind
    have h7:V2 * P=P * V2:=Int.mul_comm _ _;generalize P * (q * V2)=A at *;generalize P * U3=C at *;generalize q * lv=D at *;generalize q * V=F at *;generalize (Q+1) * V=G at *;generalize P * V2=H at *;omega
  · exact h1
/-- What the digit's rounds keep: the head is q v1+r. -/
theorem dig_round {q v1 v2 r u0:Int}:q * (v2+1000000000 * v1)≤u0+1000000000 * (q * v1+r) ↔ q * v2≤r * 1000000000+u0:=by
  have e:q * (v2+1000000000 * v1)=q * v2+1000000000 * (q * v1):=by grind
  rw[e];generalize q * v2=A;generalize q * v1=C;omega
theorem digit_loop (u v:List Int) (p:Nat) (hp:p≤1000) (hu:Lim u) (hv:Lim v) (hul:u.length=p+3) (hvl:v.length=p+2) (Q:Int) (hQ0:0≤Q) (hQB:Q < 1000000000) (hQ1:Q * nv v≤nv u) (hQ2:nv u < (Q+1) * nv v) (hv1:500000000≤rd v ((p+1:Nat):Int)) (m:Nat) :
    ∀ (q r:Int),0≤r→r < 1000000000→(1000000000 - r).toNat≤m→rd u ((p+2:Nat):Int) * 1000000000+rd u ((p+1:Nat):Int)=q * rd v ((p+1:Nat):Int)+r→Q≤q→q≤1000000001 →
      ∃ q',Tells (fun k=>Dzq.l0 k u v ((p+2:Nat):Int) ((p+1:Nat):Int) q r) q'∧Q≤q'∧q'≤Q+1∧q'≤1000000000:=by
  have a1:=hu.rd (i:=((p:Nat):Int)) (by omega) (by omega)
  have a4:=hv.rd (i:=((p:Nat):Int)) (by omega) (by omega)
  have a5:=hv.rd (i:=((p+1:Nat):Int)) (by omega) (by omega)
  have hR:nv u=pv u p+LB p * (rd u ((p:Nat):Int)+1000000000 * (rd u ((p+2:Nat):Int) * 1000000000+rd u ((p+1:Nat):Int))):=by
    rw[nv_split u p (by omega),nv_drop (by omega),nv_drop (by omega),nv_drop (by omega),nv_drop_all (by omega),show((p+1+1:Nat):Int)=((p+2:Nat):Int) from rfl]
    congr 2
    omega
  have hV:nv v=pv v p+LB p * (rd v ((p:Nat):Int)+1000000000 * rd v ((p+1:Nat):Int)):=by
    rw[nv_split v p (by omega),nv_drop (by omega),nv_drop (by omega),nv_drop_all (by omega)]
    congr 2
    omega
  have hP:=LB_pos p;have h1:=pv_lt hu (i:=p) (by omega)
  have h2:=pv_nonneg hu p;have h3:=pv_lt hv (i:=p) (by omega)
  have h4:=pv_nonneg hv p;have hlow:=dig_lt hQ1 hR hV h4 h1 hQ0 hP;have hup:∀ q:Int,q * (rd v ((p:Nat):Int)+1000000000 * rd v ((p+1:Nat):Int))≤rd u ((p:Nat):Int)+1000000000 * (rd u ((p+2:Nat):Int) * 1000000000+rd u ((p+1:Nat):Int))→0≤q→q≤1000000000→q≤Q+1 :=
    fun q h5 h6 h7=>dig_le h5 hR hV h4 h3 h2 h6 (by clear hR hV hQ1 hQ2 hlow h5;omega) hP hQ2
  have hgt:∀ q:Int,rd u ((p:Nat):Int)+1000000000 * (rd u ((p+2:Nat):Int) * 1000000000+rd u ((p+1:Nat):Int)) < q * (rd v ((p:Nat):Int)+1000000000 * rd v ((p+1:Nat):Int))→Q < q:=by
    intro q h5;rcases Int.lt_or_le Q q with h6|h6
    · exact h6
    · have h7:q * (rd v ((p:Nat):Int)+1000000000 * rd v ((p+1:Nat):Int))≤Q * (rd v ((p:Nat):Int)+1000000000 * rd v ((p+1:Nat):Int)):=Int.mul_le_mul_of_nonneg_right h6 (by clear hR hV hQ1 hQ2 hlow h5 hup;omega)
      exact absurd (Int.lt_of_lt_of_le h5 (Int.le_trans h7 hlow)) (Int.lt_irrefl _)
  clear hR hV h1 h2 h3 h4 hP hQ1 hQ2 hlow;have e1:wrap64 (((p+1:Nat):Int) - 1)=(p:Int):=by rw[wrap64_id (by omega) (by omega)];omega
  have e2:wrap64 (((p+2:Nat):Int) - 2)=(p:Int):=by rw[wrap64_id (by omega) (by omega)];omega
  have c1:(0:Int)≤(p:Int):=by omega
  have c2:(p:Int) < (v.length:Int):=by omega
  have c3:(p:Int) < (u.length:Int):=by omega
  have c4:(0:Int)≤((p+1:Nat):Int):=by omega
  have c5:((p+1:Nat):Int) < (v.length:Int):=by omega
  generalize hu0:rd u ((p:Nat):Int)=u0 at *;generalize hv0:rd v ((p:Nat):Int)=v2 at *;generalize hv1':rd v ((p+1:Nat):Int)=v1 at *;generalize hhd:rd u ((p+2:Nat):Int) * 1000000000+rd u ((p+1:Nat):Int)=hd at *;induction m with
  | zero=>intro q r h5 h6 h7;omega
  | succ m ih =>
    intro q r h5 h6 h7 he h8 h9;have hq0:0≤q:=Int.le_trans hQ0 h8;have hw1:wrap64 (q * v2)=q * v2:=by
      have:0≤q * v2:=Int.mul_nonneg hq0 a4.1;have:q * v2≤1000000001 * 1000000000:=Int.mul_le_mul h9 (Int.le_of_lt a4.2) a4.1 (by decide)
      clear he ih hup hgt;exact wrap64_id (by omega) (by omega)
    have hw2:wrap64 (wrap64 (r * 1000000000)+u0)=r * 1000000000+u0:=by
      clear he ih hup hgt;rw[wrap64_id (n:=r * 1000000000) (by omega) (by omega),wrap64_id (by omega) (by omega)]
    have hw3:wrap64 (q - 1)=q - 1:=wrap64_id (by clear he ih hup hgt;omega) (by clear he ih hup hgt;omega)
    have hw4:wrap64 (r+v1)=r+v1:=wrap64_id (by clear he ih hup hgt;omega) (by clear he ih hup hgt;omega)
    have hiff:=dig_round (q:=q) (v1:=v1) (v2:=v2) (r:=r) (u0:=u0);rw[← he] at hiff;have hdown:Q < q→∃ q',Tells (fun k=>Dzq.j1 k u v ((p+2:Nat):Int) ((p+1:Nat):Int) q r true) q'∧Q≤q'∧q'≤Q+1∧q'≤1000000000:=by
      intro hlt;by_cases hbr:r+v1≥1000000000
      · refine⟨q - 1,Tells.up (g:=fun _=>some (q - 1)) (Tells.const _) (fun k=>?_),by clear he ih hup hgt hiff;omega,hup (q - 1) ?_ (by clear he ih hup hgt hiff;omega) (by clear he ih hup hgt hiff;omega),by clear he ih hup hgt hiff;omega⟩
        · simp only[Dzq.j1]
          rw[if_pos trivial,if_pos c4,if_pos c5,hv1',hw4,if_pos hbr,hw3]
        · have he':hd=(q - 1) * v1+(r+v1):=by rw[he];grind
          rw[he'];refine dig_round.2 ?_;have g1:(q - 1) * v2≤1000000000 * 999999999:=Int.mul_le_mul (by clear he ih hup hgt hiff he';omega) (by clear he ih hup hgt hiff he';omega) a4.1 (by decide)
          clear he ih hup hgt hiff he';generalize (q - 1) * v2=A at *;omega
      · have hnb:r+v1 < 1000000000:=Int.not_le.1 hbr
        obtain⟨q',hq',g⟩:=ih (q - 1) (r+v1) (by clear he ih hup hgt hiff;omega) hnb (by clear he ih hup hgt hiff;omega) (by rw[he];grind) (by clear he ih hup hgt hiff;omega) (by clear he ih hup hgt hiff;omega)
        refine⟨q',Tells.up hq' (fun k=>?_),g⟩
        simp only[Dzq.j1];rw[if_pos trivial,if_pos c4,if_pos c5,hv1',hw4,if_neg hbr,hw3]
    by_cases hB:q≥1000000000
    · obtain⟨q',hq',g⟩:=hdown (by clear he ih hup hgt hiff;omega)
      refine⟨q',Tells.up hq' (fun k=>?_),g⟩
      simp only[Dzq.l0];rw[if_pos hB]
    · by_cases ht:q * v2 > r * 1000000000+u0
      · obtain⟨q',hq',g⟩:=hdown (hgt q (by
          rcases Int.lt_or_le (u0+1000000000 * hd) (q * (v2+1000000000 * v1)) with h|h
          · exact h
          · exact absurd (hiff.1 h) (Int.not_le.2 ht)))
        refine⟨q',Tells.up hq' (fun k=>?_),g⟩
        simp only[Dzq.l0];rw[if_neg hB,e1,e2,if_pos c1,if_pos c2,if_pos c1,if_pos c3,hu0,hv0,hw1,hw2,decide_eq_true ht]
      · refine⟨q,Tells.up (g:=fun k=>Dzq.j1 k u v ((p+2:Nat):Int) ((p+1:Nat):Int) q r false) (Tells.up (g:=fun _=>some q) (Tells.const _) (fun k=>by simp [Dzq.j1])) (fun k=>?_),h8,hup q (hiff.2 (Int.not_lt.1 ht)) hq0 (by clear he ih hup hgt hiff ht;omega),by clear he ih hup hgt hiff ht;omega⟩
        simp only[Dzq.l0];rw[if_neg hB,e1,e2,if_pos c1,if_pos c2,if_pos c1,if_pos c3,hu0,hv0,hw1,hw2,decide_eq_false ht]
theorem digit_tells {u v:List Int} {p:Nat} (hp:p≤1000) (hu:Lim u) (hv:Lim v) (hul:u.length=p+3) (hvl:v.length=p+2) {Q:Int} (hQ0:0≤Q) (hQB:Q < 1000000000) (hQ1:Q * nv v≤nv u) (hQ2:nv u < (Q+1) * nv v) (hv1:500000000≤rd v ((p+1:Nat):Int)) :
    ∃ q',Tells (fun k=>Dzq.f k u v) q'∧Q≤q'∧q'≤Q+1∧q'≤1000000000:=by
  have a2:=hu.rd (i:=((p+1:Nat):Int)) (by omega) (by omega)
  have a3:=hu.rd (i:=((p+2:Nat):Int)) (by omega) (by omega)
  have a4:=hv.rd (i:=((p:Nat):Int)) (by omega) (by omega)
  have a5:=hv.rd (i:=((p+1:Nat):Int)) (by omega) (by omega)
  have htop:rd u ((p+2:Nat):Int)≤rd v ((p+1:Nat):Int):=by
    have h1:nv u=pv u (p+2)+LB (p+2) * rd u ((p+2:Nat):Int):=by rw[← pv_succ (by omega),pv_all (by omega)]
    have h2:nv v=pv v (p+1)+LB (p+1) * rd v ((p+1:Nat):Int):=by rw[← pv_succ (by omega),pv_all (by omega)]
    have h3:=pv_lt hv (i:=p+1) (by omega)
    have h4:=pv_nonneg hu (p+2);have h5:(Q+1) * nv v≤1000000000 * nv v:=Int.mul_le_mul_of_nonneg_right hQB (nv_nonneg hv);rcases Int.lt_or_le (rd v ((p+1:Nat):Int)) (rd u ((p+2:Nat):Int)) with h|h
    · exfalso
      have h6:LB (p+2) * (rd v ((p+1:Nat):Int)+1)≤LB (p+2) * rd u ((p+2:Nat):Int):=Int.mul_le_mul_of_nonneg_left h (Int.le_of_lt (LB_pos _));rw[LB_succ (p+1)] at h6 h1;have h7:1000000000 * LB (p+1) * (rd v ((p+1:Nat):Int)+1)=1000000000 * (LB (p+1) * rd v ((p+1:Nat):Int))+1000000000 * LB (p+1):=by grind
      rw[h7] at h6;generalize 1000000000 * LB (p+1) * rd u ((p+2:Nat):Int)=A at *;generalize LB (p+1) * rd v ((p+1:Nat):Int)=C at *;generalize (Q+1) * nv v=D at *;clear hQ1;omega
    · exact h
  generalize hx:rd u ((p+2:Nat):Int) * 1000000000+rd u ((p+1:Nat):Int)=hd;have hhd0:0≤hd∧hd≤999999999 * 1000000000+999999999:=by clear hQ1 hQ2;omega
  have hv1p:(0:Int) < rd v ((p+1:Nat):Int):=by clear hQ1 hQ2;omega
  have hq:hd / rd v ((p+1:Nat):Int)≤1000000001:=by
    have h1:hd < 1000000002 * rd v ((p+1:Nat):Int):=by clear hQ1 hQ2;omega
    have:=Int.ediv_lt_of_lt_mul hv1p h1;clear hQ1 hQ2;omega
  have hr0:=Int.emod_nonneg hd (show rd v ((p+1:Nat):Int)≠0 by clear hQ1 hQ2;omega)
  have hr1:=Int.emod_lt_of_pos hd hv1p;have hdm:=Int.emod_add_mul_ediv hd (rd v ((p+1:Nat):Int));have hq1:Q≤hd / rd v ((p+1:Nat):Int):=by
    rw[Int.le_ediv_iff_mul_le hv1p];have hR:nv u=pv u (p+1)+LB (p+1) * hd:=by
      rw[nv_split u (p+1) (by omega),nv_drop (by omega),nv_drop (by omega),nv_drop_all (by omega),← hx,show((p+1+1:Nat):Int)=((p+2:Nat):Int) from rfl]
      congr 2
      clear hQ1 hQ2 hdm;omega
    have hV:nv v=pv v (p+1)+LB (p+1) * rd v ((p+1:Nat):Int):=by rw[← pv_succ (by omega),pv_all (by omega)]
    exact dig_lt hQ1 hR hV (pv_nonneg hv _) (pv_lt hu (by omega)) hQ0 (LB_pos _)
  obtain⟨q',hq',g⟩:=digit_loop u v p hp hu hv hul hvl Q hQ0 hQB hQ1 hQ2 hv1 1000000000 (hd / rd v ((p+1:Nat):Int)) (hd % rd v ((p+1:Nat):Int)) hr0 (by clear hQ1 hQ2 hdm;omega) (by clear hQ1 hQ2 hdm;omega) (by rw[hx,Int.mul_comm];exact(Int.add_comm _ _ ▸ hdm).symm) hq1 hq
  refine⟨q',?_,g⟩;unfold Dzq.f;have w1:wrap64 ((u.length:Int) - 1)=((p+2:Nat):Int):=by rw[wrap64_id (by omega) (by omega)];omega
  have w2:wrap64 (((p+2:Nat):Int) - 1)=((p+1:Nat):Int):=by rw[wrap64_id (by omega) (by omega)];omega
  have w3:wrap64 ((v.length:Int) - 1)=((p+1:Nat):Int):=by rw[wrap64_id (by omega) (by omega)];omega
  have w4:wrap64 (wrap64 (rd u ((p+2:Nat):Int) * 1000000000)+rd u ((p+1:Nat):Int))=hd:=by
    clear hQ1 hQ2 hdm;rw[wrap64_id (n:=rd u ((p+2:Nat):Int) * 1000000000) (by omega) (by omega),hx]
    exact wrap64_id (by omega) (by omega)
  have w5:Int.tdiv hd (rd v ((p+1:Nat):Int))=hd / rd v ((p+1:Nat):Int):=Int.tdiv_eq_ediv_of_nonneg hhd0.1;have w6:Int.tmod hd (rd v ((p+1:Nat):Int))=hd % rd v ((p+1:Nat):Int):=Int.tmod_eq_emod_of_nonneg hhd0.1;have w7:wrap64 (hd / rd v ((p+1:Nat):Int))=hd / rd v ((p+1:Nat):Int):=by
    have:=Int.le_trans hQ0 hq1;clear hQ1 hQ2 hdm;exact wrap64_id (by omega) (by omega)
  refine hq'.congr (fun k=>?_)
  rw[w1,w2,w3,w4,w5,w6,w7];rw[if_pos (by omega),if_pos (by omega),if_pos (by omega),if_pos (by omega),if_pos (by omega),if_pos (by omega),if_neg (by clear hQ1 hQ2 hdm;omega)]

theorem win_parts (U y:List Int) (i n:Nat) (hn:y.length=n) (hi:i+n≤U.length) :
    (U.take i ++ y ++ U.drop (i+n)).length=U.length∧((U.take i ++ y ++ U.drop (i+n)).take (i+n)).drop i=y∧(U.take i ++ y ++ U.drop (i+n)).take i=U.take i∧(U.take i ++ y ++ U.drop (i+n)).drop (i+n)=U.drop (i+n)∧∀ m,m≤n→(U.take i ++ y ++ U.drop (i+n)).take (i+m)=U.take i ++ y.take m:=by
  have h1:(U.take i).length=i:=by rw[List.length_take];omega
  have h2:(U.take i ++ y).length=i+n:=by rw[List.length_append,h1,hn]
  refine⟨by rw[List.length_append,h2,List.length_drop];omega,?_,?_,?_,fun m hm=>?_⟩
  · rw[List.take_append_of_le_length (by omega),List.take_of_length_le (by omega),List.drop_append_of_le_length (by omega),List.drop_of_length_le (by omega),List.nil_append]
  · rw[List.append_assoc,List.take_append_of_le_length (by omega),List.take_of_length_le (by omega)]
  · rw[List.drop_append,h2,Nat.sub_self,List.drop_zero,List.drop_of_length_le (by omega),List.nil_append]
  · rw[List.append_assoc,List.take_append,h1,List.take_of_length_le (by omega),show i+m - i=m by omega,List.take_append_of_le_length (by omega)]
/-- What one round of the division leaves. -/
structure Rnd (U V:List Int) (p i:Nat) (U':List Int) (Q:Int):Prop where
  lim:Lim U'
  len:U'.length=U.length
  q0:0≤Q
  q1:Q < 1000000000
  val:pv U (i+(p+3))=pv U' (i+(p+2))+LB i * (Q * nv V)
  lt:pv U' (i+(p+2)) < nv V * LB i
theorem div_round {U V:List Int} {p i:Nat} (hp:p≤1000) (hU:Lim U) (hV:Lim V) (hVl:V.length=p+2) (hi:i+(p+3)≤U.length) (hUn:U.length≤100000) (hv1:500000000≤rd V ((p+1:Nat):Int)) (hlt:pv U (i+(p+3)) < nv V * LB (i+1)) :
    ∃ (b:Bool) (q:Int) (U1:List Int),Tells (fun k=>Dzq.f k ((U.take (i+(p+3))).drop i) V) q∧0≤q∧q≤1000000000∧Tells (fun k=>Fzb.f k U (i:Int) ((i+(p+3):Nat):Int) V q) (b,U1) ∧
      (b=false→Rnd U V p i U1 q)∧(b=true→∃ U2,Tells (fun k=>Fzp.f k U1 (i:Int) ((i+(p+3):Nat):Int) V) U2∧Rnd U V p i U2 (q - 1)):=by
  have hWl:((U.take (i+(p+3))).drop i).length=p+3:=by rw[List.length_drop,List.length_take];omega
  have hWL:Lim ((U.take (i+(p+3))).drop i):=(hU.take _).drop _;have hsp:pv U (i+(p+3))=pv U i+LB i * nv ((U.take (i+(p+3))).drop i):=by
    have h:=nv_split (U.take (i+(p+3))) i (by rw[List.length_take];omega)
    unfold pv at h ⊢;rw[h,List.take_take,Nat.min_eq_left (by omega)]
  generalize hW:(U.take (i+(p+3))).drop i=W at *;have c1:(0:Int)≤(i:Int)∧(i:Int) < ((i+(p+3):Nat):Int)∧((i+(p+3):Nat):Int)≤(U.length:Int):=by omega
  have c2:((i+(p+3):Nat):Int).toNat=i+(p+3):=by omega
  have c3:((i:Int)).toNat=i:=by omega
  have hPi:=LB_pos i;have hVp:0 < nv V:=by
    have h1:nv V=pv V (p+1)+LB (p+1) * rd V ((p+1:Nat):Int):=by rw[← pv_succ (by omega),pv_all (by omega)]
    have h2:=pv_nonneg hV (p+1);have h3:LB (p+1) * 500000000≤LB (p+1) * rd V ((p+1:Nat):Int):=Int.mul_le_mul_of_nonneg_left hv1 (Int.le_of_lt (LB_pos _));have h4:=LB_pos (p+1);clear hsp hlt;generalize LB (p+1) * rd V ((p+1:Nat):Int)=A at *;omega
  have hVlt:nv V < LB (p+2):=by have:=nv_lt hV;rwa [hVl] at this
  have hRlt:nv W < 1000000000 * nv V:=by
    rcases Int.lt_or_le (nv W) (1000000000 * nv V) with h|h
    · exact h
    · exfalso
      have h1:LB i * (1000000000 * nv V)≤LB i * nv W:=Int.mul_le_mul_of_nonneg_left h (Int.le_of_lt hPi);have h2:nv V * LB (i+1)=LB i * (1000000000 * nv V):=by rw[LB_succ];grind
      have h3:=pv_nonneg hU i;rw[hsp,h2] at hlt;generalize LB i * (1000000000 * nv V)=A at *;generalize LB i * nv W=C at *;omega
  have hR0:=nv_nonneg hWL;have hrho0:=Int.emod_nonneg (nv W) (Int.ne_of_gt hVp);have hrho1:=Int.emod_lt_of_pos (nv W) hVp;have hdm:=Int.emod_add_mul_ediv (nv W) (nv V);have hQ0:0≤nv W / nv V:=Int.ediv_nonneg hR0 (Int.le_of_lt hVp);have hQ1:nv W / nv V < 1000000000:=Int.ediv_lt_of_lt_mul hVp hRlt;generalize nv W / nv V=Q at *;generalize nv W % nv V=rho at *;have hQV:nv V * Q=Q * nv V:=Int.mul_comm _ _;have e1:(Q+1) * nv V=Q * nv V+nv V:=by rw[Int.add_mul,Int.one_mul]
  obtain⟨q,hq,g1,g2,g3⟩:=digit_tells (u:=W) (v:=V) hp hWL hV hWl hVl hQ0 hQ1 (by rw[hQV] at hdm;clear hsp hlt e1;omega) (by rw[hQV] at hdm;clear hsp hlt;omega) hv1
  have hLB3:LB (p+3)=1000000000 * LB (p+2):=LB_succ (p+2);have good:∀ y:List Int,Lim y→y.length=p+3→nv y=rho→Rnd U V p i (U.take i ++ y ++ U.drop (i+(p+3))) Q:=by
    intro y hy hyl hyv;obtain⟨w1,_,_,_,w5⟩:=win_parts U y i (p+3) hyl hi;have hyt:nv (y.take (p+2))=rho:=by
      have h1:nv y=pv y (p+2)+LB (p+2) * rd y ((p+2:Nat):Int):=by rw[← pv_succ (by omega),pv_all (by omega)]
      have h2:=hy.rd (i:=((p+2:Nat):Int)) (by omega) (by omega)
      have h3:=pv_nonneg hy (p+2);have h4:rd y ((p+2:Nat):Int)=0:=by
        rcases Int.lt_or_le 0 (rd y ((p+2:Nat):Int)) with h|h
        · exfalso
          have h5:LB (p+2) * 1≤LB (p+2) * rd y ((p+2:Nat):Int):=Int.mul_le_mul_of_nonneg_left h (Int.le_of_lt (LB_pos _));rw[Int.mul_one] at h5;clear hsp hlt hdm;generalize LB (p+2) * rd y ((p+2:Nat):Int)=A at *;omega
        · clear hsp hlt hdm h1;omega
      rw[h4,Int.mul_zero,Int.add_zero] at h1;rw[← hyv,h1];rfl
    have hpv:pv (U.take i ++ y ++ U.drop (i+(p+3))) (i+(p+2))=pv U i+LB i * rho:=by
      have hl:(U.take i).length=i:=by rw[List.length_take];omega
      unfold pv;rw[w5 (p+2) (by omega),nv_append,hyt,hl]
    refine⟨((hU.take i).append hy).append (hU.drop _),w1,hQ0,hQ1,?_,?_⟩
    · rw[hpv,hsp,← hdm];grind
    · rw[hpv]
      have h1:=pv_lt hU (i:=i) (by omega)
      have h2:LB i * (rho+1)≤LB i * nv V:=Int.mul_le_mul_of_nonneg_left hrho1 (Int.le_of_lt hPi);rw[Int.mul_add,Int.mul_one] at h2;rw[Int.mul_comm (nv V)];clear hsp hlt hdm;generalize LB i * rho=A at *;generalize LB i * nv V=C at *;omega
  have hqc:q=Q∨q=Q+1:=by clear hsp hlt hdm e1;omega
  have hdiff:nv W - q * nv V=rho∧q=Q∨nv W - q * nv V=rho - nv V∧q=Q+1:=by
    rcases hqc with h|h
    · left;refine⟨?_,h⟩;rw[h,← hdm,hQV];exact Int.add_sub_cancel _ _
    · right;refine⟨?_,h⟩;rw[h,← hdm,hQV,e1];clear hsp hlt hdm;omega
  obtain⟨b,y,hy,k1,k2,k3,k4⟩:=reduce_tells (u:=W) (v:=V) hWL hV (by omega) (by omega) (q:=q) (by clear hsp hlt hdm e1;omega) g3 (by
    rw[hWl,hLB3];have:=LB_pos (p+2);clear hsp hlt hdm e1 hq;rcases hdiff with h|h <;> omega)
  rw[hWl] at k2 k4;refine⟨b,q,U.take i ++ y ++ U.drop (i+(p+3)),hq,by clear hsp hlt hdm e1;omega,g3,?_,fun hb=>?_,fun hb=>?_⟩
  · unfold Fzb.f
    refine Tells.pos c1 ?_;rw[c2,c3,hW];exact hy.bind (Tells.const _)
  · subst hb
    rw[if_neg (by decide),Int.add_zero] at k4
    rcases hdiff with h|h
    · rw[h.2];exact good y k1 k2 (by rw[k4,h.1])
    · exfalso
      have h5:=k3.2 (by clear hsp hlt hdm e1;omega)
      cases h5
  · subst hb
    rw[if_pos rfl] at k4;have hneg:=k3.1 rfl;rcases hdiff with h|h
    · exfalso;clear hsp hlt hdm e1;omega
    · obtain⟨y2,hy2,m1,m2,m3⟩:=restore_tells (u:=y) (v:=V) k1 hV (by omega) (by omega) (D:=rho) (by rw[k4,h.1,k2];clear hsp hlt hdm e1;omega) hrho0 (by rw[k2,hLB3];clear hsp hlt hdm e1;omega)
      obtain⟨w1,w2,w3,w4,_⟩:=win_parts U y i (p+3) k2 hi;rw[k2] at m2;refine⟨U.take i ++ y2 ++ U.drop (i+(p+3)),?_,?_⟩
      · unfold Fzp.f
        refine Tells.pos (by rw[w1];exact c1) ?_
        rw[c2,c3,w2,w3,w4];exact hy2.bind (Tells.const _)
      · rw[show q - 1=Q by rw[h.2];clear hsp hlt hdm e1;omega]
        exact good y2 m1 m2 m3
theorem divide_loop {V:List Int} {p:Nat} (hp:p≤1000) (hV:Lim V) (hVl:V.length=p+2) (hv1:500000000≤rd V ((p+1:Nat):Int)) (m:Int) (hm0:0 < m) (hm:m < 1000000000) (A X r:Int) (N:Nat) (hN:N≤100000) (hrest:∀ (o w:Int),A=o * nv V+w→0≤w→w < nv V→w / m=r∧o=X) (j:Nat) :
    ∀ (U out:List Int),j+(p+2)≤N→U.length=N→Lim U→Lim out→j≤out.length→out.length≤N→(∀ i:Nat,i < j→rd out (i:Int)=0)→A=nv out * nv V+pv U (j+(p+2))→pv U (j+(p+2)) < nv V * LB j →
      Tells (fun k=>Czb.l0 k m U V ((p+2:Nat):Int) out ((j:Int) - 1)) (dg X,dg r):=by
  induction j with
  | zero =>
    intro U out h1 hUl hU hout _ hol _;have c1:((p+2:Nat):Int).toNat=p+2:=by omega
    have c2:(0:Int)≤((p+2:Nat):Int):=by omega
    have c3:((p+2:Nat):Int)≤(U.length:Int):=by omega
    have c4:(U.take (p+2)).length < 4611686018427387904:=by rw[List.length_take];omega
    have c5:out.length < 4611686018427387904:=by omega
    have c6:(trim (U.take (p+2))).length≤1000000:=by
      have h:=len_le (can_dg (nv (U.take (p+2)))) (n:=p+2) (by rw[nv_dg (nv_nonneg (hU.take _))];exact pv_lt hU (by omega))
      have:(trim (U.take (p+2))).length≤p+2:=h;omega
    intro hA hlt;rw[Nat.zero_add] at hA hlt;rw[LB_zero,Int.mul_one] at hlt;obtain⟨e1,e2⟩:=hrest _ _ hA (pv_nonneg hU _) hlt;refine Tells.up (g:=fun k=>(Bzp.f k (U.take (p+2))).bind fun t=>((Dzw.f k t m).bind fun bt=>((Bzp.f k out).bind fun t'=>(some (t',bt.1))))) ?_ (fun k=>?_)
    · refine(trimmed_tells (hU.take _) c4).bind ?_
      refine(short_tells (can_dg _).1 c6 hm0 hm).bind ?_;refine(trimmed_tells hout c5).bind ?_;have h1:nv (trim (U.take (p+2))) / m=r:=by rw[nv_trim (hU.take _)];exact e1
      rw[← e2,← h1];exact Tells.const _
    · simp only[Czb.l0]
      rw[if_neg (by decide),if_pos c2,if_pos c3,c1]
  | succ j ih =>
    intro U out h1 hUl hU hout hjo hol hz;have c0:((j+1:Nat):Int) - 1=(j:Int):=by omega
    have c1:(0:Int)≤(j:Int):=by omega
    have c2:wrap64 (wrap64 ((j:Int)+((p+2:Nat):Int))+1)=((j+(p+3):Nat):Int):=by rw[wrap64_id (n:=(j:Int)+((p+2:Nat):Int)) (by omega) (by omega),wrap64_id (by omega) (by omega)];omega
    have c3:(j:Int)≤((j+(p+3):Nat):Int):=by omega
    have c4:((j+(p+3):Nat):Int)≤(U.length:Int):=by omega
    have c5:((j+(p+3):Nat):Int).toNat=j+(p+3):=by omega
    have c6:((j:Int)).toNat=j:=by omega
    have c7:(j:Int) < (out.length:Int):=by omega
    have c8:j < out.length:=by omega
    have c9:wrap64 ((j:Int) - 1)=(j:Int) - 1:=wrap64_id (by omega) (by omega)
    have c10:j+(p+3)≤U.length:=by omega
    have c11:j+1+(p+2)=j+(p+3):=by omega
    have c12:j+(p+2)≤N:=by omega
    have c13:∀ i:Nat,i < j→¬ (j=i)∧i < out.length∧i < j+1:=fun i hi=>by omega
    have c14:U.length≤100000:=by omega
    intro hA hlt;rw[c11] at hA hlt;obtain⟨b,q,U1,hd,hq0,hq1,hr,hf,ht⟩:=div_round hp hU hV hVl c10 c14 hv1 hlt;have next:∀ (U':List Int) (Q:Int),Rnd U V p j U' Q→Tells (fun k=>Czb.l0 k m U' V ((p+2:Nat):Int) (out.set j Q) ((j:Int) - 1)) (dg X,dg r):=by
      intro U' Q R;refine ih U' (out.set j Q) c12 (R.len.trans hUl) R.lim (hout.set j R.q0 R.q1) (by rw[List.length_set];exact Nat.le_of_lt c8) (by rw[List.length_set];exact hol) (fun i hi=>?_) ?_ R.lt
      · rw[rd_set out _ i _ (c13 i hi).2.1,if_neg (c13 i hi).1];exact hz i (c13 i hi).2.2
      · rw[nv_set out j Q c8,hz j (Nat.lt_succ_self j),Int.sub_zero,hA,R.val];grind
    rw[c0];cases b with
    | false =>
      refine Tells.up (g:=fun k=>(Dzq.f k ((U.take (j+(p+3))).drop j) V).bind fun t=>((Fzb.f k U (j:Int) ((j+(p+3):Nat):Int) V t).bind fun bt=>(if bt.1=true then((Fzp.f k bt.2 (j:Int) ((j+(p+3):Nat):Int) V).bind fun t2=>(if(j:Int) < (out.length:Int) then(Czb.l0 k m t2 V ((p+2:Nat):Int) (out.set j (wrap64 (t - 1))) ((j:Int) - 1)) else(none))) else(if(j:Int) < (out.length:Int) then(Czb.l0 k m bt.2 V ((p+2:Nat):Int) (out.set j t) ((j:Int) - 1)) else(none))))) ?_ (fun k=>?_)
      · refine hd.bind (hr.bind ?_)
        refine Tells.neg (by simp) (Tells.pos c7 ?_)
        exact next U1 q (hf rfl)
      · simp only[Czb.l0]
        rw[if_pos c1,if_pos c1,c2,if_pos c3,if_pos c4,c5,c6,c9]
    | true =>
      obtain⟨U2,hr2,R2⟩:=ht rfl;refine Tells.up (g:=fun k=>(Dzq.f k ((U.take (j+(p+3))).drop j) V).bind fun t=>((Fzb.f k U (j:Int) ((j+(p+3):Nat):Int) V t).bind fun bt=>(if bt.1=true then((Fzp.f k bt.2 (j:Int) ((j+(p+3):Nat):Int) V).bind fun t2=>(if(j:Int) < (out.length:Int) then(Czb.l0 k m t2 V ((p+2:Nat):Int) (out.set j (wrap64 (t - 1))) ((j:Int) - 1)) else(none))) else(if(j:Int) < (out.length:Int) then(Czb.l0 k m bt.2 V ((p+2:Nat):Int) (out.set j t) ((j:Int) - 1)) else(none))))) ?_ (fun k=>?_)
      · refine hd.bind (hr.bind ?_)
        refine Tells.pos rfl (hr2.bind (Tells.pos c7 ?_));have hw:wrap64 (q - 1)=q - 1:=by clear hA hlt;exact wrap64_id (by omega) (by omega)
        rw[hw];exact next U2 (q - 1) R2
      · simp only[Czb.l0]
        rw[if_pos c1,if_pos c1,c2,if_pos c3,if_pos c4,c5,c6,c9]

theorem norm_top {t m:Int} (ht:1≤t) (ht1:t < 1000000000) (hm:m=1000000000 / (t+1)):1≤m∧m < 1000000000∧(t+1) * m≤1000000000∧500000000≤t * m:=by
  have h1:=Int.emod_add_mul_ediv 1000000000 (t+1);have h2:=Int.emod_nonneg 1000000000 (show t+1≠0 by omega)
  have h3:=Int.emod_lt_of_pos 1000000000 (show 0 < t+1 by omega)
  rw[← hm] at h1;have hm1:1≤m:=by rw[hm,Int.le_ediv_iff_mul_le (by omega)];omega
  have hm2:m < 1000000000:=by rw[hm];exact Int.ediv_lt_of_lt_mul (by omega) (by omega)
  have e:(t+1) * m=t * m+m:=by rw[Int.add_mul,Int.one_mul]
  refine⟨hm1,hm2,by omega,?_⟩
  by_cases c1:500000000≤t
  · have:t * 1≤t * m:=Int.mul_le_mul_of_nonneg_left hm1 (by omega)
    omega
  · by_cases c2:t=1
    · subst c2;rw[Int.one_mul] at *;omega
    · by_cases c3:m≤2
      · have h4:m=1∨m=2:=by omega
        rcases h4 with h|h
        · subst h;omega
        · subst h;omega
      · have h5:0≤(t+1 - 3) * (m - 3):=Int.mul_nonneg (by omega) (by omega)
        have h6:(t+1 - 3) * (m - 3)=(t+1) * m - 3 * (t+1) - 3 * m+9:=by grind
        rw[h6] at h5;omega
theorem divide_tells {a b:List Int} (ha:Can a) (hb:Can b) (hal:a.length≤1000) (hbl:2≤b.length) (hle:nv b≤nv a):Tells (fun k=>Czb.f k a b) (dg (nv a / nv b),dg (nv a % nv b)):=by
  obtain⟨p,hp⟩:∃ p,b.length=p+2:=⟨b.length - 2,by omega⟩
  have hlen:b.length≤a.length:=by
    rcases Nat.lt_or_ge a.length b.length with h|h
    · exact absurd (len_lt_val ha hb h) (Int.not_lt.2 hle)
    · exact h
  have ht0:=hb.1.rd (i:=((p+1:Nat):Int)) (by omega) (by omega)
  have ht1:rd b ((p+1:Nat):Int)≠0:=by
    rcases hb.2 with h|h
    · rw[h] at hp;simp at hp
    · rwa [hp,show((p+2:Nat):Int) - 1=((p+1:Nat):Int) by omega] at h
  have w1:wrap64 ((b.length:Int) - 1)=((p+1:Nat):Int):=by rw[wrap64_id (by omega) (by omega)];omega
  have w2:wrap64 (rd b ((p+1:Nat):Int)+1)=rd b ((p+1:Nat):Int)+1:=wrap64_id (by omega) (by omega)
  have w3:Int.tdiv (1000000000:Int) (rd b ((p+1:Nat):Int)+1)=1000000000 / (rd b ((p+1:Nat):Int)+1):=Int.tdiv_eq_ediv_of_nonneg (by omega)
  have w5:wrap64 (wrap64 ((a.length:Int) - (b.length:Int))+1)=((a.length - b.length+1:Nat):Int):=by rw[wrap64_id (n:=(a.length:Int) - (b.length:Int)) (by omega) (by omega),wrap64_id (by omega) (by omega)];omega
  have w6:((a.length - b.length+1:Nat):Int).toNat=a.length - b.length+1:=by omega
  have w7:wrap64 ((((List.replicate (a.length - b.length+1) (0:Int)).length:Nat):Int) - 1)=((a.length - b.length+1:Nat):Int) - 1:=by rw[List.length_replicate];exact wrap64_id (by omega) (by omega)
  have w8:(b.length:Int)=((p+2:Nat):Int):=by omega
  have w9:((b.length:Int)).toNat=p+2:=by omega
  have c1:rd b ((p+1:Nat):Int)+1≠0:=by omega
  have c2:(0:Int)≤((p+1:Nat):Int)∧((p+1:Nat):Int) < (b.length:Int):=by omega
  have c3:(0:Int)≤(b.length:Int):=by omega
  have c4:(0:Int)≤((a.length - b.length+1:Nat):Int):=by omega
  have c5:a.length - b.length+1≤35184372088832:=by omega
  have c6:a.length - b.length+1+(p+2)=a.length+1:=by omega
  have c7:p≤1000:=by omega
  have c8:a.length - b.length+1+(b.length - 1)=a.length:=by omega
  have c9:b.length - 1=p+1:=by omega
  obtain⟨hm1,hm2,hm3,hm4⟩:=norm_top (t:=rd b ((p+1:Nat):Int)) (by omega) ht0.2 rfl
  generalize hmd:(1000000000:Int) / (rd b ((p+1:Nat):Int)+1)=m at *;obtain⟨U,hU,u1,u2,u3⟩:=scaled_tells ha.1 (by omega) (m:=m) (by omega) hm2
  obtain⟨y,hy,y1,y2,y3⟩:=scaled_tells hb.1 (by omega) (m:=m) (by omega) hm2
  have c10:(b.length:Int)≤(y.length:Int):=by omega
  have c11:(y.take (p+2)).length=p+2:=by rw[List.length_take];omega
  have c12:p+2 < y.length:=by omega
  have c13:p+1 < (y.take (p+2)).length:=by omega
  have hP1:=LB_pos (p+1);have hbv:nv b=pv b (p+1)+LB (p+1) * rd b ((p+1:Nat):Int):=by rw[← pv_succ (by omega),pv_all (by omega)]
  have hb1:=pv_lt hb.1 (i:=p+1) (by omega)
  have hb2:=pv_nonneg hb.1 (p+1);have hbge:=nv_ge hb (by omega)
  have halt:=nv_lt ha.1;have hyall:nv y=pv y (p+2)+LB (p+2) * rd y ((p+2:Nat):Int):=by rw[← pv_succ c12,pv_all (by omega)]
  have hytop:=y1.rd (i:=((p+2:Nat):Int)) (by omega) (by omega)
  have hylow:=pv_nonneg y1 (p+2);have hd0:(LB (p+1) * (rd b ((p+1:Nat):Int)+1)) * m≤LB (p+1) * 1000000000:=by
    rw[Int.mul_assoc];exact Int.mul_le_mul_of_nonneg_left hm3 (Int.le_of_lt hP1)
  have hd1:nv b * m < (LB (p+1) * (rd b ((p+1:Nat):Int)+1)) * m:=by
    refine Int.mul_lt_mul_of_pos_right ?_ (by omega)
    rw[hbv,Int.mul_add,Int.mul_one];clear hyall hd0;generalize LB (p+1) * rd b ((p+1:Nat):Int)=A;omega
  have hLB:LB (p+2)=1000000000 * LB (p+1):=LB_succ (p+1);have hV:nv (y.take (p+2))=nv b * m:=by
    have h4:rd y ((p+2:Nat):Int)=0:=by
      rcases Int.lt_or_le 0 (rd y ((p+2:Nat):Int)) with h|h
      · exfalso
        have h5:LB (p+2) * 1≤LB (p+2) * rd y ((p+2:Nat):Int):=Int.mul_le_mul_of_nonneg_left h (Int.le_of_lt (LB_pos _));rw[Int.mul_one] at h5;rw[y3] at hyall;clear hbv;generalize LB (p+2) * rd y ((p+2:Nat):Int)=A at *;generalize (LB (p+1) * (rd b ((p+1:Nat):Int)+1)) * m=C at *;generalize nv b * m=D at *;omega
      · exact Int.le_antisymm h hytop.1
    rw[h4,Int.mul_zero,Int.add_zero,y3] at hyall;exact hyall.symm
  have hVL:Lim (y.take (p+2)):=y1.take _;have hv1:500000000≤rd (y.take (p+2)) ((p+1:Nat):Int):=by
    have h1:nv (y.take (p+2))=pv (y.take (p+2)) (p+1)+LB (p+1) * rd (y.take (p+2)) ((p+1:Nat):Int):=by rw[← pv_succ c13,pv_all (by omega)]
    have h2:=pv_lt hVL (i:=p+1) (by omega)
    rcases Int.lt_or_le (rd (y.take (p+2)) ((p+1:Nat):Int)) 500000000 with h|h
    · exfalso
      have h3:LB (p+1) * (rd (y.take (p+2)) ((p+1:Nat):Int)+1)≤LB (p+1) * (rd b ((p+1:Nat):Int) * m):=Int.mul_le_mul_of_nonneg_left (by omega) (Int.le_of_lt hP1)
      have h4:LB (p+1) * rd b ((p+1:Nat):Int) * m≤nv b * m:=Int.mul_le_mul_of_nonneg_right (by rw[hbv];omega) (by omega)
      rw[Int.mul_add,Int.mul_one] at h3;rw[Int.mul_assoc] at h4;rw[hV] at h1;clear hbv hyall hd0 hd1;generalize LB (p+1) * (rd b ((p+1:Nat):Int) * m)=A at *;generalize LB (p+1) * rd (y.take (p+2)) ((p+1:Nat):Int)=C at *;omega
    · exact h
  have hbp:0 < nv b:=nv_pos hb (by omega)
  have hlt:nv a * m < nv b * m * LB (a.length - b.length+1):=by
    have h1:LB a.length=LB (a.length - b.length+1) * LB (b.length - 1):=by rw[← LB_add,c8]
    have h2:LB (a.length - b.length+1) * LB (b.length - 1)≤LB (a.length - b.length+1) * nv b:=Int.mul_le_mul_of_nonneg_left hbge (Int.le_of_lt (LB_pos _));have h3:nv a < LB (a.length - b.length+1) * nv b:=by rw[h1] at halt;exact Int.lt_of_lt_of_le halt h2
    have h4:nv a * m < LB (a.length - b.length+1) * nv b * m:=Int.mul_lt_mul_of_pos_right h3 (by omega)
    have h5:LB (a.length - b.length+1) * nv b * m=nv b * m * LB (a.length - b.length+1):=by grind
    rwa [h5] at h4
  have hloop:=divide_loop c7 hVL c11 hv1 m (by omega) hm2 (nv a * m) (nv a / nv b) (nv a % nv b) (a.length+1) (by omega) (fun o w h1 h2 h3=>by
      rw[hV] at h1 h3;have e1:w=(nv a - o * nv b) * m:=by grind
      have e2:w / m=nv a - o * nv b:=by rw[e1];exact Int.mul_ediv_cancel _ (by omega)
      have e3:0≤nv a - o * nv b:=by rw[← e2];exact Int.ediv_nonneg h2 (by omega)
      have e4:nv a - o * nv b < nv b:=by rw[← e2];exact Int.ediv_lt_of_lt_mul (by omega) h3
      obtain⟨e5,e6⟩:=idiv_of (V:=nv a) (Q:=o) (m:=nv b) (r:=nv a - o * nv b) (by grind) e3 e4
      exact⟨e2.trans e6.symm,e5.symm⟩) (a.length - b.length+1) U (List.replicate (a.length - b.length+1) 0) (by omega) u2 u1 (Lim.zeros _) (by simp) (by rw[List.length_replicate];clear hlt hd0 hd1 hbv hyall;omega) (fun i hi=>rd_replicate _ i 0 hi) (by rw[nv_zeros,c6,pv_all (by omega),u3,Int.zero_mul,Int.zero_add]) (by rw[c6,pv_all (by omega),u3,hV];exact hlt)
  unfold Czb.f;rw[w1];refine Tells.pos c2.1 (Tells.pos c2.2 ?_);rw[w2];refine Tells.neg c1 ?_;have w4:wrap64 m=m:=wrap64_id (by omega) (by omega)
  rw[w3,w4];refine hU.bind (hy.bind (Tells.pos c3 (Tells.pos c10 ?_)));rw[w5];refine Tells.pos c4 ?_;rw[w6];refine Tells.pos c5 ?_;refine hloop.congr (fun k=>?_)
  show Czb.l0 k m U (y.take ((b.length:Int)).toNat) (b.length:Int) (List.replicate (a.length - b.length+1) 0) (wrap64 ((((List.replicate (a.length - b.length+1) (0:Int)).length:Nat):Int) - 1))=_
  rw[w7,w9,w8]
theorem divided_tells {a b:List Int} (ha:Can a) (hb:Can b) (hal:a.length≤1000) (hbl:b.length≤1000) (h0:0 < b.length):Tells (fun k=>Ezb.f k a b) (dg (nv a / nv b),dg (nv a % nv b)):=by
  unfold Ezb.f;refine(compare_tells ha hb (by omega) (by omega)).bind ?_
  have hb0:=nv_pos hb h0;have ha0:=nv_nonneg ha.1;by_cases hlt:nv a < nv b
  · refine Tells.pos (cmpI_neg.2 hlt) ?_
    rw[Int.ediv_eq_zero_of_lt ha0 hlt,Int.emod_eq_of_lt ha0 hlt,dg_zero,padded_self a (by omega)]
    show Tells (fun k=>(Bzp.f k a).bind fun t=>some (([]:List Int),t)) _
    have h:=trimmed_tells ha.1 (by omega)
    unfold trim at h;exact h.bind (Tells.const _)
  · refine Tells.neg (fun h=>hlt (cmpI_neg.1 h)) ?_
    by_cases h1:(b.length:Int)=1
    · refine Tells.pos h1 (Tells.pos (by omega) ?_)
      have hr:=hb.1.rd (i:=0) (by omega) (by omega)
      have hbv:nv b=rd b 0:=by
        match b,h1 with
        | [x],_=>show x+1000000000 * 0=x;omega
      have h2:=short_tells ha.1 (by omega) (m:=rd b 0) (by omega) hr.2
      rw[hbv];exact h2.bind (Tells.const _)
    · refine Tells.neg h1 ?_
      exact(divide_tells ha hb hal (by omega) (Int.not_lt.1 hlt)).bind (Tells.const _)
/-- DivMod,by value. -/
def divModR (a b:List Int):List Int × List Int × Int:=if natOk a && natOk b then(if b.length=0 then([],[],16) else(dg (nv a / nv b),dg (nv a % nv b),0)) else([],[],3)
theorem DivMod_tells (a b:List Int):Tells (fun k=>Dzk.f k a b) (divModR a b):=by
  unfold Dzk.f divModR;refine(Valid_tells a).bind ?_;by_cases ha:natOk a=true
  · refine Tells.pos ha ((Valid_tells b).bind ?_)
    by_cases hb:natOk b=true
    · rw[ha,hb,if_pos (show(true && true)=true from rfl)]
      obtain⟨ca,la⟩:=natOk_iff.1 ha;obtain⟨cb,lb⟩:=natOk_iff.1 hb;by_cases h0:b.length=0
      · rw[if_pos h0]
        exact Tells.up (g:=fun _=>some ([],[],16)) (Tells.const _) (fun k=>by simp only[Dzk.j0];rw[if_neg (by decide),if_pos (by omega)])
      · rw[if_neg h0]
        refine Tells.up (g:=fun k=>(Ezb.f k a b).bind fun bt=>(some (bt.1,bt.2,0))) ?_ (fun k=>by simp only[Dzk.j0];rw[if_neg (by decide),if_neg (by omega)])
        exact(divided_tells ca cb (by omega) (by omega) (by omega)).bind (Tells.const _)
    · rw[show natOk b=false by simpa using hb,Bool.and_false,if_neg (by decide)]
      exact Tells.up (g:=fun _=>some ([],[],3)) (Tells.const _) (fun k=>by simp [Dzk.j0])
  · rw[show natOk a=false by simpa using ha,Bool.false_and,if_neg (by decide)]
    refine Tells.neg (by decide) ?_
    exact Tells.up (g:=fun _=>some ([],[],3)) (Tells.const _) (fun k=>by simp [Dzk.j0])
/-- The greatest common divisor of numbers that are not negative. -/
def gI (x y:Int):Int:=((Nat.gcd x.toNat y.toNat:Nat):Int)
theorem gI_zero {x:Int} (h:0≤x):gI x 0=x:=by unfold gI;simp;omega
theorem gI_step {x y:Int} (hx:0≤x) (hy:0 < y):gI x y=gI y (x % y):=by
  unfold gI;have e:(x % y).toNat=x.toNat % y.toNat:=by
    obtain⟨n,rfl⟩:=Int.eq_ofNat_of_zero_le hx;obtain⟨m,rfl⟩:=Int.eq_ofNat_of_zero_le (Int.le_of_lt hy);show(((n:Int) % (m:Int))).toNat=((n:Int)).toNat % ((m:Int)).toNat
    rw[← Int.natCast_emod];rfl
  rw[e,Nat.gcd_comm,Nat.gcd_rec,Nat.gcd_comm]
theorem gI_nonneg (x y:Int):0≤gI x y:=by unfold gI;omega
theorem Gcd_small (n:Nat):∀ (x y:Int),y.toNat≤n→0≤x→0≤y→x < 9223372036854775808→y < 9223372036854775808→Tells (fun k=>Czk.l1 k x y) (dg (gI x y),0):=by
  induction n with
  | zero =>
    intro x y h1 h2 h3 h4 _;obtain rfl:y=0:=by omega
    refine Tells.up (g:=fun k=>(Fzw.f k x).bind fun bt=>(some (bt.1,bt.2))) ?_ (fun k=>by simp only[Czk.l1];rw[if_neg (by omega)])
    rw[gI_zero h2];exact(Of_tells h2 h4).bind (Tells.const _)
  | succ n ih =>
    intro x y h1 h2 h3 h4 h5;rcases Int.lt_or_eq_of_le h3 with h|h
    · have e1:Int.tmod x y=x % y:=Int.tmod_eq_emod_of_nonneg h2
      have b1:=Int.emod_nonneg x (show y≠0 by omega)
      have b2:=Int.emod_lt_of_pos x h;refine Tells.up (g:=fun k=>Czk.l1 k y (x % y)) ?_ (fun k=>by simp only[Czk.l1];rw[if_pos (by omega),if_neg (by omega),e1])
      rw[gI_step h2 h];exact ih y (x % y) (by omega) h3 b1 h5 (by omega)
    · subst h
      refine Tells.up (g:=fun k=>(Fzw.f k x).bind fun bt=>(some (bt.1,bt.2))) ?_ (fun k=>by simp only[Czk.l1];rw[if_neg (by omega)])
      rw[gI_zero h2];exact(Of_tells h2 h4).bind (Tells.const _)
theorem Gcd_j2 {x y:List Int} (hx:Can x) (hy:Can y) (hxl:x.length≤1000) (h:y.length=0∨x.length≤2∧y.length≤2):Tells (fun k=>Czk.j2 k x y) (dg (gI (nv x) (nv y)),0):=by
  by_cases h0:y.length=0
  · have e:nv y=0:=(len_zero_iff hy).1 h0
    rw[e,gI_zero (nv_nonneg hx.1)];refine Tells.up (g:=fun k=>(Gzy.f x (x.length:Int)).bind fun t=>((Bzp.f k t).bind fun t2=>(some (t2,0)))) ?_ (fun k=>by simp only[Czk.j2];rw[if_pos (by omega)])
    rw[padded_self x (by omega)]
    have h:=trimmed_tells hx.1 (by omega)
    unfold trim at h;exact h.bind (Tells.const _)
  · obtain⟨l1,l2⟩:=h.resolve_left h0
    refine Tells.up (g:=fun k=>(Dzx.f k x).bind fun t=>((Dzx.f k y).bind fun t2=>(Czk.l1 k t t2))) ?_ (fun k=>by simp only[Czk.j2];rw[if_neg (by omega)])
    have b1:=nv_lt hx.1;have b2:=nv_lt hy.1;have b3:=LB_le l1;have b4:=LB_le l2;rw[LB2] at b3 b4;exact(small_tells hx.1 l1).bind ((small_tells hy.1 l2).bind (Gcd_small (nv y).toNat _ _ (Nat.le_refl _) (nv_nonneg hx.1) (nv_nonneg hy.1) (by omega) (by omega)))
theorem Gcd_loop (n:Nat):∀ (x y:List Int),(nv y).toNat≤n→Can x→Can y→x.length≤1000→y.length≤1000→Tells (fun k=>Czk.l0 k x y) (dg (gI (nv x) (nv y)),0):=by
  induction n with
  | zero =>
    intro x y h1 hx hy lx ly;have h0:y.length=0:=(len_zero_iff hy).2 (by have:=nv_nonneg hy.1;omega)
    exact Tells.up (Gcd_j2 hx hy lx (.inl h0)) (fun k=>by simp only[Czk.l0];rw[if_neg (by omega)])
  | succ n ih =>
    intro x y h1 hx hy lx ly;by_cases h0:y.length=0
    · exact Tells.up (Gcd_j2 hx hy lx (.inl h0)) (fun k=>by simp only[Czk.l0];rw[if_neg (by omega)])
    · have hyp:=nv_pos hy (by omega)
      have hx0:=nv_nonneg hx.1;have b1:=Int.emod_nonneg (nv x) (show nv y≠0 by omega)
      have b2:=Int.emod_lt_of_pos (nv x) hyp;have step:Tells (fun k=>(Ezb.f k x y).bind fun bt=>(Czk.l0 k y bt.2)) (dg (gI (nv x) (nv y)),0):=by
        refine(divided_tells hx hy lx ly (by omega)).bind ?_
        rw[gI_step hx0 hyp];have hr:nv (dg (nv x % nv y))=nv x % nv y:=nv_dg b1;have h:=ih y (dg (nv x % nv y)) (by rw[hr];omega) hy (can_dg _) ly (by
          have:=len_le (can_dg (nv x % nv y)) (n:=y.length) (by rw[hr];exact Int.lt_trans b2 (nv_lt hy.1))
          omega)
        rwa [hr] at h
      by_cases hl:(x.length:Int) > 2
      · exact Tells.up step (fun k=>by simp only[Czk.l0];rw[if_pos (by omega),if_pos hl])
      · by_cases hl2:(y.length:Int) > 2
        · exact Tells.up step (fun k=>by simp only[Czk.l0];rw[if_pos (by omega),if_neg hl,if_pos hl2])
        · exact Tells.up (Gcd_j2 hx hy lx (.inr (by omega))) (fun k=>by simp only[Czk.l0];rw[if_pos (by omega),if_neg hl,if_neg hl2])
def gcdR (a b:List Int):List Int × Int:=if natOk a && natOk b then(dg (gI (nv a) (nv b)),0) else([],3)
theorem Gcd_tells (a b:List Int):Tells (fun k=>Czk.f k a b) (gcdR a b):=by
  unfold Czk.f gcdR;refine(Valid_tells a).bind ?_;by_cases ha:natOk a=true
  · refine Tells.pos ha ((Valid_tells b).bind ?_)
    by_cases hb:natOk b=true
    · rw[ha,hb,if_pos (show(true && true)=true from rfl)]
      obtain⟨ca,la⟩:=natOk_iff.1 ha;obtain⟨cb,lb⟩:=natOk_iff.1 hb;refine Tells.up (g:=fun k=>Czk.l0 k a b) ?_ (fun k=>by simp [Czk.j0])
      exact Gcd_loop (nv b).toNat a b (Nat.le_refl _) ca cb (by omega) (by omega)
    · rw[show natOk b=false by simpa using hb,Bool.and_false,if_neg (by decide)]
      exact Tells.up (g:=fun _=>some ([],3)) (Tells.const _) (fun k=>by simp [Czk.j0])
  · rw[show natOk a=false by simpa using ha,Bool.false_and,if_neg (by decide)]
    refine Tells.neg (by decide) ?_
    exact Tells.up (g:=fun _=>some ([],3)) (Tells.const _) (fun k=>by simp [Czk.j0])

def ratOk (n:Bool) (p q:List Int):Bool:=natOk p && natOk q && decide (q.length≠0) && !(n && decide (p.length=0)) && decide (gI (nv p) (nv q)=1)
theorem dg_one:dg 1=[1]:=by
  refine(dg_eq (xs:=[1]) ⟨Lim.mk (by omega) (by omega) Lim.nil,.inr ?_⟩ (nv_single 1)).symm
  show rd [1] 0≠0
  decide
theorem one_iff {g:Int} (h:0≤g):((dg g).length=1∧rd (dg g) 0=1) ↔ g=1:=by
  constructor
  · intro ⟨h1,h2⟩
    have h3:=nv_dg h;match dg g,h1,h2,h3 with
    | [x],_,h2,h3 =>
      have h4:x=1:=h2;rw[nv_single] at h3;omega
  · rintro rfl
    rw[dg_one];exact⟨rfl,rfl⟩
theorem RValid_tells (n:Bool) (p q:List Int):Tells (fun k=>Fzy.f k n p q) (ratOk n p q):=by
  unfold Fzy.f ratOk;refine(Valid_tells p).bind ?_;by_cases hp:natOk p=true
  · rw[hp,Bool.true_and]
    refine Tells.pos rfl ((Valid_tells q).bind ?_);by_cases hq:natOk q=true
    · rw[hq,Bool.true_and]
      refine Tells.pos rfl ?_;by_cases hl:q.length=0
      · rw[decide_eq_false (by omega:¬ q.length≠0)]
        exact Tells.pos (by omega) (Tells.const _)
      · rw[decide_eq_true (show q.length≠0 from hl),Bool.true_and]
        refine Tells.neg (by omega) ?_
        have hg:Tells (fun k=>(Czk.f k p q).bind fun bt=>(if bt.2=0 then(if(bt.1.length:Int)=1 then(if 0 < (bt.1.length:Int) then(some ((rd bt.1 0) == 1)) else(none)) else(some false)) else(some false))) (decide (gI (nv p) (nv q)=1)):=by
          refine(Gcd_tells p q).bind ?_;unfold gcdR;rw[hp,hq,if_pos (show(true && true)=true from rfl)]
          refine Tells.pos rfl ?_;have h1:=one_iff (gI_nonneg (nv p) (nv q));by_cases h2:(dg (gI (nv p) (nv q))).length=1
          · refine Tells.pos (by show((dg (gI (nv p) (nv q))).length:Int)=1;omega) (Tells.pos (by show(0:Int) < ((dg (gI (nv p) (nv q))).length:Int);omega) ?_)
            by_cases h3:rd (dg (gI (nv p) (nv q))) 0=1
            · rw[decide_eq_true (h1.1 ⟨h2,h3⟩)]
              exact(Tells.const true).congr (fun k=>by show some (rd (dg (gI (nv p) (nv q))) 0 == 1)=some true;rw[h3];rfl)
            · rw[decide_eq_false (fun h=>h3 (h1.2 h).2)]
              exact(Tells.const false).congr (fun k=>by show some (rd (dg (gI (nv p) (nv q))) 0 == 1)=some false;rw[beq_eq_false_iff_ne.2 h3])
          · rw[decide_eq_false (fun h=>h2 (h1.2 h).1)]
            exact Tells.neg (by show ¬ ((dg (gI (nv p) (nv q))).length:Int)=1;omega) (Tells.const _)
        cases n with
        | true =>
          refine Tells.pos rfl ?_;by_cases h0:p.length=0
          · rw[decide_eq_true h0]
            exact Tells.pos (by omega) (Tells.const _)
          · rw[decide_eq_false h0]
            exact Tells.neg (by omega) hg
        | false=>exact Tells.neg (by decide) hg
    · rw[show natOk q=false by simpa using hq,Bool.false_and]
      exact Tells.neg (by decide) (Tells.const _)
  · rw[show natOk p=false by simpa using hp]
    exact Tells.neg (by decide) (Tells.const _)
/-- A rational in lowest terms: its sign,its numerator and its denominator. -/
def redR (n:Bool) (P Q:Int):Bool × List Int × List Int × Int:=(n && decide (P≠0),dg (P / gI P Q),dg (Q / gI P Q),0)
theorem gI_pos {P Q:Int} (hQ:0 < Q):0 < gI P Q:=by
  unfold gI;have:=Nat.gcd_pos_of_pos_right P.toNat (show 0 < Q.toNat by omega)
  omega
theorem gI_dvd {P Q:Int} (hP:0≤P) (hQ:0≤Q):gI P Q ∣ P∧gI P Q ∣ Q:=by
  unfold gI;obtain⟨n,rfl⟩:=Int.eq_ofNat_of_zero_le hP;obtain⟨m,rfl⟩:=Int.eq_ofNat_of_zero_le hQ;exact⟨Int.natCast_dvd_natCast.2 (Nat.gcd_dvd_left _ _),Int.natCast_dvd_natCast.2 (Nat.gcd_dvd_right _ _)⟩
theorem gI_le_right {P Q:Int} (hQ:0 < Q):gI P Q≤Q:=by
  unfold gI;have:=Nat.gcd_le_right P.toNat (show 0 < Q.toNat by omega)
  omega
/-- What is divided by its greatest common divisor. -/
theorem red_parts {P Q:Int} (hP:0≤P) (hQ:0 < Q):∃ a b g:Int,0 < g∧g=gI P Q∧P / g=a∧Q / g=b∧P=g * a∧Q=g * b∧0≤a∧0 < b:=by
  have hg:=gI_pos (P:=P) hQ;obtain⟨⟨a,ha⟩,⟨b,hb⟩⟩:=gI_dvd hP (Int.le_of_lt hQ);refine⟨a,b,gI P Q,hg,rfl,?_,?_,ha,hb,?_,?_⟩
  · have h:=Int.mul_ediv_cancel_left a (Int.ne_of_gt hg)
    rwa [← ha] at h
  · have h:=Int.mul_ediv_cancel_left b (Int.ne_of_gt hg)
    rwa [← hb] at h
  · rcases Int.lt_or_le a 0 with h|h
    · exfalso
      have:gI P Q * a < 0:=Int.mul_neg_of_pos_of_neg hg h;omega
    · exact h
  · rcases Int.lt_or_le 0 b with h|h
    · exact h
    · exfalso
      have:gI P Q * b≤0:=Int.mul_nonpos_of_nonneg_of_nonpos (Int.le_of_lt hg) h;omega
theorem reduced_tells {n:Bool} {p q:List Int} (hp:natOk p=true) (hq:natOk q=true) (h0:0 < q.length):Tells (fun k=>Fzz.f k n p q) (redR n (nv p) (nv q)):=by
  unfold Fzz.f redR;obtain⟨cp,lp⟩:=natOk_iff.1 hp;obtain⟨cq,lq⟩:=natOk_iff.1 hq;have hq0:=nv_pos cq h0;have hp0:=nv_nonneg cp.1;have hg0:=gI_pos (P:=nv p) hq0;have hgl:=gI_le_right (P:=nv p) hq0;have hgo:natOk (dg (gI (nv p) (nv q)))=true:=natOk_dg (Int.lt_of_le_of_lt hgl (Int.lt_of_lt_of_le (nv_lt cq.1) (LB_le lq)));have hgn:nv (dg (gI (nv p) (nv q)))=gI (nv p) (nv q):=nv_dg (Int.le_of_lt hg0);have hgz:¬ (dg (gI (nv p) (nv q))).length=0:=fun h=>by
    have:=(len_zero_iff (can_dg _)).1 h;rw[hgn] at this;omega
  obtain⟨a,b,g,g0,ge,ea,eb,e1,e2,a0,b0⟩:=red_parts hp0 hq0;rw[← ge] at hgo hgn hgz hg0 hgl ⊢;refine(Gcd_tells p q).bind ?_;unfold gcdR;rw[hp,hq,if_pos (show(true && true)=true from rfl),← ge]
  refine Tells.pos rfl ((DivMod_tells p (dg g)).bind ?_);unfold divModR;rw[hp,hgo,if_pos (show(true && true)=true from rfl),if_neg hgz,hgn]
  refine Tells.pos rfl ((DivMod_tells q (dg g)).bind ?_);unfold divModR;rw[hq,hgo,if_pos (show(true && true)=true from rfl),if_neg hgz,hgn]
  refine Tells.pos rfl ?_;cases n with
  | true =>
    refine Tells.pos rfl ?_;have hl:(0 < (dg (nv p / g)).length) ↔ nv p≠0:=by
      have h1:=len_zero_iff (can_dg (nv p / g));rw[nv_dg (by rw[ea];exact a0),ea] at h1
      constructor
      · intro h e
        have:a=0:=by
          rw[e1] at e;rcases Int.mul_eq_zero.1 e with h|h
          · omega
          · exact h
        rw[ea] at h;omega
      · intro h
        rcases Nat.eq_zero_or_pos (dg (nv p / g)).length with h2|h2
        · exfalso
          rw[ea] at h2;have:=h1.1 h2;rw[this,Int.mul_zero] at e1;exact h e1
        · exact h2
    by_cases h:nv p≠0
    · rw[decide_eq_true h]
      exact(Tells.const _).congr (fun k=>by rw[decide_eq_true (hl.2 h)];rfl)
    · rw[decide_eq_false h]
      exact(Tells.const _).congr (fun k=>by rw[decide_eq_false (fun h'=>h (hl.1 h'))];rfl)
  | false=>exact Tells.neg (by decide) (Tells.const _)
def inR (n:Int):Bool:=decide (-1125899906842624≤n) && decide (n≤1125899906842624)
theorem in_eq (n:Int):Hzb.f n=some (inR n):=by
  unfold Hzb.f inR;by_cases h:n≥-1125899906842624
  · rw[if_pos h,decide_eq_true (show -1125899906842624≤n from h)];rfl
  · rw[if_neg h,decide_eq_false (show ¬ -1125899906842624≤n from h)];rfl
theorem inR_iff {n:Int}:inR n=true ↔ -1125899906842624≤n∧n≤1125899906842624:=by
  unfold inR;rw[Bool.and_eq_true,decide_eq_true_eq,decide_eq_true_eq]
/-- The absolute value. -/
def absI (n:Int):Int:=if n < 0 then -n else n
theorem absI_nonneg (n:Int):0≤absI n:=by unfold absI;split <;> omega
theorem absI_le {n:Int} (h:inR n=true):absI n≤1125899906842624:=by
  have:=inR_iff.1 h;unfold absI;split <;> omega
theorem natural_tells {n:Int} (h:inR n=true):Tells (fun k=>Gzw.f k n) (dg (absI n)):=by
  unfold Gzw.f;have hr:=inR_iff.1 h;have e:mx n (wrap64 (-n))=absI n:=by
    rw[wrap64_id (by omega) (by omega)]
    unfold mx absI;by_cases h1:n < 0
    · rw[if_pos (by omega),if_pos h1]
    · rw[if_neg (by omega),if_neg h1]
  rw[e];exact(Of_tells (absI_nonneg n) (by have:=absI_le h;omega)).bind (Tells.const _)
theorem LB48:1000000000000000000000000000≤LB 48:=by
  have:=LB_le (show 3≤48 by omega)
  rwa [LB3] at this
def makeR (p q:Int):Bool × List Int × List Int × Int:=if inR p && inR q then(if q=0 then(false,[],[],16) else redR ((decide (p < 0)) != (decide (q < 0))) (absI p) (absI q)) else(false,[],[],1)
theorem Make_tells (p q:Int):Tells (fun k=>Fzv.f k p q) (makeR p q):=by
  unfold Fzv.f makeR;rw[in_eq p];simp only[Option.bind_some];by_cases hp:inR p=true
  · rw[hp,Bool.true_and]
    refine Tells.pos rfl ?_;rw[in_eq q];simp only[Option.bind_some];by_cases hq:inR q=true
    · rw[hq,if_pos rfl]
      by_cases h0:q=0
      · rw[if_pos h0]
        exact Tells.up (g:=fun _=>some (false,[],[],16)) (Tells.const _) (fun k=>by simp only[Fzv.j0];rw[if_neg (by decide),if_pos h0])
      · rw[if_neg h0]
        refine Tells.up (g:=fun k=>(Gzw.f k p).bind fun t=>((Gzw.f k q).bind fun t2=>((Fzz.f k ((decide (p < 0)) != (decide (q < 0))) t t2).bind fun bt=>(some (bt.1,bt.2.1,bt.2.2.1,bt.2.2.2))))) ?_ (fun k=>by simp only[Fzv.j0];rw[if_neg (by decide),if_neg h0])
        refine(natural_tells hp).bind ((natural_tells hq).bind ?_);have b1:=absI_nonneg p;have b2:=absI_nonneg q;have b3:=absI_le hp;have b4:=absI_le hq;have b5:0 < absI q:=by unfold absI;split <;> omega
        have b6:=LB48;have h:=reduced_tells (n:=(decide (p < 0)) != (decide (q < 0))) (natOk_dg (n:=absI p) (by omega)) (natOk_dg (n:=absI q) (by omega)) (by
          rcases Nat.eq_zero_or_pos (dg (absI q)).length with h1|h1
          · have:=(len_zero_iff (can_dg _)).1 h1
            rw[nv_dg b2] at this;omega
          · exact h1)
        rw[nv_dg b1,nv_dg b2] at h;exact h.bind (Tells.const _)
    · rw[show inR q=false by simpa using hq,if_neg (by decide)]
      exact Tells.up (g:=fun _=>some (false,[],[],1)) (Tells.const _) (fun k=>by simp [Fzv.j0])
  · rw[show inR p=false by simpa using hp,Bool.false_and,if_neg (by decide)]
    refine Tells.neg (by decide) ?_
    exact Tells.up (g:=fun _=>some (false,[],[],1)) (Tells.const _) (fun k=>by simp [Fzv.j0])
theorem ROf_tells (p:Int):Tells (fun k=>Hzp.f k p) (makeR p 1):=by
  unfold Hzp.f;exact(Make_tells p 1).bind (Tells.const _)
theorem rdR_at (l:List S33) (i:Nat) (h:i < l.length):rd_T33 l (i:Int)=l[i]:=by
  show l.getD (i:Int).toNat _=_
  simp [h]
def ratOkS (x:S33):Bool:=ratOk x.f0 x.f1 x.f2
theorem rvalid_loop (l:List S33) (hl:l.length≤1000000) (d:Nat):∀ i:Nat,i+d=l.length→Tells (fun k=>Czy.l0 k l (l.length:Int) (i:Int)) ((l.drop i).all ratOkS):=by
  induction d with
  | zero =>
    intro i hi;refine Tells.up (g:=fun _=>some true) ?_ (fun k=>?_)
    · rw[List.drop_eq_nil_of_le (by omega)];exact Tells.const _
    · simp only[Czy.l0];rw[if_neg (by omega)]
  | succ d ih =>
    intro i hi;refine Tells.up (g:=fun k=>(Fzy.f k (l[i]).f0 (l[i]).f1 (l[i]).f2).bind fun t=>(if t=true then(Czy.l0 k l (l.length:Int) ((i+1:Nat):Int)) else(some false))) ?_ (fun k=>?_)
    · rw[List.drop_eq_getElem_cons (show i < l.length by omega),List.all_cons]
      refine(RValid_tells _ _ _).bind ?_;by_cases h:ratOk (l[i]).f0 (l[i]).f1 (l[i]).f2=true
      · have h':ratOkS l[i]=true:=h
        rw[h',Bool.true_and];exact Tells.pos h (ih (i+1) (by omega))
      · have h':ratOkS l[i]=false:=by unfold ratOkS;simpa using h
        rw[h',Bool.false_and];exact Tells.neg h (Tells.const _)
    · simp only[Czy.l0]
      rw[if_pos (by omega),if_pos (by omega),if_pos (by omega),rdR_at l i (by omega),wrap64_id (by omega) (by omega)]
      rfl
theorem rvalid_tells (l:List S33) (hl:l.length≤1000000):Tells (fun k=>Czy.f k l) (l.all ratOkS):=by
  unfold Czy.f;have h:=rvalid_loop l hl l.length 0 (by omega)
  simpa using h
theorem ratOk_parts {n:Bool} {p q:List Int} (h:ratOk n p q=true):natOk p=true∧natOk q=true∧0 < q.length∧(n=true→p.length≠0)∧gI (nv p) (nv q)=1∧Can p∧Can q∧0≤nv p∧0 < nv q:=by
  unfold ratOk at h;simp only[Bool.and_eq_true,decide_eq_true_eq,Bool.not_eq_true',Bool.and_eq_false_iff,decide_eq_false_iff_not] at h;obtain⟨⟨⟨⟨h1,h2⟩,h3⟩,h4⟩,h5⟩:=h;obtain⟨c1,_⟩:=natOk_iff.1 h1;obtain⟨c2,_⟩:=natOk_iff.1 h2;refine⟨h1,h2,by omega,fun e=>?_,h5,c1,c2,nv_nonneg c1.1,nv_pos c2 (by omega)⟩
  rcases h4 with h|h
  · rw[e] at h;cases h
  · exact h
theorem natOk_pos {n:Int} (h0:0 < n) (h:n < LB 48):natOk (dg n)=true∧nv (dg n)=n∧0 < (dg n).length:=by
  refine⟨natOk_dg h,nv_dg (Int.le_of_lt h0),?_⟩;rcases Nat.eq_zero_or_pos (dg n).length with h1|h1
  · have:=(len_zero_iff (can_dg _)).1 h1
    rw[nv_dg (Int.le_of_lt h0)] at this;omega
  · exact h1

theorem gI_one_right (x:Int):gI x 1=1:=by unfold gI;simp
theorem absI_of {n:Int} (h:0≤n):absI n=n:=by unfold absI;rw[if_neg (by omega)]
theorem makeR_nonneg {p q:Int} (hp:0≤p) (hp1:p≤1125899906842624) (hq:0 < q) (hq1:q≤1125899906842624):makeR p q=redR false p q:=by
  unfold makeR;rw[inR_iff.2 ⟨by omega,hp1⟩,inR_iff.2 ⟨by omega,hq1⟩,if_pos (show(true && true)=true from rfl),if_neg (by omega),absI_of hp,absI_of (by omega),decide_eq_false (by omega:¬ p < 0),decide_eq_false (by omega:¬ q < 0)]
  rfl

def sv (n:Bool) (p:List Int):Int:=if n=true then -nv p else nv p
/-- The rational (n,p,q) is valid,and is N / D. -/
structure Rep (N D:Int) (n:Bool) (p q:List Int):Prop where
  ok:ratOk n p q=true
  val:sv n p * D=N * nv q
theorem Rep.as {N D N' D':Int} {n:Bool} {p q:List Int} (hD:0 < D) (h:Rep N D n p q) (e:N * D'=N' * D):Rep N' D' n p q:=by
  refine⟨h.ok,?_⟩;have v:=h.val;have x:D * (sv n p * D')=D * (N' * nv q):=by
    have y1:D * (sv n p * D')=(sv n p * D) * D':=by grind
    have y2:(N * nv q) * D'=(N * D') * nv q:=by grind
    rw[y1,v,y2,e];grind
  exact Int.eq_of_mul_eq_mul_left (Int.ne_of_gt hD) x
def addR (n1:Bool) (p1 q1:List Int) (n2:Bool) (p2 q2:List Int):Bool × List Int × List Int × Int :=
  if ratOk n1 p1 q1 && ratOk n2 p2 q2 then(if nv p1 * nv q2 < LB 48∧nv p2 * nv q1 < LB 48∧nv q1 * nv q2 < LB 48 then
    (if n1=n2 then(if nv p1 * nv q2+nv p2 * nv q1 < LB 48 then redR n1 (nv p1 * nv q2+nv p2 * nv q1) (nv q1 * nv q2) else(false,[],[],2))
      else(if nv p1 * nv q2 < nv p2 * nv q1 then redR n2 (nv p2 * nv q1 - nv p1 * nv q2) (nv q1 * nv q2) else redR n1 (nv p1 * nv q2 - nv p2 * nv q1) (nv q1 * nv q2)))
    else(false,[],[],2)) else(false,[],[],3)
def negB (n:Bool) (p:List Int):Bool:=!n && decide (p.length≠0)
theorem Rep.neg {N D:Int} {n:Bool} {p q:List Int} (h:Rep N D n p q):Rep (-N) D (negB n p) p q:=by
  obtain⟨a1,a2,a3,a4,a5,a6,a7,a8,a9⟩:=ratOk_parts h.ok;have hz:=len_zero_iff a6;refine⟨?_,?_⟩
  · have h0:=h.ok
    unfold ratOk negB at *;simp only[Bool.and_eq_true,decide_eq_true_eq,Bool.not_eq_true',Bool.and_eq_false_iff,decide_eq_false_iff_not] at h0 ⊢;refine⟨⟨h0.1.1,?_⟩,h0.2⟩;by_cases hl:p.length=0
    · left;simp [hl]
    · right;exact hl
  · have v:=h.val
    have e:sv (negB n p) p=- sv n p:=by
      unfold sv negB;by_cases hl:p.length=0
      · rw[hz.1 hl];simp [hl]
      · cases n <;> simp [hl]
    rw[e,Int.neg_mul,v,Int.neg_mul]

theorem Sub_le {a b:List Int} (ha:natOk a=true) (hb:natOk b=true) (h:nv b≤nv a):Tells (fun k=>Ezw.f k a b) (dg (nv a - nv b),0):=by
  have:=Sub_tells a b;rwa [ha,hb,if_pos (show(true && true)=true from rfl),if_neg (by omega)] at this
theorem Add1_tells {na nb:Bool} {x y:List Int} (hx:natOk x=true) (hy:natOk y=true) :
    Tells (fun k=>Gzf.f k na nb x y) (if na=nb then(na,(fitv (nv x+nv y)).1,(fitv (nv x+nv y)).2) else(if nv x < nv y then(nb,dg (nv y - nv x),0) else(na,dg (nv x - nv y),0))):=by
  unfold Gzf.f;by_cases h:na=nb
  · rw[if_pos h]
    refine Tells.pos h ?_;have:=Add_tells x y;rw[hx,hy,if_pos (show(true && true)=true from rfl)] at this
    exact this.bind (Tells.const _)
  · rw[if_neg h]
    refine Tells.neg h ?_;have hc:=Cmp_tells x y;rw[hx,hy,if_pos (show(true && true)=true from rfl)] at hc
    refine hc.bind ?_;by_cases hl:nv x < nv y
    · rw[if_pos hl]
      exact Tells.pos (show cmpI (nv x) (nv y) < 0 from cmpI_neg.2 hl) ((Sub_le hy hx (Int.le_of_lt hl)).bind (Tells.const _))
    · rw[if_neg hl]
      exact Tells.neg (show ¬ cmpI (nv x) (nv y) < 0 from fun h'=>hl (cmpI_neg.1 h')) ((Sub_le hx hy (by omega)).bind (Tells.const _))
/-- What the last step of Add tells,by value. -/
def add1V (na nb:Bool) (x y:Int):Bool × List Int × Int:=if na=nb then(na,(fitv (x+y)).1,(fitv (x+y)).2) else(if x < y then(nb,dg (y - x),0) else(na,dg (x - y),0))
theorem P4_tells {n1 n2:Bool} {p1 q1 p2 q2:List Int} (h1:ratOk n1 p1 q1=true) (h2:ratOk n2 p2 q2=true):Tells (fun k=>Gzv.f k n1 n2 p1 q1 p2 q2)
    (if nv p1 * nv q2 < LB 48 then(if nv p2 * nv q1 < LB 48 then(if nv q1 * nv q2 < LB 48 then((add1V n1 n2 (nv p1 * nv q2) (nv p2 * nv q1)).2.2,(add1V n1 n2 (nv p1 * nv q2) (nv p2 * nv q1)).1,(add1V n1 n2 (nv p1 * nv q2) (nv p2 * nv q1)).2.1,dg (nv q1 * nv q2)) else(2,n1,[],[])) else(2,n1,[],[])) else(2,n1,[],[])):=by
  obtain⟨a1,a2,a3,a4,a5,a6,a7,a8,a9⟩:=ratOk_parts h1;obtain⟨b1,b2,b3,b4,b5,b6,b7,b8,b9⟩:=ratOk_parts h2;unfold Gzv.f;have m1:=Mul_tells p1 q2;have m2:=Mul_tells p2 q1;have m3:=Mul_tells q1 q2;rw[a1,b2,if_pos (show(true && true)=true from rfl)] at m1
  rw[b1,a2,if_pos (show(true && true)=true from rfl)] at m2
  rw[a2,b2,if_pos (show(true && true)=true from rfl)] at m3
  have x0:0≤nv p1 * nv q2:=Int.mul_nonneg a8 (Int.le_of_lt b9);have y0:0≤nv p2 * nv q1:=Int.mul_nonneg b8 (Int.le_of_lt a9);generalize nv p1 * nv q2=x at *;generalize nv p2 * nv q1=y at *;generalize nv q1 * nv q2=d at *;unfold fitv at m1 m2 m3;refine m1.bind ?_;by_cases c1:x < LB 48
  · rw[if_pos c1,if_pos c1]
    refine Tells.pos rfl (m2.bind ?_);by_cases c2:y < LB 48
    · rw[if_pos c2,if_pos c2]
      refine Tells.pos rfl (m3.bind ?_);by_cases c3:d < LB 48
      · rw[if_pos c3,if_pos c3]
        have ha:=Add1_tells (na:=n1) (nb:=n2) (natOk_dg (n:=x) c1) (natOk_dg (n:=y) c2);rw[nv_dg x0,nv_dg y0] at ha;exact Tells.pos rfl (ha.bind (Tells.const _))
      · rw[if_neg c3,if_neg c3]
        exact Tells.neg (show ¬ ((2:Int)=0) by decide) (Tells.const _)
    · rw[if_neg c2,if_neg c2]
      exact Tells.neg (show ¬ ((2:Int)=0) by decide) (Tells.const _)
  · rw[if_neg c1,if_neg c1]
    exact Tells.neg (show ¬ ((2:Int)=0) by decide) (Tells.const _)
theorem RAdd_tells (n1:Bool) (p1 q1:List Int) (n2:Bool) (p2 q2:List Int):Tells (fun k=>Gzq.f k n1 p1 q1 n2 p2 q2) (addR n1 p1 q1 n2 p2 q2):=by
  unfold Gzq.f addR;refine(rvalid_tells _ (by simp)).bind ?_
  have hv:([(⟨n1,p1,q1⟩:S33),(⟨n2,p2,q2⟩:S33)]:List S33).all ratOkS=(ratOk n1 p1 q1 && ratOk n2 p2 q2):=by
    simp [ratOkS]
  rw[hv];by_cases h:(ratOk n1 p1 q1 && ratOk n2 p2 q2)=true
  · rw[if_pos h]
    refine Tells.pos h ?_;rw[Bool.and_eq_true] at h;refine(P4_tells h.1 h.2).bind ?_;obtain⟨a1,a2,a3,a4,a5,a6,a7,a8,a9⟩:=ratOk_parts h.1;obtain⟨b1,b2,b3,b4,b5,b6,b7,b8,b9⟩:=ratOk_parts h.2;have x0:0≤nv p1 * nv q2:=Int.mul_nonneg a8 (Int.le_of_lt b9);have y0:0≤nv p2 * nv q1:=Int.mul_nonneg b8 (Int.le_of_lt a9);have d0:0 < nv q1 * nv q2:=Int.mul_pos a9 b9;generalize nv p1 * nv q2=x at *;generalize nv p2 * nv q1=y at *;generalize nv q1 * nv q2=d at *;have bad:Tells (fun k=>if((2:Int),n1,([]:List Int),([]:List Int)).1=0 then(Fzz.f k ((2:Int),n1,([]:List Int),([]:List Int)).2.1 ((2:Int),n1,([]:List Int),([]:List Int)).2.2.1 ((2:Int),n1,([]:List Int),([]:List Int)).2.2.2).bind (fun c=>some (c.1,c.2.1,c.2.2.1,c.2.2.2)) else some (false,([]:List Int),([]:List Int),((2:Int),n1,([]:List Int),([]:List Int)).1)) (false,[],[],2):=Tells.neg (show ¬ ((2:Int)=0) by decide) (Tells.const _)
    by_cases c1:x < LB 48
    · by_cases c2:y < LB 48
      · by_cases c3:d < LB 48
        · rw[if_pos c1,if_pos c2,if_pos c3,if_pos ⟨c1,c2,c3⟩]
          obtain⟨f1,f2,f3⟩:=natOk_pos d0 c3;have hr:∀ (n:Bool) (s:Int),0≤s→s < LB 48→Tells (fun k=>(Fzz.f k n (dg s) (dg d)).bind (fun c=>some (c.1,c.2.1,c.2.2.1,c.2.2.2))) (redR n s d):=by
            intro n s s0 s1;have hr:=reduced_tells (n:=n) (natOk_dg s1) f1 f3;rw[nv_dg s0,f2] at hr;exact hr.bind (Tells.const _)
          unfold add1V;by_cases hn:n1=n2
          · rw[if_pos hn,if_pos hn]
            unfold fitv;by_cases c4:x+y < LB 48
            · rw[if_pos c4,if_pos c4]
              exact Tells.pos rfl (hr n1 (x+y) (by omega) c4)
            · rw[if_neg c4,if_neg c4]
              exact Tells.neg (show ¬ ((2:Int)=0) by decide) (Tells.const _)
          · rw[if_neg hn,if_neg hn]
            by_cases hl:x < y
            · rw[if_pos hl,if_pos hl]
              exact Tells.pos rfl (hr n2 (y - x) (by omega) (by omega))
            · rw[if_neg hl,if_neg hl]
              exact Tells.pos rfl (hr n1 (x - y) (by omega) (by omega))
        · rw[if_pos c1,if_pos c2,if_neg c3,if_neg (fun hh=>c3 hh.2.2)]
          exact bad
      · rw[if_pos c1,if_neg c2,if_neg (fun hh=>c2 hh.2.1)]
        exact bad
    · rw[if_neg c1,if_neg (fun hh=>c1 hh.1)]
      exact bad
  · rw[if_neg h]
    exact Tells.neg h (Tells.const _)
theorem rv2 (n1:Bool) (p1 q1:List Int) (n2:Bool) (p2 q2:List Int):Tells (fun k=>Czy.f k [(⟨n1,p1,q1⟩:S33),(⟨n2,p2,q2⟩:S33)]) (ratOk n1 p1 q1 && ratOk n2 p2 q2):=by
  have:=rvalid_tells [(⟨n1,p1,q1⟩:S33),(⟨n2,p2,q2⟩:S33)] (by simp)
  rwa [show([(⟨n1,p1,q1⟩:S33),(⟨n2,p2,q2⟩:S33)]:List S33).all ratOkS=(ratOk n1 p1 q1 && ratOk n2 p2 q2) by simp [ratOkS]] at this
def rsumFrom (n:Bool) (p q:List Int):List S33→Bool × List Int × List Int × Int
  | []=>(n,p,q,0)
  | a :: l=>if(addR n p q a.f0 a.f1 a.f2).2.2.2=0 then rsumFrom (addR n p q a.f0 a.f1 a.f2).1 (addR n p q a.f0 a.f1 a.f2).2.1 (addR n p q a.f0 a.f1 a.f2).2.2.1 l else(false,[],[],(addR n p q a.f0 a.f1 a.f2).2.2.2)
def sumR (l:List S33):Bool × List Int × List Int × Int:=if l.length > 4096 then(false,[],[],8) else if l.all ratOkS then rsumFrom false [] [1] l else(false,[],[],3)
theorem RSum_loop (l:List S33) (hl:l.length≤4096) (d:Nat):∀ (i:Nat) (n:Bool) (p q:List Int),i+d=l.length→Tells (fun k=>Fzj.l0 k l (l.length:Int) (i:Int) n p q) (rsumFrom n p q (l.drop i)):=by
  induction d with
  | zero =>
    intro i n p q hi;rw[List.drop_eq_nil_of_le (by omega)]
    exact Tells.up (Tells.const _) (fun k=>by rw[Fzj.l0,if_neg (by omega)];rfl)
  | succ d ih =>
    intro i n p q hi;rw[List.drop_eq_getElem_cons (show i < l.length by omega)]
    refine Tells.up (g:=fun k=>(Gzq.f k n p q (l[i]).f0 (l[i]).f1 (l[i]).f2).bind fun bt=>(if bt.2.2.2=0 then(Fzj.l0 k l (l.length:Int) ((i+1:Nat):Int) bt.1 bt.2.1 bt.2.2.1) else(some (false,([]:List Int),([]:List Int),bt.2.2.2)))) ?_ (fun k=>?_)
    · refine(RAdd_tells _ _ _ _ _ _).bind ?_
      unfold rsumFrom;exact Tells.ite (fun _=>ih (i+1) _ _ _ (by omega)) (fun _=>Tells.const _)
    · rw[Fzj.l0,if_pos (by omega),if_pos (by omega),if_pos (by omega),rdR_at l i (by omega),wrap64_id (by omega) (by omega)]
      rfl
theorem RSum_tells (l:List S33):Tells (fun k=>Fzj.f k l) (sumR l):=by
  unfold Fzj.f sumR;by_cases h:l.length > 4096
  · rw[if_pos h];exact Tells.pos (by omega) (Tells.const _)
  · rw[if_neg h]
    refine Tells.neg (by omega) ((rvalid_tells l (by omega)).bind ?_)
    by_cases h2:l.all ratOkS=true
    · rw[if_pos h2]
      refine Tells.pos h2 ?_;have:=RSum_loop l (by omega) l.length 0 false [] [1] (by omega)
      rw[List.drop_zero] at this;unfold Hzf.f;simp only[Option.bind_some];exact this
    · rw[if_neg h2]
      exact Tells.neg h2 (Tells.const _)
/-- What is valid and not 0,turned over. -/

theorem r2valid_loop (l:List Int) (h48:l.length≤48) (d:Nat):∀ i:Nat,i+d=l.length→Tells (fun k=>Azz.l0 k l (i:Int)) ((l.drop i).all limbOk):=by
  induction d with
  | zero =>
    intro i hi;rw[List.drop_eq_nil_of_le (by omega)]
    refine Tells.up (Tells.const true) (fun k=>?_)
    simp only[Azz.l0];rw[if_neg (by omega)]
  | succ d ih =>
    intro i hi;rw[rd_drop l i (by omega),List.all_cons]
    unfold limbOk;by_cases h1:rd l (i:Int) < 0
    · refine Tells.up (g:=fun _=>some false) ?_ (fun k=>?_)
      · rw[decide_eq_false (by omega:¬ 0≤rd l (i:Int))];exact Tells.const _
      · simp only[Azz.l0]
        rw[if_pos (by omega),if_pos (by omega),if_pos h1]
    · by_cases h2:rd l (i:Int)≥1000000000
      · refine Tells.up (g:=fun _=>some false) ?_ (fun k=>?_)
        · rw[decide_eq_false (by omega:¬ rd l (i:Int) < 1000000000),Bool.and_false];exact Tells.const _
        · simp only[Azz.l0]
          rw[if_pos (by omega),if_pos (by omega),if_neg h1,if_pos h2]
      · refine Tells.up (g:=fun k=>Azz.l0 k l ((i+1:Nat):Int)) ?_ (fun k=>?_)
        · rw[decide_eq_true (by omega:0≤rd l (i:Int)),decide_eq_true (by omega:rd l (i:Int) < 1000000000),Bool.and_true,Bool.true_and]
          exact ih (i+1) (by omega)
        · simp only[Azz.l0]
          rw[if_pos (by omega),if_pos (by omega),if_neg h1,if_neg h2,wrap64_id (by omega) (by omega)]
          rfl
theorem R2Valid_tells (l:List Int):Tells (fun k=>Azz.f k l) (natOk l):=by
  unfold Azz.f natOk;by_cases h:(l.length:Int) > 48
  · rw[decide_eq_false (by omega:¬ l.length≤48),Bool.false_and]
    exact Tells.pos h (Tells.up (Tells.const false) (fun k=>by simp [Azz.j0]))
  · rw[decide_eq_true (by omega:l.length≤48),Bool.true_and]
    refine Tells.neg h ?_;have hv:=r2valid_loop l (by omega) l.length 0 (by omega)
    rw[List.drop_zero] at hv;have hf:Tells (fun k=>Azz.j0 k l false) (l.all limbOk):=Tells.up hv (fun k=>by simp [Azz.j0])
    unfold lastOk;by_cases h0:(l.length:Int) > 0
    · have w:wrap64 ((l.length:Int) - 1)=(l.length:Int) - 1:=wrap64_id (by omega) (by omega)
      rw[w,decide_eq_false (by omega:¬ l.length=0),Bool.false_or]
      refine Tells.pos h0 (Tells.pos (by omega) (Tells.pos (by omega) ?_))
      by_cases hz:rd l ((l.length:Int) - 1)=0
      · rw[hz]
        exact(Tells.up (Tells.const false) (fun k=>by simp [Azz.j0]):Tells (fun k=>Azz.j0 k l true) false).congr (fun k=>rfl)|> fun h=>by simpa using h
      · have e1:(rd l ((l.length:Int) - 1) == 0)=false:=by simpa using hz
        have e2:(rd l ((l.length:Int) - 1) != 0)=true:=by simpa using hz
        rw[e1,e2,Bool.and_true];exact hf
    · rw[decide_eq_true (by omega:l.length=0),Bool.true_or,Bool.and_true]
      exact Tells.neg h0 hf
theorem R2Of_loop (m:Nat):∀ (n:Int) (acc:List Int),0≤n→n < LB m→m≤100→acc.length+m < 1000000→n < 9223372036854775808→Tells (fun k=>Czj.l0 k n acc) (acc ++ dg n,0):=by
  induction m with
  | zero =>
    intro n acc h0 h1 _ _ _;rw[LB_zero] at h1;obtain rfl:n=0:=by omega
    refine Tells.up (g:=fun _=>some (acc,0)) ?_ (fun k=>?_)
    · rw[dg_zero,List.append_nil];exact Tells.const _
    · simp only[Czj.l0];rw[if_neg (by omega)]
  | succ m ih =>
    intro n acc h0 h1 hm hl hn;rw[LB_succ] at h1;rcases Int.lt_or_eq_of_le h0 with hp|hp
    · have e1:Int.tdiv n 1000000000=n / 1000000000:=Int.tdiv_eq_ediv_of_nonneg h0
      have e2:Int.tmod n 1000000000=n % 1000000000:=Int.tmod_eq_emod_of_nonneg h0;refine Tells.up (g:=fun k=>Czj.l0 k (n / 1000000000) (acc ++ [n % 1000000000])) ?_ (fun k=>?_)
      · have h:=ih (n / 1000000000) (acc ++ [n % 1000000000]) (by omega) (by have:=LB_pos m;omega) (by omega) (by simp;omega) (by omega)
        have e3:dg n=n % 1000000000 :: dg (n / 1000000000):=by
          unfold dg;rw[digs_pos (by omega),show n.toNat / 1000000000=(n / 1000000000).toNat by omega]
          congr 1;omega
        rw[e3];simpa using h
      · simp only[Czj.l0]
        rw[if_pos (by omega),if_pos (by omega),e1,e2,wrap64_id (by omega) (by omega)]
    · subst hp
      refine Tells.up (g:=fun _=>some (acc,0)) ?_ (fun k=>?_)
      · rw[dg_zero,List.append_nil];exact Tells.const _
      · simp only[Czj.l0];rw[if_neg (by omega)]
theorem R2Of_tells {n:Int} (h0:0≤n) (h1:n < 9223372036854775808):Tells (fun k=>Czj.f k n) (dg n,0):=by
  unfold Czj.f;refine Tells.neg (by omega) ?_
  have:=R2Of_loop 3 n [] h0 (by rw[LB3];omega) (by omega) (by simp) h1
  simpa using this
theorem r2compare_loop (a b:List Int) (ha:Lim a) (hb:Lim b) (hl:a.length=b.length) (hn:a.length≤1000000) (d:Nat):d≤a.length→Tells (fun k=>Bzq.l0 k a b ((d:Int) - 1)) (cmpI (pv a d) (pv b d)):=by
  induction d with
  | zero =>
    intro _;refine Tells.up (g:=fun _=>some 0) ?_ (fun k=>?_)
    · rw[pv_zero,pv_zero];exact Tells.const _
    · simp only[Bzq.l0];rw[if_neg (by omega)]
  | succ d ih =>
    intro hd;have h1:=pv_succ (xs:=a) (i:=d) (by omega)
    have h2:=pv_succ (xs:=b) (i:=d) (by omega)
    have h3:=pv_lt ha (i:=d) (by omega)
    have h4:=pv_lt hb (i:=d) (by omega)
    have h5:=pv_nonneg ha d;have h6:=pv_nonneg hb d;rw[show((d+1:Nat):Int) - 1=(d:Int) by omega]
    rcases Int.lt_trichotomy (rd a (d:Int)) (rd b (d:Int)) with h|h|h
    · have h7:LB d * (rd a (d:Int)+1)≤LB d * rd b (d:Int):=Int.mul_le_mul_of_nonneg_left (by omega) (by have:=LB_pos d;omega)
      rw[Int.mul_add] at h7;refine Tells.up (g:=fun _=>some (-1)) ?_ (fun k=>?_)
      · rw[show cmpI (pv a (d+1)) (pv b (d+1))=-1 by unfold cmpI;rw[if_pos (by omega)]];exact Tells.const _
      · simp only[Bzq.l0];rw[if_pos (by omega),if_pos (by omega),if_pos (by omega),if_pos (by omega),if_pos h]
    · refine Tells.up (g:=fun k=>Bzq.l0 k a b ((d:Int) - 1)) ?_ (fun k=>?_)
      · have e:cmpI (pv a (d+1)) (pv b (d+1))=cmpI (pv a d) (pv b d):=by
          rw[h1,h2,h];unfold cmpI;by_cases e1:pv a d < pv b d
          · rw[if_pos e1,if_pos (by omega)]
          · rw[if_neg e1,if_neg (by omega)]
            by_cases e2:pv a d > pv b d
            · rw[if_pos e2,if_pos (by omega)]
            · rw[if_neg e2,if_neg (by omega)]
        rw[e];exact ih (by omega)
      · simp only[Bzq.l0]
        rw[if_pos (by omega),if_pos (by omega),if_pos (by omega),if_pos (by omega),if_neg (by omega),if_neg (by omega),wrap64_id (by omega) (by omega)]
    · have h7:LB d * (rd b (d:Int)+1)≤LB d * rd a (d:Int):=Int.mul_le_mul_of_nonneg_left (by omega) (by have:=LB_pos d;omega)
      rw[Int.mul_add] at h7;refine Tells.up (g:=fun _=>some 1) ?_ (fun k=>?_)
      · rw[show cmpI (pv a (d+1)) (pv b (d+1))=1 by unfold cmpI;rw[if_neg (by omega),if_pos (by omega)]];exact Tells.const _
      · simp only[Bzq.l0];rw[if_pos (by omega),if_pos (by omega),if_pos (by omega),if_pos (by omega),if_neg (by omega),if_pos h]
theorem r2compare_tells {a b:List Int} (ha:Can a) (hb:Can b) (hn:a.length≤1000000) (hm:b.length≤1000000):Tells (fun k=>Bzq.f k a b) (cmpI (nv a) (nv b)):=by
  unfold Bzq.f;by_cases hl:(a.length:Int)=(b.length:Int)
  · refine Tells.pos hl ?_
    have h:=r2compare_loop a b ha.1 hb.1 (by omega) hn a.length (Nat.le_refl _)
    rw[pv_all (Nat.le_refl _),pv_all (by omega)] at h
    refine h.congr (fun k=>?_)
    rw[wrap64_id (by omega) (by omega)]
  · refine Tells.neg hl ?_
    by_cases h:(a.length:Int) < (b.length:Int)
    · have:=len_lt_val ha hb (by omega)
      rw[show cmpI (nv a) (nv b)=-1 by unfold cmpI;rw[if_pos (by omega)]]
      exact Tells.pos h (Tells.const _)
    · have:=len_lt_val hb ha (by omega)
      rw[show cmpI (nv a) (nv b)=1 by unfold cmpI;rw[if_neg (by omega),if_pos (by omega)]]
      exact Tells.neg h (Tells.const _)
theorem fitv_take {x:List Int} (hx:Lim x) {n:Nat} (hn:n≤x.length) (hb:x.length≤1000000) (e:x.take n=trim x):(if(n:Int) > 48 then some (([]:List Int),(2:Int)) else(some (([]:List Int):List Int)).bind fun y457=>(if 0≤(n:Int) then(if(n:Int)≤(x.length:Int) then(if y457.length+(x.take (n:Int).toNat).length < 17592186044416 then(some ((y457 ++ (x.take (n:Int).toNat)),0)) else(none)) else(none)) else(none)))=some (fitv (nv x)):=by
  have hl:(trim x).length=n:=by rw[← e,List.length_take];omega
  have hc:=len_le_iff (can_dg (nv x)) 48;rw[nv_dg (nv_nonneg hx)] at hc;unfold trim at hl;rw[hl] at hc;unfold fitv;by_cases h:(n:Int) > 48
  · rw[if_pos h,if_neg (fun h'=>by have:=hc.2 h';omega)]
  · rw[if_neg h,if_pos (hc.1 (by omega)),Option.bind_some,if_pos (by omega),if_pos (by omega),Int.toNat_natCast,e,if_pos (by unfold trim;rw[hl];simp;omega)]
    rfl
theorem fit_loop (x:List Int) (hx:Lim x) (hb:x.length≤1000000) (d:Nat):d≤x.length→(∀ i:Nat,d≤i→i < x.length→rd x (i:Int)=0)→Tells (fun k=>Bzz.l0 k x (d:Int)) (fitv (nv x)):=by
  induction d with
  | zero =>
    intro hd hz;refine Tells.up (Tells.const _) (fun k=>?_)
    simp only[Bzz.l0];rw[if_neg (by omega)]
    exact fitv_take hx (n:=0) hd hb (take_trim hx 0 (by omega) hz (.inl rfl))
  | succ d ih =>
    intro hd hz;have w:wrap64 (((d+1:Nat):Int) - 1)=(d:Int):=by rw[wrap64_id (by omega) (by omega)];omega
    by_cases h0:rd x (d:Int)=0
    · refine Tells.up (ih (by omega) (fun i h1 h2=>?_)) (fun k=>?_)
      · rcases Nat.eq_or_lt_of_le h1 with e|e
        · rw[← e];exact h0
        · exact hz i e h2
      · simp only[Bzz.l0]
        rw[if_pos (by omega),w,if_pos (by omega),if_pos (by omega),if_pos h0]
    · refine Tells.up (Tells.const _) (fun k=>?_)
      simp only[Bzz.l0];rw[if_pos (by omega),w,if_pos (by omega),if_pos (by omega),if_neg h0]
      exact fitv_take hx (n:=d+1) hd hb (take_trim hx (d+1) hd hz (.inr (by rw[show((d+1:Nat):Int) - 1=(d:Int) by omega];exact h0)))
theorem fit_tells {x:List Int} (hx:Lim x) (hb:x.length≤1000000):Tells (fun k=>Bzz.f k x) (fitv (nv x)):=by
  unfold Bzz.f;exact fit_loop x hx hb x.length (Nat.le_refl _) (fun i h1 h2=>absurd h2 (by omega))
theorem rd_beyond (l:List Int) (i:Nat) (h:l.length≤i):rd l (i:Int)=0:=by
  show l.getD (i:Int).toNat 0=0
  rw[Int.toNat_natCast];simp [List.getD,List.getElem?_eq_none h]
theorem at_eq (l:List Int) (i:Nat):Ezj.f l (i:Int)=some (rd l (i:Int)):=by
  unfold Ezj.f;by_cases h:(i:Int) < (l.length:Int)
  · rw[if_pos h,if_pos (by omega)]
  · rw[if_neg h,rd_beyond l i (by omega)]
/-- A limb that may lie beyond the end. -/
theorem lim_rd_any {xs:List Int} (h:Lim xs) (i:Nat):0≤rd xs (i:Int)∧rd xs (i:Int) < 1000000000:=by
  rcases Nat.lt_or_ge i xs.length with h1|h1
  · exact h.rd (by omega) (by omega)
  · rw[rd_beyond xs i h1];omega
theorem nv_drop_any (l:List Int) (i:Nat):nv (l.drop i)=rd l (i:Int)+1000000000 * nv (l.drop (i+1)):=by
  rcases Nat.lt_or_ge i l.length with h|h
  · exact nv_drop h
  · rw[nv_drop_all h,nv_drop_all (by omega),rd_beyond l i h];rfl
theorem times_l2 (x:List Int) (hx:Lim x) (hb:x.length≤1000000) (d:Nat):d≤x.length→(∀ i:Nat,d≤i→i < x.length→rd x (i:Int)=0)→Tells (fun k=>Azj.l2 k x (d:Int)) (dg (nv x)):=by
  induction d with
  | zero =>
    intro hd hz;refine Tells.up (Tells.const _) (fun k=>?_)
    simp only[Azj.l2];rw[if_neg (by omega),if_pos (by omega),if_pos (by omega),Int.toNat_natCast,take_trim hx 0 (by omega) hz (.inl rfl)];rfl
  | succ d ih =>
    intro hd hz;have w:wrap64 (((d+1:Nat):Int) - 1)=(d:Int):=by rw[wrap64_id (by omega) (by omega)];omega
    by_cases h0:rd x (d:Int)=0
    · refine Tells.up (ih (by omega) (fun i h1 h2=>?_)) (fun k=>?_)
      · rcases Nat.eq_or_lt_of_le h1 with e|e
        · rw[← e];exact h0
        · exact hz i e h2
      · simp only[Azj.l2]
        rw[if_pos (by omega),w,if_pos (by omega),if_pos (by omega),if_pos h0]
    · refine Tells.up (Tells.const _) (fun k=>?_)
      simp only[Azj.l2];rw[if_pos (by omega),w,if_pos (by omega),if_pos (by omega),if_neg h0,if_pos (by omega),if_pos (by omega),Int.toNat_natCast,take_trim hx (d+1) hd hz (.inr (by rw[show((d+1:Nat):Int) - 1=(d:Int) by omega];exact h0))];rfl

theorem times_inner (a b:List Int) (ha:Lim a) (hb:Lim b) (N:Nat) (hN:N=a.length+b.length) (hn:N≤1000000) (R:List Int) (i:Nat) (hi:i < a.length) (V:Int)
    (hout:∀ x:List Int,x.length=N→Lim x→(∀ m:Nat,i+1+b.length≤m→m < N→rd x (m:Int)=0)→V=nv x+LB (i+1) * (nv (a.drop (i+1)) * nv b)→Tells (fun k=>Azj.l0 k a b x ((i+1:Nat):Int)) R) (d:Nat) :
    ∀ (j:Nat) (x:List Int) (c:Int),j+d=b.length+1→x.length=N→Lim x→(∀ m:Nat,i+max j b.length≤m→m < N→rd x (m:Int)=0)→0≤c→c < 1000000000→(j=b.length+1→c=0) →
      V=nv x+LB (i+j) * (c+rd a (i:Int) * nv (b.drop j))+LB (i+1) * (nv (a.drop (i+1)) * nv b) →
      Tells (fun k=>Azj.l1 k a b x (i:Int) c (j:Int)) R:=by
  have stop:∀ (j:Nat) (x:List Int),b.length≤j→j≤b.length+1→x.length=N→Lim x→(∀ m:Nat,i+max j b.length≤m→m < N→rd x (m:Int)=0)→V=nv x+LB (i+j) * (0+rd a (i:Int) * nv (b.drop j))+LB (i+1) * (nv (a.drop (i+1)) * nv b)→Tells (fun k=>Azj.l1 k a b x (i:Int) 0 (j:Int)) R:=by
    intro j x hj hj1 hx hl hz;have k6:¬ ((j:Int) < (b.length:Int)):=by omega
    have k9:wrap64 ((i:Int)+1)=((i+1:Nat):Int):=by rw[wrap64_id (by omega) (by omega)];omega
    have k5:∀ m:Nat,i+1+b.length≤m→i+max j b.length≤m:=fun m h=>by omega
    intro hv;rw[nv_drop_all hj,Int.mul_zero,Int.zero_add,Int.mul_zero,Int.add_zero] at hv;refine Tells.up (hout x hx hl (fun m h2 h3=>hz m (k5 m h2) h3) hv) (fun k=>?_)
    simp only[Azj.l1];rw[if_neg k6,if_neg (by decide),k9]
  induction d with
  | zero =>
    intro j x c hj hx hl hz h0 h1 hc hv;obtain rfl:=hc (by omega)
    exact stop j x (by omega) (by omega) hx hl hz hv
  | succ d ih =>
    intro j x c hj hx hl hz h0 h1 hc;by_cases hs:b.length≤j∧c=0
    · obtain⟨h2,rfl⟩:=hs
      exact fun hv=>stop j x h2 (by omega) hx hl hz hv
    have i1:i+j < x.length:=by omega
    have i3:i+(j+1)=(i+j)+1:=by omega
    have i4:(j+1)+d=b.length+1:=by omega
    have j2:(0:Int)≤((i+j:Nat):Int):=by omega
    have j3:((i+j:Nat):Int) < (x.length:Int):=by omega
    have j4:(0:Int)≤(i:Int):=by omega
    have j5:(i:Int) < (a.length:Int):=by omega
    have j7:wrap64 ((j:Int)+1)=((j+1:Nat):Int):=by rw[wrap64_id (by omega) (by omega)];omega
    have e0:wrap64 ((i:Int)+(j:Int))=((i+j:Nat):Int):=by rw[wrap64_id (by omega) (by omega)];omega
    have j8:((i+j:Nat):Int).toNat=i+j:=by omega
    have i5:∀ m:Nat,i+max (j+1) b.length≤m→m < N→¬ (i+j=m)∧m < x.length∧i+max j b.length≤m:=fun m h2 h3=>by omega
    have jc:¬ (j:Int) < (b.length:Int)→j=b.length∧c > 0:=fun h=>by
      have:j=b.length:=by omega
      refine⟨this,?_⟩;have:¬ c=0:=fun h3=>hs ⟨by omega,h3⟩
      omega
    have hz0:j=b.length→rd x ((i+j:Nat):Int)=0∧rd b (j:Int)=0:=fun h=>⟨hz (i+j) (by omega) (by omega),rd_beyond b j (by omega)⟩
    have hj1:j+1=b.length+1→j=b.length:=fun h=>by omega
    intro hv;have hr:=hl.rd j2 j3;have hsb:=lim_rd_any hb j;have ht:=ha.rd j4 j5;have hp:=limb_prod ht.1 ht.2 hsb.1 hsb.2;obtain⟨e1,e2,e3,b1,b2,b3,b4,b5⟩:=limb_step hr.1 hr.2 hp.1 hp.2 h0 h1;refine Tells.up (g:=fun k=>Azj.l1 k a b (x.set (i+j) ((rd x ((i+j:Nat):Int)+rd a (i:Int) * rd b (j:Int)+c) % 1000000000)) (i:Int) ((rd x ((i+j:Nat):Int)+rd a (i:Int) * rd b (j:Int)+c) / 1000000000) ((j+1:Nat):Int)) ?_ (fun k=>?_)
    · refine ih (j+1) _ _ i4 (by simpa using hx) (hl.set _ b1 b2) (fun m h2 h3=>?_) b3 b4 (fun h=>?_) ?_
      · rw[rd_set x _ m _ (i5 m h2 h3).2.1,if_neg (i5 m h2 h3).1];exact hz m (i5 m h2 h3).2.2 h3
      · obtain⟨z1,z2⟩:=hz0 (hj1 h)
        rw[z1,z2,Int.mul_zero,Int.zero_add,Int.zero_add];exact Int.ediv_eq_zero_of_lt h0 h1
      · rw[nv_set x (i+j) _ i1,i3,LB_succ (i+j),hv,nv_drop_any b j]
        rw[mul_alg (LB (i+j)) (rd x ((i+j:Nat):Int)) (rd a (i:Int)) (rd b (j:Int)) c (nv (b.drop (j+1))) _ _ (Int.emod_add_mul_ediv _ _)];ac_rfl
    · simp only[Azj.l1]
      by_cases hj':(j:Int) < (b.length:Int)
      · rw[if_pos hj',e0,if_pos j2,if_pos j3,if_pos j4,if_pos j5,at_eq,Option.bind_some,e1,e2,e3,b5,j7,j8]
      · rw[if_neg hj',if_pos (jc hj').2,e0,if_pos j2,if_pos j3,if_pos j4,if_pos j5,at_eq,Option.bind_some,e1,e2,e3,b5,j7,j8]
theorem times_outer (a b:List Int) (ha:Lim a) (hb:Lim b) (N:Nat) (hN:N=a.length+b.length) (hn:N≤1000000) (V:Int) (d:Nat) :
    ∀ (i:Nat) (x:List Int),i+d=a.length→x.length=N→Lim x→(∀ m:Nat,i+b.length≤m→m < N→rd x (m:Int)=0)→V=nv x+LB i * (nv (a.drop i) * nv b) →
      Tells (fun k=>Azj.l0 k a b x (i:Int)) (dg V):=by
  induction d with
  | zero =>
    intro i x hi hx hl hz hv;rw[nv_drop_all (by omega),Int.zero_mul,Int.mul_zero,Int.add_zero] at hv
    refine Tells.up (g:=fun k=>Azj.l2 k x (x.length:Int)) ?_ (fun k=>?_)
    · rw[hv];exact times_l2 x hl (by omega) x.length (Nat.le_refl _) (fun m h2 h3=>absurd h3 (by omega))
    · simp only[Azj.l0];rw[if_neg (by omega)]
  | succ d ih =>
    intro i x hi hx hl hz hv;have hi':i < a.length:=by omega
    have hm:∀ m:Nat,i+max 0 b.length≤m→i+b.length≤m:=fun m h=>by omega
    refine Tells.up (g:=fun k=>Azj.l1 k a b x (i:Int) 0 ((0:Nat):Int)) ?_ (fun k=>?_)
    · refine times_inner a b ha hb N hN hn _ i hi' V (fun y h1 h2 h3 h4=>ih (i+1) y (by omega) h1 h2 h3 h4) (b.length+1) 0 x 0 (by omega) hx hl (fun m h1 h2=>hz m (hm m h1) h2) (by omega) (by omega) (fun _=>rfl) ?_
      rw[hv,nv_drop (l:=a) (i:=i) hi',List.drop_zero,Nat.add_zero,Int.zero_add,LB_succ,mul_alg2];ac_rfl
    · simp only[Azj.l0];rw[if_pos (by omega)];rfl
theorem times_tells {a b:List Int} (ha:Lim a) (hb:Lim b) (hla:a.length≤1000) (hlb:b.length≤1000):Tells (fun k=>Azj.f k a b) (dg (nv a * nv b)):=by
  unfold Azj.f;have hw:wrap64 ((a.length:Int)+(b.length:Int))=((a.length+b.length:Nat):Int):=by rw[wrap64_id (by omega) (by omega)];omega
  rw[hw];refine Tells.pos (by omega) (Tells.pos (by omega) ?_)
  rw[Int.toNat_natCast];refine times_outer a b ha hb (a.length+b.length) rfl (by omega) _ a.length 0 _ (by omega) (by simp) (Lim.zeros _) (fun m _ h2=>rd_replicate _ m 0 h2) ?_
  rw[nv_zeros,LB_zero,List.drop_zero];omega
theorem dg_len (n:Int) (m:Nat) (h:n < LB m):(dg n).length≤m:=by
  rcases Int.lt_or_le n 0 with h0|h0
  · have:dg n=[]:=by unfold dg;rw[show n.toNat=0 by omega];exact digs_zero
    rw[this];simp
  · exact len_le (can_dg n) (by rw[nv_dg h0];exact h)
theorem cmpI_le {x y:Int}:cmpI x y≤0 ↔ x≤y:=by
  unfold cmpI;split
  · omega
  · split <;> omega
theorem r2digit_loop {r b:List Int} (hr:Can r) (hb:Can b) (hrl:r.length≤100) (hbl:b.length≤100) (n:Nat):∀ lo hi:Int,(hi - lo).toNat≤n→0≤lo→lo≤hi→hi≤999999999→lo * nv b≤nv r→nv r < (hi+1) * nv b→Tells (fun k=>Bzm.l0 k r b lo hi) (nv r / nv b):=by
  induction n with
  | zero =>
    intro lo hi hn h0 h1 h2 h3 h4;obtain rfl:hi=lo:=by omega
    have hb0:0 < nv b:=by
      rcases Int.lt_or_le 0 (nv b) with h|h
      · exact h
      · exfalso
        have:=nv_nonneg hb.1;have e:nv b=0:=by omega
        rw[e,Int.mul_zero] at h3 h4;omega
    have h5:hi≤nv r / nv b:=Int.le_ediv_of_mul_le hb0 h3;have h6:nv r / nv b < hi+1:=Int.ediv_lt_of_lt_mul hb0 h4;have e:nv r / nv b=hi:=by omega
    rw[e];refine Tells.up (Tells.const _) (fun k=>?_)
    simp only[Bzm.l0];rw[if_neg (by omega)]
  | succ n ih =>
    intro lo hi hn h0 h1 h2 h3 h4;rcases Int.lt_or_eq_of_le h1 with h|h
    · have e1:wrap64 (wrap64 (lo+hi)+1)=lo+hi+1:=by rw[wrap64_id (n:=lo+hi) (by omega) (by omega),wrap64_id (by omega) (by omega)]
      have e2:Int.tdiv (lo+hi+1) 2=(lo+hi+1) / 2:=Int.tdiv_eq_ediv_of_nonneg (by omega)
      obtain⟨m,hm⟩:∃ m,(lo+hi+1) / 2=m:=⟨_,rfl⟩;have b1:lo < m:=by omega
      have b2:m≤hi:=by omega
      have e3:wrap64 m=m:=wrap64_id (by omega) (by omega)
      have e4:wrap64 (m - 1)=m - 1:=wrap64_id (by omega) (by omega)
      have hl1:Lim [m]:=Lim.mk (by omega) (by omega) Lim.nil
      have ht:=times_tells hb.1 hl1 (by omega) (by simp)
      rw[nv_single] at ht;have hlen:(dg (nv b * m)).length≤1000:=by
        refine Nat.le_trans (dg_len _ (b.length+1) ?_) (by omega)
        have h5:=nv_lt hb.1;have h6:=nv_nonneg hb.1;rw[LB_succ];have h7:nv b * m≤nv b * 1000000000:=Int.mul_le_mul_of_nonneg_left (by omega) h6
        omega
      have hc:=r2compare_tells (can_dg (nv b * m)) hr (by omega) (by omega)
      have hnb:=nv_nonneg hb.1;rw[nv_dg (Int.mul_nonneg hnb (by omega))] at hc
      refine Tells.up (ht.bind (g:=fun k t490=>(Bzq.f k t490 r).bind fun t493=>(if t493≤0 then(Bzm.l0 k r b m hi) else(Bzm.l0 k r b lo (m - 1)))) (hc.bind ?_)) (fun k=>?_)
      · by_cases hcmp:cmpI (nv b * m) (nv r)≤0
        · simp only[if_pos hcmp]
          have:=cmpI_le.1 hcmp;exact ih m hi (by omega) (by omega) b2 h2 (by rw[Int.mul_comm];exact this) h4
        · simp only[if_neg hcmp]
          have h9:¬ nv b * m≤nv r:=fun h=>hcmp (cmpI_le.2 h)
          refine ih lo (m - 1) (by omega) h0 (by omega) (by omega) h3 ?_
          rw[show m - 1+1=m by omega,Int.mul_comm]
          omega
      · simp only[Bzm.l0]
        rw[if_pos h,e1,e2,hm,e3,e4]
    · exact ih lo hi (by omega) h0 h1 h2 h3 h4
theorem r2digit_tells {r b:List Int} (hr:Can r) (hb:Can b) (hrl:r.length≤100) (hbl:b.length≤100) (h:nv r < 1000000000 * nv b):Tells (fun k=>Bzm.f k r b) (nv r / nv b):=by
  unfold Bzm.f;have h0:=nv_nonneg hr.1;exact r2digit_loop hr hb hrl hbl 999999999 0 999999999 (by omega) (by omega) (by omega) (by omega) (by rw[Int.zero_mul];exact h0) (by rw[show(999999999:Int)+1=1000000000 by omega];exact h)
theorem sub_limb {x y w:Int} (hx:0≤x) (hx1:x < 1000000000) (hy:0≤y) (hy1:y < 1000000000) (hw:0≤w) (hw1:w≤1):wrap64 (wrap64 (x - y) - w)=x - y - w∧wrap64 (x - y - w+1000000000)=x - y - w+1000000000:=by
  rw[wrap64_id (n:=x - y) (by omega) (by omega)]
  exact⟨wrap64_id (by omega) (by omega),wrap64_id (by omega) (by omega)⟩
theorem minus_loop (a b:List Int) (ha:Lim a) (hb:Lim b) (hn:a.length≤1000) (hle:b.length≤a.length) (D:Int) (hD:0≤D) (hD1:D < LB 48) (d:Nat):∀ (i:Nat) (x:List Int) (w:Int),i+d=a.length→x.length=i→Lim x→0≤w→w≤1→D=nv x+LB i * (nv (a.drop i) - nv (b.drop i) - w)→Tells (fun k=>Bzv.l0 k a b x w (i:Int)) (dg D):=by
  induction d with
  | zero =>
    intro i x w hi hx hl hw hw1 hv;rw[nv_drop_all (by omega),nv_drop_all (l:=b) (by omega)] at hv
    have h1:=nv_lt hl;rw[hx] at h1;have h2:=nv_nonneg hl;have h3:=LB_pos i;have hw0:w=0:=by
      rcases Int.lt_or_le 0 w with h|h
      · obtain rfl:w=1:=by omega
        omega
      · omega
    subst hw0;have e:D=nv x:=by rw[hv];omega
    have hf:=fit_tells hl (by omega)
    rw[← e] at hf;unfold fitv at hf;rw[if_pos hD1] at hf;refine Tells.up (hf.bind (g:=fun k bt502=>(some bt502.1)) (Tells.const _)) (fun k=>?_)
    simp only[Bzv.l0];rw[if_neg (by omega)]
  | succ d ih =>
    intro i x w hi hx hl hw hw1;have c1:(i:Int) < (a.length:Int):=by omega
    have c2:(0:Int)≤(i:Int):=by omega
    have c3:x.length < 17592186044416:=by omega
    have c4:i < a.length:=by omega
    have ei:wrap64 ((i:Int)+1)=((i+1:Nat):Int):=by rw[wrap64_id (by omega) (by omega)];omega
    have i1:(i+1)+d=a.length:=by omega
    intro hv;have ra:=ha.rd c2 c1;have rb:=lim_rd_any hb i;obtain⟨e1,e2⟩:=sub_limb ra.1 ra.2 rb.1 rb.2 hw hw1;rw[nv_drop c4,nv_drop_any b i] at hv;by_cases hs:rd a (i:Int) - rd b (i:Int) - w < 0
    · refine Tells.up (ih (i+1) (x ++ [rd a (i:Int) - rd b (i:Int) - w+1000000000]) 1 i1 (by simp [hx]) (hl.append (Lim.mk (by omega) (by omega) Lim.nil)) (by omega) (by omega) ?_) (fun k=>?_)
      · rw[nv_snoc,hx,LB_succ,hv];grind
      · simp only[Bzv.l0]
        rw[if_pos c1,if_pos c2,at_eq,Option.bind_some,e1,if_pos hs,if_pos c3,e2,ei]
    · refine Tells.up (ih (i+1) (x ++ [rd a (i:Int) - rd b (i:Int) - w]) 0 i1 (by simp [hx]) (hl.append (Lim.mk (by omega) (by omega) Lim.nil)) (by omega) (by omega) ?_) (fun k=>?_)
      · rw[nv_snoc,hx,LB_succ,hv];grind
      · simp only[Bzv.l0]
        rw[if_pos c1,if_pos c2,at_eq,Option.bind_some,e1,if_neg hs,if_pos c3,ei]
theorem minus_tells {a b:List Int} (ha:Can a) (hb:Can b) (hn:a.length≤1000) (hle:nv b≤nv a) (hD1:nv a - nv b < LB 48):Tells (fun k=>Bzv.f k a b) (dg (nv a - nv b)):=by
  unfold Bzv.f;have hl:b.length≤a.length:=by
    rcases Nat.lt_or_ge a.length b.length with h|h
    · have:=len_lt_val ha hb h;omega
    · exact h
  refine minus_loop a b ha.1 hb.1 hn hl _ (by omega) hD1 a.length 0 [] 0 (by omega) rfl Lim.nil (by omega) (by omega) ?_
  rw[LB_zero,List.drop_zero,List.drop_zero];simp [nv]
theorem r2div_end {A B Q r:Int} (e:A=Q * B+r) (h0:0≤r) (h1:r < B):A / B=Q∧A % B=r:=by
  have hB:0 < B:=by omega
  have h2:=Int.add_mul_ediv_left r Q (show B≠0 by omega)
  have h3:=Int.ediv_eq_zero_of_lt h0 h1;have e1:A=r+B * Q:=by rw[e,Int.mul_comm];omega
  refine⟨by rw[e1,h2,h3];omega,?_⟩
  rw[e1,Int.add_mul_emod_self_left];exact Int.emod_eq_of_lt h0 h1
theorem divmod_loop (a b:List Int) (ha:Lim a) (hb:Can b) (hal:a.length≤48) (hbl:b.length≤48) (hb0:0 < nv b) (d:Nat):∀ (q r:List Int),d≤a.length→q.length=a.length→Lim q→Can r→nv r < nv b→(∀ j:Nat,j < d→rd q (j:Int)=0)→nv a=nv q * nv b+LB d * nv r+pv a d→Tells (fun k=>Azq.l0 k a b q r ((d:Int) - 1)) (dg (nv a / nv b),dg (nv a % nv b),0):=by
  induction d with
  | zero =>
    intro q r hd hq hql hr hrb hz hv;rw[pv_zero,LB_zero,Int.one_mul,Int.add_zero] at hv;obtain⟨e1,e2⟩:=r2div_end hv (nv_nonneg hr.1) hrb;have hf:=fit_tells hql (by omega)
    have hq48:nv q < LB 48:=Int.lt_of_lt_of_le (nv_lt hql) (LB_le (by omega))
    unfold fitv at hf;rw[if_pos hq48] at hf;rw[e1,e2,dg_nv hr];refine Tells.up (hf.bind (g:=fun k bt511=>(some (bt511.1,r,0))) (Tells.const _)) (fun k=>?_)
    simp only[Azq.l0];rw[if_neg (by omega)]
  | succ d ih =>
    intro q r hd hq hql hr hrb hz;have c1:((d+1:Nat):Int) - 1=(d:Int):=by omega
    have c2:(0:Int)≤(d:Int):=by omega
    have c3:(d:Int) < (a.length:Int):=by omega
    have c4:(d:Int) < (q.length:Int):=by omega
    have c5:wrap64 ((d:Int) - 1)=(d:Int) - 1:=wrap64_id (by omega) (by omega)
    have c6:d < a.length:=by omega
    have c7:d < q.length:=by omega
    have c8:d≤a.length:=by omega
    have hrl:r.length≤48:=Nat.le_trans (len_le hr (n:=b.length) (Int.lt_trans hrb (nv_lt hb.1))) hbl;have c9:wrap64 (((rd a (d:Int) :: r).length:Int) - 1)=(r.length:Int):=by rw[List.length_cons,wrap64_id (by omega) (by omega)];omega
    have c10:(0:Int)≤(r.length:Int)∧(r.length:Int) < ((rd a (d:Int) :: r).length:Int):=by rw[List.length_cons];omega
    have c11:1+r.length < 17592186044416:=by omega
    have hq0:=hz d (by omega)
    have zlt:∀ j:Nat,j < d→j < q.length∧¬ d=j∧j < d+1:=fun j hj=>by omega
    intro hv;have hra:=ha.rd c2 c3;have hr0:=nv_nonneg hr.1;obtain⟨s,hs⟩:∃ s:List Int,s=if rd (rd a (d:Int) :: r) (r.length:Int)=0 then [] else rd a (d:Int) :: r:=⟨_,rfl⟩
    have hnv:nv (rd a (d:Int) :: r)=rd a (d:Int)+1000000000 * nv r:=rfl;have hsc:Can s∧nv s=rd a (d:Int)+1000000000 * nv r∧s.length≤49:=by
      by_cases hz0:rd (rd a (d:Int) :: r) (r.length:Int)=0
      · rw[if_pos hz0] at hs
        subst hs;have hre:r=[]:=by
          rcases hr.2 with h|h
          · exact h
          · exfalso
            rcases Nat.eq_zero_or_pos r.length with h0|h0
            · have:=List.eq_nil_of_length_eq_zero h0
              subst this;exact h rfl
            · apply h
              have:=rd_cons_succ (rd a (d:Int)) r ((r.length:Int) - 1) (by omega)
              rw[show(r.length:Int) - 1+1=(r.length:Int) by omega] at this
              rw[← this];exact hz0
        subst hre;have:rd a (d:Int)=0:=hz0;refine⟨Can.nil,?_,by simp⟩
        rw[this];rfl
      · rw[if_neg hz0] at hs
        subst hs;refine⟨⟨Lim.mk hra.1 hra.2 hr.1,.inr ?_⟩,rfl,by rw[List.length_cons];omega⟩
        rw[List.length_cons,show((r.length+1:Nat):Int) - 1=(r.length:Int) by omega]
        exact hz0
    obtain⟨hsC,hsv,hsl⟩:=hsc;have hsb:nv s < 1000000000 * nv b:=by omega
    have hdig:=r2digit_tells hsC hb (by omega) (by omega) hsb
    obtain⟨x,hx⟩:∃ x,nv s / nv b=x:=⟨_,rfl⟩;rw[hx] at hdig;have x0:0≤x:=by rw[← hx];exact Int.ediv_nonneg (by omega) (by omega)
    have x1:x < 1000000000:=by rw[← hx];exact Int.ediv_lt_of_lt_mul hb0 hsb
    have hm0:=Int.emod_nonneg (nv s) (show nv b≠0 by omega)
    have hm1:=Int.emod_lt_of_pos (nv s) hb0;have hme:=Int.emod_add_mul_ediv (nv s) (nv b);rw[hx] at hme;obtain⟨y,hy⟩:∃ y,nv s % nv b=y:=⟨_,rfl⟩;rw[hy] at hm0 hm1 hme;have key:Tells (fun k=>Azq.l0 k a b (q.set d x) (dg y) ((d:Int) - 1)) (dg (nv a / nv b),dg (nv a % nv b),0):=by
      refine ih (q.set d x) (dg y) c8 (by simpa using hq) (hql.set _ x0 x1) (can_dg y) (by rw[nv_dg hm0];exact hm1) (fun j hj=>?_) ?_
      · rw[rd_set q d j x (zlt j hj).1,if_neg (zlt j hj).2.1];exact hz j (zlt j hj).2.2
      · rw[nv_set q d x c7,hq0,Int.sub_zero,nv_dg hm0,hv,pv_succ c6,LB_succ]
        grind
    have hb48:nv b < LB 48:=Int.lt_of_lt_of_le (nv_lt hb.1) (LB_le hbl);have j2:Tells (fun k=>Azq.j2 k a b q s (d:Int)) (dg (nv a / nv b),dg (nv a % nv b),0):=by
      refine Tells.up (g:=fun k=>(Bzm.f k s b).bind fun t523=>(if t523 > 0 then((Azj.f k b (([t523]:List Int))).bind fun t528=>((Bzv.f k s t528).bind fun t531=>(Azq.l0 k a b (q.set d t523) t531 ((d:Int) - 1)))) else(Azq.l0 k a b (q.set d t523) s ((d:Int) - 1)))) (hdig.bind ?_) (fun k=>?_)
      · by_cases hx0:x > 0
        · simp only[if_pos hx0]
          have ht:=times_tells hb.1 (b:=[x]) (Lim.mk x0 x1 Lim.nil) (by omega) (by simp)
          rw[nv_single] at ht;refine ht.bind ?_;have hbx:=Int.mul_nonneg (Int.le_of_lt hb0) x0;have hmi:=minus_tells hsC (can_dg (nv b * x)) (by omega) (by rw[nv_dg hbx];omega) (by rw[nv_dg hbx];omega)
          rw[nv_dg hbx,show nv s - nv b * x=y by omega] at hmi
          exact hmi.bind key
        · simp only[if_neg hx0]
          obtain rfl:x=0:=by omega
          have e:dg y=s:=by
            rw[Int.mul_zero,Int.add_zero] at hme;rw[hme];exact dg_nv hsC
          rw[e] at key;exact key
      · simp only[Azq.j2]
        simp only[if_pos c2,if_pos c4,Option.bind_some,Int.toNat_natCast,c5]
    refine Tells.up j2 (fun k=>?_)
    rw[c1];simp only[Azq.l0];rw[if_pos c2,if_pos c2,if_pos c3];simp only[Option.bind_some];rw[if_pos (show([rd a (d:Int)]:List Int).length+r.length < 17592186044416 from c11)]
    rw[show([rd a (d:Int)]:List Int) ++ r=rd a (d:Int) :: r from rfl,c9,if_pos c10.1,if_pos c10.2]
    by_cases hz0:rd (rd a (d:Int) :: r) (r.length:Int)=0
    · rw[if_pos hz0] at hs
      rw[if_pos hz0,hs]
    · rw[if_neg hz0] at hs
      rw[if_neg hz0,hs]
theorem R2DivMod_tells {a b:List Int} (ha:natOk a=true) (hb:natOk b=true) (h0:0 < b.length):Tells (fun k=>Azq.f k a b) (dg (nv a / nv b),dg (nv a % nv b),0):=by
  unfold Azq.f;obtain⟨ca,la⟩:=natOk_iff.1 ha;obtain⟨cb,lb⟩:=natOk_iff.1 hb;refine(R2Valid_tells a).bind ?_;refine Tells.pos ha ((R2Valid_tells b).bind ?_);rw[hb];have hw:wrap64 ((a.length:Int) - 1)=(a.length:Int) - 1:=wrap64_id (by omega) (by omega)
  refine Tells.up (divmod_loop a b ca.1 cb la lb (nv_pos cb h0) a.length (List.replicate a.length 0) [] (Nat.le_refl _) (by simp) (Lim.zeros _) Can.nil (nv_pos cb h0) (fun j hj=>rd_replicate _ j 0 hj) ?_) (fun k=>?_)
  · rw[nv_zeros,pv_all (Nat.le_refl _)]
    show nv a=0 * nv b+LB a.length * 0+nv a
    rw[Int.zero_mul,Int.mul_zero];omega
  · simp only[Azq.j0]
    rw[if_neg (by decide),if_neg (by omega),if_pos (by omega),Int.toNat_natCast,if_pos (by omega),hw]
theorem r2gcd_loop (n:Nat):∀ (a b:List Int),(nv b).toNat≤n→natOk a=true→natOk b=true→Tells (fun k=>Azp.l0 k a b) (dg (gI (nv a) (nv b)),0):=by
  induction n with
  | zero =>
    intro a b h ha hb;obtain⟨ca,la⟩:=natOk_iff.1 ha;obtain⟨cb,lb⟩:=natOk_iff.1 hb;have hb0:=nv_nonneg cb.1;have e:nv b=0:=by omega
    have el:=(len_zero_iff cb).2 e;rw[e,gI_zero (nv_nonneg ca.1),dg_nv ca];exact Tells.up (Tells.const _) (fun k=>by simp only[Azp.l0];rw[if_neg (by omega)])
  | succ n ih =>
    intro a b h ha hb;obtain⟨ca,la⟩:=natOk_iff.1 ha;obtain⟨cb,lb⟩:=natOk_iff.1 hb;rcases Nat.eq_zero_or_pos b.length with el|el
    · have e:=(len_zero_iff cb).1 el
      rw[e,gI_zero (nv_nonneg ca.1),dg_nv ca];exact Tells.up (Tells.const _) (fun k=>by simp only[Azp.l0];rw[if_neg (by omega)])
    · have hb0:=nv_pos cb el
      have hm0:=Int.emod_nonneg (nv a) (show nv b≠0 by omega)
      have hm1:=Int.emod_lt_of_pos (nv a) hb0;have hb48:nv b < LB 48:=Int.lt_of_lt_of_le (nv_lt cb.1) (LB_le lb);have k:=ih b (dg (nv a % nv b)) (by rw[nv_dg hm0];omega) hb (natOk_dg (by omega))
      rw[nv_dg hm0,← gI_step (nv_nonneg ca.1) hb0] at k;refine Tells.up ((R2DivMod_tells ha hb el).bind (g:=fun k bt542=>Azp.l0 k b bt542.2.1) k) (fun k=>?_)
      simp only[Azp.l0];rw[if_pos (by omega)]
      simp only[Option.bind_some,List.nil_append,List.length_nil,if_pos (show 0+b.length < 17592186044416 by omega)]
theorem R2Gcd_tells {a b:List Int} (ha:natOk a=true) (hb:natOk b=true):Tells (fun k=>Azp.f k a b) (dg (gI (nv a) (nv b)),0):=by
  unfold Azp.f;obtain⟨ca,la⟩:=natOk_iff.1 ha;refine(R2Valid_tells a).bind ?_;refine Tells.pos ha ((R2Valid_tells b).bind ?_);rw[hb];refine Tells.up (r2gcd_loop (nv b).toNat a b (Nat.le_refl _) ha hb) (fun k=>?_)
  simp only[Azp.j0];rw[if_neg (by decide),Option.bind_some,if_pos (by rw[List.length_nil];omega),List.nil_append]

theorem Reduce_tells {n:Bool} {p q:List Int} (hp:natOk p=true) (hq:natOk q=true) (h0:0 < q.length):Tells (fun k=>Dzz.f k n p q) ((redR n (nv p) (nv q)).1,(redR n (nv p) (nv q)).2.1,(redR n (nv p) (nv q)).2.2.1):=by
  unfold Dzz.f redR;obtain⟨cp,lp⟩:=natOk_iff.1 hp;obtain⟨cq,lq⟩:=natOk_iff.1 hq;have hq0:=nv_pos cq h0;have hp0:=nv_nonneg cp.1;have hg0:=gI_pos (P:=nv p) hq0;have hgl:=gI_le_right (P:=nv p) hq0;have hgo:natOk (dg (gI (nv p) (nv q)))=true:=natOk_dg (Int.lt_of_le_of_lt hgl (Int.lt_of_lt_of_le (nv_lt cq.1) (LB_le lq)));have hgn:nv (dg (gI (nv p) (nv q)))=gI (nv p) (nv q):=nv_dg (Int.le_of_lt hg0);have hgz:0 < (dg (gI (nv p) (nv q))).length:=by
    rcases Nat.eq_zero_or_pos (dg (gI (nv p) (nv q))).length with h|h
    · have:=(len_zero_iff (can_dg _)).1 h
      rw[hgn] at this;omega
    · exact h
  obtain⟨a,b,g,g0,ge,ea,eb,e1,e2,a0,b0⟩:=red_parts hp0 hq0;rw[← ge] at hgo hgn hgz hg0 hgl ⊢;refine(R2Gcd_tells hp hq).bind ?_;rw[← ge];have dp:=R2DivMod_tells hp hgo hgz;have dq:=R2DivMod_tells hq hgo hgz;rw[hgn] at dp dq;refine dp.bind (dq.bind ?_);cases n with
  | true =>
    refine Tells.pos rfl ?_;have hl:(0 < (dg (nv p / g)).length) ↔ nv p≠0:=by
      have h1:=len_zero_iff (can_dg (nv p / g));rw[nv_dg (by rw[ea];exact a0),ea] at h1
      constructor
      · intro h e
        have:a=0:=by
          rw[e1] at e;rcases Int.mul_eq_zero.1 e with h|h
          · omega
          · exact h
        rw[ea] at h;omega
      · intro h
        rcases Nat.eq_zero_or_pos (dg (nv p / g)).length with h2|h2
        · exfalso
          rw[ea] at h2;have:=h1.1 h2;rw[this,Int.mul_zero] at e1;exact h e1
        · exact h2
    by_cases h:nv p≠0
    · rw[decide_eq_true h]
      exact(Tells.const _).congr (fun k=>by rw[decide_eq_true (hl.2 h)];rfl)
    · rw[decide_eq_false h]
      exact(Tells.const _).congr (fun k=>by rw[decide_eq_false (fun h'=>h (hl.1 h'))];rfl)
  | false=>exact Tells.neg (by decide) (Tells.const _)
theorem mx_abs {n:Int} (h:inR n=true):mx n (wrap64 (-n))=absI n:=by
  have hr:=inR_iff.1 h;rw[wrap64_id (by omega) (by omega)]
  unfold mx absI;by_cases h1:n < 0
  · rw[if_pos (by omega),if_pos h1]
  · rw[if_neg (by omega),if_neg h1]
theorem R3Make_tells (p q:Int):Tells (fun k=>Azk.f k p q) (makeR p q):=by
  have bad:Tells (fun k=>Azk.j0 k p q true) (false,[],[],1):=Tells.up (Tells.const _) (fun k=>by rw[Azk.j0,if_pos rfl])
  unfold Azk.f makeR;by_cases h1:p < -1125899906842624
  · rw[show inR p=false by unfold inR;rw[decide_eq_false (by omega)];rfl];exact Tells.pos h1 bad
  refine Tells.neg h1 ?_;by_cases h2:p > 1125899906842624
  · rw[show inR p=false by unfold inR;rw[decide_eq_false (by omega:¬ p≤1125899906842624),Bool.and_false]];exact Tells.pos h2 bad
  refine Tells.neg h2 ?_;have hp:inR p=true:=inR_iff.2 ⟨by omega,by omega⟩
  rw[hp,Bool.true_and];by_cases h3:q < -1125899906842624
  · rw[show inR q=false by unfold inR;rw[decide_eq_false (by omega)];rfl];exact Tells.pos h3 bad
  refine Tells.neg h3 ?_;by_cases h4:q > 1125899906842624
  · rw[show inR q=false by unfold inR;rw[decide_eq_false (by omega:¬ q≤1125899906842624),Bool.and_false],decide_eq_true h4];exact bad
  rw[decide_eq_false h4];have hq:inR q=true:=inR_iff.2 ⟨by omega,by omega⟩
  rw[hq,if_pos rfl];by_cases h5:q=0
  · rw[if_pos h5]
    exact Tells.up (Tells.const _) (fun k=>by rw[Azk.j0,if_neg (by decide),if_pos h5])
  rw[if_neg h5];have h48:=LB48;have ap:=absI_le hp;have aq:=absI_le hq;have ap0:=absI_nonneg p;have aq0:0 < absI q:=by unfold absI;split <;> omega
  have hl:0 < (dg (absI q)).length:=by
    rcases Nat.eq_zero_or_pos (dg (absI q)).length with h|h
    · have:=(len_zero_iff (can_dg _)).1 h
      rw[nv_dg (by omega)] at this
      omega
    · exact h
  have hr:=Reduce_tells (n:=(decide (p < 0)) != (decide (q < 0))) (natOk_dg (n:=absI p) (by omega)) (natOk_dg (n:=absI q) (by omega)) hl
  rw[nv_dg ap0,nv_dg (Int.le_of_lt aq0)] at hr;refine Tells.up (g:=fun k=>(Czj.f k (absI p)).bind fun bt575=>((Czj.f k (absI q)).bind fun bt579=>((Dzz.f k ((decide (p < 0)) != (decide (q < 0))) bt575.1 bt579.1).bind fun bt583=>(some (bt583.1,bt583.2.1,bt583.2.2,0))))) ?_ (fun k=>by rw[Azk.j0,if_neg (by decide),if_neg h5,mx_abs hp,mx_abs hq])
  exact(R2Of_tells ap0 (by omega)).bind ((R2Of_tells (by omega) (by omega)).bind (hr.bind (Tells.const _)))

theorem R2Mul_tells {a b:List Int} (ha:natOk a=true) (hb:natOk b=true):Tells (fun k=>Bzy.f k a b) (fitv (nv a * nv b)):=by
  unfold Bzy.f;obtain⟨ca,la⟩:=natOk_iff.1 ha;obtain⟨cb,lb⟩:=natOk_iff.1 hb;refine(R2Valid_tells a).bind ?_;refine Tells.pos ha ((R2Valid_tells b).bind ?_);rw[hb];have hlt:=nv_lt ca.1;have hlt2:=nv_lt cb.1;have h0:=nv_nonneg ca.1;have h1:=nv_nonneg cb.1;have hl:(dg (nv a * nv b)).length≤1000:=by
    refine Nat.le_trans (dg_len _ (a.length+b.length) ?_) (by omega)
    rw[LB_add];rcases Int.lt_or_eq_of_le h1 with h|h
    · exact Int.lt_of_lt_of_le (Int.mul_lt_mul_of_pos_right hlt h) (Int.mul_le_mul_of_nonneg_left (Int.le_of_lt hlt2) (Int.le_of_lt (LB_pos _)))
    · rw[← h,Int.mul_zero];exact Int.mul_pos (LB_pos _) (LB_pos _)
  have hf:=fit_tells (can_dg (nv a * nv b)).1 (by omega)
  rw[nv_dg (Int.mul_nonneg h0 h1)] at hf;refine Tells.up (g:=fun k=>(Azj.f k a b).bind fun t652=>((Bzz.f k t652).bind fun bt655=>(some (bt655.1,bt655.2)))) ?_ (fun k=>by simp only[Bzy.j0];rw[if_neg (by decide)])
  exact(times_tells ca.1 cb.1 (by omega) (by omega)).bind (hf.bind (Tells.const _))
theorem limbs_one (g:List Int):Tells (fun k=>Czv.f k g [1]) (decide (g.length=1∧rd g 0=1)):=by
  unfold Czv.f;by_cases h:g.length=1
  · refine Tells.pos (by rw[h];rfl) ?_
    by_cases h1:rd g 0=1
    · rw[decide_eq_true ⟨h,h1⟩]
      refine Tells.up (g:=fun k=>Czv.l0 k g [1] 1) (Tells.up (Tells.const true) (fun k=>by rw[Czv.l0,if_neg (by omega)])) (fun k=>?_)
      rw[Czv.l0,if_pos (by omega),if_pos (by omega),if_pos (by simp),if_pos (by rw[h1];rfl),wrap64_id (by omega) (by omega)]
      rfl
    · rw[decide_eq_false (fun h'=>h1 h'.2)]
      refine Tells.up (Tells.const false) (fun k=>?_)
      rw[Czv.l0,if_pos (by omega),if_pos (by omega),if_pos (by simp),if_neg (fun e=>h1 (by rw[e];rfl))]
  · rw[decide_eq_false (fun h'=>h h'.1)]
    exact Tells.neg (fun e=>h (by have:(g.length:Int)=1:=e;omega)) (Tells.const _)
theorem R3Valid_tells (n:Bool) (p q:List Int):Tells (fun k=>Azw.f k n p q) (ratOk n p q):=by
  have bad:Tells (fun k=>Azw.j0 k true n p q) false:=Tells.up (Tells.const _) (fun k=>by rw[Azw.j0,if_pos rfl])
  unfold Azw.f ratOk;refine(R2Valid_tells p).bind ?_;by_cases hp:natOk p=true
  · rw[hp,Bool.true_and]
    refine Tells.pos rfl ((R2Valid_tells q).bind ?_);by_cases hq:natOk q=true
    · rw[hq,Bool.true_and]
      refine Tells.pos rfl ?_;by_cases hl:q.length=0
      · rw[decide_eq_false (by omega:¬ q.length≠0)]
        exact Tells.pos (by omega) bad
      · rw[decide_eq_true (show q.length≠0 from hl),Bool.true_and]
        refine Tells.neg (by omega) ?_
        have hg:Tells (fun k=>Azw.j0 k false n p q) (decide (gI (nv p) (nv q)=1)):=by
          have h1:=one_iff (gI_nonneg (nv p) (nv q));have hlim:=limbs_one (dg (gI (nv p) (nv q)));rw[show decide ((dg (gI (nv p) (nv q))).length=1∧rd (dg (gI (nv p) (nv q))) 0=1)=decide (gI (nv p) (nv q)=1) from decide_eq_decide.2 h1] at hlim
          refine Tells.up (g:=fun k=>(Azp.f k p q).bind fun bt642=>(if bt642.2=0 then((Czv.f k bt642.1 (([1]:List Int))).bind fun t649=>(some t649)) else(some false))) ?_ (fun k=>by rw[Azw.j0,if_neg (by decide)])
          refine(R2Gcd_tells hp hq).bind ?_;exact Tells.pos rfl (hlim.bind (Tells.const _))
        by_cases h0:p.length=0
        · rw[decide_eq_true h0,Bool.and_true]
          refine Tells.pos (by omega) ?_
          cases n with
          | true=>exact bad
          | false=>exact hg
        · rw[decide_eq_false h0,Bool.and_false]
          exact Tells.neg (by omega) hg
    · rw[show natOk q=false by simpa using hq,Bool.false_and]
      exact Tells.neg (by decide) bad
  · rw[show natOk p=false by simpa using hp]
    exact Tells.neg (by decide) bad
theorem R3Of_tells (p:Int):Tells (fun k=>Czp.f k p) (makeR p 1):=by
  unfold Czp.f;exact(R3Make_tells p 1).bind (Tells.const _)

theorem add_stop (a b:List Int) (x:List Int) (i:Nat) (h1:a.length≤i) (h2:b.length≤i) (hx:Lim x) (hl:x.length≤1000):Tells (fun k=>Azx.l0 k a b x 0 (i:Int)) (fitv (nv x)):=by
  have hf:=fit_tells hx (by omega)
  refine Tells.up (g:=fun k=>Azx.j2 k a b x 0 (i:Int) false) (Tells.up (hf.bind (g:=fun k bt907=>(some (bt907.1,bt907.2))) (Tells.const _)) (fun k=>by rw[Azx.j2,if_neg (by decide)])) (fun k=>?_)
  rw[Azx.l0,if_neg (by omega),if_neg (by omega)]
  rfl
theorem add_round {a b:List Int} (ha:Lim a) (hb:Lim b) {x:List Int} {c:Int} {i:Nat} (hc:0≤c) (hc1:c≤1) (hi:i≤1000) (hl:x.length≤1000) {r:List Int × Int}
    (h:Tells (fun k=>Azx.l0 k a b (x ++ [(rd a (i:Int)+rd b (i:Int)+c) % 1000000000]) ((rd a (i:Int)+rd b (i:Int)+c) / 1000000000) ((i+1:Nat):Int)) r):Tells (fun k=>Azx.j2 k a b x c (i:Int) true) r:=by
  have ra:=lim_rd_any ha i;have rb:=lim_rd_any hb i;refine Tells.up h (fun k=>?_)
  rw[Azx.j2,if_pos rfl,at_eq,Option.bind_some,at_eq,Option.bind_some,if_pos (by omega),wrap64_id (n:=rd a (i:Int)+rd b (i:Int)) (by omega) (by omega),wrap64_id (n:=rd a (i:Int)+rd b (i:Int)+c) (by omega) (by omega),Int.tmod_eq_emod_of_nonneg (by omega),Int.tdiv_eq_ediv_of_nonneg (by omega),wrap64_id (by omega) (by omega),wrap64_id (n:=(i:Int)+1) (by omega) (by omega)]
  rfl
theorem add_last (a b:List Int) (ha:Lim a) (hb:Lim b) (x:List Int) (i:Nat) (c:Int) (h1:a.length≤i) (h2:b.length≤i) (hx:Lim x) (hl:x.length=i) (hi:i≤900) (hc:0≤c) (hc1:c≤1):Tells (fun k=>Azx.l0 k a b x c (i:Int)) (fitv (nv x+LB i * c)):=by
  rcases Int.lt_or_eq_of_le hc with h|h
  · obtain rfl:c=1:=by omega
    have e:nv x+LB i * 1=nv (x ++ [1]):=by rw[nv_snoc,hl]
    rw[e];have hs:=add_stop a b (x ++ [1]) (i+1) (by omega) (by omega) (hx.append (Lim.mk (by omega) (by omega) Lim.nil)) (by simp;omega)
    refine Tells.up (g:=fun k=>Azx.j2 k a b x 1 (i:Int) true) (add_round ha hb hc hc1 (by omega) (by omega) ?_) (fun k=>?_)
    · rw[rd_beyond a i h1,rd_beyond b i h2];exact hs
    · rw[Azx.l0,if_neg (by omega),if_neg (by omega)];rfl
  · rw[← h,Int.mul_zero,Int.add_zero]
    exact add_stop a b x i h1 h2 hx (by omega)
theorem add_loop (a b:List Int) (ha:Lim a) (hb:Lim b) (M:Nat) (hM:M≤800) (hma:a.length≤M) (hmb:b.length≤M) (hm:M=a.length∨M=b.length) (V:Int) (d:Nat):∀ (i:Nat) (x:List Int) (c:Int),i+d=M→x.length=i→Lim x→0≤c→c≤1→V=nv x+LB i * (c+nv (a.drop i)+nv (b.drop i))→Tells (fun k=>Azx.l0 k a b x c (i:Int)) (fitv V):=by
  induction d with
  | zero =>
    intro i x c hi hx hl hc hc1 hv;rw[nv_drop_all (by omega),nv_drop_all (l:=b) (by omega)] at hv
    have e:V=nv x+LB i * c:=by rw[hv];grind
    rw[e];exact add_last a b ha hb x i c (by omega) (by omega) hl hx (by omega) hc hc1
  | succ d ih =>
    intro i x c hi hx hl hc hc1;have ra:=lim_rd_any ha i;have rb:=lim_rd_any hb i;intro hv;rw[nv_drop_any a i,nv_drop_any b i] at hv;have hr:Tells (fun k=>Azx.j2 k a b x c (i:Int) true) (fitv V):=by
      refine add_round ha hb hc hc1 (by omega) (by omega) (ih (i+1) _ _ (by omega) (by simp [hx]) (hl.append (Lim.mk (by omega) (by omega) Lim.nil)) (by omega) (by omega) ?_)
      have hs:=Int.emod_add_mul_ediv (rd a (i:Int)+rd b (i:Int)+c) 1000000000;rw[nv_snoc,hx,LB_succ,hv];generalize (rd a (i:Int)+rd b (i:Int)+c) % 1000000000=m at *;generalize (rd a (i:Int)+rd b (i:Int)+c) / 1000000000=q at *;have e1:rd a (i:Int)+rd b (i:Int)+c=m+1000000000 * q:=hs.symm;have e2:c+(rd a (i:Int)+1000000000 * nv (a.drop (i+1)))+(rd b (i:Int)+1000000000 * nv (b.drop (i+1)))=(m+1000000000 * q)+1000000000 * nv (a.drop (i+1))+1000000000 * nv (b.drop (i+1)):=by omega
      rw[e2];grind
    refine Tells.up hr (fun k=>?_)
    rw[Azx.l0];by_cases h1:(i:Int) < (a.length:Int)
    · rw[if_pos h1]
    · rw[if_neg h1,if_pos (by omega)]
theorem R2Add_tells {a b:List Int} (ha:natOk a=true) (hb:natOk b=true):Tells (fun k=>Azx.f k a b) (fitv (nv a+nv b)):=by
  obtain⟨ca,la⟩:=natOk_iff.1 ha;obtain⟨cb,lb⟩:=natOk_iff.1 hb;unfold Azx.f;refine(R2Valid_tells a).bind (Tells.pos ha ((R2Valid_tells b).bind ?_));rw[hb];refine Tells.up (add_loop a b ca.1 cb.1 (max a.length b.length) (by omega) (by omega) (by omega) (by omega) (nv a+nv b) (max a.length b.length) 0 [] 0 (by omega) rfl Lim.nil (by omega) (by omega) ?_) (fun k=>by rw[Azx.j0,if_neg (by decide)];rfl)
  simp [nv,LB]
theorem R2Sub_tells {a b:List Int} (ha:natOk a=true) (hb:natOk b=true) (h:nv b≤nv a):Tells (fun k=>Czw.f k a b) (dg (nv a - nv b),0):=by
  obtain⟨ca,la⟩:=natOk_iff.1 ha;obtain⟨cb,lb⟩:=natOk_iff.1 hb;unfold Czw.f;refine(R2Valid_tells a).bind (Tells.pos ha ((R2Valid_tells b).bind ?_));rw[hb];have hlt:nv a < LB 48:=Int.lt_of_lt_of_le (nv_lt ca.1) (LB_le la);have h0:=nv_nonneg cb.1;have hc:¬ cmpI (nv a) (nv b) < 0:=fun h'=>by have:=cmpI_neg.1 h';omega
  refine Tells.up (g:=fun k=>(Bzq.f k a b).bind fun t916=>(if t916 < 0 then(some (([]:List Int),1)) else((Bzv.f k a b).bind fun t917=>(some (t917,0))))) ?_ (fun k=>by rw[Czw.j0,if_neg (by decide)])
  exact(r2compare_tells ca cb (by omega) (by omega)).bind (Tells.neg hc ((minus_tells ca cb (by omega) h (by omega)).bind (Tells.const _)))
theorem R2Cmp_tells {a b:List Int} (ha:natOk a=true) (hb:natOk b=true):Tells (fun k=>Ezv.f k a b) (cmpI (nv a) (nv b),0):=by
  obtain⟨ca,la⟩:=natOk_iff.1 ha;obtain⟨cb,lb⟩:=natOk_iff.1 hb;unfold Ezv.f;exact(R2Valid_tells a).bind (Tells.pos ha ((R2Valid_tells b).bind (Tells.pos hb ((r2compare_tells ca cb (by omega) (by omega)).bind (Tells.const _)))))

theorem plus_tells {na nb:Bool} {x y:List Int} (hx:natOk x=true) (hy:natOk y=true) :
    Tells (fun k=>Ezf.f k na x nb y) (if na=nb then(na,(fitv (nv x+nv y)).1,(fitv (nv x+nv y)).2) else(if nv x < nv y then(nb,dg (nv y - nv x),0) else(na,dg (nv x - nv y),0))):=by
  unfold Ezf.f;by_cases h:na=nb
  · rw[if_pos h]
    exact Tells.pos (by simpa using h) ((R2Add_tells hx hy).bind (Tells.const _))
  · rw[if_neg h]
    refine Tells.neg (by simpa using h) ((R2Cmp_tells hx hy).bind ?_)
    by_cases hl:nv x < nv y
    · rw[if_pos hl]
      exact Tells.neg (show ¬ cmpI (nv x) (nv y)≥0 from by have:=cmpI_neg.2 hl;omega) ((R2Sub_tells hy hx (Int.le_of_lt hl)).bind (Tells.const _))
    · rw[if_neg hl]
      exact Tells.pos (show cmpI (nv x) (nv y)≥0 from by have:¬ cmpI (nv x) (nv y) < 0:=fun h'=>hl (cmpI_neg.1 h');omega) ((R2Sub_tells hx hy (by omega)).bind (Tells.const _))
theorem R3Add_tells (n1:Bool) (p1 q1:List Int) (n2:Bool) (p2 q2:List Int):Tells (fun k=>Azm.f k n1 p1 q1 n2 p2 q2) (addR n1 p1 q1 n2 p2 q2):=by
  have bad:Tells (fun k=>Azm.j0 k true n1 p1 q1 n2 p2 q2) (false,[],[],3):=Tells.up (Tells.const _) (fun k=>by rw[Azm.j0,if_pos rfl])
  unfold Azm.f addR;refine(R3Valid_tells n1 p1 q1).bind ?_;by_cases h1:ratOk n1 p1 q1=true
  · refine Tells.pos h1 ((R3Valid_tells n2 p2 q2).bind ?_)
    by_cases h2:ratOk n2 p2 q2=true
    · rw[h1,h2,if_pos (show(true && true)=true from rfl)]
      obtain⟨a1,a2,a3,a4,a5,a6,a7,a8,a9⟩:=ratOk_parts h1;obtain⟨b1,b2,b3,b4,b5,b6,b7,b8,b9⟩:=ratOk_parts h2;have m1:=R2Mul_tells a1 b2;have m2:=R2Mul_tells b1 a2;have m3:=R2Mul_tells a2 b2;have x0:0≤nv p1 * nv q2:=Int.mul_nonneg a8 (Int.le_of_lt b9);have y0:0≤nv p2 * nv q1:=Int.mul_nonneg b8 (Int.le_of_lt a9);have d0:0 < nv q1 * nv q2:=Int.mul_pos a9 b9;generalize nv p1 * nv q2=x at *;generalize nv p2 * nv q1=y at *;generalize nv q1 * nv q2=d at *;have over:∀ u v w:List Int,Tells (fun k=>Azm.j1 k u v w true n1 p1 q1 n2 p2 q2) (false,[],[],2):=fun u v w=>Tells.up (Tells.const _) (fun k=>by rw[Azm.j1,if_pos rfl])
      refine Tells.up (g:=fun k=>(Bzy.f k p1 q2).bind fun bt939=>((Bzy.f k p2 q1).bind fun bt943=>((Bzy.f k q1 q2).bind fun bt947=>(if bt939.2=0 then(if bt943.2=0 then(Azm.j1 k bt939.1 bt943.1 bt947.1 (bt947.2 != 0) n1 p1 q1 n2 p2 q2) else(Azm.j1 k bt939.1 bt943.1 bt947.1 true n1 p1 q1 n2 p2 q2)) else(Azm.j1 k bt939.1 bt943.1 bt947.1 true n1 p1 q1 n2 p2 q2))))) ?_ (fun k=>by rw[Azm.j0,if_neg (by decide)])
      refine m1.bind (m2.bind (m3.bind ?_));unfold fitv;by_cases c1:x < LB 48
      · rw[if_pos c1]
        refine Tells.pos rfl ?_;by_cases c2:y < LB 48
        · rw[if_pos c2]
          refine Tells.pos rfl ?_;by_cases c3:d < LB 48
          · rw[if_pos c3,if_pos ⟨c1,c2,c3⟩]
            obtain⟨f1,f2,f3⟩:=natOk_pos d0 c3;have ha:=plus_tells (na:=n1) (nb:=n2) (natOk_dg (n:=x) c1) (natOk_dg (n:=y) c2);rw[nv_dg x0,nv_dg y0] at ha;have hr:∀ (n:Bool) (s:Int),0≤s→s < LB 48→Tells (fun k=>(Dzz.f k n (dg s) (dg d)).bind fun bt956=>(some (bt956.1,bt956.2.1,bt956.2.2,(0:Int)))) (redR n s d):=by
              intro n s s0 s1;have hr:=Reduce_tells (n:=n) (natOk_dg s1) f1 f3;rw[nv_dg s0,f2] at hr;exact hr.bind (Tells.const _)
            refine Tells.up (g:=fun k=>(Ezf.f k n1 (dg x) n2 (dg y)).bind fun bt951=>(if bt951.2.2=0 then((Dzz.f k bt951.1 bt951.2.1 (dg d)).bind fun bt956=>(some (bt956.1,bt956.2.1,bt956.2.2,0))) else(some (false,([]:List Int),([]:List Int),2)))) ?_ (fun k=>by rw[Azm.j1,if_neg (by simp)])
            refine ha.bind ?_;by_cases hn:n1=n2
            · rw[if_pos hn,if_pos hn]
              unfold fitv;by_cases c4:x+y < LB 48
              · rw[if_pos c4,if_pos c4]
                exact Tells.pos rfl (hr n1 (x+y) (by omega) c4)
              · rw[if_neg c4,if_neg c4]
                exact Tells.neg (show ¬ ((2:Int)=0) by decide) (Tells.const _)
            · rw[if_neg hn,if_neg hn]
              by_cases hl:x < y
              · rw[if_pos hl,if_pos hl]
                exact Tells.pos rfl (hr n2 (y - x) (by omega) (by omega))
              · rw[if_neg hl,if_neg hl]
                exact Tells.pos rfl (hr n1 (x - y) (by omega) (by omega))
          · rw[if_neg c3,if_neg (show ¬ (x < LB 48∧y < LB 48∧d < LB 48) from fun hh=>c3 hh.2.2)]
            exact over _ _ _
        · rw[if_neg c2,if_neg (show ¬ (x < LB 48∧y < LB 48∧d < LB 48) from fun hh=>c2 hh.2.1)]
          exact Tells.neg (show ¬ ((2:Int)=0) by decide) (over _ _ _)
      · rw[if_neg c1,if_neg (show ¬ (x < LB 48∧y < LB 48∧d < LB 48) from fun hh=>c1 hh.1)]
        exact Tells.neg (show ¬ ((2:Int)=0) by decide) (over _ _ _)
    · rw[show ratOk n2 p2 q2=false by simpa using h2,Bool.and_false,if_neg (by decide)]
      exact bad
  · rw[show ratOk n1 p1 q1=false by simpa using h1,Bool.false_and,if_neg (by decide)]
    exact Tells.neg (by decide) bad
theorem R3Sum_l1 (l:List S33) (hl:l.length≤4096) (d:Nat):∀ (i:Nat) (n:Bool) (p q:List Int),i+d=l.length→Tells (fun k=>Azb.l1 k l (i:Int) n p q) (rsumFrom n p q (l.drop i)):=by
  induction d with
  | zero =>
    intro i n p q hi;rw[List.drop_eq_nil_of_le (by omega)]
    exact Tells.up (Tells.const _) (fun k=>by rw[Azb.l1,if_neg (by omega)];rfl)
  | succ d ih =>
    intro i n p q hi;rw[List.drop_eq_getElem_cons (show i < l.length by omega)]
    refine Tells.up (g:=fun k=>(Azm.f k n p q (l[i]).f0 (l[i]).f1 (l[i]).f2).bind fun bt=>(if bt.2.2.2=0 then(Azb.l1 k l ((i+1:Nat):Int) bt.1 bt.2.1 bt.2.2.1) else(some (false,([]:List Int),([]:List Int),bt.2.2.2)))) ?_ (fun k=>?_)
    · refine(R3Add_tells _ _ _ _ _ _).bind ?_
      unfold rsumFrom;exact Tells.ite (fun _=>ih (i+1) _ _ _ (by omega)) (fun _=>Tells.const _)
    · rw[Azb.l1,if_pos (by omega),if_pos (by omega),rdR_at l i (by omega),wrap64_id (by omega) (by omega)]
      rfl
theorem makeR_zero:makeR 0 1=(false,[],[1],0):=by
  rw[makeR_nonneg (by omega) (by omega) (by omega) (by omega)]
  unfold redR;rw[gI_one_right,Int.ediv_one,Int.ediv_one,dg_zero,dg_one];rfl
theorem R3Sum_l0 (l:List S33) (hl:l.length≤4096) (d:Nat):∀ i:Nat,i+d=l.length→Tells (fun k=>Azb.l0 k l (i:Int)) (if(l.drop i).all ratOkS then rsumFrom false [] [1] l else(false,[],[],3)):=by
  induction d with
  | zero =>
    intro i hi;rw[List.drop_eq_nil_of_le (by omega)]
    have h0:=R3Of_tells 0;rw[makeR_zero] at h0;have h1:=R3Sum_l1 l hl l.length 0 false [] [1] (by omega)
    rw[List.drop_zero] at h1;exact Tells.up (h0.bind (g:=fun k bt966=>(Azb.l1 k l 0 bt966.1 bt966.2.1 bt966.2.2.1)) h1) (fun k=>by rw[Azb.l0,if_neg (by omega)])
  | succ d ih =>
    intro i hi;rw[List.drop_eq_getElem_cons (show i < l.length by omega),List.all_cons]
    refine Tells.up (g:=fun k=>(Azw.f k (l[i]).f0 (l[i]).f1 (l[i]).f2).bind fun t=>(if t=true then(Azb.l0 k l ((i+1:Nat):Int)) else(some (false,([]:List Int),([]:List Int),3)))) ?_ (fun k=>?_)
    · refine(R3Valid_tells _ _ _).bind ?_
      by_cases h:ratOk (l[i]).f0 (l[i]).f1 (l[i]).f2=true
      · have h':ratOkS l[i]=true:=h
        rw[h',Bool.true_and];exact Tells.pos h (ih (i+1) (by omega))
      · have h':ratOkS l[i]=false:=by unfold ratOkS;simpa using h
        rw[h',Bool.false_and,if_neg (by decide)]
        exact Tells.neg h (Tells.const _)
    · rw[Azb.l0,if_pos (by omega),if_pos (by omega),rdR_at l i (by omega),wrap64_id (by omega) (by omega)]
      rfl
theorem R3Sum_tells (l:List S33):Tells (fun k=>Azb.f k l) (sumR l):=by
  unfold Azb.f sumR;by_cases h:l.length > 4096
  · rw[if_pos h];exact Tells.pos (by omega) (Tells.const _)
  · rw[if_neg h]
    have:=R3Sum_l0 l (by omega) l.length 0 (by omega)
    rw[List.drop_zero] at this;exact Tells.neg (by omega) this

def cmpS (n1 n2:Bool) (c:Int):Int:=if(n1 && !n2)=true then -1 else if(n2 && !n1)=true then 1 else if n1=true then -c else c
def cmpR (n1:Bool) (p1 q1:List Int) (n2:Bool) (p2 q2:List Int):Int × Int :=
  if(ratOk n1 p1 q1 && ratOk n2 p2 q2)=true then(if nv p1 * nv q2 < LB 48∧nv p2 * nv q1 < LB 48 then(cmpS n1 n2 (cmpI (nv p1 * nv q2) (nv p2 * nv q1)),0) else(0,2)) else(0,3)
theorem cmpI_range (x y:Int):-1≤cmpI x y∧cmpI x y≤1:=by
  unfold cmpI;split
  · omega
  · split <;> omega
theorem wneg {c:Int} (h:-1≤c∧c≤1):wrap64 (-c)=-c:=by unfold wrap64;omega
theorem RCmp_tells (n1:Bool) (p1 q1:List Int) (n2:Bool) (p2 q2:List Int):Tells (fun k=>Fzx.f k n1 p1 q1 n2 p2 q2) (cmpR n1 p1 q1 n2 p2 q2):=by
  unfold Fzx.f cmpR;refine(rv2 n1 p1 q1 n2 p2 q2).bind ?_;by_cases h:(ratOk n1 p1 q1 && ratOk n2 p2 q2)=true
  · rw[if_pos h]
    obtain⟨h1,h2⟩:=Bool.and_eq_true_iff.mp h;obtain⟨a1,a2,a3,a4,a5,a6,a7,a8,a9⟩:=ratOk_parts h1;obtain⟨b1,b2,b3,b4,b5,b6,b7,b8,b9⟩:=ratOk_parts h2;refine Tells.pos h ?_;have m1:=Mul_tells p1 q2;have m2:=Mul_tells p2 q1;rw[a1,b2,if_pos (show(true && true)=true from rfl)] at m1
    rw[b1,a2,if_pos (show(true && true)=true from rfl)] at m2
    have x0:0≤nv p1 * nv q2:=Int.mul_nonneg a8 (Int.le_of_lt b9);have y0:0≤nv p2 * nv q1:=Int.mul_nonneg b8 (Int.le_of_lt a9);generalize nv p1 * nv q2=x at *;generalize nv p2 * nv q1=y at *;refine Tells.congr (g:=fun k=>(Czx.f k p1 q2).bind fun x=>((if x.2=0 then(Czx.f k p2 q1).bind fun y=>some (y.2,x.1,y.1) else some (x.2,x.1,([]:List Int))).bind fun bt=>(if bt.1=0 then((Gzx.f k bt.2.1 bt.2.2).bind fun bt421=>(some (rat_cmpR n1 n2 bt421.1,0))) else(some (0,bt.1))))) ?_ (fun k=>by unfold Ezk.f Dzv.f;simp only[Option.bind_some,Option.bind_assoc])
    refine m1.bind ?_;unfold fitv at *;by_cases c1:x < LB 48
    · rw[if_pos c1]
      refine Tells.congr (g:=fun k=>((Czx.f k p2 q1).bind fun y=>(if y.2=0 then((Gzx.f k (dg x) y.1).bind fun bt421=>(some (rat_cmpR n1 n2 bt421.1,0))) else(some ((0:Int),y.2))))) ?_ (fun k=>by simp only[if_true,Option.bind_assoc,Option.bind_some])
      refine m2.bind ?_;by_cases c2:y < LB 48
      · rw[if_pos c2,if_pos ⟨c1,c2⟩]
        refine Tells.pos rfl ?_;have hc:=Cmp_tells (dg x) (dg y);rw[natOk_dg c1,natOk_dg c2,if_pos (show(true && true)=true from rfl),nv_dg x0,nv_dg y0] at hc
        refine hc.bind ?_;have e:rat_cmpR n1 n2 (cmpI x y)=cmpS n1 n2 (cmpI x y):=by unfold rat_cmpR cmpS;rw[wneg (cmpI_range x y)]
        simp only[e];exact Tells.const _
      · rw[if_neg c2,if_neg (show ¬ (x < LB 48∧y < LB 48) from fun h=>c2 h.2)]
        exact Tells.neg (by decide) (Tells.const _)
    · rw[if_neg c1,if_neg (show ¬ (x < LB 48∧y < LB 48) from fun h=>c1 h.1)]
      exact Tells.const _
  · rw[if_neg h]
    exact Tells.neg h (Tells.const _)
theorem R3Cmp_tells (n1:Bool) (p1 q1:List Int) (n2:Bool) (p2 q2:List Int):Tells (fun k=>Bzk.f k n1 p1 q1 n2 p2 q2) (cmpR n1 p1 q1 n2 p2 q2):=by
  have bad:Tells (fun k=>Bzk.j0 k true n1 p1 q1 n2 p2 q2) (0,3):=Tells.up (Tells.const _) (fun k=>by rw[Bzk.j0,if_pos rfl])
  unfold Bzk.f cmpR;refine(R3Valid_tells n1 p1 q1).bind ?_;by_cases h1:ratOk n1 p1 q1=true
  · refine Tells.pos h1 ((R3Valid_tells n2 p2 q2).bind ?_)
    by_cases h2:ratOk n2 p2 q2=true
    · rw[h1,h2,if_pos (show(true && true)=true from rfl)]
      obtain⟨a1,a2,a3,a4,a5,a6,a7,a8,a9⟩:=ratOk_parts h1;obtain⟨b1,b2,b3,b4,b5,b6,b7,b8,b9⟩:=ratOk_parts h2;have m1:=R2Mul_tells a1 b2;have m2:=R2Mul_tells b1 a2;have x0:0≤nv p1 * nv q2:=Int.mul_nonneg a8 (Int.le_of_lt b9);have y0:0≤nv p2 * nv q1:=Int.mul_nonneg b8 (Int.le_of_lt a9);generalize nv p1 * nv q2=x at *;generalize nv p2 * nv q1=y at *;have over:∀ u v:List Int,Tells (fun k=>Bzk.j1 k u v true n1 p1 q1 n2 p2 q2) (0,2):=fun u v=>Tells.up (Tells.const _) (fun k=>by rw[Bzk.j1,if_pos rfl])
      refine Tells.up (g:=fun k=>(Bzy.f k p1 q2).bind fun bt920=>((Bzy.f k p2 q1).bind fun bt924=>(if bt920.2=0 then(Bzk.j1 k bt920.1 bt924.1 (bt924.2 != 0) n1 p1 q1 n2 p2 q2) else(Bzk.j1 k bt920.1 bt924.1 true n1 p1 q1 n2 p2 q2)))) ?_ (fun k=>by rw[Bzk.j0];simp)
      refine m1.bind (m2.bind ?_);unfold fitv;by_cases c1:x < LB 48
      · rw[if_pos c1]
        refine Tells.pos rfl ?_;by_cases c2:y < LB 48
        · rw[if_pos c2,if_pos ⟨c1,c2⟩]
          have hc:=R2Cmp_tells (natOk_dg (n:=x) c1) (natOk_dg (n:=y) c2);rw[nv_dg x0,nv_dg y0] at hc;refine Tells.up (g:=fun k=>(if(n1 != n2)=true then(if n1=true then(some ((-1:Int),(0:Int))) else(some (1,0))) else((Ezv.f k (dg x) (dg y)).bind fun bt928=>(if n1=true then(some (wrap64 (-bt928.1),0)) else(some (bt928.1,0)))))) ?_ (fun k=>by rw[Bzk.j1];simp)
          unfold cmpS;cases n1 <;> cases n2
          · exact hc.bind (Tells.const _)
          · exact Tells.const _
          · exact Tells.const _
          · refine hc.bind ?_
            show Tells (fun _=>some (wrap64 (-cmpI x y),(0:Int))) (-cmpI x y,0)
            rw[wneg (cmpI_range x y)];exact Tells.const _
        · rw[if_neg c2,if_neg (show ¬ (x < LB 48∧y < LB 48) from fun h=>c2 h.2)]
          exact over _ _
      · rw[if_neg c1,if_neg (show ¬ (x < LB 48∧y < LB 48) from fun h=>c1 h.1)]
        exact Tells.neg (by decide) (over _ _)
    · rw[if_neg (by rw[h1];simpa using h2)]
      have:(!ratOk n2 p2 q2)=true:=by simpa using h2
      rw[this];exact bad
  · rw[if_neg (by intro h;exact h1 (Bool.and_eq_true_iff.mp h).1)]
    exact Tells.neg h1 bad

theorem wsucc {i n:Nat} (h:i < n) (hn:n≤100000):wrap64 ((i:Int)+1)=((i+1:Nat):Int):=by rw[wrap64_id (by omega) (by omega)];omega
theorem number_tells (x:Int):Tells (fun k=>Dzf.f k x) ((makeR x 1).1,(makeR x 1).2.1,(makeR x 1).2.2.1):=(ROf_tells x).bind (Tells.const _)
def badS:List S33→Int
  | []=>0
  | x :: t=>if ratOkS x=true then(if x.f0=true then 1 else badS t) else 3
def cfin (c:Int × Int):Int:=if c.2=0 then(if c.1 > 0 then 8 else 0) else c.2
theorem cfin_tells (c:Int × Int):Tells (fun _=>if c.2=0 then(if c.1 > 0 then(some (8:Int)) else(some 0)) else(some c.2)) (cfin c):=by
  unfold cfin;exact Tells.ite (fun _=>Tells.ite (fun _=>Tells.const _) (fun _=>Tells.const _)) (fun _=>Tells.const _)
/-- The end of Check. -/
def finT (cap:Int) (l:List S33):Int:=if(sumR l).2.2.2=0 then cfin (cmpR (sumR l).1 (sumR l).2.1 (sumR l).2.2.1 (makeR cap 1).1 (makeR cap 1).2.1 (makeR cap 1).2.2.1) else(sumR l).2.2.2
def checkT (cap:Int) (l:List S33):Int:=if cap < 1∨cap > 1099511627776 then 1 else if l.length < 1∨l.length > 8 then 17 else if badS l=0 then finT cap l else badS l
theorem badS_drop {l:List S33} {i:Nat} (h:i < l.length):badS (l.drop i)=if ratOkS l[i]=true then(if l[i].f0=true then 1 else badS (l.drop (i+1))) else 3:=by
  rw[List.drop_eq_getElem_cons h,badS]
theorem Check_fin (cap:Int) (l:List S33) (h:l.length≤8):Tells (fun k=>Bzb.l0 k l (l.length:Int) (l.length:Int) cap l) (finT cap l):=by
  refine Tells.up (g:=fun k=>(Fzj.f k l).bind fun bt394=>(if bt394.2.2.2=0 then((Dzf.f k cap).bind fun bt403=>((Fzx.f k bt394.1 bt394.2.1 bt394.2.2.1 bt403.1 bt403.2.1 bt403.2.2).bind fun bt410=>(if bt410.2=0 then(if bt410.1 > 0 then(some 8) else(some 0)) else(some bt410.2)))) else(some bt394.2.2.2))) ?_ (fun k=>by rw[Bzb.l0,if_neg (by omega)])
  unfold finT;refine(RSum_tells l).bind ?_;refine Tells.ite (fun h0=>?_) (fun _=>Tells.const _)
  exact(number_tells cap).bind ((RCmp_tells _ _ _ _ _ _).bind (cfin_tells _))
theorem Check3_fin (cap:Int) (l:List S33) (h:l.length≤8):Tells (fun k=>Azv.l0 k (l.length:Int) cap l) (finT cap l):=by
  refine Tells.up (g:=fun k=>(Azb.f k l).bind fun bt394=>(if bt394.2.2.2=0 then((Czp.f k cap).bind fun bt403=>((Bzk.f k bt394.1 bt394.2.1 bt394.2.2.1 bt403.1 bt403.2.1 bt403.2.2.1).bind fun bt410=>(if bt410.2=0 then(if bt410.1 > 0 then(some 8) else(some 0)) else(some bt410.2)))) else(some bt394.2.2.2))) ?_ (fun k=>by rw[Azv.l0,if_neg (by omega)])
  unfold finT;refine(R3Sum_tells l).bind ?_;refine Tells.ite (fun h0=>?_) (fun _=>Tells.const _)
  exact(R3Of_tells cap).bind ((R3Cmp_tells _ _ _ _ _ _).bind (cfin_tells _))
theorem Check_loop (cap:Int) (l:List S33) (h:l.length≤8) (d:Nat):∀ i:Nat,i+d=l.length→Tells (fun k=>Bzb.l0 k l (l.length:Int) (i:Int) cap l) (if badS (l.drop i)=0 then finT cap l else badS (l.drop i)):=by
  induction d with
  | zero =>
    intro i hi;obtain rfl:i=l.length:=by omega
    rw[List.drop_length,badS,if_pos rfl];exact Check_fin cap l h
  | succ d ih =>
    intro i hi;have hlt:i < l.length:=by omega
    rw[badS_drop hlt];refine Tells.up (g:=fun k=>(Fzy.f k l[i].f0 l[i].f1 l[i].f2).bind fun t393=>(if t393=true then(if l[i].f0=true then(some 1) else(Bzb.l0 k l (l.length:Int) ((i+1:Nat):Int) cap l)) else(some 3))) ?_ (fun k=>by rw[Bzb.l0,if_pos (by omega),if_pos (by omega),if_pos (by omega),rdR_at l i hlt,wsucc hlt (by omega)])
    refine(RValid_tells _ _ _).bind ?_;by_cases h1:ratOkS l[i]=true
    · rw[if_pos h1]
      refine Tells.pos h1 ?_;by_cases h2:l[i].f0=true
      · rw[if_pos h2];exact Tells.pos h2 (Tells.const _)
      · rw[if_neg h2];exact Tells.neg h2 (ih (i+1) (by omega))
    · rw[if_neg h1];exact Tells.neg h1 (Tells.const _)
theorem Check3_loop (cap:Int) (l:List S33) (h:l.length≤8) (d:Nat):∀ i:Nat,i+d=l.length→Tells (fun k=>Azv.l0 k (i:Int) cap l) (if badS (l.drop i)=0 then finT cap l else badS (l.drop i)):=by
  induction d with
  | zero =>
    intro i hi;obtain rfl:i=l.length:=by omega
    rw[List.drop_length,badS,if_pos rfl];exact Check3_fin cap l h
  | succ d ih =>
    intro i hi;have hlt:i < l.length:=by omega
    rw[badS_drop hlt];refine Tells.up (g:=fun k=>(Azw.f k l[i].f0 l[i].f1 l[i].f2).bind fun t393=>(if t393=true then(if l[i].f0=true then(some 1) else(Azv.l0 k ((i+1:Nat):Int) cap l)) else(some 3))) ?_ (fun k=>by rw[Azv.l0,if_pos (by omega),if_pos (by omega),rdR_at l i hlt,wsucc hlt (by omega)])
    refine(R3Valid_tells _ _ _).bind ?_;by_cases h1:ratOkS l[i]=true
    · rw[if_pos h1]
      refine Tells.pos h1 ?_;by_cases h2:l[i].f0=true
      · rw[if_pos h2];exact Tells.pos h2 (Tells.const _)
      · rw[if_neg h2];exact Tells.neg h2 (ih (i+1) (by omega))
    · rw[if_neg h1];exact Tells.neg h1 (Tells.const _)
theorem Check_tells (cap:Int) (l:List S33):Tells (fun k=>Bzb.f k cap l) (checkT cap l):=by
  have b1:Tells (fun k=>Bzb.j0 k true cap l) 1:=Tells.up (Tells.const _) (fun k=>by rw[Bzb.j0,if_pos rfl])
  have b2:Tells (fun k=>Bzb.j1 k true cap l) 17:=Tells.up (Tells.const _) (fun k=>by rw[Bzb.j1,if_pos rfl])
  unfold Bzb.f checkT;by_cases h1:cap < 1
  · rw[if_pos (.inl h1)];exact Tells.pos h1 b1
  · refine Tells.neg h1 ?_
    by_cases h2:cap > 1099511627776
    · rw[if_pos (.inr h2),decide_eq_true h2];exact b1
    · rw[if_neg (show ¬ (cap < 1∨cap > 1099511627776) by omega),decide_eq_false h2]
      refine Tells.up (g:=fun k=>if(l.length:Int) < 1 then(Bzb.j1 k true cap l) else(Bzb.j1 k (decide ((l.length:Int) > 8)) cap l)) ?_ (fun k=>by rw[Bzb.j0,if_neg (by decide)])
      by_cases h3:l.length < 1
      · rw[if_pos (.inl h3)];exact Tells.pos (by omega) b2
      · refine Tells.neg (by omega) ?_
        by_cases h4:l.length > 8
        · rw[if_pos (.inr h4),decide_eq_true (show(l.length:Int) > 8 by omega)];exact b2
        · rw[if_neg (show ¬ (l.length < 1∨l.length > 8) by omega),decide_eq_false (show ¬ (l.length:Int) > 8 by omega)]
          exact Tells.up (Check_loop cap l (by omega) l.length 0 (by omega)) (fun k=>by rw[Bzb.j1,if_neg (by decide)];rfl)
theorem Check3_tells (cap:Int) (l:List S33):Tells (fun k=>Azv.f k cap l) (checkT cap l):=by
  have b1:Tells (fun k=>Azv.j0 k true cap l) 1:=Tells.up (Tells.const _) (fun k=>by rw[Azv.j0,if_pos rfl])
  have b2:Tells (fun k=>Azv.j1 k true cap l) 17:=Tells.up (Tells.const _) (fun k=>by rw[Azv.j1,if_pos rfl])
  unfold Azv.f checkT;by_cases h1:cap < 1
  · rw[if_pos (.inl h1)];exact Tells.pos h1 b1
  · refine Tells.neg h1 ?_
    by_cases h2:cap > 1099511627776
    · rw[if_pos (.inr h2),decide_eq_true h2];exact b1
    · rw[if_neg (show ¬ (cap < 1∨cap > 1099511627776) by omega),decide_eq_false h2]
      refine Tells.up (g:=fun k=>if(l.length:Int) < 1 then(Azv.j1 k true cap l) else(Azv.j1 k (decide ((l.length:Int) > 8)) cap l)) ?_ (fun k=>by rw[Azv.j0,if_neg (by decide)])
      by_cases h3:l.length < 1
      · rw[if_pos (.inl h3)];exact Tells.pos (by omega) b2
      · refine Tells.neg (by omega) ?_
        by_cases h4:l.length > 8
        · rw[if_pos (.inr h4),decide_eq_true (show(l.length:Int) > 8 by omega)];exact b2
        · rw[if_neg (show ¬ (l.length < 1∨l.length > 8) by omega),decide_eq_false (show ¬ (l.length:Int) > 8 by omega)]
          exact Tells.up (Check3_loop cap l (by omega) l.length 0 (by omega)) (fun k=>by rw[Azv.j1,if_neg (by decide)];rfl)

def sOf (x:Bool × List Int × List Int × Int):S33:=⟨x.1,x.2.1,x.2.2.1⟩
theorem nsame_loop (l:List Int) (hl:l.length≤100000) (d:Nat):∀ i:Nat,i+d=l.length→Tells (fun k=>Czz.l0 k l l (i:Int)) true:=by
  induction d with
  | zero =>
    intro i hi;exact Tells.up (Tells.const _) (fun k=>by rw[Czz.l0,if_neg (by omega)])
  | succ d ih =>
    intro i hi;exact Tells.up (ih (i+1) (by omega)) (fun k=>by rw[Czz.l0,if_pos (by omega),if_pos (by omega),if_pos (by omega),if_pos rfl,wsucc (show i < l.length by omega) hl])
theorem nsame (l:List Int) (hl:l.length≤100000):Tells (fun k=>Czz.f k l l) true:=by
  unfold Czz.f;exact Tells.pos rfl (nsame_loop l hl l.length 0 (by omega))
theorem same17 (a:Bool) (p q:List Int) (hp:p.length≤100000) (hq:q.length≤100000):Tells (fun k=>Dzb.f k a p q a p q) true:=by
  unfold Dzb.f;exact Tells.pos (by simp) ((nsame p hp).bind (Tells.pos rfl ((nsame q hq).bind (Tells.const _))))
def smallS (x:S33):Prop:=x.f1.length≤100000∧x.f2.length≤100000
theorem rats_loop (l:List S33) (hl:l.length≤100000) (hs:∀ x,x ∈ l→smallS x) (d:Nat):∀ i:Nat,i+d=l.length→Tells (fun k=>Azf.l0 k l l (i:Int)) true:=by
  induction d with
  | zero =>
    intro i hi;exact Tells.up (Tells.const _) (fun k=>by rw[Azf.l0,if_neg (by omega)])
  | succ d ih =>
    intro i hi;have hlt:i < l.length:=by omega
    obtain⟨s1,s2⟩:=hs l[i] (List.getElem_mem hlt);refine Tells.up (g:=fun k=>(Dzb.f k l[i].f0 l[i].f1 l[i].f2 l[i].f0 l[i].f1 l[i].f2).bind fun t297=>(if t297=true then(Azf.l0 k l l ((i+1:Nat):Int)) else(some false))) ?_ (fun k=>by rw[Azf.l0,if_pos (by omega),if_pos (by omega),if_pos (by omega),rdR_at l i hlt,wsucc hlt hl])
    exact(same17 _ _ _ s1 s2).bind (Tells.pos rfl (ih (i+1) (by omega)))
theorem rats_self (l:List S33) (hl:l.length≤100000) (hs:∀ x,x ∈ l→smallS x):Tells (fun k=>Azf.f k l l) true:=by
  unfold Azf.f;exact Tells.pos rfl (rats_loop l hl hs l.length 0 (by omega))
theorem tank_self (c:Int) (l:List S33) (hl:l.length≤100000) (hs:∀ x,x ∈ l→smallS x):Tells (fun k=>Dzp.f k c l c l) true:=by
  unfold Dzp.f;exact Tells.pos rfl ((rats_self l hl hs).bind (Tells.const _))
theorem redR_small (n:Bool) {P Q:Int} (hP:0≤P) (hQ:0 < Q) (h1:P < LB 48) (h2:Q < LB 48):(redR n P Q).2.1.length≤48∧(redR n P Q).2.2.1.length≤48:=by
  have hg:=gI_pos (P:=P) hQ;unfold redR;exact⟨dg_len _ 48 (Int.lt_of_le_of_lt (Int.ediv_le_self _ hP) h1),dg_len _ 48 (Int.lt_of_le_of_lt (Int.ediv_le_self _ (Int.le_of_lt hQ)) h2)⟩
theorem addR_small (n1:Bool) (p1 q1:List Int) (n2:Bool) (p2 q2:List Int):(addR n1 p1 q1 n2 p2 q2).2.1.length≤48∧(addR n1 p1 q1 n2 p2 q2).2.2.1.length≤48:=by
  unfold addR;split
  · rename_i h
    obtain⟨h1,h2⟩:=Bool.and_eq_true_iff.mp h;obtain⟨a1,a2,a3,a4,a5,a6,a7,a8,a9⟩:=ratOk_parts h1;obtain⟨b1,b2,b3,b4,b5,b6,b7,b8,b9⟩:=ratOk_parts h2;have x0:0≤nv p1 * nv q2:=Int.mul_nonneg a8 (Int.le_of_lt b9);have y0:0≤nv p2 * nv q1:=Int.mul_nonneg b8 (Int.le_of_lt a9);have d0:0 < nv q1 * nv q2:=Int.mul_pos a9 b9;split
    · rename_i hb
      obtain⟨c1,c2,c3⟩:=hb;split
      · split
        · rename_i c4;exact redR_small _ (by omega) d0 c4 c3
        · exact⟨by simp,by simp⟩
      · split
        · exact redR_small _ (by omega) d0 (by omega) c3
        · exact redR_small _ (by omega) d0 (by omega) c3
    · exact⟨by simp,by simp⟩
  · exact⟨by simp,by simp⟩
theorem light_loop (c:Int) (l:List S33) (hl:l.length≤20) (d:Nat):∀ i:Nat,i+d=l.length→∃ b,Tells (fun k=>Czq.l0 k (i:Int) c l) b:=by
  induction d with
  | zero =>
    intro i hi;exact⟨true,Tells.up (Tells.const _) (fun k=>by rw[Czq.l0,if_neg (by omega)])⟩
  | succ d ih =>
    intro i hi;have hlt:i < l.length:=by omega
    obtain⟨b,hb⟩:=ih (i+1) (by omega)
    by_cases h1:(l[i].f1.length:Int) > 5
    · exact⟨false,Tells.up (Tells.const _) (fun k=>by rw[Czq.l0,if_pos (by omega),if_pos (by omega),rdR_at l i hlt,if_pos h1])⟩
    · by_cases h2:(l[i].f2.length:Int) > 5
      · exact⟨false,Tells.up (Tells.const _) (fun k=>by rw[Czq.l0,if_pos (by omega),if_pos (by omega),rdR_at l i hlt,if_neg h1,if_pos h2])⟩
      · exact⟨b,Tells.up hb (fun k=>by rw[Czq.l0,if_pos (by omega),if_pos (by omega),rdR_at l i hlt,if_neg h1,if_neg h2,wsucc hlt (by omega)])⟩

theorem awake_tells:Tells (fun k=>Ezp.f k) true:=Tells.of (fun k=>Ezp.mono k) ⟨300,by decide +kernel⟩

theorem within_tells (l:List Int) (m:Int) (hl:l.length≤1000):Tells (fun k=>Gzj.f k l m) (inAll m l):=by
  have lp:∀ n i k,n < k→i+n=l.length→Bzj.l0 k l (l.length:Int) (i:Int) [m]=some (inAll m (l.drop i)):=by
    intro n;induction n with
    | zero =>
      intro i k hk hi;obtain⟨j,rfl⟩:∃ j,k=j+1:=⟨k - 1,by omega⟩
      unfold Bzj.l0;rw[if_neg (by omega),List.drop_of_length_le (by omega)]
      rfl
    | succ n ih =>
      intro i k hk hi;obtain⟨j,rfl⟩:∃ j,k=j+1:=⟨k - 1,by omega⟩
      unfold Bzj.l0;rw[if_pos (by omega),if_pos (by omega),if_pos (by omega),wrap64_id (n:=(i:Int)+1) (by omega) (by omega),rd_drop l i (by omega)]
      have e:Hzx.f (rd l (i:Int)) [m]=some (decide (0≤rd l (i:Int)) && decide (rd l (i:Int)≤m)):=by
        unfold Hzx.f;by_cases h:rd l (i:Int)≥0
        · have h':0≤rd l (i:Int):=h
          rw[if_pos h,if_pos (by simp)]
          rw[decide_eq_true h',Bool.true_and];rfl
        · have h':¬ 0≤rd l (i:Int):=h
          rw[if_neg h];simp [h']
      rw[e];show(if _=true then _ else _)=_
      unfold inAll;rw[List.all_cons];by_cases h:(decide (0≤rd l (i:Int)) && decide (rd l (i:Int)≤m))=true
      · rw[if_pos h,h,Bool.true_and]
        exact ih (i+1) j (by omega) (by omega)
      · rw[if_neg h,eq_false_of_ne_true h]
        rfl
  refine⟨l.length+1,fun k hk=>?_⟩
  show Gzj.f k l m=_
  unfold Gzj.f Bzj.f;have:=lp l.length 0 k (by omega) (by omega)
  rw[show((0:Nat):Int)=0 from rfl] at this
  rw[this];rfl
def partsS (l:List Int) (n:Int):Int:=if 1≤n∧n≤8∧(l.length:Int)=n then(if inAll 1099511627776 l then 0 else 1) else 17
theorem parts_tells (l:List Int) (n:Int) (hl:l.length≤1000):Tells (fun k=>Gzm.f k l n) (partsS l n):=by
  have e:Hzk.f l n=some (decide (1≤n∧n≤8∧(l.length:Int)=n)):=by
    unfold Hzk.f;by_cases h1:n≥1
    · by_cases h2:n≤8
      · have h1':1≤n:=h1
        rw[if_pos h1,if_pos h2];by_cases h3:(l.length:Int)=n
        · simp [h1',h2,h3]
        · simp [h1',h2,h3]
      · rw[if_pos h1,if_neg h2];simp [h2]
    · have h1':¬ 1≤n:=h1
      rw[if_neg h1];simp [h1']
  refine Tells.congr (g:=fun k=>if(1≤n∧n≤8∧(l.length:Int)=n) then((Gzj.f k l 1099511627776).bind fun t=>if t=true then some 0 else some 1) else some 17) ?_ (fun k=>by
    unfold Gzm.f;rw[e];by_cases h:(1≤n∧n≤8∧(l.length:Int)=n)
    · rw[if_pos h];simp only[Option.bind_some,decide_eq_true h,if_true]
    · rw[if_neg h];simp only[Option.bind_some,decide_eq_false h,Bool.false_eq_true,if_false])
  unfold partsS;refine Tells.ite (fun h=>?_) (fun h=>Tells.const 17)
  refine Tells.bind (within_tells l _ hl) ?_;exact Tells.ite (fun _=>Tells.const 0) (fun _=>Tells.const 1)

theorem list16_tells (l:List Int) (n m:Int) (hl:l.length≤1000000):Tells (fun k=>Bzw.f k l n m) (if 1≤n∧n≤8∧(l.length:Int)=n then(if inAll m l then 0 else 1) else 17):=by
  have lp:∀ d i,i+d=l.length→Tells (fun k=>Bzw.l0 k l m (i:Int)) (if inAll m (l.drop i) then 0 else 1):=by
    intro d;induction d with
    | zero =>
      intro i hi;refine Tells.up (g:=fun _=>some 0) ?_ (fun k=>by
        rw[Bzw.l0];rw[if_neg (by omega)])
      rw[List.drop_of_length_le (by omega)]
      exact Tells.const _
    | succ d ih =>
      intro i hi;refine Tells.up (g:=fun k=>if rd l (i:Int) < 0 then some 1 else if rd l (i:Int) > m then some 1 else Bzw.l0 k l m ((i+1:Nat):Int)) ?_ (fun k=>by
        rw[Bzw.l0];rw[if_pos (by omega),if_pos (by omega),wrap64_id (n:=(i:Int)+1) (by omega) (by omega)]
        rfl)
      rw[rd_drop l i (by omega),inAll_cons]
      by_cases h1:rd l (i:Int) < 0
      · rw[decide_eq_false (p:=0≤rd l (i:Int)) (by omega)]
        exact Tells.pos h1 (Tells.const 1)
      by_cases h2:rd l (i:Int) > m
      · rw[decide_eq_false (p:=rd l (i:Int)≤m) (by omega),Bool.and_false]
        exact Tells.neg h1 (Tells.pos h2 (Tells.const 1))
      rw[decide_eq_true (p:=0≤rd l (i:Int)) (by omega),decide_eq_true (p:=rd l (i:Int)≤m) (by omega)]
      exact Tells.neg h1 (Tells.neg h2 (ih (i+1) (by omega)))
  have hj:∀ b:Bool,b=decide (¬ (1≤n∧n≤8∧(l.length:Int)=n))→Tells (fun k=>Bzw.j0 k l m b) (if 1≤n∧n≤8∧(l.length:Int)=n then(if inAll m l then 0 else 1) else 17):=by
    intro b hb;refine Tells.up (g:=fun k=>if b=true then some 17 else Bzw.l0 k l m ((0:Nat):Int)) ?_ (fun k=>by rw[Bzw.j0];rfl)
    by_cases h:1≤n∧n≤8∧(l.length:Int)=n
    · rw[if_pos h]
      refine Tells.neg (by rw[hb];simpa using h) ?_
      exact lp l.length 0 (by omega)
    · rw[if_neg h]
      exact Tells.pos (by rw[hb];exact decide_eq_true h) (Tells.const _)
  by_cases h1:n < 1
  · refine Tells.congr (hj true (by rw[decide_eq_true (p:=¬ (1≤n∧n≤8∧(l.length:Int)=n)) (by omega)])) (fun k=>?_)
    unfold Bzw.f;rw[if_pos h1]
  by_cases h2:n > 8
  · refine Tells.congr (hj true (by rw[decide_eq_true (p:=¬ (1≤n∧n≤8∧(l.length:Int)=n)) (by omega)])) (fun k=>?_)
    unfold Bzw.f;rw[if_neg h1,if_pos h2]
  · refine Tells.congr (hj ((l.length:Int) != n) ?_) (fun k=>?_)
    · by_cases h3:(l.length:Int)=n
      · rw[decide_eq_false (p:=¬ (1≤n∧n≤8∧(l.length:Int)=n)) (by omega)];simp [h3]
      · rw[decide_eq_true (p:=¬ (1≤n∧n≤8∧(l.length:Int)=n)) (by omega)];simp [h3]
    unfold Bzw.f;rw[if_neg h1,if_neg h2]
theorem parts16_tells (l:List Int) (n:Int) (hl:l.length≤1000000):Tells (fun k=>Ezm.f k l n) (partsS l n):=by
  refine Tells.congr (g:=fun k=>(Bzw.f k l n 1099511627776).bind fun t=>some t) ?_ (fun k=>by unfold Ezm.f;rfl)
  exact Tells.bind (list16_tells l n _ hl) (Tells.const _)

def addS (x:S33) (m:Int):Bool × List Int × List Int × Int:=addR x.f0 x.f1 x.f2 (makeR m 1).1 (makeR m 1).2.1 (makeR m 1).2.2.1
def fillL:List S33→List Int→List S33→List S33 × Int
  | x :: l,m :: ms,acc=>if(addS x m).2.2.2=0 then fillL l ms (acc ++ [sOf (addS x m)]) else([],(addS x m).2.2.2)
  | _,_,acc=>(acc,0)
def doneT (cap:Int) (l:List S33):Int × List S33 × Int:=if checkT cap l=0 then(cap,l,0) else(0,[],checkT cap l)
def fillT (cap:Int) (l:List S33) (m:List Int):Int × List S33 × Int :=
  if checkT cap l=0 then(if partsS m (l.length:Int)=0 then(if(fillL l m []).2=0 then doneT cap (fillL l m []).1 else(0,[],(fillL l m []).2)) else(0,[],partsS m (l.length:Int))) else(0,[],checkT cap l)
theorem fill_loop (l:List S33) (m:List Int) (hm:m.length=l.length) (hl:l.length≤1000) (d:Nat):∀ (j:Nat) (acc:List S33),j+d=l.length→Tells (fun k=>eachL (filled_g k (fill_g k m) l) d j () acc) ((),fillL (l.drop j) (m.drop j) acc):=by
  induction d with
  | zero =>
    intro j acc hj;rw[List.drop_of_length_le (by omega),List.drop_of_length_le (by omega)]
    exact Tells.const _
  | succ d ih =>
    intro j acc hj;have hlt:j < l.length:=by omega
    have hmt:j < m.length:=by omega
    rw[List.drop_eq_getElem_cons hlt,List.drop_eq_getElem_cons hmt,fillL];refine Tells.congr (g:=fun k=>(Dzf.f k m[j]).bind fun b=>(Gzq.f k l[j].f0 l[j].f1 l[j].f2 b.1 b.2.1 b.2.2).bind fun r=>(if r.2.2.2=0 then eachL (filled_g k (fill_g k m) l) d (j+1) () (acc ++ [(⟨r.1,r.2.1,r.2.2.1⟩:S33)]) else some ((),[],r.2.2.2))) ?_ (fun k=>by
      have e:rd_L2 [m] 0=m:=rfl;rw[eachL];unfold filled_g fill_g Gzb.f;rw[e,if_pos (by simp),if_pos (by omega),if_pos (by omega),rdR_at l j hlt,rd_at m j hmt]
      simp only[Option.bind_assoc,Option.bind_some])
    refine(number_tells _).bind ((RAdd_tells _ _ _ _ _ _).bind ?_);by_cases h:(addS l[j] m[j]).2.2.2=0
    · rw[if_pos h]
      exact Tells.pos h (ih (j+1) _ (by omega))
    · rw[if_neg h]
      exact Tells.neg h (Tells.const _)
theorem partsS_len {m:List Int} {n:Nat} (h:partsS m (n:Int)=0):m.length=n∧n≤8:=by
  unfold partsS at h;split at h
  · rename_i h';omega
  · exact absurd h (by omega)
theorem done_tells (cap:Int) (l:List S33):Tells (fun k=>(Bzb.f k cap l).bind fun e=>if e=0 then some (cap,l,0) else some (0,[],e)) (doneT cap l):=by
  unfold doneT;exact(Check_tells cap l).bind (Tells.ite (fun _=>Tells.const _) (fun _=>Tells.const _))
theorem done3_tells (cap:Int) (l:List S33):Tells (fun k=>(Azv.f k cap l).bind fun e=>if e=0 then some (cap,l,0) else some (0,[],e)) (doneT cap l):=by
  unfold doneT;exact(Check3_tells cap l).bind (Tells.ite (fun _=>Tells.const _) (fun _=>Tells.const _))
theorem Fill_tells (cap:Int) (l:List S33) (m:List Int) (hm:m.length≤1000):Tells (fun k=>Fzf.f k cap l m) (fillT cap l m):=by
  unfold Fzf.f fillT;refine(Check_tells cap l).bind (Tells.ite (fun _=>?_) (fun _=>Tells.const _))
  refine(parts_tells m _ hm).bind (Tells.ite (fun h=>?_) (fun _=>Tells.const _))
  obtain⟨h1,h2⟩:=partsS_len h;unfold Hzz.f;refine Tells.pos (by omega) ?_
  refine(fill_loop l m h1 (by omega) l.length 0 [] (by omega)).bind ?_
  exact Tells.ite (fun _=>done_tells _ _) (fun _=>Tells.const _)
theorem Fill3_loop (cap:Int) (l:List S33) (m:List Int) (hm:m.length=l.length) (hl:l.length≤8) (d:Nat):∀ (j:Nat) (acc:List S33),j+d=l.length→acc.length≤j→Tells (fun k=>Bzx.l0 k m (j:Int) cap l cap acc) (if(fillL (l.drop j) (m.drop j) acc).2=0 then doneT cap (fillL (l.drop j) (m.drop j) acc).1 else(0,[],(fillL (l.drop j) (m.drop j) acc).2)):=by
  induction d with
  | zero =>
    intro j acc hj _;rw[List.drop_of_length_le (by omega),List.drop_of_length_le (by omega)]
    exact Tells.up (done3_tells cap acc) (fun k=>by rw[Bzx.l0,if_neg (by omega)])
  | succ d ih =>
    intro j acc hj ha;have hlt:j < l.length:=by omega
    have hmt:j < m.length:=by omega
    rw[List.drop_eq_getElem_cons hlt,List.drop_eq_getElem_cons hmt,fillL];refine Tells.up (g:=fun k=>(Czp.f k m[j]).bind fun b=>(Azm.f k l[j].f0 l[j].f1 l[j].f2 b.1 b.2.1 b.2.2.1).bind fun r=>(if r.2.2.2=0 then(if acc.length < 2513169434916 then Bzx.l0 k m ((j+1:Nat):Int) cap l cap (acc ++ [(⟨r.1,r.2.1,r.2.2.1⟩:S33)]) else none) else some (0,[],r.2.2.2))) ?_ (fun k=>by
      rw[Bzx.l0,if_pos (by omega),if_pos (by omega),rdR_at l j hlt,rd_at m j hmt,wsucc hlt (by omega)]
      simp only[if_pos (show(j:Int) < (l.length:Int) by omega)])
    refine(R3Of_tells _).bind ((R3Add_tells _ _ _ _ _ _).bind ?_);by_cases h:(addS l[j] m[j]).2.2.2=0
    · rw[if_pos h]
      exact Tells.pos h (Tells.pos (by omega) (ih (j+1) _ (by omega) (by simp;omega)))
    · rw[if_neg h]
      refine Tells.neg h ?_;simp only[if_neg h];exact Tells.const _
theorem Fill3_tells (cap:Int) (l:List S33) (m:List Int) (hm:m.length≤1000):Tells (fun k=>Bzx.f k cap l m) (fillT cap l m):=by
  unfold Bzx.f fillT;refine(Check3_tells cap l).bind (Tells.ite (fun _=>?_) (fun _=>Tells.const _))
  refine(parts16_tells m _ (by omega)).bind (Tells.ite (fun h=>?_) (fun _=>Tells.const _))
  obtain⟨h1,h2⟩:=partsS_len h;exact Fill3_loop cap l m h1 h2 l.length 0 [] (by omega) (by simp)

theorem fillL_small:∀ (l:List S33) (m:List Int) (acc:List S33),(∀ x,x ∈ acc→smallS x)→(∀ x,x ∈ (fillL l m acc).1→smallS x)∧(fillL l m acc).1.length≤acc.length+l.length:=by
  intro l;induction l with
  | nil=>intro m acc h;cases m <;> exact⟨h,by simp [fillL]⟩
  | cons x l ih =>
    intro m acc h;cases m with
    | nil=>exact⟨h,by simp [fillL]⟩
    | cons a m =>
      rw[fillL];split
      · obtain⟨h1,h2⟩:=ih m (acc ++ [sOf (addS x a)]) (fun y hy=>by
          rcases List.mem_append.1 hy with hy|hy
          · exact h y hy
          · rw[List.mem_singleton.1 hy]
            obtain⟨s1,s2⟩:=addR_small x.f0 x.f1 x.f2 (makeR a 1).1 (makeR a 1).2.1 (makeR a 1).2.2.1;exact⟨Nat.le_trans s1 (by decide),Nat.le_trans s2 (by decide)⟩)
        refine⟨h1,?_⟩;simp only[List.length_append,List.length_cons,List.length_nil] at h2 ⊢;omega
      · exact⟨fun y hy=>absurd hy (by simp),by simp⟩
theorem fillT_small (cap:Int) (l:List S33) (m:List Int) (hl:l.length≤20):(fillT cap l m).2.1.length≤100000∧∀ x,x ∈ (fillT cap l m).2.1→smallS x:=by
  obtain⟨h1,h2⟩:=fillL_small l m [] (fun x hx=>absurd hx (by simp))
  unfold fillT doneT;have z:(([]:List S33).length≤100000∧∀ x,x ∈ ([]:List S33)→smallS x):=⟨by simp,fun x hx=>absurd hx (by simp)⟩
  simp only[List.length_nil] at h2;split
  · split
    · split
      · split
        · exact⟨by simp only;omega,h1⟩
        · exact z
      · exact z
    · exact z
  · exact z
theorem light_len (c:Int) (l:List S33):∃ b,Tells (fun k=>Czq.f k c l) b∧(b=true→l.length≤20):=by
  unfold Czq.f;by_cases h:(l.length:Int) > 20
  · exact⟨false,Tells.pos h (Tells.const _),fun h=>absurd h (by decide)⟩
  · obtain⟨b,hb⟩:=light_loop c l (by omega) l.length 0 (by omega)
    exact⟨b,Tells.neg h hb,fun _=>by omega⟩
theorem fills_of (awk:Tells (fun k=>Ezp.f k) true) (c:Int) (l:List S33) (m:List Int):Tells (fun k=>Bzf.f k c l m) true:=by
  obtain⟨b,hb,hl⟩:=light_len c l;have j1:Tells (fun k=>Bzf.j0 k m true c l) true:=Tells.up (awk.bind (Tells.const _)) (fun k=>by rw[Bzf.j0,if_pos rfl])
  unfold Bzf.f;refine hb.bind ?_;cases b with
  | false=>exact Tells.neg (by decide) j1
  | true =>
    refine Tells.pos rfl ?_;by_cases hm:(m.length:Int) > 20
    · rw[decide_eq_true hm];exact j1
    · rw[decide_eq_false hm]
      obtain⟨n1,n2⟩:=fillT_small c l m (hl rfl);exact Tells.up ((Fill_tells c l m (by omega)).bind ((Fill3_tells c l m (by omega)).bind ((tank_self _ _ n1 n2).bind (Tells.pos rfl (Tells.pos rfl (awk.bind (Tells.const _))))))) (fun k=>by rw[Bzf.j0,if_neg (by decide)])
theorem TankFills:Bzf.Pure:=by
  intro a0 l m _ _ _ _ _ _ _;exact Tells.get (fills_of awake_tells a0 l m)

end Go.Proofs.Ytbnpcplckcipfaa.Pure
