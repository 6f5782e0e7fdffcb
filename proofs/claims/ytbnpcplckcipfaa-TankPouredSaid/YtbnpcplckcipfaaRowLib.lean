-- Our own lemmas for rows of laws over structs and nested slices.
import Derived.ChangeArms
import Derived.ChangeShapes
import Derived.SizedLaws
import Derived.DataElems
import Derived.WideShapes
import Derived.Test.YtbnpcplckcipfaaWWords
namespace Go.Proofs.Ytbnpcplckcipfaa.RowLib
open Go Go.ChangeShapes Go.WideShapes Go.Proofs.YtbnpcplckcipfaaW.PrintWords

/-- A value of the Go type t that was read is a value of kind d, and good. -/
def Opens {α : Type} (P : Program) (t : TypeId) (d : Kd α) (good : α → Prop) : Prop :=
  P.cellsOf t = d.sz ∧ ∀ {H : Type} {enc : TypeId × Value → H} {w : World} {base : Nat} {spare : Nat → Bool} {held : Bool} {n : Nat} {cs : List Value} {x : DataW H × List MemPlace},
    DataW.trod enc P w base spare held n t cs = some x → (∀ m ∈ x.1.weights P t, m ≤ reachBytes) → ∃ y, d.K w y cs ∧ good y

theorem opens_int {P : Program} {t : TypeId} {k : IntKind} (ht : P.underlying t = some (.int k)) (hc : P.cellsOf t = 1) : Opens P t (Kd.int k) (fun n => (Lit.int k n).wf = true) := by
  refine ⟨hc, fun {H enc w base spare held n cs x} h _ => ?_⟩
  obtain ⟨y, rfl, _, hw⟩ := DataW.trod_int ht h
  exact ⟨y, rfl, hw⟩
theorem opens_bool {P : Program} {t : TypeId} (ht : P.underlying t = some .bool) (hc : P.cellsOf t = 1) : Opens P t Kd.bool (fun _ => True) := by
  refine ⟨hc, fun {H enc w base spare held n cs x} h _ => ?_⟩
  obtain ⟨y, rfl, _⟩ := DataW.trod_bool ht h
  exact ⟨y, rfl, trivial⟩

theorem list_of {α : Type} (p : Nat → α → Prop) : ∀ n, (∀ i, i < n → ∃ y, p i y) → ∃ ys : List α, ys.length = n ∧ ∀ i y, ys[i]? = some y → p i y
  | 0, _ => ⟨[], rfl, by simp⟩
  | n + 1, h => by
    obtain ⟨ys, hl, hy⟩ := list_of p n (fun i hi => h i (by omega))
    obtain ⟨y, hp⟩ := h n (by omega)
    refine ⟨ys ++ [y], by simp [hl], fun i z hz => ?_⟩
    rw [List.getElem?_append] at hz
    split at hz
    · exact hy i z hz
    · have : i = n := by
        have := (List.getElem?_eq_some_iff.1 hz).1
        simp at this; omega
      subst this
      simp [hl] at hz
      exact hz ▸ hp

theorem mem_weightsAll {H : Type} {P : Program} {e : TypeId} {d : DataW H} {m : Nat} (hm : m ∈ d.weights P e) : ∀ {l : List (DataW H)}, d ∈ l → m ∈ DataW.weightsAll P e l
  | x :: l, h => by
    simp only [DataW.weightsAll, List.mem_append]
    rcases List.mem_cons.1 h with rfl | h
    · exact Or.inl hm
    · exact Or.inr (mem_weightsAll hm h)

theorem opens_slice {α : Type} {P : Program} {t e : TypeId} {E : Nat} {d : Kd α} {good : α → Prop} {b : Nat} (ht : P.underlying t = some (.slice e)) (hc : P.cellsOf t = 1) (hb : P.bytesOf e = b) (ho : Opens P e d good) :
    Opens P t (Kd.slice E d) (fun l => l.length ≤ maxLen ∧ l.length * b ≤ 140737488351232 ∧ ∀ x ∈ l, good x) := by
  refine ⟨hc, fun {H enc w base spare held n cs x} h hz => ?_⟩
  rcases DataW.trod_slice ht h with ⟨rfl, rfl⟩ | ⟨a, len, cap, elems, rest, m, rfl, rfl, rfl, hbase, hlc, hcm, hel, hat, _, _⟩
  · exact ⟨[], ⟨none, 0, rfl, by simp, Kd.C_nil d w⟩, by simp, by simp, by simp⟩
  · have hz1 : (elems.length + rest.length) * P.bytesOf e ≤ reachBytes := by
      have := hz ((elems.length + rest.length) * P.bytesOf e) (by simp [DataW.weights, ht])
      exact this
    have hz2 : ∀ z ∈ elems, ∀ k ∈ z.1.weights P e, k ≤ reachBytes := fun z hzm k hk => hz k (by
      simp only [DataW.weights, ht, List.mem_cons, List.mem_append]
      exact Or.inr (Or.inl (mem_weightsAll hk (List.mem_map_of_mem hzm))))
    obtain ⟨ys, hl, hy⟩ := list_of (fun i y => good y ∧ ∃ c, c.length = d.sz ∧ d.K w y c ∧ ∀ j u, c[j]? = some u → w.cell? (a.add (i * d.sz + j)) = some u) len (fun i hi => by
      have g := hat i hi
      rw [List.getElem?_eq_getElem (by omega)] at g
      obtain ⟨c, hcells, htr⟩ := Option.bind_eq_some_iff.1 g
      obtain ⟨_, hlen, hcell⟩ := World.cells?_some hcells
      obtain ⟨y, hk, hg⟩ := ho.2 htr (hz2 _ (List.getElem_mem _))
      refine ⟨y, hg, c, d.K_len hk, hk, fun j u hu => ?_⟩
      have hj : j < P.cellsOf e := by
        have := (List.getElem?_eq_some_iff.1 hu).1
        omega
      have := hcell j hj
      rw [Addr.add_add, ho.1] at this
      rw [this]; exact hu)
    refine ⟨ys, ⟨some a, cap, by rw [hl], by omega, ⟨rfl, Nat.le_trans (Nat.le_trans (Nat.le_of_eq hl) (Nat.le_trans hlc hcm)) (by decide), fun _ => ⟨a, rfl, fun j p hp => ?_⟩⟩⟩, by omega, ?_, fun y hym => ?_⟩
    · obtain ⟨_, c, h1, h2, h3⟩ := hy j p hp
      exact ⟨c, h1, h2, h3⟩
    · have e1 : reachBytes = 140737488351232 := by decide
      rw [e1, hb] at hz1
      refine Nat.le_trans (Nat.mul_le_mul_right b ?_) hz1
      omega
    · obtain ⟨i, hi⟩ := List.mem_iff_getElem?.1 hym
      exact (hy i y hi).1

/-- The same of a struct's fields, from the offset off on. -/
def FOpens {α : Type} (P : Program) (fs : List Field) (off : Nat) (d : Kd α) (good : α → Prop) : Prop :=
  ∀ {H : Type} {enc : TypeId × Value → H} {w : World} {base : Nat} {spare : Nat → Bool} {held : Bool} {n : Nat} {cs : List Value} {xs : List (DataW H × List MemPlace)},
    xs.length = fs.length → (∀ (i : Nat) (f : Field), fs[i]? = some f → DataW.trod enc P w base spare held n f.type ((cs.drop f.offset).take (P.cellsOf f.type)) = xs[i]?) →
    (∀ m ∈ DataW.weightsEach P (fs.map (·.type)) (xs.map (·.1)), m ≤ reachBytes) → ∃ y, d.K w y ((cs.drop off).take d.sz) ∧ good y

theorem fopens_last {α : Type} {P : Program} {f : Field} {off : Nat} {d : Kd α} {good : α → Prop} (ho : f.offset = off) (h : Opens P f.type d good) : FOpens P [f] off d good := by
  intro H enc w base spare held n cs xs hl ht hz
  obtain ⟨x, rfl⟩ : ∃ x, xs = [x] := by
    match xs, hl with
    | [x], _ => exact ⟨x, rfl⟩
  have g := ht 0 f rfl
  rw [ho, h.1] at g
  exact h.2 g (fun m hm => hz m (by simpa [DataW.weightsEach] using hm))

theorem fopens_cons {α β : Type} {P : Program} {f : Field} {fs : List Field} {off : Nat} {d : Kd α} {d' : Kd β} {good : α → Prop} {good' : β → Prop} (ho : f.offset = off) (h : Opens P f.type d good) (h' : FOpens P fs (off + d.sz) d' good') :
    FOpens P (f :: fs) off (Kd.pair d d') (fun y => good y.1 ∧ good' y.2) := by
  intro H enc w base spare held n cs xs hl ht hz
  obtain ⟨x, xs, rfl⟩ : ∃ x ys, xs = x :: ys := by
    match xs, hl with
    | x :: ys, _ => exact ⟨x, ys, rfl⟩
  have g := ht 0 f rfl
  rw [ho, h.1] at g
  obtain ⟨y, hk, hg⟩ := h.2 g (fun m hm => hz m (by simp only [List.map_cons, DataW.weightsEach, List.mem_append]; exact Or.inl hm))
  obtain ⟨y', hk', hg'⟩ := h' (cs := cs) (xs := xs) (by simpa using hl) (fun i f hf => by simpa using ht (i + 1) f (by simpa using hf)) (fun m hm => hz m (by simp only [List.map_cons, DataW.weightsEach, List.mem_append]; exact Or.inr hm))
  refine ⟨(y, y'), ⟨_, _, ?_, hk, hk'⟩, hg, hg'⟩
  show (cs.drop off).take (d.sz + d'.sz) = _
  rw [List.take_add, List.drop_drop]

theorem opens_struct {α : Type} {P : Program} {t : TypeId} {fs : Array Field} {d : Kd α} {good : α → Prop} (ht : P.underlying t = some (.struct fs)) (hc : P.cellsOf t = d.sz) (h : FOpens P fs.toList 0 d good) : Opens P t d good := by
  refine ⟨hc, fun {H enc w base spare held n cs x} hx hz => ?_⟩
  obtain ⟨xs, m, rfl, rfl, hl, hxl, hat⟩ := DataW.trod_struct ht hx
  obtain ⟨y, hk, hg⟩ := h (cs := cs) (xs := xs) (by simpa using hxl) (fun i f hf => hat i f (by simpa using hf)) (fun k hk => hz k (by simpa [DataW.weights, ht] using hk))
  refine ⟨y, ?_, hg⟩
  rw [List.drop_zero, List.take_of_length_le (by omega)] at hk
  exact hk

theorem opens_iso {α β : Type} {P : Program} {t : TypeId} {d : Kd α} {d' : Kd β} {f : β → α} {good : α → Prop} (g : α → β) (hfg : ∀ y, f (g y) = y) (hd : d' = Kd.iso d f) (h : Opens P t d good) : Opens P t d' (fun s => good (f s)) := by
  subst hd
  refine ⟨h.1, fun {H enc w base spare held n cs x} hx hz => ?_⟩
  obtain ⟨y, hk, hg⟩ := h.2 hx hz
  refine ⟨g y, ?_, by show good (f (g y)); rw [hfg]; exact hg⟩
  show d.K w (f (g y)) cs
  rw [hfg]; exact hk

/-- One parameter, from the walk's own facts. -/
theorem opened {α : Type} {P : Program} {t : TypeId} {d : Kd α} {good : α → Prop} (h : Opens P t d good) {H : Type} {enc : TypeId × Value → H} {w : World} {base : Nat} {spare : Nat → Bool} {held : Bool} {v : Value} {x : DataW H} {ps : List MemPlace} {ts : List TypeId} {ds : List (DataW H)}
    (hsz : (DataW.weightsEach P ts ds).all (· ≤ reachBytes) = true) {j : Nat} (hts : ts[j]? = some t) (hds : ds[j]? = some x) (hx : DataW.Trod enc P w base spare held t v x ps) : ∃ y, d.K w y v.cells.toList ∧ good y := by
  obtain ⟨n, hn⟩ := hx
  exact h.2 hn (fun m hm => by simpa using List.all_eq_true.1 hsz m (DataW.weights_mem_each hts hds m hm))
end Go.Proofs.Ytbnpcplckcipfaa.RowLib
