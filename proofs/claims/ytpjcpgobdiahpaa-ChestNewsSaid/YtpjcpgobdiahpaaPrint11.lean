-- Written by wip/tools/myprint.py out of the translation. Not trusted: Lean checks it.
import Derived.Test.YtpjcpgobdiahpaaPrint0
namespace Go.Proofs.Ytpjcpgobdiahpaa.Print
open Go.RowKit Go.Proofs.YtpjcpgobdiahpaaW.PrintWords Go.Proofs.YtpjcpgobdiahpaaW.PrintLast Go.Proofs.YtpjcpgobdiahpaaW.PrintMore
attribute [local go_sem] max2_int min2_int max_two min_two max_three min_three max_four min_four   -- for this text's walks alone
set_option linter.unusedVariables false
set_option linter.unusedSimpArgs false

/-! ### num_product: function 105 (given) -/
def num_product.f (a0 : Int) (a1 : Int) : Option (Int × Int) := if 0 ≤ a0 ∧ a0 ≤ 1125899906842624 ∧ 0 ≤ a1 ∧ a1 ≤ 1125899906842624 then some (a0 * a1 / 18446744073709551616, a0 * a1 % 18446744073709551616) else none
theorem num_product.w64 (n : Int) (h : 0 ≤ n) (h' : n < 2 ^ 64) : IntKind.u64.wrap n = n := by
 have : IntKind.u64.wrap n = n % 18446744073709551616 := by simp [IntKind.wrap, IntKind.bits, IntKind.signed]
 rw [this]; omega
theorem num_product.and32 (x : Int) (h0 : 0 ≤ x) (h1 : x < 18446744073709551616) : Go.bits .and .u64 x 4294967295 = x % 4294967296 :=
 bits_mask .u64 64 (by decide) num_product.w64 32 (by decide) x h0 h1
theorem num_product.or32 (x y : Int) (hx : 0 ≤ x) (hx1 : x < 18446744073709551616) (hm : x % 4294967296 = 0) (hy : 0 ≤ y) (hy1 : y < 4294967296) : Go.bits .or .u64 x y = x + y :=
 bits_join .u64 64 (by decide) num_product.w64 32 x y hx hm hx1 hy hy1 (by omega)
theorem num_product.mul_le {a b A B : Int} (ha0 : 0 ≤ a) (ha : a ≤ A) (hb0 : 0 ≤ b) (hb : b ≤ B) : 0 ≤ a * b ∧ a * b ≤ A * B :=
 ⟨Int.mul_nonneg ha0 hb0, Int.mul_le_mul ha hb hb0 (by omega)⟩
theorem num_product.parts (x00 x10 x01 x11 : Int) (p00 : 0 ≤ x00 ∧ x00 ≤ 18446744065119617025) (p10 : 0 ≤ x10 ∧ x10 ≤ 1125899906580480) (p01 : 0 ≤ x01 ∧ x01 ≤ 1125899906580480) (p11 : 0 ≤ x11 ∧ x11 ≤ 68719476736) (low mid more : Int)
  (elow : low = IntKind.u64.wrap x00) (emid : mid = IntKind.u64.wrap (IntKind.u64.wrap x10 + low / 4294967296)) (emore : more = IntKind.u64.wrap (IntKind.u64.wrap x01 + Go.bits .and .u64 mid 4294967295)) :
  IntKind.u64.wrap (IntKind.u64.wrap (IntKind.u64.wrap x11 + mid / 4294967296) + more / 4294967296) = (x11 * 18446744073709551616 + (x10 + x01) * 4294967296 + x00) / 18446744073709551616 ∧
  Go.bits .or .u64 (IntKind.u64.wrap (more * 4294967296)) (Go.bits .and .u64 low 4294967295) = (x11 * 18446744073709551616 + (x10 + x01) * 4294967296 + x00) % 18446744073709551616 := by
 rw [num_product.w64 x00 p00.1 (by omega)] at elow
 subst elow
 rw [num_product.w64 x10 p10.1 (by omega), num_product.w64 _ (by omega) (by omega)] at emid
 subst emid
 rw [num_product.and32 _ (by omega) (by omega), num_product.w64 x01 p01.1 (by omega), num_product.w64 _ (by omega) (by omega)] at emore
 subst emore
 refine ⟨?_, ?_⟩
 ·rw [num_product.w64 x11 p11.1 (by omega), num_product.w64 (x11 + _) (by omega) (by omega), num_product.w64 _ (by omega) (by omega)]
  omega
 ·rw [num_product.and32 low (by omega) (by omega)]
  have ew : ∀ z : Int, IntKind.u64.wrap z = z % 18446744073709551616 := fun z => by simp [IntKind.wrap, IntKind.bits, IntKind.signed]
  rw [ew, num_product.or32 _ _ (by omega) (by omega) (by omega) (by omega) (by omega)]
  omega
theorem num_product.arith (a b : Int) (ha0 : 0 ≤ a) (ha : a ≤ 1125899906842624) (hb0 : 0 ≤ b) (hb : b ≤ 1125899906842624) (a0 a1 b0 b1 low mid more : Int)
  (ea0 : a0 = Go.bits .and .u64 a 4294967295) (ea1 : a1 = a / 4294967296) (eb0 : b0 = Go.bits .and .u64 b 4294967295) (eb1 : b1 = b / 4294967296)
  (elow : low = IntKind.u64.wrap (a0 * b0)) (emid : mid = IntKind.u64.wrap (IntKind.u64.wrap (a1 * b0) + low / 4294967296)) (emore : more = IntKind.u64.wrap (IntKind.u64.wrap (a0 * b1) + Go.bits .and .u64 mid 4294967295)) :
  IntKind.u64.wrap (IntKind.u64.wrap (IntKind.u64.wrap (a1 * b1) + mid / 4294967296) + more / 4294967296) = a * b / 18446744073709551616 ∧
  Go.bits .or .u64 (IntKind.u64.wrap (more * 4294967296)) (Go.bits .and .u64 low 4294967295) = a * b % 18446744073709551616 := by
 rw [num_product.and32 a ha0 (by omega)] at ea0
 rw [num_product.and32 b hb0 (by omega)] at eb0
 have ka : a = a1 * 4294967296 + a0 := by omega
 have kb : b = b1 * 4294967296 + b0 := by omega
 have ra0 : 0 ≤ a0 ∧ a0 ≤ 4294967295 := by omega
 have rb0 : 0 ≤ b0 ∧ b0 ≤ 4294967295 := by omega
 have ra1 : 0 ≤ a1 ∧ a1 ≤ 262144 := by omega
 have rb1 : 0 ≤ b1 ∧ b1 ≤ 262144 := by omega
 have kab : a * b = a1 * b1 * 18446744073709551616 + (a1 * b0 + a0 * b1) * 4294967296 + a0 * b0 := by rw [ka, kb]; grind
 have p00 := num_product.mul_le ra0.1 ra0.2 rb0.1 rb0.2
 have p10 := num_product.mul_le ra1.1 ra1.2 rb0.1 rb0.2
 have p01 := num_product.mul_le ra0.1 ra0.2 rb1.1 rb1.2
 have p11 := num_product.mul_le ra1.1 ra1.2 rb1.1 rb1.2
 rw [kab]
 exact num_product.parts _ _ _ _ ⟨p00.1, by omega⟩ ⟨p10.1, by omega⟩ ⟨p01.1, by omega⟩ ⟨p11.1, by omega⟩ low mid more elow emid emore
set_option maxHeartbeats 8000000 in
set_option maxRecDepth 100000 in
theorem num_product.calls (a0 : Int) (a1 : Int) (r1 : Int) (r2 : Int) (w : World) (h : num_product.f a0 a1 = some (r1, r2)) :
  Calls Try.prog 105 #[.int .u64 a0, .int .u64 a1] w fun e w' => e = .returned (.agg #[.int .u64 r1, .int .u64 r2]) ∧ Below w.heap.size w w' := by
 unfold num_product.f at h
 split at h
 ·rename_i hb
  obtain ⟨ha0, ha, hb0, hb⟩ := hb
  obtain ⟨z1, z2⟩ := num_product.arith a0 a1 ha0 ha hb0 hb _ _ _ _ _ _ _ rfl rfl rfl rfl rfl rfl rfl
  simp only [Option.some.injEq, Prod.mk.injEq] at h
  obtain ⟨h1, h2⟩ := h
  have Z1 := Aside0.mk (z1.trans h1)
  have Z2 := Aside0.mk (z2.trans h2)
  clear z1 z2 h1 h2
  go_enter Try.func105, Try.ntmps105
  go_wp2
  refine bodyPost_ret (v := .agg #[.int .u64 r1, .int .u64 r2]) ?_ rfl ⟨rfl, ?_⟩
  ·rw [← Z1.out, ← Z2.out]; simp [results, Try.results105, go_sem]
  ·exact (Below.refl _ _).alloc (Nat.le_refl _) _
 ·simp at h

/-! ### num_size: function 106 -/
def num_size.f (a0 : Int) : Option (Int) := if a0 < 0 then (some (IntKind.u64.wrap (wrap64 (-a0)))) else (some (IntKind.u64.wrap (a0)))
set_option maxHeartbeats 8000000 in
set_option maxRecDepth 100000 in
theorem num_size.calls (a0 : Int) (r : Int) (w : World) (h : num_size.f a0 = some r) :
  Calls Try.prog 106 #[.int .i64 a0] w fun e w' => e = .returned (.int .u64 r) ∧ Drawn0 w w' := by
 have H : (if a0 < 0 then (some (IntKind.u64.wrap (wrap64 (-a0)))) else (some (IntKind.u64.wrap (a0)))) = some r := h
 clear h
 by_cases c2 : a0 < 0
 ·rw [if_pos c2] at H
  have c2b0 : decide (a0 < 0) = true := decide_eq_true c2
  clear c2
  obtain rfl := Option.some.inj H
  go_enter Try.func106, Try.ntmps106
  go_wp2
  go_ret
  exact ⟨by first | rfl | (simp; done) | (simp [*]; done), by repeat (first | exact Drawn0.refl _ | apply Drawn0.step)⟩
 ·rw [if_neg c2] at H
  have c2b0 : decide (a0 < 0) = false := decide_eq_false c2
  clear c2
  obtain rfl := Option.some.inj H
  go_enter Try.func106, Try.ntmps106
  go_wp2
  go_ret
  exact ⟨by first | rfl | (simp; done) | (simp [*]; done), by repeat (first | exact Drawn0.refl _ | apply Drawn0.step)⟩

end Go.Proofs.Ytpjcpgobdiahpaa.Print
