/- What the functions of limb, and of its reference, answer: sums, differences, products of words. -/
import Derived.Test.YtldcgclbgbhffaaM1
import Derived.Test.YtldcgclbgbhffaaBlimb
namespace Go.Proofs.Ytldcgclbgbhffaa.M
open Go.RowKit Go.Proofs.Ytldcgclbgbhffaa.P Go.Proofs.YtldcgclbgbhffaaW.PrintWords Go.Proofs.YtldcgclbgbhffaaW.PrintLast Go.Proofs.YtldcgclbgbhffaaW.PrintMore
set_option linter.unusedVariables false

theorem limb_Add_c {a b c : Int} (ha : U a) (hb : U b) (hc : U c) : limb_Add.f a b c = some ((a + b + c) % 18446744073709551616, (a + b + c) / 18446744073709551616) := by
  unfold U at ha hb hc
  unfold limb_Add.f
  simp only [wu]
  split <;> split <;> (simp only [Option.some.injEq, Prod.mk.injEq]; omega)
theorem limb_Sub_c {a b c : Int} (ha : U a) (hb : U b) (hc : U c) : limb_Sub.f a b c = some ((a - b - c) % 18446744073709551616, -((a - b - c) / 18446744073709551616)) := by
  unfold U at ha hb hc
  unfold limb_Sub.f
  simp only [wu]
  split <;> split <;> (simp only [Option.some.injEq, Prod.mk.injEq]; omega)
theorem mul_halves (a b : Int) : a * b = (a / 4294967296) * (b / 4294967296) * 18446744073709551616 + ((a % 4294967296) * (b / 4294967296) + (a / 4294967296) * (b % 4294967296)) * 4294967296 + (a % 4294967296) * (b % 4294967296) := by
  have h1 := Int.mul_ediv_add_emod a 4294967296
  have h2 := Int.mul_ediv_add_emod b 4294967296
  generalize a / 4294967296 = a1 at *
  generalize b / 4294967296 = b1 at *
  generalize a % 4294967296 = a0 at *
  generalize b % 4294967296 = b0 at *
  subst h1 h2
  grind
theorem mul_bound {x y m n : Int} (hx0 : 0 ≤ x) (hx : x ≤ m) (hy0 : 0 ≤ y) (hy : y ≤ n) : 0 ≤ x * y ∧ x * y ≤ m * n :=
  ⟨Int.mul_nonneg hx0 hy0, Int.mul_le_mul hx hy hy0 (by omega)⟩
theorem limb_Mul_c {a b : Int} (ha : U a) (hb : U b) : limb_Mul.f a b = some (a * b / 18446744073709551616, a * b % 18446744073709551616) := by
  unfold U at ha hb
  unfold limb_Mul.f
  have e := mul_halves a b
  have k1 := mul_bound (x := a % 4294967296) (y := b % 4294967296) (m := 4294967295) (n := 4294967295) (by omega) (by omega) (by omega) (by omega)
  have k2 := mul_bound (x := a % 4294967296) (y := b / 4294967296) (m := 4294967295) (n := 4294967295) (by omega) (by omega) (by omega) (by omega)
  have k3 := mul_bound (x := a / 4294967296) (y := b % 4294967296) (m := 4294967295) (n := 4294967295) (by omega) (by omega) (by omega) (by omega)
  have k4 := mul_bound (x := a / 4294967296) (y := b / 4294967296) (m := 4294967295) (n := 4294967295) (by omega) (by omega) (by omega) (by omega)
  rw [and32 a (by omega) (by omega), and32 b (by omega) (by omega)]
  generalize a % 4294967296 * (b % 4294967296) = p at *
  generalize a % 4294967296 * (b / 4294967296) = q at *
  generalize a / 4294967296 * (b % 4294967296) = r at *
  generalize a / 4294967296 * (b / 4294967296) = t at *
  rw [e]
  clear e ha hb
  simp only [Int.reduceMul] at *
  simp only [wu]
  rw [and32 _ (by omega) (by omega), and32 _ (by omega) (by omega), or_join 32 _ _ (by omega) (by omega) (by omega) (by omega) (by omega) (by omega)]
  simp only [Option.some.injEq, Prod.mk.injEq]
  omega

/-! ### How many bits -/
/-! ### Quotients -/
/-! ### The reference, bit by bit -/
end Go.Proofs.Ytldcgclbgbhffaa.M
