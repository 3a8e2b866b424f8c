/- The known results that each statement of fprod asks besides. -/
import Derived.Test.YtbpggonjcnakgaaC12
import Derived.Test.YtbpggonjcnakgaaFgradinelaw12same
namespace Go.Proofs.Ytbpggonjcnakgaa.M
open Go.RowKit Go.Proofs.Ytbpggonjcnakgaa.P Go.Proofs.YtbpggonjcnakgaaW.PrintWords Go.Proofs.YtbpggonjcnakgaaW.PrintLast Go.Proofs.YtbpggonjcnakgaaW.PrintMore
set_option linter.unusedVariables false

theorem law12_same_c : Ev (fun k => gradinelaw12_same.f k) true := by
  have h1 := fprod_Div_c (a := 4607182418800017408) (b := 4613937818241073152) (by unfold U; omega) (by unfold U; omega)
  rw [show fdiv 4607182418800017408 4613937818241073152 = 4599676419421066581 by decide] at h1
  have h2 := fprod_Sqrt_c (b := 4611686018427387904) (w := 4609047870845172685) (by unfold U; omega) (by decide) (by decide) (by decide) (by decide)
    ⟨75, -64, 13043817825332782212, by decide, ⟨by decide, by decide, by decide⟩, by decide, by decide⟩
  have h3 := fprod_Mul_c (a := 0) (b := 9218868437227405312) (by unfold U; omega) (by unfold U; omega)
  rw [show fmul 0 9218868437227405312 = 9221120237041090560 by decide] at h3
  exact Ev.bind h1 (Ev.ifp rfl (Ev.bind h2 (Ev.ifp rfl (Ev.bind h3 (Ev.same rfl)))))
theorem clear_top {x : Int} (h : U x) : Go.bits .andNot .u64 x 9223372036854775808 = x % 9223372036854775808 := by
  obtain ⟨h0, h1⟩ := h
  obtain ⟨a, rfl⟩ := Int.eq_ofNat_of_zero_le h0
  have e1 : Go.bits .andNot .u64 (a : Int) 9223372036854775808 = IntKind.u64.wrap ((a &&& (2 ^ 63 - 1) : Nat) : Int) := by
    simp only [Go.bits, BitVec.toNat_and, BitVec.toNat_not]
    rw [show (BitVec.ofInt IntKind.u64.bits (a : Int)).toNat = a from by
      rw [BitVec.ofInt_natCast, BitVec.toNat_ofNat, show IntKind.bits .u64 = 64 from rfl, Nat.mod_eq_of_lt (by omega)]]
    rfl
  rw [e1, Nat.and_two_pow_sub_one_eq_mod, wu]
  omega
end Go.Proofs.Ytbpggonjcnakgaa.M
