/- The lowest bit of a whole number. -/
import Derived.Test.YtbpggonjcnakgaaM1
namespace Go.Proofs.Ytbpggonjcnakgaa.M
open Go.RowKit Go.Proofs.YtbpggonjcnakgaaW.PrintWords Go.Proofs.YtbpggonjcnakgaaW.PrintLast Go.Proofs.YtbpggonjcnakgaaW.PrintMore
set_option linter.unusedVariables false

theorem and_one_i64 (x : Int) : Go.bits .and .i64 x 1 = x % 2 := by
  have e : Go.bits .and .i64 x 1 = IntKind.i64.wrap (((x % 18446744073709551616).toNat &&& 1 : Nat) : Int) := by
    simp only [Go.bits, BitVec.toNat_and, BitVec.toNat_ofInt]
    rfl
  rw [e, Nat.and_one_is_mod, IntKind.wrap_i64]
  omega
end Go.Proofs.Ytbpggonjcnakgaa.M
