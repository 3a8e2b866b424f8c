/- gradinelaw08_PowerAdds comes to what its text says. -/
import Derived.Test.YtldcgclbgbhffaaAA
import Derived.Test.YtldcgclbgbhffaaWWb
import Derived.Test.YtldcgclbgbhffaaFgradinelaw08PowerAdds
namespace Go.Proofs.Ytldcgclbgbhffaa.A
open Go.RowKit Go.Proofs.Ytldcgclbgbhffaa.P Go.Proofs.YtldcgclbgbhffaaW.PrintWords Go.Proofs.YtldcgclbgbhffaaW.PrintLast Go.Proofs.YtldcgclbgbhffaaW.PrintMore Go.Proofs.YtldcgclbgbhffaaW.Abs
set_option linter.unusedVariables false
set_option linter.unusedSimpArgs false
attribute [local irreducible] rat_Same.f gradineref07_Zero.f rat_Mul.f gradinelaw08_right.f gradinelaw08_same.f
def s_gradinelaw08_PowerAdds : FSpec := ⟨[(.cons .bool (.cons (.row 22 (.int .u64)) (.row 22 (.int .u64)))), .int .i64, .int .i64], [.bool], fun k x => (gradinelaw08_PowerAdds.f k x.1.1 x.1.2.1 x.1.2.2 x.2.1 x.2.2.1).map fun r => (r, ())⟩
def m_gradinelaw08_PowerAdds (r : Bool) : TT s_gradinelaw08_PowerAdds.rs := (r, ())
set_option maxRecDepth 100000 in
set_option maxHeartbeats 4000000 in
theorem o_gradinelaw08_PowerAdds : FOk Try.prog 31 s_gradinelaw08_PowerAdds :=
 fn_of (Bt := blook [(6, [0, 1, 3, 7, 15, 31, 63, 127, 255, 511, 1023, 2047, 2047, 8191, 2047, 32767, 65535, 131071, 262143, 524287, 1048575])]) (l := [(106, s_rat_Same), (110, s_gradineref07_Zero), (116, s_rat_Mul), (124, s_gradinelaw08_right), (125, s_gradinelaw08_same), (130, s_power_Pow)]) (C := noCuts) (by kernel_rfl) tab_ok ⟨o_rat_Same, o_gradineref07_Zero, o_rat_Mul, o_gradinelaw08_right, o_gradinelaw08_same, o_power_Pow, trivial⟩ (fn := Try.f31) (by kernel_rfl) rfl (by kernel_rfl) (by decide) (by kernel_rfl) (F := fun k x => gradinelaw08_PowerAdds.f k x.1.1 x.1.2.1 x.1.2.2 x.2.1 x.2.2.1) (m := m_gradinelaw08_PowerAdds) (fun k x => rfl)
  (by exact trivial)
  (fun k ⟨(a0 : Bool × List Int × List Int), (a1 : Int), (a2 : Int), _⟩ => by show LeT m_gradinelaw08_PowerAdds (gradinelaw08_PowerAdds.f k a0.1 a0.2.1 a0.2.2 a1 a2) _; unfold gradinelaw08_PowerAdds.f; unfold gradinelaw08_PowerAdds.j0; exact goq)
end Go.Proofs.Ytldcgclbgbhffaa.A
