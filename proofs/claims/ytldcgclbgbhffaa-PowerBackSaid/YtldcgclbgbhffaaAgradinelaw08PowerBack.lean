/- gradinelaw08_PowerBack comes to what its text says. -/
import Derived.Test.YtldcgclbgbhffaaAA
import Derived.Test.YtldcgclbgbhffaaWWb
import Derived.Test.YtldcgclbgbhffaaFgradinelaw08PowerBack
namespace Go.Proofs.Ytldcgclbgbhffaa.A
open Go.RowKit Go.Proofs.Ytldcgclbgbhffaa.P Go.Proofs.YtldcgclbgbhffaaW.PrintWords Go.Proofs.YtldcgclbgbhffaaW.PrintLast Go.Proofs.YtldcgclbgbhffaaW.PrintMore Go.Proofs.YtldcgclbgbhffaaW.Abs
set_option linter.unusedVariables false
set_option linter.unusedSimpArgs false
attribute [local irreducible] rat_Of.f rat_Same.f rat_Add.f rat_Cmp.f rat_Sign.f gradinelaw08_right.f gradinelaw08_same.f power_Read.f power_Show.f power_Abs.f power_Floor.f
def s_gradinelaw08_PowerBack : FSpec := ⟨[(.cons .bool (.cons (.row 22 (.int .u64)) (.row 22 (.int .u64))))], [.bool], fun k x => (gradinelaw08_PowerBack.f k x.1.1 x.1.2.1 x.1.2.2).map fun r => (r, ())⟩
def m_gradinelaw08_PowerBack (r : Bool) : TT s_gradinelaw08_PowerBack.rs := (r, ())
set_option maxRecDepth 100000 in
set_option maxHeartbeats 4000000 in
theorem o_gradinelaw08_PowerBack : FOk Try.prog 32 s_gradinelaw08_PowerBack :=
 fn_of (Bt := blook [(7, [0, 0, 3, 7, 15, 31, 31, 127, 31, 511, 1023, 2047, 4095, 8191, 16383, 32767, 65535, 131071, 262143, 524287, 1048575, 2097151])]) (l := [(103, s_rat_Of), (106, s_rat_Same), (112, s_rat_Add), (120, s_rat_Cmp), (122, s_rat_Sign), (124, s_gradinelaw08_right), (125, s_gradinelaw08_same), (126, s_power_Read), (128, s_power_Show), (134, s_power_Abs), (136, s_power_Floor)]) (C := noCuts) (by kernel_rfl) tab_ok ⟨o_rat_Of, o_rat_Same, o_rat_Add, o_rat_Cmp, o_rat_Sign, o_gradinelaw08_right, o_gradinelaw08_same, o_power_Read, o_power_Show, o_power_Abs, o_power_Floor, trivial⟩ (fn := Try.f32) (by kernel_rfl) rfl (by kernel_rfl) (by decide) (by kernel_rfl) (F := fun k x => gradinelaw08_PowerBack.f k x.1.1 x.1.2.1 x.1.2.2) (m := m_gradinelaw08_PowerBack) (fun k x => rfl)
  (by exact trivial)
  (fun k ⟨(a0 : Bool × List Int × List Int), _⟩ => by show LeT m_gradinelaw08_PowerBack (gradinelaw08_PowerBack.f k a0.1 a0.2.1 a0.2.2) _; unfold gradinelaw08_PowerBack.f; unfold gradinelaw08_PowerBack.j0; exact goq)
end Go.Proofs.Ytldcgclbgbhffaa.A
