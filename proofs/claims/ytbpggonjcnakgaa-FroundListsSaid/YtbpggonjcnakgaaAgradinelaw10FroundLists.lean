/- gradinelaw10_FroundLists comes to what its text says. -/
import Derived.Test.YtbpggonjcnakgaaAA
import Derived.Test.YtbpggonjcnakgaaWWb
import Derived.Test.YtbpggonjcnakgaaFgradinelaw10FroundLists
namespace Go.Proofs.Ytbpggonjcnakgaa.A
open Go.RowKit Go.Proofs.Ytbpggonjcnakgaa.P Go.Proofs.YtbpggonjcnakgaaW.PrintWords Go.Proofs.YtbpggonjcnakgaaW.PrintLast Go.Proofs.YtbpggonjcnakgaaW.PrintMore Go.Proofs.YtbpggonjcnakgaaW.Abs
set_option linter.unusedVariables false
set_option linter.unusedSimpArgs false
attribute [local irreducible] gradineref10_More.f gradinelaw10_same.f fround_Of.f fround_FromInt.f gradineref10_FromInt.f
def s_gradinelaw10_FroundLists : FSpec := ⟨[(.cons .bool (.cons .bool (.cons (.row 22 (.int .u64)) (.int .i64)))), .int .i64], [.bool], fun k x => (gradinelaw10_FroundLists.f k x.1.1 x.1.2.1 x.1.2.2.1 x.1.2.2.2 x.2.1).map fun r => (r, ())⟩
def m_gradinelaw10_FroundLists (r : Bool) : TT s_gradinelaw10_FroundLists.rs := (r, ())
set_option maxRecDepth 100000 in
set_option maxHeartbeats 4000000 in
theorem o_gradinelaw10_FroundLists : FOk Try.prog 14 s_gradinelaw10_FroundLists :=
 fn_of (Bt := blook [(3, [0, 1, 0, 4, 0, 16, 0, 64, 255, 0, 512, 0, 2048, 0, 8192, 0, 32768, 131071, 262143, 524287, 1048575, 2097151, 1048575, 8388607, 16777215, 33554431, 67108863, 134217727, 268435455, 536870911])]) (l := [(37, s_gradineref10_More), (38, s_gradinelaw10_same), (63, s_fround_Of), (64, s_fround_FromInt), (65, s_gradineref10_FromInt)]) (C := noCuts) (by kernel_rfl) tab_ok ⟨o_gradineref10_More, o_gradinelaw10_same, o_fround_Of, o_fround_FromInt, o_gradineref10_FromInt, trivial⟩ (fn := Try.f14) (by kernel_rfl) rfl (by kernel_rfl) (by decide) (by kernel_rfl) (F := fun k x => gradinelaw10_FroundLists.f k x.1.1 x.1.2.1 x.1.2.2.1 x.1.2.2.2 x.2.1) (m := m_gradinelaw10_FroundLists) (fun k x => rfl)
  (by exact trivial)
  (fun k ⟨(a0 : Bool × Bool × List Int × Int), (a1 : Int), _⟩ => by show LeT m_gradinelaw10_FroundLists (gradinelaw10_FroundLists.f k a0.1 a0.2.1 a0.2.2.1 a0.2.2.2 a1) _; unfold gradinelaw10_FroundLists.f; exact go)
end Go.Proofs.Ytbpggonjcnakgaa.A
