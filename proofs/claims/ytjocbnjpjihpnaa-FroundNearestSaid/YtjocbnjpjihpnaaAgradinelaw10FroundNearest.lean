/- gradinelaw10_FroundNearest comes to what its text says. -/
import Derived.Test.YtjocbnjpjihpnaaAA
import Derived.Test.YtjocbnjpjihpnaaWWc
import Derived.Test.YtjocbnjpjihpnaaFgradinelaw10FroundNearest
namespace Go.Proofs.Ytjocbnjpjihpnaa.A
open Go.RowKit Go.Proofs.Ytjocbnjpjihpnaa.P Go.Proofs.YtjocbnjpjihpnaaW.PrintWords Go.Proofs.YtjocbnjpjihpnaaW.PrintLast Go.Proofs.YtjocbnjpjihpnaaW.PrintMore Go.Proofs.YtjocbnjpjihpnaaW.Abs
set_option linter.unusedVariables false
set_option linter.unusedSimpArgs false
attribute [local irreducible] gradineref09_Kind.f gradineref09_Neg.f gradinelaw10_right.f gradinelaw10_same.f fround_FromRat.f gradineref09_Finite.f gradineref10_ToRat.f gradineref07_Cmp.f gradineref07_Make.f gradineref07_Add.f gradinelaw10_apart.f gradineref07_Same.f
def s_gradinelaw10_FroundNearest : FSpec := ⟨[(.cons .bool (.cons (.row 22 (.int .u64)) (.row 22 (.int .u64)))), .int .u64], [.bool], fun k x => (gradinelaw10_FroundNearest.f k x.1.1 x.1.2.1 x.1.2.2 x.2.1).map fun r => (r, ())⟩
def m_gradinelaw10_FroundNearest (r : Bool) : TT s_gradinelaw10_FroundNearest.rs := (r, ())
set_option maxRecDepth 100000 in
set_option maxHeartbeats 4000000 in
theorem o_gradinelaw10_FroundNearest : FOk Try.prog 5 s_gradinelaw10_FroundNearest :=
 fn_of (Bt := blook [(4, [0, 1, 3, 7, 15, 31, 15, 79, 255, 511]), (9, [0, 1, 0, 4, 15, 0, 0, 127, 255, 511, 1023, 2047, 4095, 8191]), (13, [0, 0, 3, 0, 0, 31, 63, 127])]) (l := [(13, .pu s_gradineref09_Kind), (14, .pu s_gradineref09_Neg), (16, .pu s_gradinelaw10_right), (17, .pu s_gradinelaw10_same), (18, .pu s_fround_FromRat), (19, .pu s_gradineref09_Finite), (20, .pu s_gradineref10_ToRat), (21, .pu s_gradineref07_Cmp), (22, .pu s_gradineref07_Make), (23, .pu s_gradineref07_Add), (24, .pu s_gradinelaw10_apart), (25, .pu s_gradineref07_Same)]) (C := noCuts) (by kernel_rfl) tab_ok ⟨o_gradineref09_Kind, o_gradineref09_Neg, o_gradinelaw10_right, o_gradinelaw10_same, o_fround_FromRat, o_gradineref09_Finite, o_gradineref10_ToRat, o_gradineref07_Cmp, o_gradineref07_Make, o_gradineref07_Add, o_gradinelaw10_apart, o_gradineref07_Same, trivial⟩ (fn := Try.f5) (by kernel_rfl) rfl (by kernel_rfl) (by decide) (by kernel_rfl) (F := fun k x => gradinelaw10_FroundNearest.f k x.1.1 x.1.2.1 x.1.2.2 x.2.1) (m := m_gradinelaw10_FroundNearest) (fun k x => rfl)
  (by exact trivial)
  (fun k ⟨(a0 : Bool × List Int × List Int), (a1 : Int), _⟩ => by show LeT m_gradinelaw10_FroundNearest (gradinelaw10_FroundNearest.f k a0.1 a0.2.1 a0.2.2 a1) _; unfold gradinelaw10_FroundNearest.f; unfold gradinelaw10_FroundNearest.j0; exact goq)
end Go.Proofs.Ytjocbnjpjihpnaa.A
