/- gradinelaw10_FroundBack comes to what its text says. -/
import Derived.Test.YtjocbnjpjihpnaaAA
import Derived.Test.YtjocbnjpjihpnaaWWc
import Derived.Test.YtjocbnjpjihpnaaFgradinelaw10FroundBack
namespace Go.Proofs.Ytjocbnjpjihpnaa.A
open Go.RowKit Go.Proofs.Ytjocbnjpjihpnaa.P Go.Proofs.YtjocbnjpjihpnaaW.PrintWords Go.Proofs.YtjocbnjpjihpnaaW.PrintLast Go.Proofs.YtjocbnjpjihpnaaW.PrintMore Go.Proofs.YtjocbnjpjihpnaaW.Abs
set_option linter.unusedVariables false
set_option linter.unusedSimpArgs false
attribute [local irreducible] gradineref09_Neg.f gradinelaw10_right.f gradinelaw10_same.f fround_FromRat.f gradineref07_Cmp.f fround_ToRat.f
def s_gradinelaw10_FroundBack : FSpec := ⟨[.int .u64, (.cons .bool (.cons (.row 22 (.int .u64)) (.row 22 (.int .u64)))), (.cons .bool (.cons (.row 22 (.int .u64)) (.row 22 (.int .u64))))], [.bool], fun k x => (gradinelaw10_FroundBack.f k x.1 x.2.1.1 x.2.1.2.1 x.2.1.2.2 x.2.2.1.1 x.2.2.1.2.1 x.2.2.1.2.2).map fun r => (r, ())⟩
def m_gradinelaw10_FroundBack (r : Bool) : TT s_gradinelaw10_FroundBack.rs := (r, ())
@[reducible] def q0_gradinelaw10_FroundBack : List Slot := [.tmp 4 [.ptr 4 0], .blk 4 .mine 30 [.ty .bool, .ty (.row 22 (.int .u64)), .ty (.row 22 (.int .u64))], .tmp 5 [.ptr 5 0], .blk 5 .mine 30 [.ty .bool, .ty (.row 22 (.int .u64)), .ty (.row 22 (.int .u64))]]
def g0_gradinelaw10_FroundBack (k : Nat) (x : TS q0_gradinelaw10_FroundBack) : Option (Bool) := gradinelaw10_FroundBack.j1 k x.2.1.1 x.2.1.2.1 x.2.1.2.2.1 x.2.2.2.1.1 x.2.2.2.1.2.1 x.2.2.2.1.2.2.1
@[reducible] def q1_gradinelaw10_FroundBack : List Slot := [.tmp 4 [.ptr 4 0], .blk 4 .mine 30 [.ty .bool, .ty (.row 22 (.int .u64)), .ty (.row 22 (.int .u64))], .tmp 5 [.ptr 5 0], .blk 5 .mine 30 [.ty .bool, .ty (.row 22 (.int .u64)), .ty (.row 22 (.int .u64))]]
def g1_gradinelaw10_FroundBack (k : Nat) (x : TS q1_gradinelaw10_FroundBack) : Option (Bool) := gradinelaw10_FroundBack.j0 k x.2.1.1 x.2.1.2.1 x.2.1.2.2.1 x.2.2.2.1.1 x.2.2.2.1.2.1 x.2.2.2.1.2.2.1
def c_gradinelaw10_FroundBack : Cuts (TT s_gradinelaw10_FroundBack.rs) := ⟨⟨79, 79, []⟩, lookC [], lookC [(10, ⟨q0_gradinelaw10_FroundBack, fun k x => (g0_gradinelaw10_FroundBack k x).map m_gradinelaw10_FroundBack⟩), (8, ⟨q1_gradinelaw10_FroundBack, fun k x => (g1_gradinelaw10_FroundBack k x).map m_gradinelaw10_FroundBack⟩)], lookC []⟩
set_option maxRecDepth 100000 in
set_option maxHeartbeats 4000000 in
theorem o_gradinelaw10_FroundBack : FOk Try.prog 6 s_gradinelaw10_FroundBack :=
 fn_of (Bt := blook [(10, [0, 1, 0, 7, 15, 31])]) (l := [(14, .pu s_gradineref09_Neg), (16, .pu s_gradinelaw10_right), (17, .pu s_gradinelaw10_same), (18, .pu s_fround_FromRat), (21, .pu s_gradineref07_Cmp), (26, .pu s_fround_ToRat)]) (C := c_gradinelaw10_FroundBack) (by kernel_rfl) tab_ok ⟨o_gradineref09_Neg, o_gradinelaw10_right, o_gradinelaw10_same, o_fround_FromRat, o_gradineref07_Cmp, o_fround_ToRat, trivial⟩ (fn := Try.f6) (by kernel_rfl) rfl (by kernel_rfl) (by decide) (by kernel_rfl) (F := fun k x => gradinelaw10_FroundBack.f k x.1 x.2.1.1 x.2.1.2.1 x.2.1.2.2 x.2.2.1.1 x.2.2.1.2.1 x.2.2.1.2.2) (m := m_gradinelaw10_FroundBack) (fun k x => rfl)
  (by
   refine And.intro ?_ ?_
   ·refine ob_join1 (sl := q1_gradinelaw10_FroundBack) (F := g1_gradinelaw10_FroundBack) (fun x => rfl) fun k ⟨_, ⟨(xn : Bool), (xa : List Int), (xb : List Int), _⟩, _, ⟨(yn : Bool), (ya : List Int), (yb : List Int), _⟩, _⟩ => ?_
    show LeT m_gradinelaw10_FroundBack (gradinelaw10_FroundBack.j0 (k + 1) xn xa xb yn ya yb) _
    rw [gradinelaw10_FroundBack.j0]; exact go
   refine And.intro ?_ ?_
   ·refine ob_join1 (sl := q0_gradinelaw10_FroundBack) (F := g0_gradinelaw10_FroundBack) (fun x => rfl) fun k ⟨_, ⟨(xn : Bool), (xa : List Int), (xb : List Int), _⟩, _, ⟨(yn : Bool), (ya : List Int), (yb : List Int), _⟩, _⟩ => ?_
    show LeT m_gradinelaw10_FroundBack (gradinelaw10_FroundBack.j1 (k + 1) xn xa xb yn ya yb) _
    rw [gradinelaw10_FroundBack.j1]; exact go
   exact trivial)
  (fun k ⟨(a0 : Int), (a1 : Bool × List Int × List Int), (a2 : Bool × List Int × List Int), _⟩ => by show LeT m_gradinelaw10_FroundBack (gradinelaw10_FroundBack.f k a0 a1.1 a1.2.1 a1.2.2 a2.1 a2.2.1 a2.2.2) _; unfold gradinelaw10_FroundBack.f; exact go)
end Go.Proofs.Ytjocbnjpjihpnaa.A
