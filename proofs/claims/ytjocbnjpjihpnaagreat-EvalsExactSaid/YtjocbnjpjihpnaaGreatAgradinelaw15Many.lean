/- gradinelaw15_Many comes to what its text says. -/
import Derived.Test.YtjocbnjpjihpnaaGreatAAa
import Derived.Test.YtjocbnjpjihpnaaGreatWWc
import Derived.Test.YtjocbnjpjihpnaaGreatFgradinelaw15Many
namespace Go.Proofs.YtjocbnjpjihpnaaGreat.A
open Go.RowKit Go.Proofs.YtjocbnjpjihpnaaGreat.P Go.Proofs.YtjocbnjpjihpnaaGreatW.PrintWords Go.Proofs.YtjocbnjpjihpnaaGreatW.PrintLast Go.Proofs.YtjocbnjpjihpnaaGreatW.PrintMore Go.Proofs.YtjocbnjpjihpnaaGreatW.Abs
set_option linter.unusedVariables false
set_option linter.unusedSimpArgs false
attribute [local irreducible] gradineplain_Long.f
def s_gradinelaw15_Many:FSpec:=⟨[(.row 93 (.cons (.int .i64) (.cons (.int .i64) (.cons (.int .i64) (.cons .bool (.cons (.row 73 (.int .u64)) (.row 73 (.int .u64))))))))],[.bool],fun k x=>(gradinelaw15_Many.f k x.1).map fun r=>(r,())⟩
def m_gradinelaw15_Many (r:Bool):TT s_gradinelaw15_Many.rs:=(r,())
@[reducible] def q0_gradinelaw15_Many:List Slot:= [.tmp 0 [.ty (.row 93 (.cons (.int .i64) (.cons (.int .i64) (.cons (.int .i64) (.cons .bool (.cons (.row 73 (.int .u64)) (.row 73 (.int .u64))))))))], .tmp 5 [.ty (.int .i64)], .tmp 6 [.ty (.int .i64)]]
def g0_gradinelaw15_Many (k:Nat) (x:TS q0_gradinelaw15_Many):Option (Bool):=gradinelaw15_Many.l0 k x.1.1 x.2.1.1 x.2.2.1.1
def c_gradinelaw15_Many:Cuts (TT s_gradinelaw15_Many.rs):=⟨⟨19,19,[]⟩,lookC [(0,⟨q0_gradinelaw15_Many,fun k x=>(g0_gradinelaw15_Many k x).map m_gradinelaw15_Many⟩)],lookC [],lookC []⟩
set_option maxRecDepth 100000 in
set_option maxHeartbeats 4000000 in
theorem o_gradinelaw15_Many:FOk Tryz.prog 31 s_gradinelaw15_Many :=
 fn_of (Bt:=blook []) (l:= [(60, .pu s_gradineplain_Long)]) (C:=c_gradinelaw15_Many) (by kernel_rfl) tab_ok ⟨o_gradineplain_Long,trivial⟩ (fn:=Tryz.f31) (by kernel_rfl) rfl (by kernel_rfl) (by decide) (by kernel_rfl) (F:=fun k x=>gradinelaw15_Many.f k x.1) (m:=m_gradinelaw15_Many) (fun k x=>rfl)
  (by
   refine And.intro ?_ ?_
   ·refine ob_loop (sl:=q0_gradinelaw15_Many) (F:=g0_gradinelaw15_Many) (fun x=>rfl) fun k ⟨⟨(x0:List (Int × Int × Int × Bool × (List Int) × List Int)),_⟩,⟨(x5:Int),_⟩,⟨(x6:Int),_⟩,_⟩=> ?_
    show LeT m_gradinelaw15_Many (gradinelaw15_Many.l0 (k+1) x0 x5 x6) _
    rw [gradinelaw15_Many.l0];exact go
   exact trivial)
  (fun k ⟨(a0:List (Int × Int × Int × Bool × (List Int) × List Int)),_⟩=>by show LeT m_gradinelaw15_Many (gradinelaw15_Many.f k a0) _;unfold gradinelaw15_Many.f;exact go)
end Go.Proofs.YtjocbnjpjihpnaaGreat.A
