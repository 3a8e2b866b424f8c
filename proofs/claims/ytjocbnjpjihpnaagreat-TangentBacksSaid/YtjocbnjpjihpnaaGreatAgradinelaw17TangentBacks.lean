/- gradinelaw17_TangentBacks comes to what its text says. -/
import Derived.Test.YtjocbnjpjihpnaaGreatAAa
import Derived.Test.YtjocbnjpjihpnaaGreatWWc
import Derived.Test.YtjocbnjpjihpnaaGreatFgradinelaw17TangentBacks
import Derived.Test.YtjocbnjpjihpnaaGreatAAb
namespace Go.Proofs.YtjocbnjpjihpnaaGreat.A
open Go.RowKit Go.Proofs.YtjocbnjpjihpnaaGreat.P Go.Proofs.YtjocbnjpjihpnaaGreatW.PrintWords Go.Proofs.YtjocbnjpjihpnaaGreatW.PrintLast Go.Proofs.YtjocbnjpjihpnaaGreatW.PrintMore Go.Proofs.YtjocbnjpjihpnaaGreatW.Abs
set_option linter.unusedVariables false
set_option linter.unusedSimpArgs false
attribute [local irreducible] gradinelaw17_few.f gradinelaw17_same.f gradineref16_Same.f gradineplain_Longer.f tangent_Back.f gradineref16_Rats.f gradineref16_Exact.f gradineref17_Back.f
def s_gradinelaw17_TangentBacks:FSpec:=⟨[(.cons (.row 93 (.cons (.int .i64) (.cons (.int .i64) (.cons (.int .i64) (.cons .bool (.cons (.row 73 (.int .u64)) (.row 73 (.int .u64)))))))) (.cons (.row 45 (.cons .bool (.cons (.row 73 (.int .u64)) (.row 73 (.int .u64))))) (.cons (.row 45 (.cons .bool (.cons (.row 73 (.int .u64)) (.row 73 (.int .u64))))) (.row 45 (.cons .bool (.cons (.row 73 (.int .u64)) (.row 73 (.int .u64)))))))),(.row 3 (.int .i64)),(.row 45 (.cons .bool (.cons (.row 73 (.int .u64)) (.row 73 (.int .u64)))))],[.bool],fun k x=>(gradinelaw17_TangentBacks.f k x.1.1 x.1.2.1 x.1.2.2.1 x.1.2.2.2 x.2.1 x.2.2.1).map fun r=>(r,())⟩
def m_gradinelaw17_TangentBacks (r:Bool):TT s_gradinelaw17_TangentBacks.rs:=(r,())
@[reducible] def q0_gradinelaw17_TangentBacks:List Slot:= []
def g0_gradinelaw17_TangentBacks (k:Nat) (x:TS q0_gradinelaw17_TangentBacks):Option (Bool):=gradinelaw17_TangentBacks.j2 k 
@[reducible] def q1_gradinelaw17_TangentBacks:List Slot:= [.tmp 7 [.ty (.row 45 (.cons .bool (.cons (.row 73 (.int .u64)) (.row 73 (.int .u64)))))], .tmp 8 [.ty (.int .i64)], .tmp 9 [.ty (.int .i64)]]
def g1_gradinelaw17_TangentBacks (k:Nat) (x:TS q1_gradinelaw17_TangentBacks):Option (Bool):=gradinelaw17_TangentBacks.j5 k x.1.1 x.2.1.1 x.2.2.1.1
def c_gradinelaw17_TangentBacks:Cuts (TT s_gradinelaw17_TangentBacks.rs):=⟨⟨124,124,[]⟩,lookC [],lookC [(2,⟨q0_gradinelaw17_TangentBacks,fun k x=>(g0_gradinelaw17_TangentBacks k x).map m_gradinelaw17_TangentBacks⟩),(5,⟨q1_gradinelaw17_TangentBacks,fun k x=>(g1_gradinelaw17_TangentBacks k x).map m_gradinelaw17_TangentBacks⟩)],lookC []⟩
set_option maxRecDepth 100000 in
set_option maxHeartbeats 4000000 in
theorem o_gradinelaw17_TangentBacks:FOk Tryz.prog 4 s_gradinelaw17_TangentBacks :=
 fn_of (Bt:=blook []) (l:= [(12, .pu s_gradinelaw17_few),(13, .pu s_gradinelaw17_same),(16, .pu s_gradineref16_Same),(17, .pu s_gradineplain_Longer),(18, .pu s_tangent_Back),(19, .pu s_gradineref16_Rats),(20, .pu s_gradineref16_Exact),(21, .pu s_gradineref17_Back)]) (C:=c_gradinelaw17_TangentBacks) (by kernel_rfl) tab_ok ⟨o_gradinelaw17_few,o_gradinelaw17_same,o_gradineref16_Same,o_gradineplain_Longer,o_tangent_Back,o_gradineref16_Rats,o_gradineref16_Exact,o_gradineref17_Back,trivial⟩ (fn:=Tryz.f4) (by kernel_rfl) rfl (by kernel_rfl) (by decide) (by kernel_rfl) (F:=fun k x=>gradinelaw17_TangentBacks.f k x.1.1 x.1.2.1 x.1.2.2.1 x.1.2.2.2 x.2.1 x.2.2.1) (m:=m_gradinelaw17_TangentBacks) (fun k x=>rfl)
  (by
   refine And.intro ?_ ?_
   ·refine ob_join1 (sl:=q0_gradinelaw17_TangentBacks) (F:=g0_gradinelaw17_TangentBacks) (fun x=>rfl) fun k _=> ?_
    show LeT m_gradinelaw17_TangentBacks (gradinelaw17_TangentBacks.j2 (k+1)) _
    rw [gradinelaw17_TangentBacks.j2];exact go
   refine And.intro ?_ ?_
   ·refine ob_join1 (sl:=q1_gradinelaw17_TangentBacks) (F:=g1_gradinelaw17_TangentBacks) (fun x=>rfl) fun k ⟨⟨(x7:List (Bool × (List Int) × List Int)),_⟩,⟨(x8:Int),_⟩,⟨(x9:Int),_⟩,_⟩=> ?_
    show LeT m_gradinelaw17_TangentBacks (gradinelaw17_TangentBacks.j5 (k+1) x7 x8 x9) _
    rw [gradinelaw17_TangentBacks.j5];exact go
   exact trivial)
  (fun k ⟨(a0:(List (Int × Int × Int × Bool × (List Int) × List Int)) × (List (Bool × (List Int) × List Int)) × (List (Bool × (List Int) × List Int)) × List (Bool × (List Int) × List Int)),(a1:List Int),(a2:List (Bool × (List Int) × List Int)),_⟩=>by show LeT m_gradinelaw17_TangentBacks (gradinelaw17_TangentBacks.f k a0.1 a0.2.1 a0.2.2.1 a0.2.2.2 a1 a2) _;unfold gradinelaw17_TangentBacks.f;exact go)
end Go.Proofs.YtjocbnjpjihpnaaGreat.A
