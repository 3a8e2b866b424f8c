/- gradinelaw17_TangentAdjoint comes to what its text says. -/
import Derived.Test.YtjocbnjpjihpnaaAAa
import Derived.Test.YtjocbnjpjihpnaaWWc
import Derived.Test.YtjocbnjpjihpnaaFgradinelaw17TangentAdjoint
import Derived.Test.YtjocbnjpjihpnaaAAb
namespace Go.Proofs.Ytjocbnjpjihpnaa.A
open Go.RowKit Go.Proofs.Ytjocbnjpjihpnaa.P Go.Proofs.YtjocbnjpjihpnaaW.PrintWords Go.Proofs.YtjocbnjpjihpnaaW.PrintLast Go.Proofs.YtjocbnjpjihpnaaW.PrintMore Go.Proofs.YtjocbnjpjihpnaaW.Abs
set_option linter.unusedVariables false
set_option linter.unusedSimpArgs false
attribute [local irreducible] gradinelaw17_few.f gradineplain_Longer.f gradinelaw17_same.f tangent_Of.f tangent_Back.f gr07_Of.f rat_Add.f rat_Mul.f rat_Same.f
def s_gradinelaw17_TangentAdjoint:FSpec:=⟨[(.cons (.row 85 (.cons (.int .i64) (.cons (.int .i64) (.cons (.int .i64) (.cons .bool (.cons (.row 22 (.int .u64)) (.row 22 (.int .u64)))))))) (.cons (.row 30 (.cons .bool (.cons (.row 22 (.int .u64)) (.row 22 (.int .u64))))) (.cons (.row 30 (.cons .bool (.cons (.row 22 (.int .u64)) (.row 22 (.int .u64))))) (.row 30 (.cons .bool (.cons (.row 22 (.int .u64)) (.row 22 (.int .u64)))))))),(.row 3 (.int .i64)),(.row 30 (.cons .bool (.cons (.row 22 (.int .u64)) (.row 22 (.int .u64)))))],[.bool],fun k x=>(gradinelaw17_TangentAdjoint.f k x.1.1 x.1.2.1 x.1.2.2.1 x.1.2.2.2 x.2.1 x.2.2.1).map fun r=>(r,())⟩
def m_gradinelaw17_TangentAdjoint (r:Bool):TT s_gradinelaw17_TangentAdjoint.rs:=(r,())
@[reducible] def q0_gradinelaw17_TangentAdjoint:List Slot:= []
def g0_gradinelaw17_TangentAdjoint (k:Nat) (x:TS q0_gradinelaw17_TangentAdjoint):Option (Bool):=gradinelaw17_TangentAdjoint.j2 k 
@[reducible] def q1_gradinelaw17_TangentAdjoint:List Slot:= []
def g1_gradinelaw17_TangentAdjoint (k:Nat) (x:TS q1_gradinelaw17_TangentAdjoint):Option (Bool):=gradinelaw17_TangentAdjoint.j8 k 
@[reducible] def q2_gradinelaw17_TangentAdjoint:List Slot:= [.tmp 1 [.ty (.row 3 (.int .i64))], .tmp 2 [.ty (.row 30 (.cons .bool (.cons (.row 22 (.int .u64)) (.row 22 (.int .u64)))))], .tmp 3 [.ptr 3 0], .tmp 8 [.ty (.row 30 (.cons .bool (.cons (.row 22 (.int .u64)) (.row 22 (.int .u64)))))], .tmp 11 [.ty (.row 30 (.cons .bool (.cons (.row 22 (.int .u64)) (.row 22 (.int .u64)))))], .tmp 14 [.ptr 14 0], .tmp 15 [.ptr 15 0], .tmp 94 [.ty (.int .i64)], .tmp 95 [.ty (.int .i64)], .blk 3 .mine 46 [.ty (.row 85 (.cons (.int .i64) (.cons (.int .i64) (.cons (.int .i64) (.cons .bool (.cons (.row 22 (.int .u64)) (.row 22 (.int .u64)))))))), .ty (.row 30 (.cons .bool (.cons (.row 22 (.int .u64)) (.row 22 (.int .u64))))), .ty (.row 30 (.cons .bool (.cons (.row 22 (.int .u64)) (.row 22 (.int .u64))))), .ty (.row 30 (.cons .bool (.cons (.row 22 (.int .u64)) (.row 22 (.int .u64)))))], .blk 14 .mine 30 [.ty .bool, .ty (.row 22 (.int .u64)), .ty (.row 22 (.int .u64))], .blk 15 .mine 30 [.ty .bool, .ty (.row 22 (.int .u64)), .ty (.row 22 (.int .u64))]]
def g2_gradinelaw17_TangentAdjoint (k:Nat) (x:TS q2_gradinelaw17_TangentAdjoint):Option (Bool):=gradinelaw17_TangentAdjoint.l0 k x.1.1 x.2.1.1 x.2.2.2.1.1 x.2.2.2.2.1.1 x.2.2.2.2.2.2.2.1.1 x.2.2.2.2.2.2.2.2.1.1 x.2.2.2.2.2.2.2.2.2.1.1 x.2.2.2.2.2.2.2.2.2.1.2.1 x.2.2.2.2.2.2.2.2.2.1.2.2.1 x.2.2.2.2.2.2.2.2.2.1.2.2.2.1 x.2.2.2.2.2.2.2.2.2.2.1.1 x.2.2.2.2.2.2.2.2.2.2.1.2.1 x.2.2.2.2.2.2.2.2.2.2.1.2.2.1 x.2.2.2.2.2.2.2.2.2.2.2.1.1 x.2.2.2.2.2.2.2.2.2.2.2.1.2.1 x.2.2.2.2.2.2.2.2.2.2.2.1.2.2.1
@[reducible] def q3_gradinelaw17_TangentAdjoint:List Slot:= []
def g3_gradinelaw17_TangentAdjoint (k:Nat) (x:TS q3_gradinelaw17_TangentAdjoint):Option (Bool):=gradinelaw17_TangentAdjoint.j6 k 
@[reducible] def q4_gradinelaw17_TangentAdjoint:List Slot:= []
def g4_gradinelaw17_TangentAdjoint (k:Nat) (x:TS q4_gradinelaw17_TangentAdjoint):Option (Bool):=gradinelaw17_TangentAdjoint.j14 k 
@[reducible] def q5_gradinelaw17_TangentAdjoint:List Slot:= [.tmp 3 [.ptr 3 0], .tmp 11 [.ty (.row 30 (.cons .bool (.cons (.row 22 (.int .u64)) (.row 22 (.int .u64)))))], .tmp 14 [.ptr 14 0], .tmp 15 [.ptr 15 0], .tmp 128 [.ty (.int .i64)], .tmp 129 [.ty (.int .i64)], .blk 3 .mine 46 [.ty (.row 85 (.cons (.int .i64) (.cons (.int .i64) (.cons (.int .i64) (.cons .bool (.cons (.row 22 (.int .u64)) (.row 22 (.int .u64)))))))), .ty (.row 30 (.cons .bool (.cons (.row 22 (.int .u64)) (.row 22 (.int .u64))))), .ty (.row 30 (.cons .bool (.cons (.row 22 (.int .u64)) (.row 22 (.int .u64))))), .ty (.row 30 (.cons .bool (.cons (.row 22 (.int .u64)) (.row 22 (.int .u64)))))], .blk 14 .mine 30 [.ty .bool, .ty (.row 22 (.int .u64)), .ty (.row 22 (.int .u64))], .blk 15 .mine 30 [.ty .bool, .ty (.row 22 (.int .u64)), .ty (.row 22 (.int .u64))]]
def g5_gradinelaw17_TangentAdjoint (k:Nat) (x:TS q5_gradinelaw17_TangentAdjoint):Option (Bool):=gradinelaw17_TangentAdjoint.l1 k x.2.1.1 x.2.2.2.2.1.1 x.2.2.2.2.2.1.1 x.2.2.2.2.2.2.1.1 x.2.2.2.2.2.2.1.2.1 x.2.2.2.2.2.2.1.2.2.1 x.2.2.2.2.2.2.1.2.2.2.1 x.2.2.2.2.2.2.2.1.1 x.2.2.2.2.2.2.2.1.2.1 x.2.2.2.2.2.2.2.1.2.2.1 x.2.2.2.2.2.2.2.2.1.1 x.2.2.2.2.2.2.2.2.1.2.1 x.2.2.2.2.2.2.2.2.1.2.2.1
def c_gradinelaw17_TangentAdjoint:Cuts (TT s_gradinelaw17_TangentAdjoint.rs):=⟨⟨151,151,[]⟩,lookC [(0,⟨q2_gradinelaw17_TangentAdjoint,fun k x=>(g2_gradinelaw17_TangentAdjoint k x).map m_gradinelaw17_TangentAdjoint⟩),(1,⟨q5_gradinelaw17_TangentAdjoint,fun k x=>(g5_gradinelaw17_TangentAdjoint k x).map m_gradinelaw17_TangentAdjoint⟩)],lookC [(2,⟨q0_gradinelaw17_TangentAdjoint,fun k x=>(g0_gradinelaw17_TangentAdjoint k x).map m_gradinelaw17_TangentAdjoint⟩),(8,⟨q1_gradinelaw17_TangentAdjoint,fun k x=>(g1_gradinelaw17_TangentAdjoint k x).map m_gradinelaw17_TangentAdjoint⟩),(6,⟨q3_gradinelaw17_TangentAdjoint,fun k x=>(g3_gradinelaw17_TangentAdjoint k x).map m_gradinelaw17_TangentAdjoint⟩),(14,⟨q4_gradinelaw17_TangentAdjoint,fun k x=>(g4_gradinelaw17_TangentAdjoint k x).map m_gradinelaw17_TangentAdjoint⟩)],lookC []⟩
set_option maxRecDepth 100000 in
set_option maxHeartbeats 4000000 in
theorem o_gradinelaw17_TangentAdjoint:FOk Try.prog 7 s_gradinelaw17_TangentAdjoint :=
 fn_of (Bt:=blook [(15,[0,0,0,0,12,28,62,126,0,0,768,1792,4094,8191,16383]),(20,[0,0,0,6,14,0,32,0,224,480,1022,2047,4095])]) (l:= [(27, .pu s_gradinelaw17_few),(28, .pu s_gradineplain_Longer),(29, .pu s_gradinelaw17_same),(30, .pu s_tangent_Of),(31, .pu s_tangent_Back),(32, .pu s_gr07_Of),(33, .pu s_rat_Add),(34, .pu s_rat_Mul),(35, .pu s_rat_Same)]) (C:=c_gradinelaw17_TangentAdjoint) (by kernel_rfl) tab_ok ⟨o_gradinelaw17_few,o_gradineplain_Longer,o_gradinelaw17_same,o_tangent_Of,o_tangent_Back,o_gr07_Of,o_rat_Add,o_rat_Mul,o_rat_Same,trivial⟩ (fn:=Try.f7) (by kernel_rfl) rfl (by kernel_rfl) (by decide) (by kernel_rfl) (F:=fun k x=>gradinelaw17_TangentAdjoint.f k x.1.1 x.1.2.1 x.1.2.2.1 x.1.2.2.2 x.2.1 x.2.2.1) (m:=m_gradinelaw17_TangentAdjoint) (fun k x=>rfl)
  (by
   refine And.intro ?_ ?_
   ·refine ob_join1 (sl:=q0_gradinelaw17_TangentAdjoint) (F:=g0_gradinelaw17_TangentAdjoint) (fun x=>rfl) fun k _=> ?_
    show LeT m_gradinelaw17_TangentAdjoint (gradinelaw17_TangentAdjoint.j2 (k+1)) _
    rw [gradinelaw17_TangentAdjoint.j2];exact go
   refine And.intro ?_ ?_
   ·refine ob_join1 (sl:=q3_gradinelaw17_TangentAdjoint) (F:=g3_gradinelaw17_TangentAdjoint) (fun x=>rfl) fun k _=> ?_
    show LeT m_gradinelaw17_TangentAdjoint (gradinelaw17_TangentAdjoint.j6 (k+1)) _
    rw [gradinelaw17_TangentAdjoint.j6];exact go
   refine And.intro ?_ ?_
   ·refine ob_join1 (sl:=q1_gradinelaw17_TangentAdjoint) (F:=g1_gradinelaw17_TangentAdjoint) (fun x=>rfl) fun k _=> ?_
    show LeT m_gradinelaw17_TangentAdjoint (gradinelaw17_TangentAdjoint.j8 (k+1)) _
    rw [gradinelaw17_TangentAdjoint.j8];exact go
   refine And.intro ?_ ?_
   ·refine ob_loop (sl:=q2_gradinelaw17_TangentAdjoint) (F:=g2_gradinelaw17_TangentAdjoint) (fun x=>rfl) fun k ⟨⟨(x1:List Int),_⟩,⟨(x2:List (Bool × (List Int) × List Int)),_⟩,_,⟨(x8:List (Bool × (List Int) × List Int)),_⟩,⟨(x11:List (Bool × (List Int) × List Int)),_⟩,_,_,⟨(x94:Int),_⟩,⟨(x95:Int),_⟩,⟨(v3_0:List (Int × Int × Int × Bool × (List Int) × List Int)),(v3_1:List (Bool × (List Int) × List Int)),(v3_2:List (Bool × (List Int) × List Int)),(v3_3:List (Bool × (List Int) × List Int)),_⟩,⟨(v14_0:Bool),(v14_1:List Int),(v14_2:List Int),_⟩,⟨(v15_0:Bool),(v15_1:List Int),(v15_2:List Int),_⟩,_⟩=> ?_
    show LeT m_gradinelaw17_TangentAdjoint (gradinelaw17_TangentAdjoint.l0 (k+1) x1 x2 x8 x11 x94 x95 v3_0 v3_1 v3_2 v3_3 v14_0 v14_1 v14_2 v15_0 v15_1 v15_2) _
    rw [gradinelaw17_TangentAdjoint.l0];exact go
   refine And.intro ?_ ?_
   ·refine ob_join1 (sl:=q4_gradinelaw17_TangentAdjoint) (F:=g4_gradinelaw17_TangentAdjoint) (fun x=>rfl) fun k _=> ?_
    show LeT m_gradinelaw17_TangentAdjoint (gradinelaw17_TangentAdjoint.j14 (k+1)) _
    rw [gradinelaw17_TangentAdjoint.j14];exact go
   refine And.intro ?_ ?_
   ·refine ob_loop (sl:=q5_gradinelaw17_TangentAdjoint) (F:=g5_gradinelaw17_TangentAdjoint) (fun x=>rfl) fun k ⟨_,⟨(x11:List (Bool × (List Int) × List Int)),_⟩,_,_,⟨(x128:Int),_⟩,⟨(x129:Int),_⟩,⟨(v3_0:List (Int × Int × Int × Bool × (List Int) × List Int)),(v3_1:List (Bool × (List Int) × List Int)),(v3_2:List (Bool × (List Int) × List Int)),(v3_3:List (Bool × (List Int) × List Int)),_⟩,⟨(v14_0:Bool),(v14_1:List Int),(v14_2:List Int),_⟩,⟨(v15_0:Bool),(v15_1:List Int),(v15_2:List Int),_⟩,_⟩=> ?_
    show LeT m_gradinelaw17_TangentAdjoint (gradinelaw17_TangentAdjoint.l1 (k+1) x11 x128 x129 v3_0 v3_1 v3_2 v3_3 v14_0 v14_1 v14_2 v15_0 v15_1 v15_2) _
    rw [gradinelaw17_TangentAdjoint.l1];exact go
   exact trivial)
  (fun k ⟨(a0:(List (Int × Int × Int × Bool × (List Int) × List Int)) × (List (Bool × (List Int) × List Int)) × (List (Bool × (List Int) × List Int)) × List (Bool × (List Int) × List Int)),(a1:List Int),(a2:List (Bool × (List Int) × List Int)),_⟩=>by show LeT m_gradinelaw17_TangentAdjoint (gradinelaw17_TangentAdjoint.f k a0.1 a0.2.1 a0.2.2.1 a0.2.2.2 a1 a2) _;unfold gradinelaw17_TangentAdjoint.f;exact go)
end Go.Proofs.Ytjocbnjpjihpnaa.A
