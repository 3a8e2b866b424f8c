/- gradinelaw17_TangentLinear comes to what its text says. -/
import Derived.Test.YtjocbnjpjihpnaaGreatAAa
import Derived.Test.YtjocbnjpjihpnaaGreatWWc
import Derived.Test.YtjocbnjpjihpnaaGreatFgradinelaw17TangentLinear
import Derived.Test.YtjocbnjpjihpnaaGreatAAb
namespace Go.Proofs.YtjocbnjpjihpnaaGreat.A
open Go.RowKit Go.Proofs.YtjocbnjpjihpnaaGreat.P Go.Proofs.YtjocbnjpjihpnaaGreatW.PrintWords Go.Proofs.YtjocbnjpjihpnaaGreatW.PrintLast Go.Proofs.YtjocbnjpjihpnaaGreatW.PrintMore Go.Proofs.YtjocbnjpjihpnaaGreatW.Abs
set_option linter.unusedVariables false
set_option linter.unusedSimpArgs false
attribute [local irreducible] gradinelaw17_few.f gradinelaw17_same.f tangent_Of.f gradineplain_Longer.f gr16_Rats.f gr07_Of.f gr07_Add.f gr07_Mul.f rat_Same.f rat_Add.f rat_Mul.f
def s_gradinelaw17_TangentLinear:FSpec:=⟨[(.cons (.row 93 (.cons (.int .i64) (.cons (.int .i64) (.cons (.int .i64) (.cons .bool (.cons (.row 73 (.int .u64)) (.row 73 (.int .u64)))))))) (.cons (.row 45 (.cons .bool (.cons (.row 73 (.int .u64)) (.row 73 (.int .u64))))) (.cons (.row 45 (.cons .bool (.cons (.row 73 (.int .u64)) (.row 73 (.int .u64))))) (.row 45 (.cons .bool (.cons (.row 73 (.int .u64)) (.row 73 (.int .u64)))))))),(.row 45 (.cons .bool (.cons (.row 73 (.int .u64)) (.row 73 (.int .u64))))), .int .i32],[.bool],fun k x=>(gradinelaw17_TangentLinear.f k x.1.1 x.1.2.1 x.1.2.2.1 x.1.2.2.2 x.2.1 x.2.2.1).map fun r=>(r,())⟩
def m_gradinelaw17_TangentLinear (r:Bool):TT s_gradinelaw17_TangentLinear.rs:=(r,())
@[reducible] def q0_gradinelaw17_TangentLinear:List Slot:= []
def g0_gradinelaw17_TangentLinear (k:Nat) (x:TS q0_gradinelaw17_TangentLinear):Option (Bool):=gradinelaw17_TangentLinear.j2 k 
@[reducible] def q1_gradinelaw17_TangentLinear:List Slot:= [.tmp 1 [.ty (.row 45 (.cons .bool (.cons (.row 73 (.int .u64)) (.row 73 (.int .u64)))))], .tmp 3 [.ptr 3 0], .tmp 7 [.ptr 7 0], .tmp 8 [.own .mine 8 45 (.cons .bool (.cons (.row 73 (.int .u64)) (.row 73 (.int .u64))))], .tmp 54 [.ty (.int .i64)], .tmp 55 [.ty (.int .i64)], .blk 3 .mine 25 [.ty (.row 93 (.cons (.int .i64) (.cons (.int .i64) (.cons (.int .i64) (.cons .bool (.cons (.row 73 (.int .u64)) (.row 73 (.int .u64)))))))), .ty (.row 45 (.cons .bool (.cons (.row 73 (.int .u64)) (.row 73 (.int .u64))))), .ty (.row 45 (.cons .bool (.cons (.row 73 (.int .u64)) (.row 73 (.int .u64))))), .ty (.row 45 (.cons .bool (.cons (.row 73 (.int .u64)) (.row 73 (.int .u64)))))], .blk 7 .mine 45 [.ty .bool, .ty (.row 73 (.int .u64)), .ty (.row 73 (.int .u64))]]
def g1_gradinelaw17_TangentLinear (k:Nat) (x:TS q1_gradinelaw17_TangentLinear):Option (Bool):=gradinelaw17_TangentLinear.l0 k x.1.1 x.2.2.2.1.1 x.2.2.2.2.1.1 x.2.2.2.2.2.1.1 x.2.2.2.2.2.2.1.1 x.2.2.2.2.2.2.1.2.1 x.2.2.2.2.2.2.1.2.2.1 x.2.2.2.2.2.2.1.2.2.2.1 x.2.2.2.2.2.2.2.1.1 x.2.2.2.2.2.2.2.1.2.1 x.2.2.2.2.2.2.2.1.2.2.1
@[reducible] def q2_gradinelaw17_TangentLinear:List Slot:= [.tmp 7 [.ptr 7 0], .tmp 11 [.ty (.row 45 (.cons .bool (.cons (.row 73 (.int .u64)) (.row 73 (.int .u64)))))], .tmp 15 [.ty (.row 45 (.cons .bool (.cons (.row 73 (.int .u64)) (.row 73 (.int .u64)))))], .tmp 19 [.ty (.row 45 (.cons .bool (.cons (.row 73 (.int .u64)) (.row 73 (.int .u64)))))], .tmp 148 [.ty (.int .i64)], .tmp 149 [.ty (.int .i64)], .blk 7 .mine 45 [.ty .bool, .ty (.row 73 (.int .u64)), .ty (.row 73 (.int .u64))]]
def g2_gradinelaw17_TangentLinear (k:Nat) (x:TS q2_gradinelaw17_TangentLinear):Option (Bool):=gradinelaw17_TangentLinear.l1 k x.2.1.1 x.2.2.1.1 x.2.2.2.1.1 x.2.2.2.2.1.1 x.2.2.2.2.2.1.1 x.2.2.2.2.2.2.1.1 x.2.2.2.2.2.2.1.2.1 x.2.2.2.2.2.2.1.2.2.1
@[reducible] def q3_gradinelaw17_TangentLinear:List Slot:= []
def g3_gradinelaw17_TangentLinear (k:Nat) (x:TS q3_gradinelaw17_TangentLinear):Option (Bool):=gradinelaw17_TangentLinear.j16 k 
@[reducible] def q4_gradinelaw17_TangentLinear:List Slot:= []
def g4_gradinelaw17_TangentLinear (k:Nat) (x:TS q4_gradinelaw17_TangentLinear):Option (Bool):=gradinelaw17_TangentLinear.j14 k 
def c_gradinelaw17_TangentLinear:Cuts (TT s_gradinelaw17_TangentLinear.rs):=⟨⟨171,172,[]⟩,lookC [(0,⟨q1_gradinelaw17_TangentLinear,fun k x=>(g1_gradinelaw17_TangentLinear k x).map m_gradinelaw17_TangentLinear⟩),(1,⟨q2_gradinelaw17_TangentLinear,fun k x=>(g2_gradinelaw17_TangentLinear k x).map m_gradinelaw17_TangentLinear⟩)],lookC [(2,⟨q0_gradinelaw17_TangentLinear,fun k x=>(g0_gradinelaw17_TangentLinear k x).map m_gradinelaw17_TangentLinear⟩),(16,⟨q3_gradinelaw17_TangentLinear,fun k x=>(g3_gradinelaw17_TangentLinear k x).map m_gradinelaw17_TangentLinear⟩),(14,⟨q4_gradinelaw17_TangentLinear,fun k x=>(g4_gradinelaw17_TangentLinear k x).map m_gradinelaw17_TangentLinear⟩)],lookC []⟩
set_option maxRecDepth 100000 in
set_option maxHeartbeats 4000000 in
theorem o_gradinelaw17_TangentLinear:FOk Tryz.prog 5 s_gradinelaw17_TangentLinear :=
 fn_of (Bt:=blook [(8,[0,0,0,6,14,0,62,0,128,0,896,1920,4094,8190,16383,32767]),(20,[0,0,3,7,0,0,48,112,0,496,1023,0,0,6144,14336,32767,65535])]) (l:= [(12, .pu s_gradinelaw17_few),(13, .pu s_gradinelaw17_same),(14, .pu s_tangent_Of),(17, .pu s_gradineplain_Longer),(19, .pu s_gr16_Rats),(22, .pu s_gr07_Of),(23, .pu s_gr07_Add),(24, .pu s_gr07_Mul),(25, .pu s_rat_Same),(26, .pu s_rat_Add),(27, .pu s_rat_Mul)]) (C:=c_gradinelaw17_TangentLinear) (by kernel_rfl) tab_ok ⟨o_gradinelaw17_few,o_gradinelaw17_same,o_tangent_Of,o_gradineplain_Longer,o_gr16_Rats,o_gr07_Of,o_gr07_Add,o_gr07_Mul,o_rat_Same,o_rat_Add,o_rat_Mul,trivial⟩ (fn:=Tryz.f5) (by kernel_rfl) rfl (by kernel_rfl) (by decide) (by kernel_rfl) (F:=fun k x=>gradinelaw17_TangentLinear.f k x.1.1 x.1.2.1 x.1.2.2.1 x.1.2.2.2 x.2.1 x.2.2.1) (m:=m_gradinelaw17_TangentLinear) (fun k x=>rfl)
  (by
   refine And.intro ?_ ?_
   ·refine ob_join1 (sl:=q0_gradinelaw17_TangentLinear) (F:=g0_gradinelaw17_TangentLinear) (fun x=>rfl) fun k _=> ?_
    show LeT m_gradinelaw17_TangentLinear (gradinelaw17_TangentLinear.j2 (k+1)) _
    rw [gradinelaw17_TangentLinear.j2];exact go
   refine And.intro ?_ ?_
   ·refine ob_loop (sl:=q1_gradinelaw17_TangentLinear) (F:=g1_gradinelaw17_TangentLinear) (fun x=>rfl) fun k ⟨⟨(x1:List (Bool × (List Int) × List Int)),_⟩,_,_,⟨(x8:List (Bool × (List Int) × List Int)),_⟩,⟨(x54:Int),_⟩,⟨(x55:Int),_⟩,⟨(v3_0:List (Int × Int × Int × Bool × (List Int) × List Int)),(v3_1:List (Bool × (List Int) × List Int)),(v3_2:List (Bool × (List Int) × List Int)),(v3_3:List (Bool × (List Int) × List Int)),_⟩,⟨(v7_0:Bool),(v7_1:List Int),(v7_2:List Int),_⟩,_⟩=> ?_
    show LeT m_gradinelaw17_TangentLinear (gradinelaw17_TangentLinear.l0 (k+1) x1 x8 x54 x55 v3_0 v3_1 v3_2 v3_3 v7_0 v7_1 v7_2) _
    rw [gradinelaw17_TangentLinear.l0];exact go
   refine And.intro ?_ ?_
   ·refine ob_join1 (sl:=q4_gradinelaw17_TangentLinear) (F:=g4_gradinelaw17_TangentLinear) (fun x=>rfl) fun k _=> ?_
    show LeT m_gradinelaw17_TangentLinear (gradinelaw17_TangentLinear.j14 (k+1)) _
    rw [gradinelaw17_TangentLinear.j14];exact go
   refine And.intro ?_ ?_
   ·refine ob_join1 (sl:=q3_gradinelaw17_TangentLinear) (F:=g3_gradinelaw17_TangentLinear) (fun x=>rfl) fun k _=> ?_
    show LeT m_gradinelaw17_TangentLinear (gradinelaw17_TangentLinear.j16 (k+1)) _
    rw [gradinelaw17_TangentLinear.j16];exact go
   refine And.intro ?_ ?_
   ·refine ob_loop (sl:=q2_gradinelaw17_TangentLinear) (F:=g2_gradinelaw17_TangentLinear) (fun x=>rfl) fun k ⟨_,⟨(x11:List (Bool × (List Int) × List Int)),_⟩,⟨(x15:List (Bool × (List Int) × List Int)),_⟩,⟨(x19:List (Bool × (List Int) × List Int)),_⟩,⟨(x148:Int),_⟩,⟨(x149:Int),_⟩,⟨(v7_0:Bool),(v7_1:List Int),(v7_2:List Int),_⟩,_⟩=> ?_
    show LeT m_gradinelaw17_TangentLinear (gradinelaw17_TangentLinear.l1 (k+1) x11 x15 x19 x148 x149 v7_0 v7_1 v7_2) _
    rw [gradinelaw17_TangentLinear.l1];exact go
   exact trivial)
  (fun k ⟨(a0:(List (Int × Int × Int × Bool × (List Int) × List Int)) × (List (Bool × (List Int) × List Int)) × (List (Bool × (List Int) × List Int)) × List (Bool × (List Int) × List Int)),(a1:List (Bool × (List Int) × List Int)),(a2:Int),_⟩=>by show LeT m_gradinelaw17_TangentLinear (gradinelaw17_TangentLinear.f k a0.1 a0.2.1 a0.2.2.1 a0.2.2.2 a1 a2) _;unfold gradinelaw17_TangentLinear.f;exact go)
end Go.Proofs.YtjocbnjpjihpnaaGreat.A
