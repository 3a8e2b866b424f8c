/- gradinelaw16_EvalsTrims comes to what its text says. -/
import Derived.Test.YtjocbnjpjihpnaaGreatAAa
import Derived.Test.YtjocbnjpjihpnaaGreatWWc
import Derived.Test.YtjocbnjpjihpnaaGreatFgradinelaw16EvalsTrims
import Derived.Test.YtjocbnjpjihpnaaGreatAAb
namespace Go.Proofs.YtjocbnjpjihpnaaGreat.A
open Go.RowKit Go.Proofs.YtjocbnjpjihpnaaGreat.P Go.Proofs.YtjocbnjpjihpnaaGreatW.PrintWords Go.Proofs.YtjocbnjpjihpnaaGreatW.PrintLast Go.Proofs.YtjocbnjpjihpnaaGreatW.PrintMore Go.Proofs.YtjocbnjpjihpnaaGreatW.Abs
set_option linter.unusedVariables false
set_option linter.unusedSimpArgs false
attribute [local irreducible] gr16_Rats.f gradinelaw16_Few.f gradinelaw16_same.f evals_Exact.f gr15_Right.f line_Trim.f gr07_Same.f
def s_gradinelaw16_EvalsTrims:FSpec:=⟨[(.row 93 (.cons (.int .i64) (.cons (.int .i64) (.cons (.int .i64) (.cons .bool (.cons (.row 73 (.int .u64)) (.row 73 (.int .u64)))))))),(.row 45 (.cons .bool (.cons (.row 73 (.int .u64)) (.row 73 (.int .u64))))),(.row 3 (.int .i64))],[.bool],fun k x=>(gradinelaw16_EvalsTrims.f k x.1 x.2.1 x.2.2.1).map fun r=>(r,())⟩
def m_gradinelaw16_EvalsTrims (r:Bool):TT s_gradinelaw16_EvalsTrims.rs:=(r,())
@[reducible] def q0_gradinelaw16_EvalsTrims:List Slot:= []
def g0_gradinelaw16_EvalsTrims (k:Nat) (x:TS q0_gradinelaw16_EvalsTrims):Option (Bool):=gradinelaw16_EvalsTrims.j2 k 
@[reducible] def q1_gradinelaw16_EvalsTrims:List Slot:= [.tmp 0 [.ty (.row 93 (.cons (.int .i64) (.cons (.int .i64) (.cons (.int .i64) (.cons .bool (.cons (.row 73 (.int .u64)) (.row 73 (.int .u64))))))))], .tmp 2 [.ty (.row 3 (.int .i64))], .tmp 7 [.ty (.row 45 (.cons .bool (.cons (.row 73 (.int .u64)) (.row 73 (.int .u64)))))], .tmp 11 [.ty (.row 3 (.int .i64))], .tmp 12 [.ty (.row 45 (.cons .bool (.cons (.row 73 (.int .u64)) (.row 73 (.int .u64)))))], .tmp 88 [.ty (.int .i64)], .tmp 89 [.ty (.int .i64)]]
def g1_gradinelaw16_EvalsTrims (k:Nat) (x:TS q1_gradinelaw16_EvalsTrims):Option (Bool):=gradinelaw16_EvalsTrims.l0 k x.1.1 x.2.1.1 x.2.2.1.1 x.2.2.2.1.1 x.2.2.2.2.1.1 x.2.2.2.2.2.1.1 x.2.2.2.2.2.2.1.1
@[reducible] def q2_gradinelaw16_EvalsTrims:List Slot:= []
def g2_gradinelaw16_EvalsTrims (k:Nat) (x:TS q2_gradinelaw16_EvalsTrims):Option (Bool):=gradinelaw16_EvalsTrims.j9 k 
def c_gradinelaw16_EvalsTrims:Cuts (TT s_gradinelaw16_EvalsTrims.rs):=⟨⟨140,140,[]⟩,lookC [(0,⟨q1_gradinelaw16_EvalsTrims,fun k x=>(g1_gradinelaw16_EvalsTrims k x).map m_gradinelaw16_EvalsTrims⟩)],lookC [(2,⟨q0_gradinelaw16_EvalsTrims,fun k x=>(g0_gradinelaw16_EvalsTrims k x).map m_gradinelaw16_EvalsTrims⟩),(9,⟨q2_gradinelaw16_EvalsTrims,fun k x=>(g2_gradinelaw16_EvalsTrims k x).map m_gradinelaw16_EvalsTrims⟩)],lookC []⟩
set_option maxRecDepth 100000 in
set_option maxHeartbeats 4000000 in
theorem o_gradinelaw16_EvalsTrims:FOk Tryz.prog 8 s_gradinelaw16_EvalsTrims :=
 fn_of (Bt:=blook [(14,[0,0,3,7,15,31,63,63,255,511,63,1087,4095,8191,16383,32767,32767,32767,229375,491519,1048575,2097151,32767,32767,32767,25198591,58753023,130056191,264273919,536870911,1073741823,2147483647])]) (l:= [(19, .pu s_gr16_Rats),(28, .pu s_gradinelaw16_Few),(29, .pu s_gradinelaw16_same),(30, .pu s_evals_Exact),(35, .pu s_gr15_Right),(36, .pu s_line_Trim),(37, .pu s_gr07_Same)]) (C:=c_gradinelaw16_EvalsTrims) (by kernel_rfl) tab_ok ⟨o_gr16_Rats,o_gradinelaw16_Few,o_gradinelaw16_same,o_evals_Exact,o_gr15_Right,o_line_Trim,o_gr07_Same,trivial⟩ (fn:=Tryz.f8) (by kernel_rfl) rfl (by kernel_rfl) (by decide) (by kernel_rfl) (F:=fun k x=>gradinelaw16_EvalsTrims.f k x.1 x.2.1 x.2.2.1) (m:=m_gradinelaw16_EvalsTrims) (fun k x=>rfl)
  (by
   refine And.intro ?_ ?_
   ·refine ob_join1 (sl:=q0_gradinelaw16_EvalsTrims) (F:=g0_gradinelaw16_EvalsTrims) (fun x=>rfl) fun k _=> ?_
    show LeT m_gradinelaw16_EvalsTrims (gradinelaw16_EvalsTrims.j2 (k+1)) _
    rw [gradinelaw16_EvalsTrims.j2];exact go
   refine And.intro ?_ ?_
   ·refine ob_join1 (sl:=q2_gradinelaw16_EvalsTrims) (F:=g2_gradinelaw16_EvalsTrims) (fun x=>rfl) fun k _=> ?_
    show LeT m_gradinelaw16_EvalsTrims (gradinelaw16_EvalsTrims.j9 (k+1)) _
    rw [gradinelaw16_EvalsTrims.j9];exact go
   refine And.intro ?_ ?_
   ·refine ob_loop (sl:=q1_gradinelaw16_EvalsTrims) (F:=g1_gradinelaw16_EvalsTrims) (fun x=>rfl) fun k ⟨⟨(x0:List (Int × Int × Int × Bool × (List Int) × List Int)),_⟩,⟨(x2:List Int),_⟩,⟨(x7:List (Bool × (List Int) × List Int)),_⟩,⟨(x11:List Int),_⟩,⟨(x12:List (Bool × (List Int) × List Int)),_⟩,⟨(x88:Int),_⟩,⟨(x89:Int),_⟩,_⟩=> ?_
    show LeT m_gradinelaw16_EvalsTrims (gradinelaw16_EvalsTrims.l0 (k+1) x0 x2 x7 x11 x12 x88 x89) _
    rw [gradinelaw16_EvalsTrims.l0];exact go
   exact trivial)
  (fun k ⟨(a0:List (Int × Int × Int × Bool × (List Int) × List Int)),(a1:List (Bool × (List Int) × List Int)),(a2:List Int),_⟩=>by show LeT m_gradinelaw16_EvalsTrims (gradinelaw16_EvalsTrims.f k a0 a1 a2) _;unfold gradinelaw16_EvalsTrims.f;exact go)
end Go.Proofs.YtjocbnjpjihpnaaGreat.A
