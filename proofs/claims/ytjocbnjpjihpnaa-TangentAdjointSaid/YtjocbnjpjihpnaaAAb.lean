/- Functions that come to what their texts say. -/
import Derived.Test.YtjocbnjpjihpnaaAAa
import Derived.Test.YtjocbnjpjihpnaaWWc
import Derived.Test.YtjocbnjpjihpnaaBB
import Derived.Test.YtjocbnjpjihpnaaFgradinelaw17three
import Derived.Test.YtjocbnjpjihpnaaFgradinelaw17same
namespace Go.Proofs.Ytjocbnjpjihpnaa.A
open Go.RowKit Go.Proofs.Ytjocbnjpjihpnaa.P Go.Proofs.YtjocbnjpjihpnaaW.PrintWords Go.Proofs.YtjocbnjpjihpnaaW.PrintLast Go.Proofs.YtjocbnjpjihpnaaW.PrintMore Go.Proofs.YtjocbnjpjihpnaaW.Abs
set_option linter.unusedVariables false
set_option linter.unusedSimpArgs false
set_option maxRecDepth 100000
set_option maxHeartbeats 4000000
section
def s_gr04_set:FSpec:=⟨[(.row 22 (.int .u64)), .int .i64],[(.row 22 (.int .u64))],fun k x=>(gr04_set.f k x.1 x.2.1).map fun r=>(r,())⟩
def m_gr04_set (r:List Int):TT s_gr04_set.rs:=(r,())
@[reducible] def q0_gr04_set:List Slot:= [.tmp 0 [.ty (.row 22 (.int .u64))], .tmp 1 [.ty (.int .i64)], .tmp 5 [.own .mine 5 22 (.int .u64)], .tmp 13 [.ty (.int .i64)], .tmp 14 [.ty (.int .i64)]]
def g0_gr04_set (k:Nat) (x:TS q0_gr04_set):Option (List Int):=gr04_set.l0 k x.1.1 x.2.1.1 x.2.2.1.1 x.2.2.2.1.1 x.2.2.2.2.1.1
def c_gr04_set:Cuts (TT s_gr04_set.rs):=⟨⟨41,41,[]⟩,lookC [(0,⟨q0_gr04_set,fun k x=>(g0_gr04_set k x).map m_gr04_set⟩)],lookC [],lookC []⟩
theorem o_gr04_set:FOk Try.prog 171 s_gr04_set :=
 fn_of (Bt:=blook []) (l:= []) (C:=c_gr04_set) (by kernel_rfl) tab_ok trivial (fn:=Try.f171) (by kernel_rfl) rfl (by kernel_rfl) (by decide) (by kernel_rfl) (F:=fun k x=>gr04_set.f k x.1 x.2.1) (m:=m_gr04_set) (fun k x=>rfl)
  (by
   refine And.intro ?_ ?_
   ·refine ob_loop (sl:=q0_gr04_set) (F:=g0_gr04_set) (fun x=>rfl) fun k ⟨⟨(x0:List Int),_⟩,⟨(x1:Int),_⟩,⟨(x5:List Int),_⟩,⟨(x13:Int),_⟩,⟨(x14:Int),_⟩,_⟩=> ?_
    show LeT m_gr04_set (gr04_set.l0 (k+1) x0 x1 x5 x13 x14) _
    rw [gr04_set.l0];exact go
   exact trivial)
  (fun k ⟨(a0:List Int),(a1:Int),_⟩=>by show LeT m_gr04_set (gr04_set.f k a0 a1) _;unfold gr04_set.f;exact go)
end
section
attribute [local irreducible] gr02_Shl.f gr02_Size.f gr02_Cmp.f gr02_Sub.f gr02_Shr.f gr02_Bits.f gr02_Trim.f gr02_Bit.f gr04_set.f
def s_gr04_Div:FSpec:=⟨[(.row 22 (.int .u64)),(.row 22 (.int .u64))],[(.row 22 (.int .u64)),(.row 22 (.int .u64))],fun k x=>(gr04_Div.f k x.1 x.2.1).map fun r=>(r.1,r.2,())⟩
def m_gr04_Div (r:List Int × List Int):TT s_gr04_Div.rs:=(r.1,r.2,())
@[reducible] def q0_gr04_Div:List Slot:= [.tmp 0 [.ty (.row 22 (.int .u64))], .tmp 1 [.ty (.row 22 (.int .u64))], .tmp 6 [.ty (.row 22 (.int .u64))], .tmp 18 [.ty .bool]]
def g0_gr04_Div (k:Nat) (x:TS q0_gr04_Div):Option (List Int × List Int):=gr04_Div.j0 k x.1.1 x.2.1.1 x.2.2.1.1 x.2.2.2.1.1
@[reducible] def q1_gr04_Div:List Slot:= [.tmp 0 [.ty (.row 22 (.int .u64))], .tmp 1 [.ty (.row 22 (.int .u64))], .tmp 6 [.ty (.row 22 (.int .u64))], .tmp 7 [.ty (.row 22 (.int .u64))], .tmp 10 [.ty (.int .i64)]]
def g1_gr04_Div (k:Nat) (x:TS q1_gr04_Div):Option (List Int × List Int):=gr04_Div.l0 k x.1.1 x.2.1.1 x.2.2.1.1 x.2.2.2.1.1 x.2.2.2.2.1.1
@[reducible] def q2_gr04_Div:List Slot:= [.tmp 0 [.ty (.row 22 (.int .u64))], .tmp 1 [.ty (.row 22 (.int .u64))], .tmp 6 [.ty (.row 22 (.int .u64))], .tmp 7 [.ty (.row 22 (.int .u64))], .tmp 10 [.ty (.int .i64)]]
def g2_gr04_Div (k:Nat) (x:TS q2_gr04_Div):Option (List Int × List Int):=gr04_Div.j2 k x.1.1 x.2.1.1 x.2.2.1.1 x.2.2.2.1.1 x.2.2.2.2.1.1
def c_gr04_Div:Cuts (TT s_gr04_Div.rs):=⟨⟨75,75,[]⟩,lookC [(0,⟨q1_gr04_Div,fun k x=>(g1_gr04_Div k x).map m_gr04_Div⟩)],lookC [(13,⟨q2_gr04_Div,fun k x=>(g2_gr04_Div k x).map m_gr04_Div⟩)],lookC [(2,⟨q0_gr04_Div,fun k x=>(g0_gr04_Div k x).map m_gr04_Div⟩)]⟩
theorem o_gr04_Div:FOk Try.prog 140 s_gr04_Div :=
 fn_of (Bt:=blook [(3,[0,1,3,0,8,24,63,127,255,0,512,1536,0,4096,12288,32256,65024,131071,262143,524287])]) (l:= [(73, .pu s_gr02_Shl),(76, .pu s_gr02_Size),(81, .pu s_gr02_Cmp),(82, .pu s_gr02_Sub),(115, .pu s_gr02_Shr),(116, .pu s_gr02_Bits),(137, .pu s_gr02_Trim),(162, .pu s_gr02_Bit),(171, .pu s_gr04_set)]) (C:=c_gr04_Div) (by kernel_rfl) tab_ok ⟨o_gr02_Shl,o_gr02_Size,o_gr02_Cmp,o_gr02_Sub,o_gr02_Shr,o_gr02_Bits,o_gr02_Trim,o_gr02_Bit,o_gr04_set,trivial⟩ (fn:=Try.f140) (by kernel_rfl) rfl (by kernel_rfl) (by decide) (by kernel_rfl) (F:=fun k x=>gr04_Div.f k x.1 x.2.1) (m:=m_gr04_Div) (fun k x=>rfl)
  (by
   refine And.intro ?_ ?_
   ·refine ob_join1 (sl:=q0_gr04_Div) (F:=g0_gr04_Div) (fun x=>rfl) fun k ⟨⟨(x0:List Int),_⟩,⟨(x1:List Int),_⟩,⟨(x6:List Int),_⟩,⟨(x18:Bool),_⟩,_⟩=> ?_
    show LeT m_gr04_Div (gr04_Div.j0 (k+1) x0 x1 x6 x18) _
    rw [gr04_Div.j0];exact go
   refine And.intro ?_ ?_
   ·refine ob_loop (sl:=q1_gr04_Div) (F:=g1_gr04_Div) (fun x=>rfl) fun k ⟨⟨(x0:List Int),_⟩,⟨(x1:List Int),_⟩,⟨(x6:List Int),_⟩,⟨(x7:List Int),_⟩,⟨(x10:Int),_⟩,_⟩=> ?_
    show LeT m_gr04_Div (gr04_Div.l0 (k+1) x0 x1 x6 x7 x10) _
    rw [gr04_Div.l0];exact go
   refine And.intro ?_ ?_
   ·refine ob_join1 (sl:=q2_gr04_Div) (F:=g2_gr04_Div) (fun x=>rfl) fun k ⟨⟨(x0:List Int),_⟩,⟨(x1:List Int),_⟩,⟨(x6:List Int),_⟩,⟨(x7:List Int),_⟩,⟨(x10:Int),_⟩,_⟩=> ?_
    show LeT m_gr04_Div (gr04_Div.j2 (k+1) x0 x1 x6 x7 x10) _
    rw [gr04_Div.j2];exact go
   exact trivial)
  (fun k ⟨(a0:List Int),(a1:List Int),_⟩=>by show LeT m_gr04_Div (gr04_Div.f k a0 a1) _;unfold gr04_Div.f;exact go)
end
section
attribute [local irreducible] gr02_Size.f gr02_Cmp.f gr02_Trim.f gr04_Div.f
def s_gr05_Part:FSpec:=⟨[(.row 22 (.int .u64)),(.row 22 (.int .u64))],[(.row 22 (.int .u64))],fun k x=>(gr05_Part.f k x.1 x.2.1).map fun r=>(r,())⟩
def m_gr05_Part (r:List Int):TT s_gr05_Part.rs:=(r,())
theorem o_gr05_Part:FOk Try.prog 78 s_gr05_Part :=
 fn_of (Bt:=blook []) (l:= [(76, .pu s_gr02_Size),(81, .pu s_gr02_Cmp),(137, .pu s_gr02_Trim),(140, .pu s_gr04_Div)]) (C:=noCuts) (by kernel_rfl) tab_ok ⟨o_gr02_Size,o_gr02_Cmp,o_gr02_Trim,o_gr04_Div,trivial⟩ (fn:=Try.f78) (by kernel_rfl) rfl (by kernel_rfl) (by decide) (by kernel_rfl) (F:=fun k x=>gr05_Part.f k x.1 x.2.1) (m:=m_gr05_Part) (fun k x=>rfl)
  (by exact trivial)
  (fun k ⟨(a0:List Int),(a1:List Int),_⟩=>by show LeT m_gr05_Part (gr05_Part.f k a0 a1) _;unfold gr05_Part.f;exact go)
end
section
attribute [local irreducible] gr02_Size.f gr05_Gcd.f gr05_Part.f
def s_gr07_Make:FSpec:=⟨[.bool,(.row 22 (.int .u64)),(.row 22 (.int .u64))],[(.cons .bool (.cons (.row 22 (.int .u64)) (.row 22 (.int .u64))))],fun k x=>(gr07_Make.f k x.1 x.2.1 x.2.2.1).map fun r=>((r.1,r.2.1,r.2.2),())⟩
def m_gr07_Make (r:Bool × List Int × List Int):TT s_gr07_Make.rs:=((r.1,r.2.1,r.2.2),())
theorem o_gr07_Make:FOk Try.prog 22 s_gr07_Make :=
 fn_of (Bt:=blook []) (l:= [(76, .pu s_gr02_Size),(77, .pu s_gr05_Gcd),(78, .pu s_gr05_Part)]) (C:=noCuts) (by kernel_rfl) tab_ok ⟨o_gr02_Size,o_gr05_Gcd,o_gr05_Part,trivial⟩ (fn:=Try.f22) (by kernel_rfl) rfl (by kernel_rfl) (by decide) (by kernel_rfl) (F:=fun k x=>gr07_Make.f k x.1 x.2.1 x.2.2.1) (m:=m_gr07_Make) (fun k x=>rfl)
  (by exact trivial)
  (fun k ⟨(a0:Bool),(a1:List Int),(a2:List Int),_⟩=>by show LeT m_gr07_Make (gr07_Make.f k a0 a1 a2) _;unfold gr07_Make.f;exact go)
end
section
attribute [local irreducible] gr07_Make.f
def s_gr07_Of:FSpec:=⟨[.int .i64],[(.cons .bool (.cons (.row 22 (.int .u64)) (.row 22 (.int .u64))))],fun k x=>(gr07_Of.f k x.1).map fun r=>((r.1,r.2.1,r.2.2),())⟩
def m_gr07_Of (r:Bool × List Int × List Int):TT s_gr07_Of.rs:=((r.1,r.2.1,r.2.2),())
theorem o_gr07_Of:FOk Try.prog 32 s_gr07_Of :=
 fn_of (Bt:=blook []) (l:= [(22, .pu s_gr07_Make)]) (C:=noCuts) (by kernel_rfl) tab_ok ⟨o_gr07_Make,trivial⟩ (fn:=Try.f32) (by kernel_rfl) rfl (by kernel_rfl) (by decide) (by kernel_rfl) (F:=fun k x=>gr07_Of.f k x.1) (m:=m_gr07_Of) (fun k x=>rfl)
  (by exact trivial)
  (fun k ⟨(a0:Int),_⟩=>by show LeT m_gr07_Of (gr07_Of.f k a0) _;unfold gr07_Of.f;exact go)
end
section
def s_gradinelaw17_three:FSpec:=⟨[],[(.cons .bool (.cons (.row 22 (.int .u64)) (.row 22 (.int .u64))))],fun _ _=>(gradinelaw17_three.f).map fun r=>((r.1,r.2.1,r.2.2),())⟩
def m_gradinelaw17_three (r:Bool × List Int × List Int):TT s_gradinelaw17_three.rs:=((r.1,r.2.1,r.2.2),())
theorem o_gradinelaw17_three:FOk Try.prog 88 s_gradinelaw17_three :=
 fn_of (Bt:=blook []) (l:= []) (C:=noCuts) (by kernel_rfl) tab_ok trivial (fn:=Try.f88) (by kernel_rfl) rfl (by kernel_rfl) (by decide) (by kernel_rfl) (F:=fun k x=>gradinelaw17_three.f) (m:=m_gradinelaw17_three) (fun k x=>rfl)
  (by exact trivial)
  (fun k x=>by show LeT m_gradinelaw17_three (gradinelaw17_three.f) _;unfold gradinelaw17_three.f;exact go)
end
section
attribute [local irreducible] gr07_Same.f tangent_Of.f tangent_Back.f gr07_Of.f gradinelaw17_three.f
def s_gradinelaw17_same:FSpec:=⟨[],[.bool],fun k _=>(gradinelaw17_same.f k).map fun r=>(r,())⟩
def m_gradinelaw17_same (r:Bool):TT s_gradinelaw17_same.rs:=(r,())
theorem o_gradinelaw17_same:FOk Try.prog 29 s_gradinelaw17_same :=
 fn_of (Bt:=blook [(4,[0,1,3,7,15,31,63,127,255,511,1023,2047,4095,8191,16383,4095,65535,131071,262143,524287,1048575,2097151,4194303,8388607,16777215,33554431,67108863,16777215,268435455,536870911,1073741823])]) (l:= [(25, .pu s_gr07_Same),(30, .pu s_tangent_Of),(31, .pu s_tangent_Back),(32, .pu s_gr07_Of),(88, .pu s_gradinelaw17_three)]) (C:=noCuts) (by kernel_rfl) tab_ok ⟨o_gr07_Same,o_tangent_Of,o_tangent_Back,o_gr07_Of,o_gradinelaw17_three,trivial⟩ (fn:=Try.f29) (by kernel_rfl) rfl (by kernel_rfl) (by decide) (by kernel_rfl) (F:=fun k x=>gradinelaw17_same.f k) (m:=m_gradinelaw17_same) (fun k x=>rfl)
  (by exact trivial)
  (fun k x=>by show LeT m_gradinelaw17_same (gradinelaw17_same.f k) _;unfold gradinelaw17_same.f;exact go)
end
section
def s_rat_Same:FSpec:=⟨[(.cons .bool (.cons (.row 22 (.int .u64)) (.row 22 (.int .u64)))),(.cons .bool (.cons (.row 22 (.int .u64)) (.row 22 (.int .u64))))],[.bool],fun k x=>(rat_Same.f k x.1.1 x.1.2.1 x.1.2.2 x.2.1.1 x.2.1.2.1 x.2.1.2.2).map fun r=>(r,())⟩
def m_rat_Same (r:Bool):TT s_rat_Same.rs:=(r,())
@[reducible] def q0_rat_Same:List Slot:= [.tmp 31 [.ty .bool], .tmp 2 [.ptr 2 0], .blk 2 .mine 30 [.ty .bool, .ty (.row 22 (.int .u64)), .ty (.row 22 (.int .u64))], .tmp 3 [.ptr 3 0], .blk 3 .mine 30 [.ty .bool, .ty (.row 22 (.int .u64)), .ty (.row 22 (.int .u64))]]
def g0_rat_Same (k:Nat) (x:TS q0_rat_Same):Option (Bool):=rat_Same.j0 k x.1.1 x.2.2.1.1 x.2.2.1.2.1 x.2.2.1.2.2.1 x.2.2.2.2.1.1 x.2.2.2.2.1.2.1 x.2.2.2.2.1.2.2.1
@[reducible] def q1_rat_Same:List Slot:= [.tmp 33 [.ty (.row 22 (.int .u64))], .tmp 34 [.ty (.int .i64)], .tmp 35 [.ty (.int .i64)], .tmp 2 [.ptr 2 0], .blk 2 .mine 30 [.ty .bool, .ty (.row 22 (.int .u64)), .ty (.row 22 (.int .u64))], .tmp 3 [.ptr 3 0], .blk 3 .mine 30 [.ty .bool, .ty (.row 22 (.int .u64)), .ty (.row 22 (.int .u64))]]
def g1_rat_Same (k:Nat) (x:TS q1_rat_Same):Option (Bool):=rat_Same.l0 k x.1.1 x.2.1.1 x.2.2.1.1 x.2.2.2.2.1.1 x.2.2.2.2.1.2.1 x.2.2.2.2.1.2.2.1 x.2.2.2.2.2.2.1.1 x.2.2.2.2.2.2.1.2.1 x.2.2.2.2.2.2.1.2.2.1
@[reducible] def q2_rat_Same:List Slot:= [.tmp 49 [.ty (.row 22 (.int .u64))], .tmp 50 [.ty (.int .i64)], .tmp 51 [.ty (.int .i64)], .tmp 3 [.ptr 3 0], .blk 3 .mine 30 [.ty .bool, .ty (.row 22 (.int .u64)), .ty (.row 22 (.int .u64))]]
def g2_rat_Same (k:Nat) (x:TS q2_rat_Same):Option (Bool):=rat_Same.l1 k x.1.1 x.2.1.1 x.2.2.1.1 x.2.2.2.2.1.1 x.2.2.2.2.1.2.1 x.2.2.2.2.1.2.2.1
def c_rat_Same:Cuts (TT s_rat_Same.rs):=⟨⟨64,64,[]⟩,lookC [(0,⟨q1_rat_Same,fun k x=>(g1_rat_Same k x).map m_rat_Same⟩),(1,⟨q2_rat_Same,fun k x=>(g2_rat_Same k x).map m_rat_Same⟩)],lookC [],lookC [(1,⟨q0_rat_Same,fun k x=>(g0_rat_Same k x).map m_rat_Same⟩)]⟩
theorem o_rat_Same:FOk Try.prog 35 s_rat_Same :=
 fn_of (Bt:=blook []) (l:= []) (C:=c_rat_Same) (by kernel_rfl) tab_ok trivial (fn:=Try.f35) (by kernel_rfl) rfl (by kernel_rfl) (by decide) (by kernel_rfl) (F:=fun k x=>rat_Same.f k x.1.1 x.1.2.1 x.1.2.2 x.2.1.1 x.2.1.2.1 x.2.1.2.2) (m:=m_rat_Same) (fun k x=>rfl)
  (by
   refine And.intro ?_ ?_
   ·refine ob_join1 (sl:=q0_rat_Same) (F:=g0_rat_Same) (fun x=>rfl) fun k ⟨⟨(x31:Bool),_⟩,_,⟨(x854000:Bool),(x854001:List Int),(x854002:List Int),_⟩,_,⟨(x855000:Bool),(x855001:List Int),(x855002:List Int),_⟩,_⟩=> ?_
    show LeT m_rat_Same (rat_Same.j0 (k+1) x31 x854000 x854001 x854002 x855000 x855001 x855002) _
    rw [rat_Same.j0];exact go
   refine And.intro ?_ ?_
   ·refine ob_loop (sl:=q1_rat_Same) (F:=g1_rat_Same) (fun x=>rfl) fun k ⟨⟨(x33:List Int),_⟩,⟨(x34:Int),_⟩,⟨(x35:Int),_⟩,_,⟨(x854000:Bool),(x854001:List Int),(x854002:List Int),_⟩,_,⟨(x855000:Bool),(x855001:List Int),(x855002:List Int),_⟩,_⟩=> ?_
    show LeT m_rat_Same (rat_Same.l0 (k+1) x33 x34 x35 x854000 x854001 x854002 x855000 x855001 x855002) _
    rw [rat_Same.l0];exact go
   refine And.intro ?_ ?_
   ·refine ob_loop (sl:=q2_rat_Same) (F:=g2_rat_Same) (fun x=>rfl) fun k ⟨⟨(x49:List Int),_⟩,⟨(x50:Int),_⟩,⟨(x51:Int),_⟩,_,⟨(x855000:Bool),(x855001:List Int),(x855002:List Int),_⟩,_⟩=> ?_
    show LeT m_rat_Same (rat_Same.l1 (k+1) x49 x50 x51 x855000 x855001 x855002) _
    rw [rat_Same.l1];exact go
   exact trivial)
  (fun k ⟨(a0:Bool × (List Int) × List Int),(a1:Bool × (List Int) × List Int),_⟩=>by show LeT m_rat_Same (rat_Same.f k a0.1 a0.2.1 a0.2.2 a1.1 a1.2.1 a1.2.2) _;unfold rat_Same.f;exact go)
end
end Go.Proofs.Ytjocbnjpjihpnaa.A
