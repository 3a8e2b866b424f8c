/- Functions that come to what their texts say. -/
import Derived.Test.YtjocbnjpjihpnaaGreatAAa
import Derived.Test.YtjocbnjpjihpnaaGreatWWc
import Derived.Test.YtjocbnjpjihpnaaGreatBB
import Derived.Test.YtjocbnjpjihpnaaGreatFgradinelaw17three
import Derived.Test.YtjocbnjpjihpnaaGreatFgradinelaw17same
namespace Go.Proofs.YtjocbnjpjihpnaaGreat.A
open Go.RowKit Go.Proofs.YtjocbnjpjihpnaaGreat.P Go.Proofs.YtjocbnjpjihpnaaGreatW.PrintWords Go.Proofs.YtjocbnjpjihpnaaGreatW.PrintLast Go.Proofs.YtjocbnjpjihpnaaGreatW.PrintMore Go.Proofs.YtjocbnjpjihpnaaGreatW.Abs
set_option linter.unusedVariables false
set_option linter.unusedSimpArgs false
set_option maxRecDepth 100000
set_option maxHeartbeats 4000000
section
def s_gr01_Len:FSpec:=⟨[.int .u64],[.int .i64],fun k x=>(gr01_Len.f k x.1).map fun r=>(r,())⟩
def m_gr01_Len (r:Int):TT s_gr01_Len.rs:=(r,())
@[reducible] def q0_gr01_Len:List Slot:= [.tmp 0 [.ty (.int .u64)], .tmp 3 [.ty (.int .i64)]]
def g0_gr01_Len (k:Nat) (x:TS q0_gr01_Len):Option (Int):=gr01_Len.l0 k x.1.1 x.2.1.1
def c_gr01_Len:Cuts (TT s_gr01_Len.rs):=⟨⟨11,11,[]⟩,lookC [(0,⟨q0_gr01_Len,fun k x=>(g0_gr01_Len k x).map m_gr01_Len⟩)],lookC [],lookC []⟩
theorem o_gr01_Len:FOk Tryz.prog 191 s_gr01_Len :=
 fn_of (Bt:=blook []) (l:= []) (C:=c_gr01_Len) (by kernel_rfl) tab_ok trivial (fn:=Tryz.f191) (by kernel_rfl) rfl (by kernel_rfl) (by decide) (by kernel_rfl) (F:=fun k x=>gr01_Len.f k x.1) (m:=m_gr01_Len) (fun k x=>rfl)
  (by
   refine And.intro ?_ ?_
   ·refine ob_loop (sl:=q0_gr01_Len) (F:=g0_gr01_Len) (fun x=>rfl) fun k ⟨⟨(x0:Int),_⟩,⟨(x3:Int),_⟩,_⟩=> ?_
    show LeT m_gr01_Len (gr01_Len.l0 (k+1) x0 x3) _
    rw [gr01_Len.l0];exact go
   exact trivial)
  (fun k ⟨(a0:Int),_⟩=>by show LeT m_gr01_Len (gr01_Len.f k a0) _;unfold gr01_Len.f;exact go)
end
section
attribute [local irreducible] gr02_Size.f gr01_Len.f
def s_gr02_Bits:FSpec:=⟨[(.row 73 (.int .u64))],[.int .i64],fun k x=>(gr02_Bits.f k x.1).map fun r=>(r,())⟩
def m_gr02_Bits (r:Int):TT s_gr02_Bits.rs:=(r,())
theorem o_gr02_Bits:FOk Tryz.prog 124 s_gr02_Bits :=
 fn_of (Bt:=blook []) (l:= [(126, .pu s_gr02_Size),(191, .pu s_gr01_Len)]) (C:=noCuts) (by kernel_rfl) tab_ok ⟨o_gr02_Size,o_gr01_Len,trivial⟩ (fn:=Tryz.f124) (by kernel_rfl) rfl (by kernel_rfl) (by decide) (by kernel_rfl) (F:=fun k x=>gr02_Bits.f k x.1) (m:=m_gr02_Bits) (fun k x=>rfl)
  (by exact trivial)
  (fun k ⟨(a0:List Int),_⟩=>by show LeT m_gr02_Bits (gr02_Bits.f k a0) _;unfold gr02_Bits.f;exact go)
end
section
def s_gr04_set:FSpec:=⟨[(.row 73 (.int .u64)), .int .i64],[(.row 73 (.int .u64))],fun k x=>(gr04_set.f k x.1 x.2.1).map fun r=>(r,())⟩
def m_gr04_set (r:List Int):TT s_gr04_set.rs:=(r,())
@[reducible] def q0_gr04_set:List Slot:= [.tmp 0 [.ty (.row 73 (.int .u64))], .tmp 1 [.ty (.int .i64)], .tmp 5 [.own .mine 5 73 (.int .u64)], .tmp 13 [.ty (.int .i64)], .tmp 14 [.ty (.int .i64)]]
def g0_gr04_set (k:Nat) (x:TS q0_gr04_set):Option (List Int):=gr04_set.l0 k x.1.1 x.2.1.1 x.2.2.1.1 x.2.2.2.1.1 x.2.2.2.2.1.1
def c_gr04_set:Cuts (TT s_gr04_set.rs):=⟨⟨41,41,[]⟩,lookC [(0,⟨q0_gr04_set,fun k x=>(g0_gr04_set k x).map m_gr04_set⟩)],lookC [],lookC []⟩
theorem o_gr04_set:FOk Tryz.prog 228 s_gr04_set :=
 fn_of (Bt:=blook []) (l:= []) (C:=c_gr04_set) (by kernel_rfl) tab_ok trivial (fn:=Tryz.f228) (by kernel_rfl) rfl (by kernel_rfl) (by decide) (by kernel_rfl) (F:=fun k x=>gr04_set.f k x.1 x.2.1) (m:=m_gr04_set) (fun k x=>rfl)
  (by
   refine And.intro ?_ ?_
   ·refine ob_loop (sl:=q0_gr04_set) (F:=g0_gr04_set) (fun x=>rfl) fun k ⟨⟨(x0:List Int),_⟩,⟨(x1:Int),_⟩,⟨(x5:List Int),_⟩,⟨(x13:Int),_⟩,⟨(x14:Int),_⟩,_⟩=> ?_
    show LeT m_gr04_set (gr04_set.l0 (k+1) x0 x1 x5 x13 x14) _
    rw [gr04_set.l0];exact go
   exact trivial)
  (fun k ⟨(a0:List Int),(a1:Int),_⟩=>by show LeT m_gr04_set (gr04_set.f k a0 a1) _;unfold gr04_set.f;exact go)
end
section
attribute [local irreducible] gr02_Cmp.f gr02_Sub.f gr02_Bits.f gr02_Size.f gr02_Shl.f gr02_Trim.f gr02_Shr.f gr02_Bit.f gr04_set.f
def s_gr04_Div:FSpec:=⟨[(.row 73 (.int .u64)),(.row 73 (.int .u64))],[(.row 73 (.int .u64)),(.row 73 (.int .u64))],fun k x=>(gr04_Div.f k x.1 x.2.1).map fun r=>(r.1,r.2,())⟩
def m_gr04_Div (r:List Int × List Int):TT s_gr04_Div.rs:=(r.1,r.2,())
@[reducible] def q0_gr04_Div:List Slot:= [.tmp 0 [.ty (.row 73 (.int .u64))], .tmp 1 [.ty (.row 73 (.int .u64))], .tmp 6 [.ty (.row 73 (.int .u64))], .tmp 18 [.ty .bool]]
def g0_gr04_Div (k:Nat) (x:TS q0_gr04_Div):Option (List Int × List Int):=gr04_Div.j0 k x.1.1 x.2.1.1 x.2.2.1.1 x.2.2.2.1.1
@[reducible] def q1_gr04_Div:List Slot:= [.tmp 0 [.ty (.row 73 (.int .u64))], .tmp 1 [.ty (.row 73 (.int .u64))], .tmp 6 [.ty (.row 73 (.int .u64))], .tmp 7 [.ty (.row 73 (.int .u64))], .tmp 10 [.ty (.int .i64)]]
def g1_gr04_Div (k:Nat) (x:TS q1_gr04_Div):Option (List Int × List Int):=gr04_Div.l0 k x.1.1 x.2.1.1 x.2.2.1.1 x.2.2.2.1.1 x.2.2.2.2.1.1
@[reducible] def q2_gr04_Div:List Slot:= [.tmp 0 [.ty (.row 73 (.int .u64))], .tmp 1 [.ty (.row 73 (.int .u64))], .tmp 6 [.ty (.row 73 (.int .u64))], .tmp 7 [.ty (.row 73 (.int .u64))], .tmp 10 [.ty (.int .i64)]]
def g2_gr04_Div (k:Nat) (x:TS q2_gr04_Div):Option (List Int × List Int):=gr04_Div.j2 k x.1.1 x.2.1.1 x.2.2.1.1 x.2.2.2.1.1 x.2.2.2.2.1.1
def c_gr04_Div:Cuts (TT s_gr04_Div.rs):=⟨⟨75,75,[]⟩,lookC [(0,⟨q1_gr04_Div,fun k x=>(g1_gr04_Div k x).map m_gr04_Div⟩)],lookC [(13,⟨q2_gr04_Div,fun k x=>(g2_gr04_Div k x).map m_gr04_Div⟩)],lookC [(2,⟨q0_gr04_Div,fun k x=>(g0_gr04_Div k x).map m_gr04_Div⟩)]⟩
theorem o_gr04_Div:FOk Tryz.prog 156 s_gr04_Div :=
 fn_of (Bt:=blook [(3,[0,1,3,0,8,24,63,127,255,0,512,1536,0,4096,12288,32256,65024,131071,262143,524287])]) (l:= [(75, .pu s_gr02_Cmp),(76, .pu s_gr02_Sub),(124, .pu s_gr02_Bits),(126, .pu s_gr02_Size),(157, .pu s_gr02_Shl),(188, .pu s_gr02_Trim),(190, .pu s_gr02_Shr),(227, .pu s_gr02_Bit),(228, .pu s_gr04_set)]) (C:=c_gr04_Div) (by kernel_rfl) tab_ok ⟨o_gr02_Cmp,o_gr02_Sub,o_gr02_Bits,o_gr02_Size,o_gr02_Shl,o_gr02_Trim,o_gr02_Shr,o_gr02_Bit,o_gr04_set,trivial⟩ (fn:=Tryz.f156) (by kernel_rfl) rfl (by kernel_rfl) (by decide) (by kernel_rfl) (F:=fun k x=>gr04_Div.f k x.1 x.2.1) (m:=m_gr04_Div) (fun k x=>rfl)
  (by
   refine And.intro ?_ ?_
   ·refine ob_join1 (sl:=q0_gr04_Div) (F:=g0_gr04_Div) (fun x=>rfl) fun k ⟨⟨(x0:List Int),_⟩,⟨(x1:List Int),_⟩,⟨(x6:List Int),_⟩,⟨(x18:Bool),_⟩,_⟩=> ?_
    show LeT m_gr04_Div (gr04_Div.j0 (k+1) x0 x1 x6 x18) _
    rw [gr04_Div.j0];exact go
   refine And.intro ?_ ?_
   ·refine ob_loop (sl:=q1_gr04_Div) (F:=g1_gr04_Div) (fun x=>rfl) fun k ⟨⟨(x0:List Int),_⟩,⟨(x1:List Int),_⟩,⟨(x6:List Int),_⟩,⟨(x7:List Int),_⟩,⟨(x10:Int),_⟩,_⟩=> ?_
    show LeT m_gr04_Div (gr04_Div.l0 (k+1) x0 x1 x6 x7 x10) _
    rw [gr04_Div.l0];exact go
   refine And.intro ?_ ?_
   ·refine ob_join1 (sl:=q2_gr04_Div) (F:=g2_gr04_Div) (fun x=>rfl) fun k ⟨⟨(x0:List Int),_⟩,⟨(x1:List Int),_⟩,⟨(x6:List Int),_⟩,⟨(x7:List Int),_⟩,⟨(x10:Int),_⟩,_⟩=> ?_
    show LeT m_gr04_Div (gr04_Div.j2 (k+1) x0 x1 x6 x7 x10) _
    rw [gr04_Div.j2];exact go
   exact trivial)
  (fun k ⟨(a0:List Int),(a1:List Int),_⟩=>by show LeT m_gr04_Div (gr04_Div.f k a0 a1) _;unfold gr04_Div.f;exact go)
end
section
attribute [local irreducible] gr02_Cmp.f gr02_Size.f gr04_Div.f gr02_Trim.f
def s_gr05_Part:FSpec:=⟨[(.row 73 (.int .u64)),(.row 73 (.int .u64))],[(.row 73 (.int .u64))],fun k x=>(gr05_Part.f k x.1 x.2.1).map fun r=>(r,())⟩
def m_gr05_Part (r:List Int):TT s_gr05_Part.rs:=(r,())
theorem o_gr05_Part:FOk Tryz.prog 127 s_gr05_Part :=
 fn_of (Bt:=blook []) (l:= [(75, .pu s_gr02_Cmp),(126, .pu s_gr02_Size),(156, .pu s_gr04_Div),(188, .pu s_gr02_Trim)]) (C:=noCuts) (by kernel_rfl) tab_ok ⟨o_gr02_Cmp,o_gr02_Size,o_gr04_Div,o_gr02_Trim,trivial⟩ (fn:=Tryz.f127) (by kernel_rfl) rfl (by kernel_rfl) (by decide) (by kernel_rfl) (F:=fun k x=>gr05_Part.f k x.1 x.2.1) (m:=m_gr05_Part) (fun k x=>rfl)
  (by exact trivial)
  (fun k ⟨(a0:List Int),(a1:List Int),_⟩=>by show LeT m_gr05_Part (gr05_Part.f k a0 a1) _;unfold gr05_Part.f;exact go)
end
section
attribute [local irreducible] gr05_Gcd.f gr02_Size.f gr05_Part.f
def s_gr07_Make:FSpec:=⟨[.bool,(.row 73 (.int .u64)),(.row 73 (.int .u64))],[(.cons .bool (.cons (.row 73 (.int .u64)) (.row 73 (.int .u64))))],fun k x=>(gr07_Make.f k x.1 x.2.1 x.2.2.1).map fun r=>((r.1,r.2.1,r.2.2),())⟩
def m_gr07_Make (r:Bool × List Int × List Int):TT s_gr07_Make.rs:=((r.1,r.2.1,r.2.2),())
theorem o_gr07_Make:FOk Tryz.prog 72 s_gr07_Make :=
 fn_of (Bt:=blook []) (l:= [(120, .pu s_gr05_Gcd),(126, .pu s_gr02_Size),(127, .pu s_gr05_Part)]) (C:=noCuts) (by kernel_rfl) tab_ok ⟨o_gr05_Gcd,o_gr02_Size,o_gr05_Part,trivial⟩ (fn:=Tryz.f72) (by kernel_rfl) rfl (by kernel_rfl) (by decide) (by kernel_rfl) (F:=fun k x=>gr07_Make.f k x.1 x.2.1 x.2.2.1) (m:=m_gr07_Make) (fun k x=>rfl)
  (by exact trivial)
  (fun k ⟨(a0:Bool),(a1:List Int),(a2:List Int),_⟩=>by show LeT m_gr07_Make (gr07_Make.f k a0 a1 a2) _;unfold gr07_Make.f;exact go)
end
section
attribute [local irreducible] gr07_Make.f
def s_gr07_Of:FSpec:=⟨[.int .i64],[(.cons .bool (.cons (.row 73 (.int .u64)) (.row 73 (.int .u64))))],fun k x=>(gr07_Of.f k x.1).map fun r=>((r.1,r.2.1,r.2.2),())⟩
def m_gr07_Of (r:Bool × List Int × List Int):TT s_gr07_Of.rs:=((r.1,r.2.1,r.2.2),())
theorem o_gr07_Of:FOk Tryz.prog 22 s_gr07_Of :=
 fn_of (Bt:=blook []) (l:= [(72, .pu s_gr07_Make)]) (C:=noCuts) (by kernel_rfl) tab_ok ⟨o_gr07_Make,trivial⟩ (fn:=Tryz.f22) (by kernel_rfl) rfl (by kernel_rfl) (by decide) (by kernel_rfl) (F:=fun k x=>gr07_Of.f k x.1) (m:=m_gr07_Of) (fun k x=>rfl)
  (by exact trivial)
  (fun k ⟨(a0:Int),_⟩=>by show LeT m_gr07_Of (gr07_Of.f k a0) _;unfold gr07_Of.f;exact go)
end
section
def s_gr07_Words:FSpec:=⟨[(.row 73 (.int .u64)),(.row 73 (.int .u64))],[.bool],fun k x=>(gr07_Words.f k x.1 x.2.1).map fun r=>(r,())⟩
def m_gr07_Words (r:Bool):TT s_gr07_Words.rs:=(r,())
@[reducible] def q0_gr07_Words:List Slot:= [.tmp 0 [.ty (.row 73 (.int .u64))], .tmp 1 [.ty (.row 73 (.int .u64))], .tmp 12 [.ty (.int .i64)], .tmp 13 [.ty (.int .i64)]]
def g0_gr07_Words (k:Nat) (x:TS q0_gr07_Words):Option (Bool):=gr07_Words.l0 k x.1.1 x.2.1.1 x.2.2.1.1 x.2.2.2.1.1
def c_gr07_Words:Cuts (TT s_gr07_Words.rs):=⟨⟨26,26,[]⟩,lookC [(0,⟨q0_gr07_Words,fun k x=>(g0_gr07_Words k x).map m_gr07_Words⟩)],lookC [],lookC []⟩
theorem o_gr07_Words:FOk Tryz.prog 95 s_gr07_Words :=
 fn_of (Bt:=blook [(6,[0,0,3,7,0,0,48,112,255])]) (l:= []) (C:=c_gr07_Words) (by kernel_rfl) tab_ok trivial (fn:=Tryz.f95) (by kernel_rfl) rfl (by kernel_rfl) (by decide) (by kernel_rfl) (F:=fun k x=>gr07_Words.f k x.1 x.2.1) (m:=m_gr07_Words) (fun k x=>rfl)
  (by
   refine And.intro ?_ ?_
   ·refine ob_loop (sl:=q0_gr07_Words) (F:=g0_gr07_Words) (fun x=>rfl) fun k ⟨⟨(x0:List Int),_⟩,⟨(x1:List Int),_⟩,⟨(x12:Int),_⟩,⟨(x13:Int),_⟩,_⟩=> ?_
    show LeT m_gr07_Words (gr07_Words.l0 (k+1) x0 x1 x12 x13) _
    rw [gr07_Words.l0];exact go
   exact trivial)
  (fun k ⟨(a0:List Int),(a1:List Int),_⟩=>by show LeT m_gr07_Words (gr07_Words.f k a0 a1) _;unfold gr07_Words.f;exact go)
end
section
attribute [local irreducible] gr07_Words.f
def s_gr07_Same:FSpec:=⟨[(.cons .bool (.cons (.row 73 (.int .u64)) (.row 73 (.int .u64)))),(.cons .bool (.cons (.row 73 (.int .u64)) (.row 73 (.int .u64))))],[.bool],fun k x=>(gr07_Same.f k x.1.1 x.1.2.1 x.1.2.2 x.2.1.1 x.2.1.2.1 x.2.1.2.2).map fun r=>(r,())⟩
def m_gr07_Same (r:Bool):TT s_gr07_Same.rs:=(r,())
theorem o_gr07_Same:FOk Tryz.prog 37 s_gr07_Same :=
 fn_of (Bt:=blook []) (l:= [(95, .pu s_gr07_Words)]) (C:=noCuts) (by kernel_rfl) tab_ok ⟨o_gr07_Words,trivial⟩ (fn:=Tryz.f37) (by kernel_rfl) rfl (by kernel_rfl) (by decide) (by kernel_rfl) (F:=fun k x=>gr07_Same.f k x.1.1 x.1.2.1 x.1.2.2 x.2.1.1 x.2.1.2.1 x.2.1.2.2) (m:=m_gr07_Same) (fun k x=>rfl)
  (by exact trivial)
  (fun k ⟨(a0:Bool × List Int × List Int),(a1:Bool × List Int × List Int),_⟩=>by show LeT m_gr07_Same (gr07_Same.f k a0.1 a0.2.1 a0.2.2 a1.1 a1.2.1 a1.2.2) _;unfold gr07_Same.f;exact go)
end
section
def s_gradinelaw17_three:FSpec:=⟨[],[(.cons .bool (.cons (.row 73 (.int .u64)) (.row 73 (.int .u64))))],fun _ _=>(gradinelaw17_three.f).map fun r=>((r.1,r.2.1,r.2.2),())⟩
def m_gradinelaw17_three (r:Bool × List Int × List Int):TT s_gradinelaw17_three.rs:=((r.1,r.2.1,r.2.2),())
theorem o_gradinelaw17_three:FOk Tryz.prog 55 s_gradinelaw17_three :=
 fn_of (Bt:=blook []) (l:= []) (C:=noCuts) (by kernel_rfl) tab_ok trivial (fn:=Tryz.f55) (by kernel_rfl) rfl (by kernel_rfl) (by decide) (by kernel_rfl) (F:=fun k x=>gradinelaw17_three.f) (m:=m_gradinelaw17_three) (fun k x=>rfl)
  (by exact trivial)
  (fun k x=>by show LeT m_gradinelaw17_three (gradinelaw17_three.f) _;unfold gradinelaw17_three.f;exact go)
end
section
attribute [local irreducible] tangent_Of.f tangent_Back.f gr07_Of.f gr07_Same.f gradinelaw17_three.f
def s_gradinelaw17_same:FSpec:=⟨[],[.bool],fun k _=>(gradinelaw17_same.f k).map fun r=>(r,())⟩
def m_gradinelaw17_same (r:Bool):TT s_gradinelaw17_same.rs:=(r,())
theorem o_gradinelaw17_same:FOk Tryz.prog 13 s_gradinelaw17_same :=
 fn_of (Bt:=blook [(4,[0,1,3,7,15,31,63,127,255,511,1023,2047,4095,8191,16383,4095,65535,131071,262143,524287,1048575,2097151,4194303,8388607,16777215,33554431,67108863,16777215,268435455,536870911,1073741823])]) (l:= [(14, .pu s_tangent_Of),(18, .pu s_tangent_Back),(22, .pu s_gr07_Of),(37, .pu s_gr07_Same),(55, .pu s_gradinelaw17_three)]) (C:=noCuts) (by kernel_rfl) tab_ok ⟨o_tangent_Of,o_tangent_Back,o_gr07_Of,o_gr07_Same,o_gradinelaw17_three,trivial⟩ (fn:=Tryz.f13) (by kernel_rfl) rfl (by kernel_rfl) (by decide) (by kernel_rfl) (F:=fun k x=>gradinelaw17_same.f k) (m:=m_gradinelaw17_same) (fun k x=>rfl)
  (by exact trivial)
  (fun k x=>by show LeT m_gradinelaw17_same (gradinelaw17_same.f k) _;unfold gradinelaw17_same.f;exact go)
end
section
attribute [local irreducible] gr02_Size.f
def s_gr02_Right:FSpec:=⟨[(.row 73 (.int .u64))],[.bool],fun k x=>(gr02_Right.f k x.1).map fun r=>(r,())⟩
def m_gr02_Right (r:Bool):TT s_gr02_Right.rs:=(r,())
theorem o_gr02_Right:FOk Tryz.prog 119 s_gr02_Right :=
 fn_of (Bt:=blook []) (l:= [(126, .pu s_gr02_Size)]) (C:=noCuts) (by kernel_rfl) tab_ok ⟨o_gr02_Size,trivial⟩ (fn:=Tryz.f119) (by kernel_rfl) rfl (by kernel_rfl) (by decide) (by kernel_rfl) (F:=fun k x=>gr02_Right.f k x.1) (m:=m_gr02_Right) (fun k x=>rfl)
  (by exact trivial)
  (fun k ⟨(a0:List Int),_⟩=>by show LeT m_gr02_Right (gr02_Right.f k a0) _;unfold gr02_Right.f;exact go)
end
section
attribute [local irreducible] gr02_Cmp.f gr02_Right.f gr05_Gcd.f
def s_gr07_Right:FSpec:=⟨[(.cons .bool (.cons (.row 73 (.int .u64)) (.row 73 (.int .u64))))],[.bool],fun k x=>(gr07_Right.f k x.1.1 x.1.2.1 x.1.2.2).map fun r=>(r,())⟩
def m_gr07_Right (r:Bool):TT s_gr07_Right.rs:=(r,())
theorem o_gr07_Right:FOk Tryz.prog 65 s_gr07_Right :=
 fn_of (Bt:=blook []) (l:= [(75, .pu s_gr02_Cmp),(119, .pu s_gr02_Right),(120, .pu s_gr05_Gcd)]) (C:=noCuts) (by kernel_rfl) tab_ok ⟨o_gr02_Cmp,o_gr02_Right,o_gr05_Gcd,trivial⟩ (fn:=Tryz.f65) (by kernel_rfl) rfl (by kernel_rfl) (by decide) (by kernel_rfl) (F:=fun k x=>gr07_Right.f k x.1.1 x.1.2.1 x.1.2.2) (m:=m_gr07_Right) (fun k x=>rfl)
  (by exact trivial)
  (fun k ⟨(a0:Bool × List Int × List Int),_⟩=>by show LeT m_gr07_Right (gr07_Right.f k a0.1 a0.2.1 a0.2.2) _;unfold gr07_Right.f;unfold gr07_Right.j0;exact goq)
end
section
attribute [local irreducible] gr07_Right.f
def s_gr16_Rats:FSpec:=⟨[(.row 45 (.cons .bool (.cons (.row 73 (.int .u64)) (.row 73 (.int .u64)))))],[.bool],fun k x=>(gr16_Rats.f k x.1).map fun r=>(r,())⟩
def m_gr16_Rats (r:Bool):TT s_gr16_Rats.rs:=(r,())
@[reducible] def q0_gr16_Rats:List Slot:= [.tmp 0 [.ty (.row 45 (.cons .bool (.cons (.row 73 (.int .u64)) (.row 73 (.int .u64)))))], .tmp 5 [.ty (.int .i64)], .tmp 6 [.ty (.int .i64)]]
def g0_gr16_Rats (k:Nat) (x:TS q0_gr16_Rats):Option (Bool):=gr16_Rats.l0 k x.1.1 x.2.1.1 x.2.2.1.1
def c_gr16_Rats:Cuts (TT s_gr16_Rats.rs):=⟨⟨16,16,[]⟩,lookC [(0,⟨q0_gr16_Rats,fun k x=>(g0_gr16_Rats k x).map m_gr16_Rats⟩)],lookC [],lookC []⟩
theorem o_gr16_Rats:FOk Tryz.prog 19 s_gr16_Rats :=
 fn_of (Bt:=blook []) (l:= [(65, .pu s_gr07_Right)]) (C:=c_gr16_Rats) (by kernel_rfl) tab_ok ⟨o_gr07_Right,trivial⟩ (fn:=Tryz.f19) (by kernel_rfl) rfl (by kernel_rfl) (by decide) (by kernel_rfl) (F:=fun k x=>gr16_Rats.f k x.1) (m:=m_gr16_Rats) (fun k x=>rfl)
  (by
   refine And.intro ?_ ?_
   ·refine ob_loop (sl:=q0_gr16_Rats) (F:=g0_gr16_Rats) (fun x=>rfl) fun k ⟨⟨(x0:List (Bool × (List Int) × List Int)),_⟩,⟨(x5:Int),_⟩,⟨(x6:Int),_⟩,_⟩=> ?_
    show LeT m_gr16_Rats (gr16_Rats.l0 (k+1) x0 x5 x6) _
    rw [gr16_Rats.l0];exact go
   exact trivial)
  (fun k ⟨(a0:List (Bool × (List Int) × List Int)),_⟩=>by show LeT m_gr16_Rats (gr16_Rats.f k a0) _;unfold gr16_Rats.f;exact go)
end
section
attribute [local irreducible] gr02_Halves.f gr02_Whole.f
def s_gr03_Mul:FSpec:=⟨[(.row 73 (.int .u64)),(.row 73 (.int .u64))],[(.row 73 (.int .u64))],fun k x=>(gr03_Mul.f k x.1 x.2.1).map fun r=>(r,())⟩
def m_gr03_Mul (r:List Int):TT s_gr03_Mul.rs:=(r,())
@[reducible] def q0_gr03_Mul:List Slot:= [.tmp 5 [.ty (.row 73 (.int .u64))], .tmp 6 [.ty (.row 73 (.int .u64))], .tmp 7 [.own .mine 7 73 (.int .u64)], .tmp 23 [.ty (.int .i64)], .tmp 24 [.ty (.int .i64)]]
def g0_gr03_Mul (k:Nat) (x:TS q0_gr03_Mul):Option (List Int):=gr03_Mul.l0 k x.1.1 x.2.1.1 x.2.2.1.1 x.2.2.2.1.1 x.2.2.2.2.1.1
@[reducible] def q1_gr03_Mul:List Slot:= [.tmp 5 [.ty (.row 73 (.int .u64))], .tmp 6 [.ty (.row 73 (.int .u64))], .tmp 7 [.own .mine 7 73 (.int .u64)], .tmp 8 [.ty (.int .i64)], .tmp 9 [.ty (.int .u64)], .tmp 23 [.ty (.int .i64)], .tmp 24 [.ty (.int .i64)], .tmp 28 [.ty (.int .i64)], .tmp 29 [.ty (.int .i64)]]
def g1_gr03_Mul (k:Nat) (x:TS q1_gr03_Mul):Option (List Int):=gr03_Mul.l1 k x.1.1 x.2.1.1 x.2.2.1.1 x.2.2.2.1.1 x.2.2.2.2.1.1 x.2.2.2.2.2.1.1 x.2.2.2.2.2.2.1.1 x.2.2.2.2.2.2.2.1.1 x.2.2.2.2.2.2.2.2.1.1
def c_gr03_Mul:Cuts (TT s_gr03_Mul.rs):=⟨⟨70,70,[]⟩,lookC [(0,⟨q0_gr03_Mul,fun k x=>(g0_gr03_Mul k x).map m_gr03_Mul⟩),(1,⟨q1_gr03_Mul,fun k x=>(g1_gr03_Mul k x).map m_gr03_Mul⟩)],lookC [],lookC []⟩
theorem o_gr03_Mul:FOk Tryz.prog 73 s_gr03_Mul :=
 fn_of (Bt:=blook [(10,[0,0,0,6,14,0,0,96,224,510,1023,0,0,0,12288,30720,63488,131071,262143])]) (l:= [(128, .pu s_gr02_Halves),(129, .pu s_gr02_Whole)]) (C:=c_gr03_Mul) (by kernel_rfl) tab_ok ⟨o_gr02_Halves,o_gr02_Whole,trivial⟩ (fn:=Tryz.f73) (by kernel_rfl) rfl (by kernel_rfl) (by decide) (by kernel_rfl) (F:=fun k x=>gr03_Mul.f k x.1 x.2.1) (m:=m_gr03_Mul) (fun k x=>rfl)
  (by
   refine And.intro ?_ ?_
   ·refine ob_loop (sl:=q0_gr03_Mul) (F:=g0_gr03_Mul) (fun x=>rfl) fun k ⟨⟨(x5:List Int),_⟩,⟨(x6:List Int),_⟩,⟨(x7:List Int),_⟩,⟨(x23:Int),_⟩,⟨(x24:Int),_⟩,_⟩=> ?_
    show LeT m_gr03_Mul (gr03_Mul.l0 (k+1) x5 x6 x7 x23 x24) _
    rw [gr03_Mul.l0];exact go
   refine And.intro ?_ ?_
   ·refine ob_loop (sl:=q1_gr03_Mul) (F:=g1_gr03_Mul) (fun x=>rfl) fun k ⟨⟨(x5:List Int),_⟩,⟨(x6:List Int),_⟩,⟨(x7:List Int),_⟩,⟨(x8:Int),_⟩,⟨(x9:Int),_⟩,⟨(x23:Int),_⟩,⟨(x24:Int),_⟩,⟨(x28:Int),_⟩,⟨(x29:Int),_⟩,_⟩=> ?_
    show LeT m_gr03_Mul (gr03_Mul.l1 (k+1) x5 x6 x7 x8 x9 x23 x24 x28 x29) _
    rw [gr03_Mul.l1];exact go
   exact trivial)
  (fun k ⟨(a0:List Int),(a1:List Int),_⟩=>by show LeT m_gr03_Mul (gr03_Mul.f k a0 a1) _;unfold gr03_Mul.f;exact go)
end
section
attribute [local irreducible] gr02_Halves.f gr02_Whole.f gr02_at.f
def s_gr02_Add:FSpec:=⟨[(.row 73 (.int .u64)),(.row 73 (.int .u64))],[(.row 73 (.int .u64))],fun k x=>(gr02_Add.f k x.1 x.2.1).map fun r=>(r,())⟩
def m_gr02_Add (r:List Int):TT s_gr02_Add.rs:=(r,())
@[reducible] def q0_gr02_Add:List Slot:= [.tmp 5 [.ty (.row 73 (.int .u64))], .tmp 6 [.ty (.row 73 (.int .u64))], .tmp 7 [.own .mine 7 73 (.int .u64)], .tmp 8 [.ty (.int .u64)], .tmp 19 [.ty (.int .i64)], .tmp 20 [.ty (.int .i64)]]
def g0_gr02_Add (k:Nat) (x:TS q0_gr02_Add):Option (List Int):=gr02_Add.l0 k x.1.1 x.2.1.1 x.2.2.1.1 x.2.2.2.1.1 x.2.2.2.2.1.1 x.2.2.2.2.2.1.1
def c_gr02_Add:Cuts (TT s_gr02_Add.rs):=⟨⟨42,42,[]⟩,lookC [(0,⟨q0_gr02_Add,fun k x=>(g0_gr02_Add k x).map m_gr02_Add⟩)],lookC [],lookC []⟩
theorem o_gr02_Add:FOk Tryz.prog 74 s_gr02_Add :=
 fn_of (Bt:=blook []) (l:= [(128, .pu s_gr02_Halves),(129, .pu s_gr02_Whole),(130, .pu s_gr02_at)]) (C:=c_gr02_Add) (by kernel_rfl) tab_ok ⟨o_gr02_Halves,o_gr02_Whole,o_gr02_at,trivial⟩ (fn:=Tryz.f74) (by kernel_rfl) rfl (by kernel_rfl) (by decide) (by kernel_rfl) (F:=fun k x=>gr02_Add.f k x.1 x.2.1) (m:=m_gr02_Add) (fun k x=>rfl)
  (by
   refine And.intro ?_ ?_
   ·refine ob_loop (sl:=q0_gr02_Add) (F:=g0_gr02_Add) (fun x=>rfl) fun k ⟨⟨(x5:List Int),_⟩,⟨(x6:List Int),_⟩,⟨(x7:List Int),_⟩,⟨(x8:Int),_⟩,⟨(x19:Int),_⟩,⟨(x20:Int),_⟩,_⟩=> ?_
    show LeT m_gr02_Add (gr02_Add.l0 (k+1) x5 x6 x7 x8 x19 x20) _
    rw [gr02_Add.l0];exact go
   exact trivial)
  (fun k ⟨(a0:List Int),(a1:List Int),_⟩=>by show LeT m_gr02_Add (gr02_Add.f k a0 a1) _;unfold gr02_Add.f;exact go)
end
section
attribute [local irreducible] gr07_Make.f gr03_Mul.f gr02_Add.f gr02_Cmp.f gr02_Sub.f
def s_gr07_Add:FSpec:=⟨[(.cons .bool (.cons (.row 73 (.int .u64)) (.row 73 (.int .u64)))),(.cons .bool (.cons (.row 73 (.int .u64)) (.row 73 (.int .u64))))],[(.cons .bool (.cons (.row 73 (.int .u64)) (.row 73 (.int .u64))))],fun k x=>(gr07_Add.f k x.1.1 x.1.2.1 x.1.2.2 x.2.1.1 x.2.1.2.1 x.2.1.2.2).map fun r=>((r.1,r.2.1,r.2.2),())⟩
def m_gr07_Add (r:Bool × List Int × List Int):TT s_gr07_Add.rs:=((r.1,r.2.1,r.2.2),())
theorem o_gr07_Add:FOk Tryz.prog 23 s_gr07_Add :=
 fn_of (Bt:=blook [(5,[0,1,0,0,12,0,63,127]),(7,[0,1,0,0,12,0,63,127]),(8,[0,1,0,0,12,0,63,127])]) (l:= [(72, .pu s_gr07_Make),(73, .pu s_gr03_Mul),(74, .pu s_gr02_Add),(75, .pu s_gr02_Cmp),(76, .pu s_gr02_Sub)]) (C:=noCuts) (by kernel_rfl) tab_ok ⟨o_gr07_Make,o_gr03_Mul,o_gr02_Add,o_gr02_Cmp,o_gr02_Sub,trivial⟩ (fn:=Tryz.f23) (by kernel_rfl) rfl (by kernel_rfl) (by decide) (by kernel_rfl) (F:=fun k x=>gr07_Add.f k x.1.1 x.1.2.1 x.1.2.2 x.2.1.1 x.2.1.2.1 x.2.1.2.2) (m:=m_gr07_Add) (fun k x=>rfl)
  (by exact trivial)
  (fun k ⟨(a0:Bool × List Int × List Int),(a1:Bool × List Int × List Int),_⟩=>by show LeT m_gr07_Add (gr07_Add.f k a0.1 a0.2.1 a0.2.2 a1.1 a1.2.1 a1.2.2) _;unfold gr07_Add.f;exact go)
end
section
attribute [local irreducible] gr07_Make.f gr03_Mul.f
def s_gr07_Mul:FSpec:=⟨[(.cons .bool (.cons (.row 73 (.int .u64)) (.row 73 (.int .u64)))),(.cons .bool (.cons (.row 73 (.int .u64)) (.row 73 (.int .u64))))],[(.cons .bool (.cons (.row 73 (.int .u64)) (.row 73 (.int .u64))))],fun k x=>(gr07_Mul.f k x.1.1 x.1.2.1 x.1.2.2 x.2.1.1 x.2.1.2.1 x.2.1.2.2).map fun r=>((r.1,r.2.1,r.2.2),())⟩
def m_gr07_Mul (r:Bool × List Int × List Int):TT s_gr07_Mul.rs:=((r.1,r.2.1,r.2.2),())
theorem o_gr07_Mul:FOk Tryz.prog 24 s_gr07_Mul :=
 fn_of (Bt:=blook [(1,[0,1,0,4,15,0,32,0,128,480,0,1024,0,4096,16352,32767,65535])]) (l:= [(72, .pu s_gr07_Make),(73, .pu s_gr03_Mul)]) (C:=noCuts) (by kernel_rfl) tab_ok ⟨o_gr07_Make,o_gr03_Mul,trivial⟩ (fn:=Tryz.f24) (by kernel_rfl) rfl (by kernel_rfl) (by decide) (by kernel_rfl) (F:=fun k x=>gr07_Mul.f k x.1.1 x.1.2.1 x.1.2.2 x.2.1.1 x.2.1.2.1 x.2.1.2.2) (m:=m_gr07_Mul) (fun k x=>rfl)
  (by exact trivial)
  (fun k ⟨(a0:Bool × List Int × List Int),(a1:Bool × List Int × List Int),_⟩=>by show LeT m_gr07_Mul (gr07_Mul.f k a0.1 a0.2.1 a0.2.2 a1.1 a1.2.1 a1.2.2) _;unfold gr07_Mul.f;exact go)
end
section
def s_rat_Same:FSpec:=⟨[(.cons .bool (.cons (.row 73 (.int .u64)) (.row 73 (.int .u64)))),(.cons .bool (.cons (.row 73 (.int .u64)) (.row 73 (.int .u64))))],[.bool],fun k x=>(rat_Same.f k x.1.1 x.1.2.1 x.1.2.2 x.2.1.1 x.2.1.2.1 x.2.1.2.2).map fun r=>(r,())⟩
def m_rat_Same (r:Bool):TT s_rat_Same.rs:=(r,())
@[reducible] def q0_rat_Same:List Slot:= [.tmp 31 [.ty .bool], .tmp 2 [.ptr 2 0], .blk 2 .mine 45 [.ty .bool, .ty (.row 73 (.int .u64)), .ty (.row 73 (.int .u64))], .tmp 3 [.ptr 3 0], .blk 3 .mine 45 [.ty .bool, .ty (.row 73 (.int .u64)), .ty (.row 73 (.int .u64))]]
def g0_rat_Same (k:Nat) (x:TS q0_rat_Same):Option (Bool):=rat_Same.j0 k x.1.1 x.2.2.1.1 x.2.2.1.2.1 x.2.2.1.2.2.1 x.2.2.2.2.1.1 x.2.2.2.2.1.2.1 x.2.2.2.2.1.2.2.1
@[reducible] def q1_rat_Same:List Slot:= [.tmp 33 [.ty (.row 73 (.int .u64))], .tmp 34 [.ty (.int .i64)], .tmp 35 [.ty (.int .i64)], .tmp 2 [.ptr 2 0], .blk 2 .mine 45 [.ty .bool, .ty (.row 73 (.int .u64)), .ty (.row 73 (.int .u64))], .tmp 3 [.ptr 3 0], .blk 3 .mine 45 [.ty .bool, .ty (.row 73 (.int .u64)), .ty (.row 73 (.int .u64))]]
def g1_rat_Same (k:Nat) (x:TS q1_rat_Same):Option (Bool):=rat_Same.l0 k x.1.1 x.2.1.1 x.2.2.1.1 x.2.2.2.2.1.1 x.2.2.2.2.1.2.1 x.2.2.2.2.1.2.2.1 x.2.2.2.2.2.2.1.1 x.2.2.2.2.2.2.1.2.1 x.2.2.2.2.2.2.1.2.2.1
@[reducible] def q2_rat_Same:List Slot:= [.tmp 49 [.ty (.row 73 (.int .u64))], .tmp 50 [.ty (.int .i64)], .tmp 51 [.ty (.int .i64)], .tmp 3 [.ptr 3 0], .blk 3 .mine 45 [.ty .bool, .ty (.row 73 (.int .u64)), .ty (.row 73 (.int .u64))]]
def g2_rat_Same (k:Nat) (x:TS q2_rat_Same):Option (Bool):=rat_Same.l1 k x.1.1 x.2.1.1 x.2.2.1.1 x.2.2.2.2.1.1 x.2.2.2.2.1.2.1 x.2.2.2.2.1.2.2.1
def c_rat_Same:Cuts (TT s_rat_Same.rs):=⟨⟨64,64,[]⟩,lookC [(0,⟨q1_rat_Same,fun k x=>(g1_rat_Same k x).map m_rat_Same⟩),(1,⟨q2_rat_Same,fun k x=>(g2_rat_Same k x).map m_rat_Same⟩)],lookC [],lookC [(1,⟨q0_rat_Same,fun k x=>(g0_rat_Same k x).map m_rat_Same⟩)]⟩
theorem o_rat_Same:FOk Tryz.prog 25 s_rat_Same :=
 fn_of (Bt:=blook []) (l:= []) (C:=c_rat_Same) (by kernel_rfl) tab_ok trivial (fn:=Tryz.f25) (by kernel_rfl) rfl (by kernel_rfl) (by decide) (by kernel_rfl) (F:=fun k x=>rat_Same.f k x.1.1 x.1.2.1 x.1.2.2 x.2.1.1 x.2.1.2.1 x.2.1.2.2) (m:=m_rat_Same) (fun k x=>rfl)
  (by
   refine And.intro ?_ ?_
   ·refine ob_join1 (sl:=q0_rat_Same) (F:=g0_rat_Same) (fun x=>rfl) fun k ⟨⟨(x31:Bool),_⟩,_,⟨(x854000:Bool),(x854001:List Int),(x854002:List Int),_⟩,_,⟨(x855000:Bool),(x855001:List Int),(x855002:List Int),_⟩,_⟩=> ?_
    show LeT m_rat_Same (rat_Same.j0 (k+1) x31 x854000 x854001 x854002 x855000 x855001 x855002) _
    rw [rat_Same.j0];exact go
   refine And.intro ?_ ?_
   ·refine ob_loop (sl:=q1_rat_Same) (F:=g1_rat_Same) (fun x=>rfl) fun k ⟨⟨(x33:List Int),_⟩,⟨(x34:Int),_⟩,⟨(x35:Int),_⟩,_,⟨(x854000:Bool),(x854001:List Int),(x854002:List Int),_⟩,_,⟨(x855000:Bool),(x855001:List Int),(x855002:List Int),_⟩,_⟩=> ?_
    show LeT m_rat_Same (rat_Same.l0 (k+1) x33 x34 x35 x854000 x854001 x854002 x855000 x855001 x855002) _
    rw [rat_Same.l0];exact go
   refine And.intro ?_ ?_
   ·refine ob_loop (sl:=q2_rat_Same) (F:=g2_rat_Same) (fun x=>rfl) fun k ⟨⟨(x49:List Int),_⟩,⟨(x50:Int),_⟩,⟨(x51:Int),_⟩,_,⟨(x855000:Bool),(x855001:List Int),(x855002:List Int),_⟩,_⟩=> ?_
    show LeT m_rat_Same (rat_Same.l1 (k+1) x49 x50 x51 x855000 x855001 x855002) _
    rw [rat_Same.l1];exact go
   exact trivial)
  (fun k ⟨(a0:Bool × (List Int) × List Int),(a1:Bool × (List Int) × List Int),_⟩=>by show LeT m_rat_Same (rat_Same.f k a0.1 a0.2.1 a0.2.2 a1.1 a1.2.1 a1.2.2) _;unfold rat_Same.f;exact go)
end
end Go.Proofs.YtjocbnjpjihpnaaGreat.A
