/- Functions that come to what their texts say. -/
import Derived.Test.YtjocbnjpjihpnaaGreatAAa
import Derived.Test.YtjocbnjpjihpnaaGreatWWc
import Derived.Test.YtjocbnjpjihpnaaGreatBB
import Derived.Test.YtjocbnjpjihpnaaGreatFgradinelaw17three
import Derived.Test.YtjocbnjpjihpnaaGreatFgradinelaw17same
namespace Go.Proofs.YtjocbnjpjihpnaaGreat.A
open Go.RowKit Go.Proofs.YtjocbnjpjihpnaaGreat.P Go.Proofs.YtjocbnjpjihpnaaGreatW.PrintWords Go.Proofs.YtjocbnjpjihpnaaGreatW.PrintLast Go.Proofs.YtjocbnjpjihpnaaGreatW.PrintMore Go.Proofs.YtjocbnjpjihpnaaGreatW.Abs
set_option linter.unusedVariables false
set_option linter.unusedSimpArgs false
set_option maxRecDepth 100000
set_option maxHeartbeats 4000000
section
def s_gradineref01_Len:FSpec:=⟨[.int .u64],[.int .i64],fun k x=>(gradineref01_Len.f k x.1).map fun r=>(r,())⟩
def m_gradineref01_Len (r:Int):TT s_gradineref01_Len.rs:=(r,())
@[reducible] def q0_gradineref01_Len:List Slot:= [.tmp 0 [.ty (.int .u64)], .tmp 3 [.ty (.int .i64)]]
def g0_gradineref01_Len (k:Nat) (x:TS q0_gradineref01_Len):Option (Int):=gradineref01_Len.l0 k x.1.1 x.2.1.1
def c_gradineref01_Len:Cuts (TT s_gradineref01_Len.rs):=⟨⟨11,11,[]⟩,lookC [(0,⟨q0_gradineref01_Len,fun k x=>(g0_gradineref01_Len k x).map m_gradineref01_Len⟩)],lookC [],lookC []⟩
theorem o_gradineref01_Len:FOk Tryz.prog 191 s_gradineref01_Len :=
 fn_of (Bt:=blook []) (l:= []) (C:=c_gradineref01_Len) (by kernel_rfl) tab_ok trivial (fn:=Tryz.f191) (by kernel_rfl) rfl (by kernel_rfl) (by decide) (by kernel_rfl) (F:=fun k x=>gradineref01_Len.f k x.1) (m:=m_gradineref01_Len) (fun k x=>rfl)
  (by
   refine And.intro ?_ ?_
   ·refine ob_loop (sl:=q0_gradineref01_Len) (F:=g0_gradineref01_Len) (fun x=>rfl) fun k ⟨⟨(x0:Int),_⟩,⟨(x3:Int),_⟩,_⟩=> ?_
    show LeT m_gradineref01_Len (gradineref01_Len.l0 (k+1) x0 x3) _
    rw [gradineref01_Len.l0];exact go
   exact trivial)
  (fun k ⟨(a0:Int),_⟩=>by show LeT m_gradineref01_Len (gradineref01_Len.f k a0) _;unfold gradineref01_Len.f;exact go)
end
section
attribute [local irreducible] gradineref02_Size.f gradineref01_Len.f
def s_gradineref02_Bits:FSpec:=⟨[(.row 73 (.int .u64))],[.int .i64],fun k x=>(gradineref02_Bits.f k x.1).map fun r=>(r,())⟩
def m_gradineref02_Bits (r:Int):TT s_gradineref02_Bits.rs:=(r,())
theorem o_gradineref02_Bits:FOk Tryz.prog 124 s_gradineref02_Bits :=
 fn_of (Bt:=blook []) (l:= [(126, .pu s_gradineref02_Size),(191, .pu s_gradineref01_Len)]) (C:=noCuts) (by kernel_rfl) tab_ok ⟨o_gradineref02_Size,o_gradineref01_Len,trivial⟩ (fn:=Tryz.f124) (by kernel_rfl) rfl (by kernel_rfl) (by decide) (by kernel_rfl) (F:=fun k x=>gradineref02_Bits.f k x.1) (m:=m_gradineref02_Bits) (fun k x=>rfl)
  (by exact trivial)
  (fun k ⟨(a0:List Int),_⟩=>by show LeT m_gradineref02_Bits (gradineref02_Bits.f k a0) _;unfold gradineref02_Bits.f;exact go)
end
section
def s_gradineref04_set:FSpec:=⟨[(.row 73 (.int .u64)), .int .i64],[(.row 73 (.int .u64))],fun k x=>(gradineref04_set.f k x.1 x.2.1).map fun r=>(r,())⟩
def m_gradineref04_set (r:List Int):TT s_gradineref04_set.rs:=(r,())
@[reducible] def q0_gradineref04_set:List Slot:= [.tmp 0 [.ty (.row 73 (.int .u64))], .tmp 1 [.ty (.int .i64)], .tmp 5 [.own .mine 5 73 (.int .u64)], .tmp 13 [.ty (.int .i64)], .tmp 14 [.ty (.int .i64)]]
def g0_gradineref04_set (k:Nat) (x:TS q0_gradineref04_set):Option (List Int):=gradineref04_set.l0 k x.1.1 x.2.1.1 x.2.2.1.1 x.2.2.2.1.1 x.2.2.2.2.1.1
def c_gradineref04_set:Cuts (TT s_gradineref04_set.rs):=⟨⟨41,41,[]⟩,lookC [(0,⟨q0_gradineref04_set,fun k x=>(g0_gradineref04_set k x).map m_gradineref04_set⟩)],lookC [],lookC []⟩
theorem o_gradineref04_set:FOk Tryz.prog 228 s_gradineref04_set :=
 fn_of (Bt:=blook []) (l:= []) (C:=c_gradineref04_set) (by kernel_rfl) tab_ok trivial (fn:=Tryz.f228) (by kernel_rfl) rfl (by kernel_rfl) (by decide) (by kernel_rfl) (F:=fun k x=>gradineref04_set.f k x.1 x.2.1) (m:=m_gradineref04_set) (fun k x=>rfl)
  (by
   refine And.intro ?_ ?_
   ·refine ob_loop (sl:=q0_gradineref04_set) (F:=g0_gradineref04_set) (fun x=>rfl) fun k ⟨⟨(x0:List Int),_⟩,⟨(x1:Int),_⟩,⟨(x5:List Int),_⟩,⟨(x13:Int),_⟩,⟨(x14:Int),_⟩,_⟩=> ?_
    show LeT m_gradineref04_set (gradineref04_set.l0 (k+1) x0 x1 x5 x13 x14) _
    rw [gradineref04_set.l0];exact go
   exact trivial)
  (fun k ⟨(a0:List Int),(a1:Int),_⟩=>by show LeT m_gradineref04_set (gradineref04_set.f k a0 a1) _;unfold gradineref04_set.f;exact go)
end
section
attribute [local irreducible] gradineref02_Cmp.f gradineref02_Sub.f gradineref02_Bits.f gradineref02_Size.f gradineref02_Shl.f gradineref02_Trim.f gradineref02_Shr.f gradineref02_Bit.f gradineref04_set.f
def s_gradineref04_Div:FSpec:=⟨[(.row 73 (.int .u64)),(.row 73 (.int .u64))],[(.row 73 (.int .u64)),(.row 73 (.int .u64))],fun k x=>(gradineref04_Div.f k x.1 x.2.1).map fun r=>(r.1,r.2,())⟩
def m_gradineref04_Div (r:List Int × List Int):TT s_gradineref04_Div.rs:=(r.1,r.2,())
@[reducible] def q0_gradineref04_Div:List Slot:= [.tmp 0 [.ty (.row 73 (.int .u64))], .tmp 1 [.ty (.row 73 (.int .u64))], .tmp 6 [.ty (.row 73 (.int .u64))], .tmp 18 [.ty .bool]]
def g0_gradineref04_Div (k:Nat) (x:TS q0_gradineref04_Div):Option (List Int × List Int):=gradineref04_Div.j0 k x.1.1 x.2.1.1 x.2.2.1.1 x.2.2.2.1.1
@[reducible] def q1_gradineref04_Div:List Slot:= [.tmp 0 [.ty (.row 73 (.int .u64))], .tmp 1 [.ty (.row 73 (.int .u64))], .tmp 6 [.ty (.row 73 (.int .u64))], .tmp 7 [.ty (.row 73 (.int .u64))], .tmp 10 [.ty (.int .i64)]]
def g1_gradineref04_Div (k:Nat) (x:TS q1_gradineref04_Div):Option (List Int × List Int):=gradineref04_Div.l0 k x.1.1 x.2.1.1 x.2.2.1.1 x.2.2.2.1.1 x.2.2.2.2.1.1
@[reducible] def q2_gradineref04_Div:List Slot:= [.tmp 0 [.ty (.row 73 (.int .u64))], .tmp 1 [.ty (.row 73 (.int .u64))], .tmp 6 [.ty (.row 73 (.int .u64))], .tmp 7 [.ty (.row 73 (.int .u64))], .tmp 10 [.ty (.int .i64)]]
def g2_gradineref04_Div (k:Nat) (x:TS q2_gradineref04_Div):Option (List Int × List Int):=gradineref04_Div.j2 k x.1.1 x.2.1.1 x.2.2.1.1 x.2.2.2.1.1 x.2.2.2.2.1.1
def c_gradineref04_Div:Cuts (TT s_gradineref04_Div.rs):=⟨⟨75,75,[]⟩,lookC [(0,⟨q1_gradineref04_Div,fun k x=>(g1_gradineref04_Div k x).map m_gradineref04_Div⟩)],lookC [(13,⟨q2_gradineref04_Div,fun k x=>(g2_gradineref04_Div k x).map m_gradineref04_Div⟩)],lookC [(2,⟨q0_gradineref04_Div,fun k x=>(g0_gradineref04_Div k x).map m_gradineref04_Div⟩)]⟩
theorem o_gradineref04_Div:FOk Tryz.prog 156 s_gradineref04_Div :=
 fn_of (Bt:=blook [(3,[0,1,3,0,8,24,63,127,255,0,512,1536,0,4096,12288,32256,65024,131071,262143,524287])]) (l:= [(75, .pu s_gradineref02_Cmp),(76, .pu s_gradineref02_Sub),(124, .pu s_gradineref02_Bits),(126, .pu s_gradineref02_Size),(157, .pu s_gradineref02_Shl),(188, .pu s_gradineref02_Trim),(190, .pu s_gradineref02_Shr),(227, .pu s_gradineref02_Bit),(228, .pu s_gradineref04_set)]) (C:=c_gradineref04_Div) (by kernel_rfl) tab_ok ⟨o_gradineref02_Cmp,o_gradineref02_Sub,o_gradineref02_Bits,o_gradineref02_Size,o_gradineref02_Shl,o_gradineref02_Trim,o_gradineref02_Shr,o_gradineref02_Bit,o_gradineref04_set,trivial⟩ (fn:=Tryz.f156) (by kernel_rfl) rfl (by kernel_rfl) (by decide) (by kernel_rfl) (F:=fun k x=>gradineref04_Div.f k x.1 x.2.1) (m:=m_gradineref04_Div) (fun k x=>rfl)
  (by
   refine And.intro ?_ ?_
   ·refine ob_join1 (sl:=q0_gradineref04_Div) (F:=g0_gradineref04_Div) (fun x=>rfl) fun k ⟨⟨(x0:List Int),_⟩,⟨(x1:List Int),_⟩,⟨(x6:List Int),_⟩,⟨(x18:Bool),_⟩,_⟩=> ?_
    show LeT m_gradineref04_Div (gradineref04_Div.j0 (k+1) x0 x1 x6 x18) _
    rw [gradineref04_Div.j0];exact go
   refine And.intro ?_ ?_
   ·refine ob_loop (sl:=q1_gradineref04_Div) (F:=g1_gradineref04_Div) (fun x=>rfl) fun k ⟨⟨(x0:List Int),_⟩,⟨(x1:List Int),_⟩,⟨(x6:List Int),_⟩,⟨(x7:List Int),_⟩,⟨(x10:Int),_⟩,_⟩=> ?_
    show LeT m_gradineref04_Div (gradineref04_Div.l0 (k+1) x0 x1 x6 x7 x10) _
    rw [gradineref04_Div.l0];exact go
   refine And.intro ?_ ?_
   ·refine ob_join1 (sl:=q2_gradineref04_Div) (F:=g2_gradineref04_Div) (fun x=>rfl) fun k ⟨⟨(x0:List Int),_⟩,⟨(x1:List Int),_⟩,⟨(x6:List Int),_⟩,⟨(x7:List Int),_⟩,⟨(x10:Int),_⟩,_⟩=> ?_
    show LeT m_gradineref04_Div (gradineref04_Div.j2 (k+1) x0 x1 x6 x7 x10) _
    rw [gradineref04_Div.j2];exact go
   exact trivial)
  (fun k ⟨(a0:List Int),(a1:List Int),_⟩=>by show LeT m_gradineref04_Div (gradineref04_Div.f k a0 a1) _;unfold gradineref04_Div.f;exact go)
end
section
attribute [local irreducible] gradineref02_Cmp.f gradineref02_Size.f gradineref04_Div.f gradineref02_Trim.f
def s_gradineref05_Part:FSpec:=⟨[(.row 73 (.int .u64)),(.row 73 (.int .u64))],[(.row 73 (.int .u64))],fun k x=>(gradineref05_Part.f k x.1 x.2.1).map fun r=>(r,())⟩
def m_gradineref05_Part (r:List Int):TT s_gradineref05_Part.rs:=(r,())
theorem o_gradineref05_Part:FOk Tryz.prog 127 s_gradineref05_Part :=
 fn_of (Bt:=blook []) (l:= [(75, .pu s_gradineref02_Cmp),(126, .pu s_gradineref02_Size),(156, .pu s_gradineref04_Div),(188, .pu s_gradineref02_Trim)]) (C:=noCuts) (by kernel_rfl) tab_ok ⟨o_gradineref02_Cmp,o_gradineref02_Size,o_gradineref04_Div,o_gradineref02_Trim,trivial⟩ (fn:=Tryz.f127) (by kernel_rfl) rfl (by kernel_rfl) (by decide) (by kernel_rfl) (F:=fun k x=>gradineref05_Part.f k x.1 x.2.1) (m:=m_gradineref05_Part) (fun k x=>rfl)
  (by exact trivial)
  (fun k ⟨(a0:List Int),(a1:List Int),_⟩=>by show LeT m_gradineref05_Part (gradineref05_Part.f k a0 a1) _;unfold gradineref05_Part.f;exact go)
end
section
attribute [local irreducible] gradineref05_Gcd.f gradineref02_Size.f gradineref05_Part.f
def s_gradineref07_Make:FSpec:=⟨[.bool,(.row 73 (.int .u64)),(.row 73 (.int .u64))],[(.cons .bool (.cons (.row 73 (.int .u64)) (.row 73 (.int .u64))))],fun k x=>(gradineref07_Make.f k x.1 x.2.1 x.2.2.1).map fun r=>((r.1,r.2.1,r.2.2),())⟩
def m_gradineref07_Make (r:Bool × List Int × List Int):TT s_gradineref07_Make.rs:=((r.1,r.2.1,r.2.2),())
theorem o_gradineref07_Make:FOk Tryz.prog 72 s_gradineref07_Make :=
 fn_of (Bt:=blook []) (l:= [(120, .pu s_gradineref05_Gcd),(126, .pu s_gradineref02_Size),(127, .pu s_gradineref05_Part)]) (C:=noCuts) (by kernel_rfl) tab_ok ⟨o_gradineref05_Gcd,o_gradineref02_Size,o_gradineref05_Part,trivial⟩ (fn:=Tryz.f72) (by kernel_rfl) rfl (by kernel_rfl) (by decide) (by kernel_rfl) (F:=fun k x=>gradineref07_Make.f k x.1 x.2.1 x.2.2.1) (m:=m_gradineref07_Make) (fun k x=>rfl)
  (by exact trivial)
  (fun k ⟨(a0:Bool),(a1:List Int),(a2:List Int),_⟩=>by show LeT m_gradineref07_Make (gradineref07_Make.f k a0 a1 a2) _;unfold gradineref07_Make.f;exact go)
end
section
attribute [local irreducible] gradineref07_Make.f
def s_gradineref07_Of:FSpec:=⟨[.int .i64],[(.cons .bool (.cons (.row 73 (.int .u64)) (.row 73 (.int .u64))))],fun k x=>(gradineref07_Of.f k x.1).map fun r=>((r.1,r.2.1,r.2.2),())⟩
def m_gradineref07_Of (r:Bool × List Int × List Int):TT s_gradineref07_Of.rs:=((r.1,r.2.1,r.2.2),())
theorem o_gradineref07_Of:FOk Tryz.prog 22 s_gradineref07_Of :=
 fn_of (Bt:=blook []) (l:= [(72, .pu s_gradineref07_Make)]) (C:=noCuts) (by kernel_rfl) tab_ok ⟨o_gradineref07_Make,trivial⟩ (fn:=Tryz.f22) (by kernel_rfl) rfl (by kernel_rfl) (by decide) (by kernel_rfl) (F:=fun k x=>gradineref07_Of.f k x.1) (m:=m_gradineref07_Of) (fun k x=>rfl)
  (by exact trivial)
  (fun k ⟨(a0:Int),_⟩=>by show LeT m_gradineref07_Of (gradineref07_Of.f k a0) _;unfold gradineref07_Of.f;exact go)
end
section
def s_gradineref07_Words:FSpec:=⟨[(.row 73 (.int .u64)),(.row 73 (.int .u64))],[.bool],fun k x=>(gradineref07_Words.f k x.1 x.2.1).map fun r=>(r,())⟩
def m_gradineref07_Words (r:Bool):TT s_gradineref07_Words.rs:=(r,())
@[reducible] def q0_gradineref07_Words:List Slot:= [.tmp 0 [.ty (.row 73 (.int .u64))], .tmp 1 [.ty (.row 73 (.int .u64))], .tmp 12 [.ty (.int .i64)], .tmp 13 [.ty (.int .i64)]]
def g0_gradineref07_Words (k:Nat) (x:TS q0_gradineref07_Words):Option (Bool):=gradineref07_Words.l0 k x.1.1 x.2.1.1 x.2.2.1.1 x.2.2.2.1.1
def c_gradineref07_Words:Cuts (TT s_gradineref07_Words.rs):=⟨⟨26,26,[]⟩,lookC [(0,⟨q0_gradineref07_Words,fun k x=>(g0_gradineref07_Words k x).map m_gradineref07_Words⟩)],lookC [],lookC []⟩
theorem o_gradineref07_Words:FOk Tryz.prog 95 s_gradineref07_Words :=
 fn_of (Bt:=blook [(6,[0,0,3,7,0,0,48,112,255])]) (l:= []) (C:=c_gradineref07_Words) (by kernel_rfl) tab_ok trivial (fn:=Tryz.f95) (by kernel_rfl) rfl (by kernel_rfl) (by decide) (by kernel_rfl) (F:=fun k x=>gradineref07_Words.f k x.1 x.2.1) (m:=m_gradineref07_Words) (fun k x=>rfl)
  (by
   refine And.intro ?_ ?_
   ·refine ob_loop (sl:=q0_gradineref07_Words) (F:=g0_gradineref07_Words) (fun x=>rfl) fun k ⟨⟨(x0:List Int),_⟩,⟨(x1:List Int),_⟩,⟨(x12:Int),_⟩,⟨(x13:Int),_⟩,_⟩=> ?_
    show LeT m_gradineref07_Words (gradineref07_Words.l0 (k+1) x0 x1 x12 x13) _
    rw [gradineref07_Words.l0];exact go
   exact trivial)
  (fun k ⟨(a0:List Int),(a1:List Int),_⟩=>by show LeT m_gradineref07_Words (gradineref07_Words.f k a0 a1) _;unfold gradineref07_Words.f;exact go)
end
section
attribute [local irreducible] gradineref07_Words.f
def s_gradineref07_Same:FSpec:=⟨[(.cons .bool (.cons (.row 73 (.int .u64)) (.row 73 (.int .u64)))),(.cons .bool (.cons (.row 73 (.int .u64)) (.row 73 (.int .u64))))],[.bool],fun k x=>(gradineref07_Same.f k x.1.1 x.1.2.1 x.1.2.2 x.2.1.1 x.2.1.2.1 x.2.1.2.2).map fun r=>(r,())⟩
def m_gradineref07_Same (r:Bool):TT s_gradineref07_Same.rs:=(r,())
theorem o_gradineref07_Same:FOk Tryz.prog 37 s_gradineref07_Same :=
 fn_of (Bt:=blook []) (l:= [(95, .pu s_gradineref07_Words)]) (C:=noCuts) (by kernel_rfl) tab_ok ⟨o_gradineref07_Words,trivial⟩ (fn:=Tryz.f37) (by kernel_rfl) rfl (by kernel_rfl) (by decide) (by kernel_rfl) (F:=fun k x=>gradineref07_Same.f k x.1.1 x.1.2.1 x.1.2.2 x.2.1.1 x.2.1.2.1 x.2.1.2.2) (m:=m_gradineref07_Same) (fun k x=>rfl)
  (by exact trivial)
  (fun k ⟨(a0:Bool × List Int × List Int),(a1:Bool × List Int × List Int),_⟩=>by show LeT m_gradineref07_Same (gradineref07_Same.f k a0.1 a0.2.1 a0.2.2 a1.1 a1.2.1 a1.2.2) _;unfold gradineref07_Same.f;exact go)
end
section
def s_gradinelaw17_three:FSpec:=⟨[],[(.cons .bool (.cons (.row 73 (.int .u64)) (.row 73 (.int .u64))))],fun _ _=>(gradinelaw17_three.f).map fun r=>((r.1,r.2.1,r.2.2),())⟩
def m_gradinelaw17_three (r:Bool × List Int × List Int):TT s_gradinelaw17_three.rs:=((r.1,r.2.1,r.2.2),())
theorem o_gradinelaw17_three:FOk Tryz.prog 55 s_gradinelaw17_three :=
 fn_of (Bt:=blook []) (l:= []) (C:=noCuts) (by kernel_rfl) tab_ok trivial (fn:=Tryz.f55) (by kernel_rfl) rfl (by kernel_rfl) (by decide) (by kernel_rfl) (F:=fun k x=>gradinelaw17_three.f) (m:=m_gradinelaw17_three) (fun k x=>rfl)
  (by exact trivial)
  (fun k x=>by show LeT m_gradinelaw17_three (gradinelaw17_three.f) _;unfold gradinelaw17_three.f;exact go)
end
section
attribute [local irreducible] tangent_Of.f tangent_Back.f gradineref07_Of.f gradineref07_Same.f gradinelaw17_three.f
def s_gradinelaw17_same:FSpec:=⟨[],[.bool],fun k _=>(gradinelaw17_same.f k).map fun r=>(r,())⟩
def m_gradinelaw17_same (r:Bool):TT s_gradinelaw17_same.rs:=(r,())
theorem o_gradinelaw17_same:FOk Tryz.prog 13 s_gradinelaw17_same :=
 fn_of (Bt:=blook [(4,[0,1,3,7,15,31,63,127,255,511,1023,2047,4095,8191,16383,4095,65535,131071,262143,524287,1048575,2097151,4194303,8388607,16777215,33554431,67108863,16777215,268435455,536870911,1073741823])]) (l:= [(14, .pu s_tangent_Of),(18, .pu s_tangent_Back),(22, .pu s_gradineref07_Of),(37, .pu s_gradineref07_Same),(55, .pu s_gradinelaw17_three)]) (C:=noCuts) (by kernel_rfl) tab_ok ⟨o_tangent_Of,o_tangent_Back,o_gradineref07_Of,o_gradineref07_Same,o_gradinelaw17_three,trivial⟩ (fn:=Tryz.f13) (by kernel_rfl) rfl (by kernel_rfl) (by decide) (by kernel_rfl) (F:=fun k x=>gradinelaw17_same.f k) (m:=m_gradinelaw17_same) (fun k x=>rfl)
  (by exact trivial)
  (fun k x=>by show LeT m_gradinelaw17_same (gradinelaw17_same.f k) _;unfold gradinelaw17_same.f;exact go)
end
section
attribute [local irreducible] gradineref07_Same.f
def s_gradineref16_Same:FSpec:=⟨[(.row 45 (.cons .bool (.cons (.row 73 (.int .u64)) (.row 73 (.int .u64))))),(.row 45 (.cons .bool (.cons (.row 73 (.int .u64)) (.row 73 (.int .u64)))))],[.bool],fun k x=>(gradineref16_Same.f k x.1 x.2.1).map fun r=>(r,())⟩
def m_gradineref16_Same (r:Bool):TT s_gradineref16_Same.rs:=(r,())
@[reducible] def q0_gradineref16_Same:List Slot:= [.tmp 0 [.ty (.row 45 (.cons .bool (.cons (.row 73 (.int .u64)) (.row 73 (.int .u64)))))], .tmp 1 [.ty (.row 45 (.cons .bool (.cons (.row 73 (.int .u64)) (.row 73 (.int .u64)))))], .tmp 12 [.ty (.int .i64)], .tmp 13 [.ty (.int .i64)]]
def g0_gradineref16_Same (k:Nat) (x:TS q0_gradineref16_Same):Option (Bool):=gradineref16_Same.l0 k x.1.1 x.2.1.1 x.2.2.1.1 x.2.2.2.1.1
def c_gradineref16_Same:Cuts (TT s_gradineref16_Same.rs):=⟨⟨27,27,[]⟩,lookC [(0,⟨q0_gradineref16_Same,fun k x=>(g0_gradineref16_Same k x).map m_gradineref16_Same⟩)],lookC [],lookC []⟩
theorem o_gradineref16_Same:FOk Tryz.prog 16 s_gradineref16_Same :=
 fn_of (Bt:=blook [(6,[0,0,3,7,0,0,48,112,255,511])]) (l:= [(37, .pu s_gradineref07_Same)]) (C:=c_gradineref16_Same) (by kernel_rfl) tab_ok ⟨o_gradineref07_Same,trivial⟩ (fn:=Tryz.f16) (by kernel_rfl) rfl (by kernel_rfl) (by decide) (by kernel_rfl) (F:=fun k x=>gradineref16_Same.f k x.1 x.2.1) (m:=m_gradineref16_Same) (fun k x=>rfl)
  (by
   refine And.intro ?_ ?_
   ·refine ob_loop (sl:=q0_gradineref16_Same) (F:=g0_gradineref16_Same) (fun x=>rfl) fun k ⟨⟨(x0:List (Bool × (List Int) × List Int)),_⟩,⟨(x1:List (Bool × (List Int) × List Int)),_⟩,⟨(x12:Int),_⟩,⟨(x13:Int),_⟩,_⟩=> ?_
    show LeT m_gradineref16_Same (gradineref16_Same.l0 (k+1) x0 x1 x12 x13) _
    rw [gradineref16_Same.l0];exact go
   exact trivial)
  (fun k ⟨(a0:List (Bool × (List Int) × List Int)),(a1:List (Bool × (List Int) × List Int)),_⟩=>by show LeT m_gradineref16_Same (gradineref16_Same.f k a0 a1) _;unfold gradineref16_Same.f;exact go)
end
section
attribute [local irreducible] gradineref02_Size.f
def s_gradineref02_Right:FSpec:=⟨[(.row 73 (.int .u64))],[.bool],fun k x=>(gradineref02_Right.f k x.1).map fun r=>(r,())⟩
def m_gradineref02_Right (r:Bool):TT s_gradineref02_Right.rs:=(r,())
theorem o_gradineref02_Right:FOk Tryz.prog 119 s_gradineref02_Right :=
 fn_of (Bt:=blook []) (l:= [(126, .pu s_gradineref02_Size)]) (C:=noCuts) (by kernel_rfl) tab_ok ⟨o_gradineref02_Size,trivial⟩ (fn:=Tryz.f119) (by kernel_rfl) rfl (by kernel_rfl) (by decide) (by kernel_rfl) (F:=fun k x=>gradineref02_Right.f k x.1) (m:=m_gradineref02_Right) (fun k x=>rfl)
  (by exact trivial)
  (fun k ⟨(a0:List Int),_⟩=>by show LeT m_gradineref02_Right (gradineref02_Right.f k a0) _;unfold gradineref02_Right.f;exact go)
end
section
attribute [local irreducible] gradineref02_Cmp.f gradineref02_Right.f gradineref05_Gcd.f
def s_gradineref07_Right:FSpec:=⟨[(.cons .bool (.cons (.row 73 (.int .u64)) (.row 73 (.int .u64))))],[.bool],fun k x=>(gradineref07_Right.f k x.1.1 x.1.2.1 x.1.2.2).map fun r=>(r,())⟩
def m_gradineref07_Right (r:Bool):TT s_gradineref07_Right.rs:=(r,())
theorem o_gradineref07_Right:FOk Tryz.prog 65 s_gradineref07_Right :=
 fn_of (Bt:=blook []) (l:= [(75, .pu s_gradineref02_Cmp),(119, .pu s_gradineref02_Right),(120, .pu s_gradineref05_Gcd)]) (C:=noCuts) (by kernel_rfl) tab_ok ⟨o_gradineref02_Cmp,o_gradineref02_Right,o_gradineref05_Gcd,trivial⟩ (fn:=Tryz.f65) (by kernel_rfl) rfl (by kernel_rfl) (by decide) (by kernel_rfl) (F:=fun k x=>gradineref07_Right.f k x.1.1 x.1.2.1 x.1.2.2) (m:=m_gradineref07_Right) (fun k x=>rfl)
  (by exact trivial)
  (fun k ⟨(a0:Bool × List Int × List Int),_⟩=>by show LeT m_gradineref07_Right (gradineref07_Right.f k a0.1 a0.2.1 a0.2.2) _;unfold gradineref07_Right.f;unfold gradineref07_Right.j0;exact goq)
end
section
attribute [local irreducible] gradineref07_Right.f
def s_gradineref16_Rats:FSpec:=⟨[(.row 45 (.cons .bool (.cons (.row 73 (.int .u64)) (.row 73 (.int .u64)))))],[.bool],fun k x=>(gradineref16_Rats.f k x.1).map fun r=>(r,())⟩
def m_gradineref16_Rats (r:Bool):TT s_gradineref16_Rats.rs:=(r,())
@[reducible] def q0_gradineref16_Rats:List Slot:= [.tmp 0 [.ty (.row 45 (.cons .bool (.cons (.row 73 (.int .u64)) (.row 73 (.int .u64)))))], .tmp 5 [.ty (.int .i64)], .tmp 6 [.ty (.int .i64)]]
def g0_gradineref16_Rats (k:Nat) (x:TS q0_gradineref16_Rats):Option (Bool):=gradineref16_Rats.l0 k x.1.1 x.2.1.1 x.2.2.1.1
def c_gradineref16_Rats:Cuts (TT s_gradineref16_Rats.rs):=⟨⟨16,16,[]⟩,lookC [(0,⟨q0_gradineref16_Rats,fun k x=>(g0_gradineref16_Rats k x).map m_gradineref16_Rats⟩)],lookC [],lookC []⟩
theorem o_gradineref16_Rats:FOk Tryz.prog 19 s_gradineref16_Rats :=
 fn_of (Bt:=blook []) (l:= [(65, .pu s_gradineref07_Right)]) (C:=c_gradineref16_Rats) (by kernel_rfl) tab_ok ⟨o_gradineref07_Right,trivial⟩ (fn:=Tryz.f19) (by kernel_rfl) rfl (by kernel_rfl) (by decide) (by kernel_rfl) (F:=fun k x=>gradineref16_Rats.f k x.1) (m:=m_gradineref16_Rats) (fun k x=>rfl)
  (by
   refine And.intro ?_ ?_
   ·refine ob_loop (sl:=q0_gradineref16_Rats) (F:=g0_gradineref16_Rats) (fun x=>rfl) fun k ⟨⟨(x0:List (Bool × (List Int) × List Int)),_⟩,⟨(x5:Int),_⟩,⟨(x6:Int),_⟩,_⟩=> ?_
    show LeT m_gradineref16_Rats (gradineref16_Rats.l0 (k+1) x0 x5 x6) _
    rw [gradineref16_Rats.l0];exact go
   exact trivial)
  (fun k ⟨(a0:List (Bool × (List Int) × List Int)),_⟩=>by show LeT m_gradineref16_Rats (gradineref16_Rats.f k a0) _;unfold gradineref16_Rats.f;exact go)
end
section
def s_gradineref15_Arity:FSpec:=⟨[.int .i64],[.int .i64],fun k x=>(gradineref15_Arity.f k x.1).map fun r=>(r,())⟩
def m_gradineref15_Arity (r:Int):TT s_gradineref15_Arity.rs:=(r,())
@[reducible] def q0_gradineref15_Arity:List Slot:= [.tmp 0 [.ty (.int .i64)], .tmp 8 [.ty .bool]]
def g0_gradineref15_Arity (k:Nat) (x:TS q0_gradineref15_Arity):Option (Int):=gradineref15_Arity.j0 k x.1.1 x.2.1.1
@[reducible] def q1_gradineref15_Arity:List Slot:= [.tmp 0 [.ty (.int .i64)], .tmp 18 [.ty .bool]]
def g1_gradineref15_Arity (k:Nat) (x:TS q1_gradineref15_Arity):Option (Int):=gradineref15_Arity.j1 k x.1.1 x.2.1.1
def c_gradineref15_Arity:Cuts (TT s_gradineref15_Arity.rs):=⟨⟨25,25,[]⟩,lookC [],lookC [],lookC [(1,⟨q0_gradineref15_Arity,fun k x=>(g0_gradineref15_Arity k x).map m_gradineref15_Arity⟩),(3,⟨q1_gradineref15_Arity,fun k x=>(g1_gradineref15_Arity k x).map m_gradineref15_Arity⟩)]⟩
theorem o_gradineref15_Arity:FOk Tryz.prog 70 s_gradineref15_Arity :=
 fn_of (Bt:=blook []) (l:= []) (C:=c_gradineref15_Arity) (by kernel_rfl) tab_ok trivial (fn:=Tryz.f70) (by kernel_rfl) rfl (by kernel_rfl) (by decide) (by kernel_rfl) (F:=fun k x=>gradineref15_Arity.f k x.1) (m:=m_gradineref15_Arity) (fun k x=>rfl)
  (by
   refine And.intro ?_ ?_
   ·refine ob_join1 (sl:=q0_gradineref15_Arity) (F:=g0_gradineref15_Arity) (fun x=>rfl) fun k ⟨⟨(x0:Int),_⟩,⟨(x8:Bool),_⟩,_⟩=> ?_
    show LeT m_gradineref15_Arity (gradineref15_Arity.j0 (k+1) x0 x8) _
    rw [gradineref15_Arity.j0];exact go
   refine And.intro ?_ ?_
   ·refine ob_join1 (sl:=q1_gradineref15_Arity) (F:=g1_gradineref15_Arity) (fun x=>rfl) fun k ⟨⟨(x0:Int),_⟩,⟨(x18:Bool),_⟩,_⟩=> ?_
    show LeT m_gradineref15_Arity (gradineref15_Arity.j1 (k+1) x0 x18) _
    rw [gradineref15_Arity.j1];exact go
   exact trivial)
  (fun k ⟨(a0:Int),_⟩=>by show LeT m_gradineref15_Arity (gradineref15_Arity.f k a0) _;unfold gradineref15_Arity.f;exact go)
end
section
attribute [local irreducible] gradineref07_Same.f
def s_gradineref15_None:FSpec:=⟨[(.cons .bool (.cons (.row 73 (.int .u64)) (.row 73 (.int .u64))))],[.bool],fun k x=>(gradineref15_None.f k x.1.1 x.1.2.1 x.1.2.2).map fun r=>(r,())⟩
def m_gradineref15_None (r:Bool):TT s_gradineref15_None.rs:=(r,())
theorem o_gradineref15_None:FOk Tryz.prog 167 s_gradineref15_None :=
 fn_of (Bt:=blook []) (l:= [(37, .pu s_gradineref07_Same)]) (C:=noCuts) (by kernel_rfl) tab_ok ⟨o_gradineref07_Same,trivial⟩ (fn:=Tryz.f167) (by kernel_rfl) rfl (by kernel_rfl) (by decide) (by kernel_rfl) (F:=fun k x=>gradineref15_None.f k x.1.1 x.1.2.1 x.1.2.2) (m:=m_gradineref15_None) (fun k x=>rfl)
  (by exact trivial)
  (fun k ⟨(a0:Bool × List Int × List Int),_⟩=>by show LeT m_gradineref15_None (gradineref15_None.f k a0.1 a0.2.1 a0.2.2) _;unfold gradineref15_None.f;exact go)
end
section
attribute [local irreducible] gradineref07_Right.f gradineref15_Arity.f gradineref15_None.f
def s_gradineref15_Fits:FSpec:=⟨[(.cons (.int .i64) (.cons (.int .i64) (.cons (.int .i64) (.cons .bool (.cons (.row 73 (.int .u64)) (.row 73 (.int .u64))))))), .int .i64],[.bool],fun k x=>(gradineref15_Fits.f k x.1.1 x.1.2.1 x.1.2.2.1 x.1.2.2.2.1 x.1.2.2.2.2.1 x.1.2.2.2.2.2 x.2.1).map fun r=>(r,())⟩
def m_gradineref15_Fits (r:Bool):TT s_gradineref15_Fits.rs:=(r,())
theorem o_gradineref15_Fits:FOk Tryz.prog 92 s_gradineref15_Fits :=
 fn_of (Bt:=blook []) (l:= [(65, .pu s_gradineref07_Right),(70, .pu s_gradineref15_Arity),(167, .pu s_gradineref15_None)]) (C:=noCuts) (by kernel_rfl) tab_ok ⟨o_gradineref07_Right,o_gradineref15_Arity,o_gradineref15_None,trivial⟩ (fn:=Tryz.f92) (by kernel_rfl) rfl (by kernel_rfl) (by decide) (by kernel_rfl) (F:=fun k x=>gradineref15_Fits.f k x.1.1 x.1.2.1 x.1.2.2.1 x.1.2.2.2.1 x.1.2.2.2.2.1 x.1.2.2.2.2.2 x.2.1) (m:=m_gradineref15_Fits) (fun k x=>rfl)
  (by exact trivial)
  (fun k ⟨(a0:Int × Int × Int × Bool × List Int × List Int),(a1:Int),_⟩=>by show LeT m_gradineref15_Fits (gradineref15_Fits.f k a0.1 a0.2.1 a0.2.2.1 a0.2.2.2.1 a0.2.2.2.2.1 a0.2.2.2.2.2 a1) _;unfold gradineref15_Fits.f;exact go)
end
section
attribute [local irreducible] gradineref15_Fits.f
def s_gradineref15_Right:FSpec:=⟨[(.row 93 (.cons (.int .i64) (.cons (.int .i64) (.cons (.int .i64) (.cons .bool (.cons (.row 73 (.int .u64)) (.row 73 (.int .u64))))))))],[.bool],fun k x=>(gradineref15_Right.f k x.1).map fun r=>(r,())⟩
def m_gradineref15_Right (r:Bool):TT s_gradineref15_Right.rs:=(r,())
@[reducible] def q0_gradineref15_Right:List Slot:= [.tmp 0 [.ty (.row 93 (.cons (.int .i64) (.cons (.int .i64) (.cons (.int .i64) (.cons .bool (.cons (.row 73 (.int .u64)) (.row 73 (.int .u64))))))))], .tmp 5 [.ty (.int .i64)], .tmp 6 [.ty (.int .i64)]]
def g0_gradineref15_Right (k:Nat) (x:TS q0_gradineref15_Right):Option (Bool):=gradineref15_Right.l0 k x.1.1 x.2.1.1 x.2.2.1.1
def c_gradineref15_Right:Cuts (TT s_gradineref15_Right.rs):=⟨⟨20,20,[]⟩,lookC [(0,⟨q0_gradineref15_Right,fun k x=>(g0_gradineref15_Right k x).map m_gradineref15_Right⟩)],lookC [],lookC []⟩
theorem o_gradineref15_Right:FOk Tryz.prog 35 s_gradineref15_Right :=
 fn_of (Bt:=blook []) (l:= [(92, .pu s_gradineref15_Fits)]) (C:=c_gradineref15_Right) (by kernel_rfl) tab_ok ⟨o_gradineref15_Fits,trivial⟩ (fn:=Tryz.f35) (by kernel_rfl) rfl (by kernel_rfl) (by decide) (by kernel_rfl) (F:=fun k x=>gradineref15_Right.f k x.1) (m:=m_gradineref15_Right) (fun k x=>rfl)
  (by
   refine And.intro ?_ ?_
   ·refine ob_loop (sl:=q0_gradineref15_Right) (F:=g0_gradineref15_Right) (fun x=>rfl) fun k ⟨⟨(x0:List (Int × Int × Int × Bool × (List Int) × List Int)),_⟩,⟨(x5:Int),_⟩,⟨(x6:Int),_⟩,_⟩=> ?_
    show LeT m_gradineref15_Right (gradineref15_Right.l0 (k+1) x0 x5 x6) _
    rw [gradineref15_Right.l0];exact go
   exact trivial)
  (fun k ⟨(a0:List (Int × Int × Int × Bool × (List Int) × List Int)),_⟩=>by show LeT m_gradineref15_Right (gradineref15_Right.f k a0) _;unfold gradineref15_Right.f;exact go)
end
section
def s_gradineref15_Form:FSpec:=⟨[.int .i64],[.bool],fun _ x=>(gradineref15_Form.f x.1).map fun r=>(r,())⟩
def m_gradineref15_Form (r:Bool):TT s_gradineref15_Form.rs:=(r,())
theorem o_gradineref15_Form:FOk Tryz.prog 66 s_gradineref15_Form :=
 fn_of (Bt:=blook []) (l:= []) (C:=noCuts) (by kernel_rfl) tab_ok trivial (fn:=Tryz.f66) (by kernel_rfl) rfl (by kernel_rfl) (by decide) (by kernel_rfl) (F:=fun k x=>gradineref15_Form.f x.1) (m:=m_gradineref15_Form) (fun k x=>rfl)
  (by exact trivial)
  (fun k ⟨(a0:Int),_⟩=>by show LeT m_gradineref15_Form (gradineref15_Form.f a0) _;unfold gradineref15_Form.f;exact go)
end
section
attribute [local irreducible] gradineref02_Halves.f gradineref02_Whole.f
def s_gradineref03_Mul:FSpec:=⟨[(.row 73 (.int .u64)),(.row 73 (.int .u64))],[(.row 73 (.int .u64))],fun k x=>(gradineref03_Mul.f k x.1 x.2.1).map fun r=>(r,())⟩
def m_gradineref03_Mul (r:List Int):TT s_gradineref03_Mul.rs:=(r,())
@[reducible] def q0_gradineref03_Mul:List Slot:= [.tmp 5 [.ty (.row 73 (.int .u64))], .tmp 6 [.ty (.row 73 (.int .u64))], .tmp 7 [.own .mine 7 73 (.int .u64)], .tmp 23 [.ty (.int .i64)], .tmp 24 [.ty (.int .i64)]]
def g0_gradineref03_Mul (k:Nat) (x:TS q0_gradineref03_Mul):Option (List Int):=gradineref03_Mul.l0 k x.1.1 x.2.1.1 x.2.2.1.1 x.2.2.2.1.1 x.2.2.2.2.1.1
@[reducible] def q1_gradineref03_Mul:List Slot:= [.tmp 5 [.ty (.row 73 (.int .u64))], .tmp 6 [.ty (.row 73 (.int .u64))], .tmp 7 [.own .mine 7 73 (.int .u64)], .tmp 8 [.ty (.int .i64)], .tmp 9 [.ty (.int .u64)], .tmp 23 [.ty (.int .i64)], .tmp 24 [.ty (.int .i64)], .tmp 28 [.ty (.int .i64)], .tmp 29 [.ty (.int .i64)]]
def g1_gradineref03_Mul (k:Nat) (x:TS q1_gradineref03_Mul):Option (List Int):=gradineref03_Mul.l1 k x.1.1 x.2.1.1 x.2.2.1.1 x.2.2.2.1.1 x.2.2.2.2.1.1 x.2.2.2.2.2.1.1 x.2.2.2.2.2.2.1.1 x.2.2.2.2.2.2.2.1.1 x.2.2.2.2.2.2.2.2.1.1
def c_gradineref03_Mul:Cuts (TT s_gradineref03_Mul.rs):=⟨⟨70,70,[]⟩,lookC [(0,⟨q0_gradineref03_Mul,fun k x=>(g0_gradineref03_Mul k x).map m_gradineref03_Mul⟩),(1,⟨q1_gradineref03_Mul,fun k x=>(g1_gradineref03_Mul k x).map m_gradineref03_Mul⟩)],lookC [],lookC []⟩
theorem o_gradineref03_Mul:FOk Tryz.prog 73 s_gradineref03_Mul :=
 fn_of (Bt:=blook [(10,[0,0,0,6,14,0,0,96,224,510,1023,0,0,0,12288,30720,63488,131071,262143])]) (l:= [(128, .pu s_gradineref02_Halves),(129, .pu s_gradineref02_Whole)]) (C:=c_gradineref03_Mul) (by kernel_rfl) tab_ok ⟨o_gradineref02_Halves,o_gradineref02_Whole,trivial⟩ (fn:=Tryz.f73) (by kernel_rfl) rfl (by kernel_rfl) (by decide) (by kernel_rfl) (F:=fun k x=>gradineref03_Mul.f k x.1 x.2.1) (m:=m_gradineref03_Mul) (fun k x=>rfl)
  (by
   refine And.intro ?_ ?_
   ·refine ob_loop (sl:=q0_gradineref03_Mul) (F:=g0_gradineref03_Mul) (fun x=>rfl) fun k ⟨⟨(x5:List Int),_⟩,⟨(x6:List Int),_⟩,⟨(x7:List Int),_⟩,⟨(x23:Int),_⟩,⟨(x24:Int),_⟩,_⟩=> ?_
    show LeT m_gradineref03_Mul (gradineref03_Mul.l0 (k+1) x5 x6 x7 x23 x24) _
    rw [gradineref03_Mul.l0];exact go
   refine And.intro ?_ ?_
   ·refine ob_loop (sl:=q1_gradineref03_Mul) (F:=g1_gradineref03_Mul) (fun x=>rfl) fun k ⟨⟨(x5:List Int),_⟩,⟨(x6:List Int),_⟩,⟨(x7:List Int),_⟩,⟨(x8:Int),_⟩,⟨(x9:Int),_⟩,⟨(x23:Int),_⟩,⟨(x24:Int),_⟩,⟨(x28:Int),_⟩,⟨(x29:Int),_⟩,_⟩=> ?_
    show LeT m_gradineref03_Mul (gradineref03_Mul.l1 (k+1) x5 x6 x7 x8 x9 x23 x24 x28 x29) _
    rw [gradineref03_Mul.l1];exact go
   exact trivial)
  (fun k ⟨(a0:List Int),(a1:List Int),_⟩=>by show LeT m_gradineref03_Mul (gradineref03_Mul.f k a0 a1) _;unfold gradineref03_Mul.f;exact go)
end
section
attribute [local irreducible] gradineref02_Halves.f gradineref02_Whole.f gradineref02_at.f
def s_gradineref02_Add:FSpec:=⟨[(.row 73 (.int .u64)),(.row 73 (.int .u64))],[(.row 73 (.int .u64))],fun k x=>(gradineref02_Add.f k x.1 x.2.1).map fun r=>(r,())⟩
def m_gradineref02_Add (r:List Int):TT s_gradineref02_Add.rs:=(r,())
@[reducible] def q0_gradineref02_Add:List Slot:= [.tmp 5 [.ty (.row 73 (.int .u64))], .tmp 6 [.ty (.row 73 (.int .u64))], .tmp 7 [.own .mine 7 73 (.int .u64)], .tmp 8 [.ty (.int .u64)], .tmp 19 [.ty (.int .i64)], .tmp 20 [.ty (.int .i64)]]
def g0_gradineref02_Add (k:Nat) (x:TS q0_gradineref02_Add):Option (List Int):=gradineref02_Add.l0 k x.1.1 x.2.1.1 x.2.2.1.1 x.2.2.2.1.1 x.2.2.2.2.1.1 x.2.2.2.2.2.1.1
def c_gradineref02_Add:Cuts (TT s_gradineref02_Add.rs):=⟨⟨42,42,[]⟩,lookC [(0,⟨q0_gradineref02_Add,fun k x=>(g0_gradineref02_Add k x).map m_gradineref02_Add⟩)],lookC [],lookC []⟩
theorem o_gradineref02_Add:FOk Tryz.prog 74 s_gradineref02_Add :=
 fn_of (Bt:=blook []) (l:= [(128, .pu s_gradineref02_Halves),(129, .pu s_gradineref02_Whole),(130, .pu s_gradineref02_at)]) (C:=c_gradineref02_Add) (by kernel_rfl) tab_ok ⟨o_gradineref02_Halves,o_gradineref02_Whole,o_gradineref02_at,trivial⟩ (fn:=Tryz.f74) (by kernel_rfl) rfl (by kernel_rfl) (by decide) (by kernel_rfl) (F:=fun k x=>gradineref02_Add.f k x.1 x.2.1) (m:=m_gradineref02_Add) (fun k x=>rfl)
  (by
   refine And.intro ?_ ?_
   ·refine ob_loop (sl:=q0_gradineref02_Add) (F:=g0_gradineref02_Add) (fun x=>rfl) fun k ⟨⟨(x5:List Int),_⟩,⟨(x6:List Int),_⟩,⟨(x7:List Int),_⟩,⟨(x8:Int),_⟩,⟨(x19:Int),_⟩,⟨(x20:Int),_⟩,_⟩=> ?_
    show LeT m_gradineref02_Add (gradineref02_Add.l0 (k+1) x5 x6 x7 x8 x19 x20) _
    rw [gradineref02_Add.l0];exact go
   exact trivial)
  (fun k ⟨(a0:List Int),(a1:List Int),_⟩=>by show LeT m_gradineref02_Add (gradineref02_Add.f k a0 a1) _;unfold gradineref02_Add.f;exact go)
end
section
attribute [local irreducible] gradineref07_Make.f gradineref03_Mul.f gradineref02_Add.f gradineref02_Cmp.f gradineref02_Sub.f
def s_gradineref07_Add:FSpec:=⟨[(.cons .bool (.cons (.row 73 (.int .u64)) (.row 73 (.int .u64)))),(.cons .bool (.cons (.row 73 (.int .u64)) (.row 73 (.int .u64))))],[(.cons .bool (.cons (.row 73 (.int .u64)) (.row 73 (.int .u64))))],fun k x=>(gradineref07_Add.f k x.1.1 x.1.2.1 x.1.2.2 x.2.1.1 x.2.1.2.1 x.2.1.2.2).map fun r=>((r.1,r.2.1,r.2.2),())⟩
def m_gradineref07_Add (r:Bool × List Int × List Int):TT s_gradineref07_Add.rs:=((r.1,r.2.1,r.2.2),())
theorem o_gradineref07_Add:FOk Tryz.prog 23 s_gradineref07_Add :=
 fn_of (Bt:=blook [(5,[0,1,0,0,12,0,63,127]),(7,[0,1,0,0,12,0,63,127]),(8,[0,1,0,0,12,0,63,127])]) (l:= [(72, .pu s_gradineref07_Make),(73, .pu s_gradineref03_Mul),(74, .pu s_gradineref02_Add),(75, .pu s_gradineref02_Cmp),(76, .pu s_gradineref02_Sub)]) (C:=noCuts) (by kernel_rfl) tab_ok ⟨o_gradineref07_Make,o_gradineref03_Mul,o_gradineref02_Add,o_gradineref02_Cmp,o_gradineref02_Sub,trivial⟩ (fn:=Tryz.f23) (by kernel_rfl) rfl (by kernel_rfl) (by decide) (by kernel_rfl) (F:=fun k x=>gradineref07_Add.f k x.1.1 x.1.2.1 x.1.2.2 x.2.1.1 x.2.1.2.1 x.2.1.2.2) (m:=m_gradineref07_Add) (fun k x=>rfl)
  (by exact trivial)
  (fun k ⟨(a0:Bool × List Int × List Int),(a1:Bool × List Int × List Int),_⟩=>by show LeT m_gradineref07_Add (gradineref07_Add.f k a0.1 a0.2.1 a0.2.2 a1.1 a1.2.1 a1.2.2) _;unfold gradineref07_Add.f;exact go)
end
section
attribute [local irreducible] gradineref07_Make.f gradineref03_Mul.f
def s_gradineref07_Mul:FSpec:=⟨[(.cons .bool (.cons (.row 73 (.int .u64)) (.row 73 (.int .u64)))),(.cons .bool (.cons (.row 73 (.int .u64)) (.row 73 (.int .u64))))],[(.cons .bool (.cons (.row 73 (.int .u64)) (.row 73 (.int .u64))))],fun k x=>(gradineref07_Mul.f k x.1.1 x.1.2.1 x.1.2.2 x.2.1.1 x.2.1.2.1 x.2.1.2.2).map fun r=>((r.1,r.2.1,r.2.2),())⟩
def m_gradineref07_Mul (r:Bool × List Int × List Int):TT s_gradineref07_Mul.rs:=((r.1,r.2.1,r.2.2),())
theorem o_gradineref07_Mul:FOk Tryz.prog 24 s_gradineref07_Mul :=
 fn_of (Bt:=blook [(1,[0,1,0,4,15,0,32,0,128,480,0,1024,0,4096,16352,32767,65535])]) (l:= [(72, .pu s_gradineref07_Make),(73, .pu s_gradineref03_Mul)]) (C:=noCuts) (by kernel_rfl) tab_ok ⟨o_gradineref07_Make,o_gradineref03_Mul,trivial⟩ (fn:=Tryz.f24) (by kernel_rfl) rfl (by kernel_rfl) (by decide) (by kernel_rfl) (F:=fun k x=>gradineref07_Mul.f k x.1.1 x.1.2.1 x.1.2.2 x.2.1.1 x.2.1.2.1 x.2.1.2.2) (m:=m_gradineref07_Mul) (fun k x=>rfl)
  (by exact trivial)
  (fun k ⟨(a0:Bool × List Int × List Int),(a1:Bool × List Int × List Int),_⟩=>by show LeT m_gradineref07_Mul (gradineref07_Mul.f k a0.1 a0.2.1 a0.2.2 a1.1 a1.2.1 a1.2.2) _;unfold gradineref07_Mul.f;exact go)
end
section
attribute [local irreducible] gradineref07_Make.f gradineref03_Mul.f
def s_gradineref07_Div:FSpec:=⟨[(.cons .bool (.cons (.row 73 (.int .u64)) (.row 73 (.int .u64)))),(.cons .bool (.cons (.row 73 (.int .u64)) (.row 73 (.int .u64))))],[(.cons .bool (.cons (.row 73 (.int .u64)) (.row 73 (.int .u64))))],fun k x=>(gradineref07_Div.f k x.1.1 x.1.2.1 x.1.2.2 x.2.1.1 x.2.1.2.1 x.2.1.2.2).map fun r=>((r.1,r.2.1,r.2.2),())⟩
def m_gradineref07_Div (r:Bool × List Int × List Int):TT s_gradineref07_Div.rs:=((r.1,r.2.1,r.2.2),())
theorem o_gradineref07_Div:FOk Tryz.prog 53 s_gradineref07_Div :=
 fn_of (Bt:=blook [(1,[0,1,0,4,15,0,32,0,128,480,0,1024,0,4096,16352,32767,65535])]) (l:= [(72, .pu s_gradineref07_Make),(73, .pu s_gradineref03_Mul)]) (C:=noCuts) (by kernel_rfl) tab_ok ⟨o_gradineref07_Make,o_gradineref03_Mul,trivial⟩ (fn:=Tryz.f53) (by kernel_rfl) rfl (by kernel_rfl) (by decide) (by kernel_rfl) (F:=fun k x=>gradineref07_Div.f k x.1.1 x.1.2.1 x.1.2.2 x.2.1.1 x.2.1.2.1 x.2.1.2.2) (m:=m_gradineref07_Div) (fun k x=>rfl)
  (by exact trivial)
  (fun k ⟨(a0:Bool × List Int × List Int),(a1:Bool × List Int × List Int),_⟩=>by show LeT m_gradineref07_Div (gradineref07_Div.f k a0.1 a0.2.1 a0.2.2 a1.1 a1.2.1 a1.2.2) _;unfold gradineref07_Div.f;exact go)
end
section
attribute [local irreducible] gradineref07_Make.f
def s_gradineref07_Neg:FSpec:=⟨[(.cons .bool (.cons (.row 73 (.int .u64)) (.row 73 (.int .u64))))],[(.cons .bool (.cons (.row 73 (.int .u64)) (.row 73 (.int .u64))))],fun k x=>(gradineref07_Neg.f k x.1.1 x.1.2.1 x.1.2.2).map fun r=>((r.1,r.2.1,r.2.2),())⟩
def m_gradineref07_Neg (r:Bool × List Int × List Int):TT s_gradineref07_Neg.rs:=((r.1,r.2.1,r.2.2),())
theorem o_gradineref07_Neg:FOk Tryz.prog 121 s_gradineref07_Neg :=
 fn_of (Bt:=blook []) (l:= [(72, .pu s_gradineref07_Make)]) (C:=noCuts) (by kernel_rfl) tab_ok ⟨o_gradineref07_Make,trivial⟩ (fn:=Tryz.f121) (by kernel_rfl) rfl (by kernel_rfl) (by decide) (by kernel_rfl) (F:=fun k x=>gradineref07_Neg.f k x.1.1 x.1.2.1 x.1.2.2) (m:=m_gradineref07_Neg) (fun k x=>rfl)
  (by exact trivial)
  (fun k ⟨(a0:Bool × List Int × List Int),_⟩=>by show LeT m_gradineref07_Neg (gradineref07_Neg.f k a0.1 a0.2.1 a0.2.2) _;unfold gradineref07_Neg.f;exact go)
end
section
attribute [local irreducible] gradineref07_Add.f gradineref07_Neg.f
def s_gradineref07_Sub:FSpec:=⟨[(.cons .bool (.cons (.row 73 (.int .u64)) (.row 73 (.int .u64)))),(.cons .bool (.cons (.row 73 (.int .u64)) (.row 73 (.int .u64))))],[(.cons .bool (.cons (.row 73 (.int .u64)) (.row 73 (.int .u64))))],fun k x=>(gradineref07_Sub.f k x.1.1 x.1.2.1 x.1.2.2 x.2.1.1 x.2.1.2.1 x.2.1.2.2).map fun r=>((r.1,r.2.1,r.2.2),())⟩
def m_gradineref07_Sub (r:Bool × List Int × List Int):TT s_gradineref07_Sub.rs:=((r.1,r.2.1,r.2.2),())
theorem o_gradineref07_Sub:FOk Tryz.prog 122 s_gradineref07_Sub :=
 fn_of (Bt:=blook [(1,[0,0,2,7,15])]) (l:= [(23, .pu s_gradineref07_Add),(121, .pu s_gradineref07_Neg)]) (C:=noCuts) (by kernel_rfl) tab_ok ⟨o_gradineref07_Add,o_gradineref07_Neg,trivial⟩ (fn:=Tryz.f122) (by kernel_rfl) rfl (by kernel_rfl) (by decide) (by kernel_rfl) (F:=fun k x=>gradineref07_Sub.f k x.1.1 x.1.2.1 x.1.2.2 x.2.1.1 x.2.1.2.1 x.2.1.2.2) (m:=m_gradineref07_Sub) (fun k x=>rfl)
  (by exact trivial)
  (fun k ⟨(a0:Bool × List Int × List Int),(a1:Bool × List Int × List Int),_⟩=>by show LeT m_gradineref07_Sub (gradineref07_Sub.f k a0.1 a0.2.1 a0.2.2 a1.1 a1.2.1 a1.2.2) _;unfold gradineref07_Sub.f;exact go)
end
section
def s_gradineref07_Zero:FSpec:=⟨[(.cons .bool (.cons (.row 73 (.int .u64)) (.row 73 (.int .u64))))],[.bool],fun _ x=>(gradineref07_Zero.f x.1.1 x.1.2.1 x.1.2.2).map fun r=>(r,())⟩
def m_gradineref07_Zero (r:Bool):TT s_gradineref07_Zero.rs:=(r,())
theorem o_gradineref07_Zero:FOk Tryz.prog 123 s_gradineref07_Zero :=
 fn_of (Bt:=blook []) (l:= []) (C:=noCuts) (by kernel_rfl) tab_ok trivial (fn:=Tryz.f123) (by kernel_rfl) rfl (by kernel_rfl) (by decide) (by kernel_rfl) (F:=fun k x=>gradineref07_Zero.f x.1.1 x.1.2.1 x.1.2.2) (m:=m_gradineref07_Zero) (fun k x=>rfl)
  (by exact trivial)
  (fun k ⟨(a0:Bool × List Int × List Int),_⟩=>by show LeT m_gradineref07_Zero (gradineref07_Zero.f a0.1 a0.2.1 a0.2.2) _;unfold gradineref07_Zero.f;exact go)
end
section
attribute [local irreducible] gradineref07_Add.f gradineref07_Mul.f gradineref07_Div.f gradineref07_Neg.f gradineref07_Sub.f gradineref07_Zero.f
def s_gradineref16_step:ISpec:=⟨[.ty (.cons (.int .i64) (.cons (.int .i64) (.cons (.int .i64) (.cons .bool (.cons (.row 73 (.int .u64)) (.row 73 (.int .u64))))))), .bor 45 (.cons .bool (.cons (.row 73 (.int .u64)) (.row 73 (.int .u64))))],[(.cons .bool (.cons (.row 73 (.int .u64)) (.row 73 (.int .u64)))), .int .i64],fun k x=>(gradineref16_step.f k x.1.1 x.1.2.1 x.1.2.2.1 x.1.2.2.2.1 x.1.2.2.2.2.1 x.1.2.2.2.2.2 x.2.1).map fun r=>(((r.1,(r.2.1,r.2.2.1)),r.2.2.2.1,()),(r.2.2.2.2,()))⟩
def m_gradineref16_step (r:Bool × List Int × List Int × Int × List (Bool × (List Int) × List Int)):TT s_gradineref16_step.rs × ET s_gradineref16_step.ps:=(((r.1,(r.2.1,r.2.2.1)),r.2.2.2.1,()),(r.2.2.2.2,()))
def c_gradineref16_step:Cuts (TT s_gradineref16_step.rs × ET s_gradineref16_step.ps):=⟨⟨47,48,[47]⟩,lookC [],lookC [],lookC []⟩
theorem o_gradineref16_step:FIk Tryz.prog 67 s_gradineref16_step :=
 fi_of (Bt:=blook []) (l:= [(23, .pu s_gradineref07_Add),(24, .pu s_gradineref07_Mul),(53, .pu s_gradineref07_Div),(121, .pu s_gradineref07_Neg),(122, .pu s_gradineref07_Sub),(123, .pu s_gradineref07_Zero)]) (C:=c_gradineref16_step) (by kernel_rfl) tab_ok ⟨o_gradineref07_Add,o_gradineref07_Mul,o_gradineref07_Div,o_gradineref07_Neg,o_gradineref07_Sub,o_gradineref07_Zero,trivial⟩ (fn:=Tryz.f67) (by kernel_rfl) rfl (by kernel_rfl) (by decide) (by kernel_rfl) (m:=48) (by decide) (by decide) (F:=fun k x=>gradineref16_step.f k x.1.1 x.1.2.1 x.1.2.2.1 x.1.2.2.2.1 x.1.2.2.2.2.1 x.1.2.2.2.2.2 x.2.1) (q:=m_gradineref16_step) (fun k x=>rfl)
  (by exact trivial)
  (fun k ⟨(a0:Int × Int × Int × Bool × (List Int) × List Int),(a1:List (Bool × (List Int) × List Int)),_⟩=>by show LeT m_gradineref16_step (gradineref16_step.f k a0.1 a0.2.1 a0.2.2.1 a0.2.2.2.1 a0.2.2.2.2.1 a0.2.2.2.2.2 a1) _;unfold gradineref16_step.f;exact go)
end
section
attribute [local irreducible] gradineref02_Bits.f
def s_gradineref08_Bits:FSpec:=⟨[(.cons .bool (.cons (.row 73 (.int .u64)) (.row 73 (.int .u64))))],[.int .i64],fun k x=>(gradineref08_Bits.f k x.1.1 x.1.2.1 x.1.2.2).map fun r=>(r,())⟩
def m_gradineref08_Bits (r:Int):TT s_gradineref08_Bits.rs:=(r,())
theorem o_gradineref08_Bits:FOk Tryz.prog 68 s_gradineref08_Bits :=
 fn_of (Bt:=blook [(1,[0,1,3,0,8,31,63,127])]) (l:= [(124, .pu s_gradineref02_Bits)]) (C:=noCuts) (by kernel_rfl) tab_ok ⟨o_gradineref02_Bits,trivial⟩ (fn:=Tryz.f68) (by kernel_rfl) rfl (by kernel_rfl) (by decide) (by kernel_rfl) (F:=fun k x=>gradineref08_Bits.f k x.1.1 x.1.2.1 x.1.2.2) (m:=m_gradineref08_Bits) (fun k x=>rfl)
  (by exact trivial)
  (fun k ⟨(a0:Bool × List Int × List Int),_⟩=>by show LeT m_gradineref08_Bits (gradineref08_Bits.f k a0.1 a0.2.1 a0.2.2) _;unfold gradineref08_Bits.f;exact go)
end
section
attribute [local irreducible] gradineref16_Rats.f gradineref15_Right.f gradineref15_Form.f gradineref16_step.f gradineref08_Bits.f
def s_gradineref16_Exact:FSpec:=⟨[(.row 93 (.cons (.int .i64) (.cons (.int .i64) (.cons (.int .i64) (.cons .bool (.cons (.row 73 (.int .u64)) (.row 73 (.int .u64)))))))),(.row 45 (.cons .bool (.cons (.row 73 (.int .u64)) (.row 73 (.int .u64))))),(.row 45 (.cons .bool (.cons (.row 73 (.int .u64)) (.row 73 (.int .u64)))))],[(.row 45 (.cons .bool (.cons (.row 73 (.int .u64)) (.row 73 (.int .u64))))), .int .i64, .int .i64],fun k x=>(gradineref16_Exact.f k x.1 x.2.1 x.2.2.1).map fun r=>(r.1,r.2.1,r.2.2,())⟩
def m_gradineref16_Exact (r:List (Bool × List Int × List Int) × Int × Int):TT s_gradineref16_Exact.rs:=(r.1,r.2.1,r.2.2,())
@[reducible] def q0_gradineref16_Exact:List Slot:= [.tmp 0 [.ty (.row 93 (.cons (.int .i64) (.cons (.int .i64) (.cons (.int .i64) (.cons .bool (.cons (.row 73 (.int .u64)) (.row 73 (.int .u64))))))))], .tmp 1 [.ty (.row 45 (.cons .bool (.cons (.row 73 (.int .u64)) (.row 73 (.int .u64)))))], .tmp 2 [.ty (.row 45 (.cons .bool (.cons (.row 73 (.int .u64)) (.row 73 (.int .u64)))))], .tmp 9 [.own .mine 9 45 (.cons .bool (.cons (.row 73 (.int .u64)) (.row 73 (.int .u64))))], .tmp 10 [.ty (.int .i64)], .tmp 29 [.ty (.int .i64)], .tmp 30 [.ty (.int .i64)]]
def g0_gradineref16_Exact (k:Nat) (x:TS q0_gradineref16_Exact):Option (List (Bool × List Int × List Int) × Int × Int):=gradineref16_Exact.l0 k x.1.1 x.2.1.1 x.2.2.1.1 x.2.2.2.1.1 x.2.2.2.2.1.1 x.2.2.2.2.2.1.1 x.2.2.2.2.2.2.1.1
@[reducible] def q1_gradineref16_Exact:List Slot:= []
def g1_gradineref16_Exact (k:Nat) (x:TS q1_gradineref16_Exact):Option (List (Bool × List Int × List Int) × Int × Int):=gradineref16_Exact.j2 k 
@[reducible] def q2_gradineref16_Exact:List Slot:= [.tmp 0 [.ty (.row 93 (.cons (.int .i64) (.cons (.int .i64) (.cons (.int .i64) (.cons .bool (.cons (.row 73 (.int .u64)) (.row 73 (.int .u64))))))))], .tmp 1 [.ty (.row 45 (.cons .bool (.cons (.row 73 (.int .u64)) (.row 73 (.int .u64)))))], .tmp 2 [.ty (.row 45 (.cons .bool (.cons (.row 73 (.int .u64)) (.row 73 (.int .u64)))))], .tmp 9 [.own .mine 9 45 (.cons .bool (.cons (.row 73 (.int .u64)) (.row 73 (.int .u64))))], .tmp 10 [.ty (.int .i64)], .tmp 11 [.ty (.int .i64)], .tmp 13 [.ptr 13 0], .tmp 14 [.ty (.int .i64)], .tmp 29 [.ty (.int .i64)], .tmp 30 [.ty (.int .i64)], .blk 13 .mine 45 [.ty .bool, .ty (.row 73 (.int .u64)), .ty (.row 73 (.int .u64))]]
def g2_gradineref16_Exact (k:Nat) (x:TS q2_gradineref16_Exact):Option (List (Bool × List Int × List Int) × Int × Int):=gradineref16_Exact.j23 k x.1.1 x.2.1.1 x.2.2.1.1 x.2.2.2.1.1 x.2.2.2.2.1.1 x.2.2.2.2.2.1.1 x.2.2.2.2.2.2.2.1.1 x.2.2.2.2.2.2.2.2.1.1 x.2.2.2.2.2.2.2.2.2.1.1 x.2.2.2.2.2.2.2.2.2.2.1.1 x.2.2.2.2.2.2.2.2.2.2.1.2.1 x.2.2.2.2.2.2.2.2.2.2.1.2.2.1
@[reducible] def q3_gradineref16_Exact:List Slot:= [.tmp 0 [.ty (.row 93 (.cons (.int .i64) (.cons (.int .i64) (.cons (.int .i64) (.cons .bool (.cons (.row 73 (.int .u64)) (.row 73 (.int .u64))))))))], .tmp 1 [.ty (.row 45 (.cons .bool (.cons (.row 73 (.int .u64)) (.row 73 (.int .u64)))))], .tmp 2 [.ty (.row 45 (.cons .bool (.cons (.row 73 (.int .u64)) (.row 73 (.int .u64)))))], .tmp 9 [.own .mine 9 45 (.cons .bool (.cons (.row 73 (.int .u64)) (.row 73 (.int .u64))))], .tmp 10 [.ty (.int .i64)], .tmp 11 [.ty (.int .i64)], .tmp 13 [.ptr 13 0], .tmp 14 [.ty (.int .i64)], .tmp 29 [.ty (.int .i64)], .tmp 30 [.ty (.int .i64)], .blk 13 .mine 45 [.ty .bool, .ty (.row 73 (.int .u64)), .ty (.row 73 (.int .u64))]]
def g3_gradineref16_Exact (k:Nat) (x:TS q3_gradineref16_Exact):Option (List (Bool × List Int × List Int) × Int × Int):=gradineref16_Exact.j25 k x.1.1 x.2.1.1 x.2.2.1.1 x.2.2.2.1.1 x.2.2.2.2.1.1 x.2.2.2.2.2.1.1 x.2.2.2.2.2.2.2.1.1 x.2.2.2.2.2.2.2.2.1.1 x.2.2.2.2.2.2.2.2.2.1.1 x.2.2.2.2.2.2.2.2.2.2.1.1 x.2.2.2.2.2.2.2.2.2.2.1.2.1 x.2.2.2.2.2.2.2.2.2.2.1.2.2.1
def c_gradineref16_Exact:Cuts (TT s_gradineref16_Exact.rs):=⟨⟨94,95,[]⟩,lookC [(0,⟨q0_gradineref16_Exact,fun k x=>(g0_gradineref16_Exact k x).map m_gradineref16_Exact⟩)],lookC [(2,⟨q1_gradineref16_Exact,fun k x=>(g1_gradineref16_Exact k x).map m_gradineref16_Exact⟩),(23,⟨q2_gradineref16_Exact,fun k x=>(g2_gradineref16_Exact k x).map m_gradineref16_Exact⟩),(25,⟨q3_gradineref16_Exact,fun k x=>(g3_gradineref16_Exact k x).map m_gradineref16_Exact⟩)],lookC []⟩
theorem o_gradineref16_Exact:FOk Tryz.prog 20 s_gradineref16_Exact :=
 fn_of (Bt:=blook []) (l:= [(19, .pu s_gradineref16_Rats),(35, .pu s_gradineref15_Right),(66, .pu s_gradineref15_Form),(67, .io s_gradineref16_step [(74,94)]),(68, .pu s_gradineref08_Bits)]) (C:=c_gradineref16_Exact) (by kernel_rfl) tab_ok ⟨o_gradineref16_Rats,o_gradineref15_Right,o_gradineref15_Form,o_gradineref16_step,o_gradineref08_Bits,trivial⟩ (fn:=Tryz.f20) (by kernel_rfl) rfl (by kernel_rfl) (by decide) (by kernel_rfl) (F:=fun k x=>gradineref16_Exact.f k x.1 x.2.1 x.2.2.1) (m:=m_gradineref16_Exact) (fun k x=>rfl)
  (by
   refine And.intro ?_ ?_
   ·refine ob_join1 (sl:=q1_gradineref16_Exact) (F:=g1_gradineref16_Exact) (fun x=>rfl) fun k _=> ?_
    show LeT m_gradineref16_Exact (gradineref16_Exact.j2 (k+1)) _
    rw [gradineref16_Exact.j2];exact go
   refine And.intro ?_ ?_
   ·refine ob_loop (sl:=q0_gradineref16_Exact) (F:=g0_gradineref16_Exact) (fun x=>rfl) fun k ⟨⟨(x0:List (Int × Int × Int × Bool × (List Int) × List Int)),_⟩,⟨(x1:List (Bool × (List Int) × List Int)),_⟩,⟨(x2:List (Bool × (List Int) × List Int)),_⟩,⟨(x9:List (Bool × (List Int) × List Int)),_⟩,⟨(x10:Int),_⟩,⟨(x29:Int),_⟩,⟨(x30:Int),_⟩,_⟩=> ?_
    show LeT m_gradineref16_Exact (gradineref16_Exact.l0 (k+1) x0 x1 x2 x9 x10 x29 x30) _
    rw [gradineref16_Exact.l0];exact go
   refine And.intro ?_ ?_
   ·refine ob_join1 (sl:=q2_gradineref16_Exact) (F:=g2_gradineref16_Exact) (fun x=>rfl) fun k ⟨⟨(x0:List (Int × Int × Int × Bool × (List Int) × List Int)),_⟩,⟨(x1:List (Bool × (List Int) × List Int)),_⟩,⟨(x2:List (Bool × (List Int) × List Int)),_⟩,⟨(x9:List (Bool × (List Int) × List Int)),_⟩,⟨(x10:Int),_⟩,⟨(x11:Int),_⟩,_,⟨(x14:Int),_⟩,⟨(x29:Int),_⟩,⟨(x30:Int),_⟩,⟨(v13_0:Bool),(v13_1:List Int),(v13_2:List Int),_⟩,_⟩=> ?_
    show LeT m_gradineref16_Exact (gradineref16_Exact.j23 (k+1) x0 x1 x2 x9 x10 x11 x14 x29 x30 v13_0 v13_1 v13_2) _
    rw [gradineref16_Exact.j23];exact go
   refine And.intro ?_ ?_
   ·refine ob_join1 (sl:=q3_gradineref16_Exact) (F:=g3_gradineref16_Exact) (fun x=>rfl) fun k ⟨⟨(x0:List (Int × Int × Int × Bool × (List Int) × List Int)),_⟩,⟨(x1:List (Bool × (List Int) × List Int)),_⟩,⟨(x2:List (Bool × (List Int) × List Int)),_⟩,⟨(x9:List (Bool × (List Int) × List Int)),_⟩,⟨(x10:Int),_⟩,⟨(x11:Int),_⟩,_,⟨(x14:Int),_⟩,⟨(x29:Int),_⟩,⟨(x30:Int),_⟩,⟨(v13_0:Bool),(v13_1:List Int),(v13_2:List Int),_⟩,_⟩=> ?_
    show LeT m_gradineref16_Exact (gradineref16_Exact.j25 (k+1) x0 x1 x2 x9 x10 x11 x14 x29 x30 v13_0 v13_1 v13_2) _
    rw [gradineref16_Exact.j25];exact go
   exact trivial)
  (fun k ⟨(a0:List (Int × Int × Int × Bool × (List Int) × List Int)),(a1:List (Bool × (List Int) × List Int)),(a2:List (Bool × (List Int) × List Int)),_⟩=>by show LeT m_gradineref16_Exact (gradineref16_Exact.f k a0 a1 a2) _;unfold gradineref16_Exact.f;exact go)
end
section
def s_gradineref15_Inputs:FSpec:=⟨[(.row 93 (.cons (.int .i64) (.cons (.int .i64) (.cons (.int .i64) (.cons .bool (.cons (.row 73 (.int .u64)) (.row 73 (.int .u64))))))))],[.int .i64],fun k x=>(gradineref15_Inputs.f k x.1).map fun r=>(r,())⟩
def m_gradineref15_Inputs (r:Int):TT s_gradineref15_Inputs.rs:=(r,())
@[reducible] def q0_gradineref15_Inputs:List Slot:= [.tmp 0 [.ty (.row 93 (.cons (.int .i64) (.cons (.int .i64) (.cons (.int .i64) (.cons .bool (.cons (.row 73 (.int .u64)) (.row 73 (.int .u64))))))))], .tmp 3 [.ty (.int .i64)], .tmp 6 [.ty (.int .i64)], .tmp 7 [.ty (.int .i64)]]
def g0_gradineref15_Inputs (k:Nat) (x:TS q0_gradineref15_Inputs):Option (Int):=gradineref15_Inputs.l0 k x.1.1 x.2.1.1 x.2.2.1.1 x.2.2.2.1.1
def c_gradineref15_Inputs:Cuts (TT s_gradineref15_Inputs.rs):=⟨⟨34,34,[]⟩,lookC [(0,⟨q0_gradineref15_Inputs,fun k x=>(g0_gradineref15_Inputs k x).map m_gradineref15_Inputs⟩)],lookC [],lookC []⟩
theorem o_gradineref15_Inputs:FOk Tryz.prog 69 s_gradineref15_Inputs :=
 fn_of (Bt:=blook []) (l:= []) (C:=c_gradineref15_Inputs) (by kernel_rfl) tab_ok trivial (fn:=Tryz.f69) (by kernel_rfl) rfl (by kernel_rfl) (by decide) (by kernel_rfl) (F:=fun k x=>gradineref15_Inputs.f k x.1) (m:=m_gradineref15_Inputs) (fun k x=>rfl)
  (by
   refine And.intro ?_ ?_
   ·refine ob_loop (sl:=q0_gradineref15_Inputs) (F:=g0_gradineref15_Inputs) (fun x=>rfl) fun k ⟨⟨(x0:List (Int × Int × Int × Bool × (List Int) × List Int)),_⟩,⟨(x3:Int),_⟩,⟨(x6:Int),_⟩,⟨(x7:Int),_⟩,_⟩=> ?_
    show LeT m_gradineref15_Inputs (gradineref15_Inputs.l0 (k+1) x0 x3 x6 x7) _
    rw [gradineref15_Inputs.l0];exact go
   exact trivial)
  (fun k ⟨(a0:List (Int × Int × Int × Bool × (List Int) × List Int)),_⟩=>by show LeT m_gradineref15_Inputs (gradineref15_Inputs.f k a0) _;unfold gradineref15_Inputs.f;exact go)
end
section
attribute [local irreducible] gradineref07_Add.f
def s_gradineref17_twice:FSpec:=⟨[(.cons .bool (.cons (.row 73 (.int .u64)) (.row 73 (.int .u64))))],[(.cons .bool (.cons (.row 73 (.int .u64)) (.row 73 (.int .u64))))],fun k x=>(gradineref17_twice.f k x.1.1 x.1.2.1 x.1.2.2).map fun r=>((r.1,r.2.1,r.2.2),())⟩
def m_gradineref17_twice (r:Bool × List Int × List Int):TT s_gradineref17_twice.rs:=((r.1,r.2.1,r.2.2),())
theorem o_gradineref17_twice:FOk Tryz.prog 125 s_gradineref17_twice :=
 fn_of (Bt:=blook []) (l:= [(23, .pu s_gradineref07_Add)]) (C:=noCuts) (by kernel_rfl) tab_ok ⟨o_gradineref07_Add,trivial⟩ (fn:=Tryz.f125) (by kernel_rfl) rfl (by kernel_rfl) (by decide) (by kernel_rfl) (F:=fun k x=>gradineref17_twice.f k x.1.1 x.1.2.1 x.1.2.2) (m:=m_gradineref17_twice) (fun k x=>rfl)
  (by exact trivial)
  (fun k ⟨(a0:Bool × List Int × List Int),_⟩=>by show LeT m_gradineref17_twice (gradineref17_twice.f k a0.1 a0.2.1 a0.2.2) _;unfold gradineref17_twice.f;exact go)
end
section
attribute [local irreducible] gradineref07_Mul.f gradineref07_Div.f gradineref07_Neg.f gradineref07_Zero.f gradineref17_twice.f
def s_gradineref17_Give:FSpec:=⟨[(.cons (.int .i64) (.cons (.int .i64) (.cons (.int .i64) (.cons .bool (.cons (.row 73 (.int .u64)) (.row 73 (.int .u64))))))),(.cons .bool (.cons (.row 73 (.int .u64)) (.row 73 (.int .u64)))),(.cons (.cons .bool (.cons (.row 73 (.int .u64)) (.row 73 (.int .u64)))) (.cons .bool (.cons (.row 73 (.int .u64)) (.row 73 (.int .u64))))),(.cons .bool (.cons (.row 73 (.int .u64)) (.row 73 (.int .u64))))],[(.cons .bool (.cons (.row 73 (.int .u64)) (.row 73 (.int .u64)))),(.cons .bool (.cons (.row 73 (.int .u64)) (.row 73 (.int .u64)))), .int .i64],fun k x=>(gradineref17_Give.f k x.1.1 x.1.2.1 x.1.2.2.1 x.1.2.2.2.1 x.1.2.2.2.2.1 x.1.2.2.2.2.2 x.2.1.1 x.2.1.2.1 x.2.1.2.2 x.2.2.1.1.1 x.2.2.1.1.2.1 x.2.2.1.1.2.2 x.2.2.1.2.1 x.2.2.1.2.2.1 x.2.2.1.2.2.2 x.2.2.2.1.1 x.2.2.2.1.2.1 x.2.2.2.1.2.2).map fun r=>((r.1,r.2.1,r.2.2.1),(r.2.2.2.1,r.2.2.2.2.1,r.2.2.2.2.2.1),r.2.2.2.2.2.2,())⟩
def m_gradineref17_Give (r:Bool × List Int × List Int × Bool × List Int × List Int × Int):TT s_gradineref17_Give.rs:=((r.1,r.2.1,r.2.2.1),(r.2.2.2.1,r.2.2.2.2.1,r.2.2.2.2.2.1),r.2.2.2.2.2.2,())
@[reducible] def q0_gradineref17_Give:List Slot:= [.tmp 4 [.ptr 4 0], .tmp 5 [.ptr 5 0], .tmp 7 [.ptr 7 0], .tmp 8 [.ptr 8 0], .tmp 9 [.ptr 9 0], .tmp 11 [.ptr 11 0], .blk 4 .mine 93 [.ty (.int .i64), .ty (.int .i64), .ty (.int .i64), .ty .bool, .ty (.row 73 (.int .u64)), .ty (.row 73 (.int .u64))], .blk 5 .mine 45 [.ty .bool, .ty (.row 73 (.int .u64)), .ty (.row 73 (.int .u64))], .blk 7 .mine 45 [.ty .bool, .ty (.row 73 (.int .u64)), .ty (.row 73 (.int .u64))], .blk 8 .mine 45 [.ty .bool, .own .mine 72 73 (.int .u64), .own .mine 73 73 (.int .u64)], .blk 9 .mine 45 [.ty .bool, .own .mine 74 73 (.int .u64), .own .mine 75 73 (.int .u64)], .blk 11 .mine 45 [.ty .bool, .ty (.row 73 (.int .u64)), .ty (.row 73 (.int .u64))]]
def g0_gradineref17_Give (k:Nat) (x:TS q0_gradineref17_Give):Option (Bool × List Int × List Int × Bool × List Int × List Int × Int):=gradineref17_Give.j14 k x.2.2.2.2.2.2.1.1 x.2.2.2.2.2.2.1.2.1 x.2.2.2.2.2.2.1.2.2.1 x.2.2.2.2.2.2.1.2.2.2.1 x.2.2.2.2.2.2.1.2.2.2.2.1 x.2.2.2.2.2.2.1.2.2.2.2.2.1 x.2.2.2.2.2.2.2.1.1 x.2.2.2.2.2.2.2.1.2.1 x.2.2.2.2.2.2.2.1.2.2.1 x.2.2.2.2.2.2.2.2.1.1 x.2.2.2.2.2.2.2.2.1.2.1 x.2.2.2.2.2.2.2.2.1.2.2.1 x.2.2.2.2.2.2.2.2.2.1.1 x.2.2.2.2.2.2.2.2.2.1.2.1 x.2.2.2.2.2.2.2.2.2.1.2.2.1 x.2.2.2.2.2.2.2.2.2.2.1.1 x.2.2.2.2.2.2.2.2.2.2.1.2.1 x.2.2.2.2.2.2.2.2.2.2.1.2.2.1 x.2.2.2.2.2.2.2.2.2.2.2.1.1 x.2.2.2.2.2.2.2.2.2.2.2.1.2.1 x.2.2.2.2.2.2.2.2.2.2.2.1.2.2.1
@[reducible] def q1_gradineref17_Give:List Slot:= [.tmp 5 [.ptr 5 0], .tmp 7 [.ptr 7 0], .tmp 8 [.ptr 8 0], .tmp 9 [.ptr 9 0], .tmp 11 [.ptr 11 0], .blk 5 .mine 45 [.ty .bool, .ty (.row 73 (.int .u64)), .ty (.row 73 (.int .u64))], .blk 7 .mine 45 [.ty .bool, .ty (.row 73 (.int .u64)), .ty (.row 73 (.int .u64))], .blk 8 .mine 45 [.ty .bool, .own .mine 72 73 (.int .u64), .own .mine 73 73 (.int .u64)], .blk 9 .mine 45 [.ty .bool, .own .mine 74 73 (.int .u64), .own .mine 75 73 (.int .u64)], .blk 11 .mine 45 [.ty .bool, .ty (.row 73 (.int .u64)), .ty (.row 73 (.int .u64))]]
def g1_gradineref17_Give (k:Nat) (x:TS q1_gradineref17_Give):Option (Bool × List Int × List Int × Bool × List Int × List Int × Int):=gradineref17_Give.j16 k x.2.2.2.2.2.1.1 x.2.2.2.2.2.1.2.1 x.2.2.2.2.2.1.2.2.1 x.2.2.2.2.2.2.1.1 x.2.2.2.2.2.2.1.2.1 x.2.2.2.2.2.2.1.2.2.1 x.2.2.2.2.2.2.2.1.1 x.2.2.2.2.2.2.2.1.2.1 x.2.2.2.2.2.2.2.1.2.2.1 x.2.2.2.2.2.2.2.2.1.1 x.2.2.2.2.2.2.2.2.1.2.1 x.2.2.2.2.2.2.2.2.1.2.2.1 x.2.2.2.2.2.2.2.2.2.1.1 x.2.2.2.2.2.2.2.2.2.1.2.1 x.2.2.2.2.2.2.2.2.2.1.2.2.1
def c_gradineref17_Give:Cuts (TT s_gradineref17_Give.rs):=⟨⟨72,76,[]⟩,lookC [],lookC [(14,⟨q0_gradineref17_Give,fun k x=>(g0_gradineref17_Give k x).map m_gradineref17_Give⟩),(16,⟨q1_gradineref17_Give,fun k x=>(g1_gradineref17_Give k x).map m_gradineref17_Give⟩)],lookC []⟩
theorem o_gradineref17_Give:FOk Tryz.prog 71 s_gradineref17_Give :=
 fn_of (Bt:=blook [(4,[0,0,1,7,15]),(6,[0,0,2,7,15,31]),(8,[0,0,2,7,0,0,32,127,255,511,1023]),(19,[0,0,0,6,14,31,63,127])]) (l:= [(24, .pu s_gradineref07_Mul),(53, .pu s_gradineref07_Div),(121, .pu s_gradineref07_Neg),(123, .pu s_gradineref07_Zero),(125, .pu s_gradineref17_twice)]) (C:=c_gradineref17_Give) (by kernel_rfl) tab_ok ⟨o_gradineref07_Mul,o_gradineref07_Div,o_gradineref07_Neg,o_gradineref07_Zero,o_gradineref17_twice,trivial⟩ (fn:=Tryz.f71) (by kernel_rfl) rfl (by kernel_rfl) (by decide) (by kernel_rfl) (F:=fun k x=>gradineref17_Give.f k x.1.1 x.1.2.1 x.1.2.2.1 x.1.2.2.2.1 x.1.2.2.2.2.1 x.1.2.2.2.2.2 x.2.1.1 x.2.1.2.1 x.2.1.2.2 x.2.2.1.1.1 x.2.2.1.1.2.1 x.2.2.1.1.2.2 x.2.2.1.2.1 x.2.2.1.2.2.1 x.2.2.1.2.2.2 x.2.2.2.1.1 x.2.2.2.1.2.1 x.2.2.2.1.2.2) (m:=m_gradineref17_Give) (fun k x=>rfl)
  (by
   refine And.intro ?_ ?_
   ·refine ob_join1 (sl:=q0_gradineref17_Give) (F:=g0_gradineref17_Give) (fun x=>rfl) fun k ⟨_,_,_,_,_,_,⟨(v4_0:Int),(v4_1:Int),(v4_2:Int),(v4_3:Bool),(v4_4:List Int),(v4_5:List Int),_⟩,⟨(v5_0:Bool),(v5_1:List Int),(v5_2:List Int),_⟩,⟨(v7_0:Bool),(v7_1:List Int),(v7_2:List Int),_⟩,⟨(v8_0:Bool),(v8_1:List Int),(v8_2:List Int),_⟩,⟨(v9_0:Bool),(v9_1:List Int),(v9_2:List Int),_⟩,⟨(v11_0:Bool),(v11_1:List Int),(v11_2:List Int),_⟩,_⟩=> ?_
    show LeT m_gradineref17_Give (gradineref17_Give.j14 (k+1) v4_0 v4_1 v4_2 v4_3 v4_4 v4_5 v5_0 v5_1 v5_2 v7_0 v7_1 v7_2 v8_0 v8_1 v8_2 v9_0 v9_1 v9_2 v11_0 v11_1 v11_2) _
    rw [gradineref17_Give.j14];exact go
   refine And.intro ?_ ?_
   ·refine ob_join1 (sl:=q1_gradineref17_Give) (F:=g1_gradineref17_Give) (fun x=>rfl) fun k ⟨_,_,_,_,_,⟨(v5_0:Bool),(v5_1:List Int),(v5_2:List Int),_⟩,⟨(v7_0:Bool),(v7_1:List Int),(v7_2:List Int),_⟩,⟨(v8_0:Bool),(v8_1:List Int),(v8_2:List Int),_⟩,⟨(v9_0:Bool),(v9_1:List Int),(v9_2:List Int),_⟩,⟨(v11_0:Bool),(v11_1:List Int),(v11_2:List Int),_⟩,_⟩=> ?_
    show LeT m_gradineref17_Give (gradineref17_Give.j16 (k+1) v5_0 v5_1 v5_2 v7_0 v7_1 v7_2 v8_0 v8_1 v8_2 v9_0 v9_1 v9_2 v11_0 v11_1 v11_2) _
    rw [gradineref17_Give.j16];exact go
   exact trivial)
  (fun k ⟨(a0:Int × Int × Int × Bool × (List Int) × List Int),(a1:Bool × (List Int) × List Int),(a2:(Bool × (List Int) × List Int) × Bool × (List Int) × List Int),(a3:Bool × (List Int) × List Int),_⟩=>by show LeT m_gradineref17_Give (gradineref17_Give.f k a0.1 a0.2.1 a0.2.2.1 a0.2.2.2.1 a0.2.2.2.2.1 a0.2.2.2.2.2 a1.1 a1.2.1 a1.2.2 a2.1.1 a2.1.2.1 a2.1.2.2 a2.2.1 a2.2.2.1 a2.2.2.2 a3.1 a3.2.1 a3.2.2) _;unfold gradineref17_Give.f;exact go)
end
section
attribute [local irreducible] gradineref07_Of.f gradineref07_Add.f gradineref08_Bits.f gradineref15_Inputs.f gradineref15_Arity.f gradineref17_Give.f
def s_gradineref17_Back:FSpec:=⟨[(.row 93 (.cons (.int .i64) (.cons (.int .i64) (.cons (.int .i64) (.cons .bool (.cons (.row 73 (.int .u64)) (.row 73 (.int .u64)))))))),(.row 45 (.cons .bool (.cons (.row 73 (.int .u64)) (.row 73 (.int .u64))))),(.row 3 (.int .i64)),(.row 45 (.cons .bool (.cons (.row 73 (.int .u64)) (.row 73 (.int .u64)))))],[(.row 45 (.cons .bool (.cons (.row 73 (.int .u64)) (.row 73 (.int .u64))))), .int .i64, .int .i64],fun k x=>(gradineref17_Back.f k x.1 x.2.1 x.2.2.1 x.2.2.2.1).map fun r=>(r.1,r.2.1,r.2.2,())⟩
def m_gradineref17_Back (r:List (Bool × List Int × List Int) × Int × Int):TT s_gradineref17_Back.rs:=(r.1,r.2.1,r.2.2,())
@[reducible] def q0_gradineref17_Back:List Slot:= [.tmp 0 [.ty (.row 93 (.cons (.int .i64) (.cons (.int .i64) (.cons (.int .i64) (.cons .bool (.cons (.row 73 (.int .u64)) (.row 73 (.int .u64))))))))], .tmp 1 [.ty (.row 45 (.cons .bool (.cons (.row 73 (.int .u64)) (.row 73 (.int .u64)))))], .tmp 2 [.ty (.row 3 (.int .i64))], .tmp 3 [.ty (.row 45 (.cons .bool (.cons (.row 73 (.int .u64)) (.row 73 (.int .u64)))))], .tmp 11 [.own .mine 11 45 (.cons .bool (.cons (.row 73 (.int .u64)) (.row 73 (.int .u64))))], .tmp 12 [.own .mine 12 45 (.cons .bool (.cons (.row 73 (.int .u64)) (.row 73 (.int .u64))))], .tmp 20 [.ty (.int .i64)], .tmp 21 [.ty (.int .i64)]]
def g0_gradineref17_Back (k:Nat) (x:TS q0_gradineref17_Back):Option (List (Bool × List Int × List Int) × Int × Int):=gradineref17_Back.l0 k x.1.1 x.2.1.1 x.2.2.1.1 x.2.2.2.1.1 x.2.2.2.2.1.1 x.2.2.2.2.2.1.1 x.2.2.2.2.2.2.1.1 x.2.2.2.2.2.2.2.1.1
@[reducible] def q1_gradineref17_Back:List Slot:= [.tmp 0 [.ty (.row 93 (.cons (.int .i64) (.cons (.int .i64) (.cons (.int .i64) (.cons .bool (.cons (.row 73 (.int .u64)) (.row 73 (.int .u64))))))))], .tmp 1 [.ty (.row 45 (.cons .bool (.cons (.row 73 (.int .u64)) (.row 73 (.int .u64)))))], .tmp 2 [.ty (.row 3 (.int .i64))], .tmp 3 [.ty (.row 45 (.cons .bool (.cons (.row 73 (.int .u64)) (.row 73 (.int .u64)))))], .tmp 11 [.own .mine 11 45 (.cons .bool (.cons (.row 73 (.int .u64)) (.row 73 (.int .u64))))], .tmp 12 [.own .mine 12 45 (.cons .bool (.cons (.row 73 (.int .u64)) (.row 73 (.int .u64))))], .tmp 29 [.ty (.int .i64)], .tmp 30 [.ty (.int .i64)]]
def g1_gradineref17_Back (k:Nat) (x:TS q1_gradineref17_Back):Option (List (Bool × List Int × List Int) × Int × Int):=gradineref17_Back.l1 k x.1.1 x.2.1.1 x.2.2.1.1 x.2.2.2.1.1 x.2.2.2.2.1.1 x.2.2.2.2.2.1.1 x.2.2.2.2.2.2.1.1 x.2.2.2.2.2.2.2.1.1
@[reducible] def q2_gradineref17_Back:List Slot:= [.tmp 0 [.ty (.row 93 (.cons (.int .i64) (.cons (.int .i64) (.cons (.int .i64) (.cons .bool (.cons (.row 73 (.int .u64)) (.row 73 (.int .u64))))))))], .tmp 1 [.ty (.row 45 (.cons .bool (.cons (.row 73 (.int .u64)) (.row 73 (.int .u64)))))], .tmp 2 [.ty (.row 3 (.int .i64))], .tmp 3 [.ty (.row 45 (.cons .bool (.cons (.row 73 (.int .u64)) (.row 73 (.int .u64)))))], .tmp 11 [.own .mine 11 45 (.cons .bool (.cons (.row 73 (.int .u64)) (.row 73 (.int .u64))))], .tmp 12 [.own .mine 12 45 (.cons .bool (.cons (.row 73 (.int .u64)) (.row 73 (.int .u64))))], .tmp 38 [.ty (.int .i64)], .tmp 39 [.ty (.int .i64)]]
def g2_gradineref17_Back (k:Nat) (x:TS q2_gradineref17_Back):Option (List (Bool × List Int × List Int) × Int × Int):=gradineref17_Back.l2 k x.1.1 x.2.1.1 x.2.2.1.1 x.2.2.2.1.1 x.2.2.2.2.1.1 x.2.2.2.2.2.1.1 x.2.2.2.2.2.2.1.1 x.2.2.2.2.2.2.2.1.1
@[reducible] def q3_gradineref17_Back:List Slot:= []
def g3_gradineref17_Back (k:Nat) (x:TS q3_gradineref17_Back):Option (List (Bool × List Int × List Int) × Int × Int):=gradineref17_Back.j14 k 
@[reducible] def q4_gradineref17_Back:List Slot:= [.tmp 0 [.ty (.row 93 (.cons (.int .i64) (.cons (.int .i64) (.cons (.int .i64) (.cons .bool (.cons (.row 73 (.int .u64)) (.row 73 (.int .u64))))))))], .tmp 1 [.ty (.row 45 (.cons .bool (.cons (.row 73 (.int .u64)) (.row 73 (.int .u64)))))], .tmp 11 [.own .mine 11 45 (.cons .bool (.cons (.row 73 (.int .u64)) (.row 73 (.int .u64))))], .tmp 12 [.own .mine 12 45 (.cons .bool (.cons (.row 73 (.int .u64)) (.row 73 (.int .u64))))], .tmp 14 [.ty (.int .i64)]]
def g4_gradineref17_Back (k:Nat) (x:TS q4_gradineref17_Back):Option (List (Bool × List Int × List Int) × Int × Int):=gradineref17_Back.l3 k x.1.1 x.2.1.1 x.2.2.1.1 x.2.2.2.1.1 x.2.2.2.2.1.1
@[reducible] def q5_gradineref17_Back:List Slot:= [.tmp 0 [.ty (.row 93 (.cons (.int .i64) (.cons (.int .i64) (.cons (.int .i64) (.cons .bool (.cons (.row 73 (.int .u64)) (.row 73 (.int .u64))))))))], .tmp 1 [.ty (.row 45 (.cons .bool (.cons (.row 73 (.int .u64)) (.row 73 (.int .u64)))))], .tmp 11 [.own .mine 11 45 (.cons .bool (.cons (.row 73 (.int .u64)) (.row 73 (.int .u64))))], .tmp 12 [.own .mine 12 45 (.cons .bool (.cons (.row 73 (.int .u64)) (.row 73 (.int .u64))))], .tmp 14 [.ty (.int .i64)], .tmp 15 [.ptr 15 0], .blk 15 .mine 93 [.ty (.int .i64), .ty (.int .i64), .ty (.int .i64), .ty .bool, .ty (.row 73 (.int .u64)), .ty (.row 73 (.int .u64))]]
def g5_gradineref17_Back (k:Nat) (x:TS q5_gradineref17_Back):Option (List (Bool × List Int × List Int) × Int × Int):=gradineref17_Back.j25 k x.1.1 x.2.1.1 x.2.2.1.1 x.2.2.2.1.1 x.2.2.2.2.1.1 x.2.2.2.2.2.2.1.1 x.2.2.2.2.2.2.1.2.1 x.2.2.2.2.2.2.1.2.2.1 x.2.2.2.2.2.2.1.2.2.2.1 x.2.2.2.2.2.2.1.2.2.2.2.1 x.2.2.2.2.2.2.1.2.2.2.2.2.1
def c_gradineref17_Back:Cuts (TT s_gradineref17_Back.rs):=⟨⟨170,172,[]⟩,lookC [(0,⟨q0_gradineref17_Back,fun k x=>(g0_gradineref17_Back k x).map m_gradineref17_Back⟩),(1,⟨q1_gradineref17_Back,fun k x=>(g1_gradineref17_Back k x).map m_gradineref17_Back⟩),(2,⟨q2_gradineref17_Back,fun k x=>(g2_gradineref17_Back k x).map m_gradineref17_Back⟩),(3,⟨q4_gradineref17_Back,fun k x=>(g4_gradineref17_Back k x).map m_gradineref17_Back⟩)],lookC [(14,⟨q3_gradineref17_Back,fun k x=>(g3_gradineref17_Back k x).map m_gradineref17_Back⟩),(25,⟨q5_gradineref17_Back,fun k x=>(g5_gradineref17_Back k x).map m_gradineref17_Back⟩)],lookC []⟩
theorem o_gradineref17_Back:FOk Tryz.prog 21 s_gradineref17_Back :=
 fn_of (Bt:=blook [(15,[0,0,0,6,14,0,0,0,192,448,992,2016,0,0,12288,28672,65504,131071,262143]),(24,[0,0,2,0,0,16,56,120,0,0,768,1792,4088,8191,16383]),(26,[0,0,0,6,14,0,0,64,224,480,0,0,2048,7168,15360,32736,0,0,196608,458752,1048575,2097151,4194303,4194303,4194303,0,0,109051903,251658239,536870911]),(29,[0,0,2,0,0,16,56,120,0,504,1023,2047]),(31,[0,0,2,0,0,16,56,120,0,504,1023,2047])]) (l:= [(22, .pu s_gradineref07_Of),(23, .pu s_gradineref07_Add),(68, .pu s_gradineref08_Bits),(69, .pu s_gradineref15_Inputs),(70, .pu s_gradineref15_Arity),(71, .pu s_gradineref17_Give)]) (C:=c_gradineref17_Back) (by kernel_rfl) tab_ok ⟨o_gradineref07_Of,o_gradineref07_Add,o_gradineref08_Bits,o_gradineref15_Inputs,o_gradineref15_Arity,o_gradineref17_Give,trivial⟩ (fn:=Tryz.f21) (by kernel_rfl) rfl (by kernel_rfl) (by decide) (by kernel_rfl) (F:=fun k x=>gradineref17_Back.f k x.1 x.2.1 x.2.2.1 x.2.2.2.1) (m:=m_gradineref17_Back) (fun k x=>rfl)
  (by
   refine And.intro ?_ ?_
   ·refine ob_loop (sl:=q0_gradineref17_Back) (F:=g0_gradineref17_Back) (fun x=>rfl) fun k ⟨⟨(x0:List (Int × Int × Int × Bool × (List Int) × List Int)),_⟩,⟨(x1:List (Bool × (List Int) × List Int)),_⟩,⟨(x2:List Int),_⟩,⟨(x3:List (Bool × (List Int) × List Int)),_⟩,⟨(x11:List (Bool × (List Int) × List Int)),_⟩,⟨(x12:List (Bool × (List Int) × List Int)),_⟩,⟨(x20:Int),_⟩,⟨(x21:Int),_⟩,_⟩=> ?_
    show LeT m_gradineref17_Back (gradineref17_Back.l0 (k+1) x0 x1 x2 x3 x11 x12 x20 x21) _
    rw [gradineref17_Back.l0];exact go
   refine And.intro ?_ ?_
   ·refine ob_loop (sl:=q1_gradineref17_Back) (F:=g1_gradineref17_Back) (fun x=>rfl) fun k ⟨⟨(x0:List (Int × Int × Int × Bool × (List Int) × List Int)),_⟩,⟨(x1:List (Bool × (List Int) × List Int)),_⟩,⟨(x2:List Int),_⟩,⟨(x3:List (Bool × (List Int) × List Int)),_⟩,⟨(x11:List (Bool × (List Int) × List Int)),_⟩,⟨(x12:List (Bool × (List Int) × List Int)),_⟩,⟨(x29:Int),_⟩,⟨(x30:Int),_⟩,_⟩=> ?_
    show LeT m_gradineref17_Back (gradineref17_Back.l1 (k+1) x0 x1 x2 x3 x11 x12 x29 x30) _
    rw [gradineref17_Back.l1];exact go
   refine And.intro ?_ ?_
   ·refine ob_loop (sl:=q2_gradineref17_Back) (F:=g2_gradineref17_Back) (fun x=>rfl) fun k ⟨⟨(x0:List (Int × Int × Int × Bool × (List Int) × List Int)),_⟩,⟨(x1:List (Bool × (List Int) × List Int)),_⟩,⟨(x2:List Int),_⟩,⟨(x3:List (Bool × (List Int) × List Int)),_⟩,⟨(x11:List (Bool × (List Int) × List Int)),_⟩,⟨(x12:List (Bool × (List Int) × List Int)),_⟩,⟨(x38:Int),_⟩,⟨(x39:Int),_⟩,_⟩=> ?_
    show LeT m_gradineref17_Back (gradineref17_Back.l2 (k+1) x0 x1 x2 x3 x11 x12 x38 x39) _
    rw [gradineref17_Back.l2];exact go
   refine And.intro ?_ ?_
   ·refine ob_join1 (sl:=q3_gradineref17_Back) (F:=g3_gradineref17_Back) (fun x=>rfl) fun k _=> ?_
    show LeT m_gradineref17_Back (gradineref17_Back.j14 (k+1)) _
    rw [gradineref17_Back.j14];exact go
   refine And.intro ?_ ?_
   ·refine ob_loop (sl:=q4_gradineref17_Back) (F:=g4_gradineref17_Back) (fun x=>rfl) fun k ⟨⟨(x0:List (Int × Int × Int × Bool × (List Int) × List Int)),_⟩,⟨(x1:List (Bool × (List Int) × List Int)),_⟩,⟨(x11:List (Bool × (List Int) × List Int)),_⟩,⟨(x12:List (Bool × (List Int) × List Int)),_⟩,⟨(x14:Int),_⟩,_⟩=> ?_
    show LeT m_gradineref17_Back (gradineref17_Back.l3 (k+1) x0 x1 x11 x12 x14) _
    rw [gradineref17_Back.l3];exact go
   refine And.intro ?_ ?_
   ·refine ob_join1 (sl:=q5_gradineref17_Back) (F:=g5_gradineref17_Back) (fun x=>rfl) fun k ⟨⟨(x0:List (Int × Int × Int × Bool × (List Int) × List Int)),_⟩,⟨(x1:List (Bool × (List Int) × List Int)),_⟩,⟨(x11:List (Bool × (List Int) × List Int)),_⟩,⟨(x12:List (Bool × (List Int) × List Int)),_⟩,⟨(x14:Int),_⟩,_,⟨(v15_0:Int),(v15_1:Int),(v15_2:Int),(v15_3:Bool),(v15_4:List Int),(v15_5:List Int),_⟩,_⟩=> ?_
    show LeT m_gradineref17_Back (gradineref17_Back.j25 (k+1) x0 x1 x11 x12 x14 v15_0 v15_1 v15_2 v15_3 v15_4 v15_5) _
    rw [gradineref17_Back.j25];exact go
   exact trivial)
  (fun k ⟨(a0:List (Int × Int × Int × Bool × (List Int) × List Int)),(a1:List (Bool × (List Int) × List Int)),(a2:List Int),(a3:List (Bool × (List Int) × List Int)),_⟩=>by show LeT m_gradineref17_Back (gradineref17_Back.f k a0 a1 a2 a3) _;unfold gradineref17_Back.f;exact go)
end
end Go.Proofs.YtjocbnjpjihpnaaGreat.A
